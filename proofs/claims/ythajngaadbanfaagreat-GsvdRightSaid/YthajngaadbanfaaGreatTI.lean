/- A verified evaluator of the program's form and its use for this seat: S1EqBits6, S1EqTimes, S1PTimes, S1EqRefD, S1PRefD, S1PTimesA, S1EqVec, S1PVec, S1EqMat, S1PMat, S1EqOf, S1POf, S1PMatA, S1EqRef10, S1PRef10, S1PFill, S1EqRefA, S1PRefA, S1PRefAa. -/
import Derived.Test.YthajngaadbanfaaGreatTE
import Derived.Test.YthajngaadbanfaaGreatTF
import Derived.Test.YthajngaadbanfaaGreatTH
import Derived.Test.YthajngaadbanfaaGreatTG
set_option linter.unusedVariables false
set_option linter.unusedSimpArgs false
open Option renaming some->xQ,none->xY
open Bool renaming true->xZ,false->x5
open Int renaming toNat->wQ
open List renaming length->wj,getD->wt
open Int renaming tdiv->zw,tmod->zD,natCast_add->zt,le_refl->yI
open Nat renaming pow_succ->zH,mul_add->yc,mul_mul_mul_comm->y8,mul_right_comm->wU,div_lt_iff_lt_mul->yr,div_eq_of_lt->z7,mul_zero->yd,mul_left_comm->yR,le_div_iff_mul_le->y5,div_one->yH,div_le_div_right->wL
open Bool renaming and_false->x8,false_and->zZ,or_eq_true->zK
open List renaming drop->zN,take->zL,mem_singleton->ze,length_drop->zP,length_take->zM,range->zf,append_assoc->yQ,range_zero->xE,map_nil->yZ,append_nil->yA,set->zv,mem_cons->zF
noncomputable section
open Go.Proofs.Tryz
namespace Go.Proofs.S1
open Go Go.Den Go.Ck Go.Proofs
set_option maxRecDepth 100000
def DH.CZ.E:=E0 [(167,DH.IS.Bt)]
theorem DH.CZ.ev(N:Nat)(x:Int):Cz DH.CZ.E N f210 (Bw f210) [.int .u64 x]=cond (Br x) (xQ (.int .i64 (Bg ((64:Int)-(EO x))))) xY:=by kernel_rfl
def DH.JS.E:=E0 []
theorem DH.JS.ev(N:Nat)(x y:Int):Cz DH.JS.E N f209 (Bw f209) [.int .u64 x,.int .u64 y]=xQ (.CR [.int .u64 (BV ((BV ((BV ((DU .u64 x 32)*(DU .u64 y 32)))+(DU .u64 (BV ((BV ((DU .u64 x 32)*(FZ .u64 y 4294967295)))+(DU .u64 (BV ((FZ .u64 x 4294967295)*(FZ .u64 y 4294967295))) 32))) 32)))+(DU .u64 (BV ((FZ .u64 (BV ((BV ((DU .u64 x 32)*(FZ .u64 y 4294967295)))+(DU .u64 (BV ((FZ .u64 x 4294967295)*(FZ .u64 y 4294967295))) 32))) 4294967295)+(BV ((FZ .u64 x 4294967295)*(DU .u64 y 32))))) 32))),.int .u64 (BV (x*y))]):=by kernel_rfl
abbrev DH.IS.Kn:Prop:=Ey prog 167 DH.IS.Bt
theorem DH.IS.call:∀(args:Array Value) (w:World),(callFunc 167 args).run prog w=.ok (.enter 167 args) w:=Io func167 (by kernel_rfl) (show f167.body=xQ (Bw f167) by kernel_rfl)
theorem DH.IS.run(x:Int)(w:World)(h0:0<=x)(h1:x<=18446744073709551615):Calls prog 167 #[.int .u64 x] w fun e w'=>e=.returned (.int .i64 (Lib.bitLen x.toNat))/\w'=w:=Tryz.Abh x w h0 h1
open Go Go.Den Go.Ck Go.Proofs
set_option maxRecDepth 100000
def times.signed.E:=E0 [(81,soft.EZ.Bt)]
theorem times.signed.ev(N:Nat)(b:Int)(n:Bool):Cz times.signed.E N f183 (Bw f183) [.int .u64 b,.bool n]=cond n (bif (Br b) then xQ (.int .u64 (C1 b)) else xY) (xQ (.int .u64 b)):=by kernel_rfl
def times.nan.E:=E0 [(165,soft.Kind.Bt)]
theorem times.nan.ev(N:Nat)(a b:Int):Cz times.nan.E N f182 (Bw f182) [.int .u64 a,.int .u64 b]=cond (Br a) (bif ((BH a)==(4:Int)) then xQ (.bool xZ) else bif (Br b) then cond ((BH b)==(4:Int)) (xQ (.bool xZ)) (xQ (.bool x5)) else xY) xY:=by kernel_rfl
def times.norm.E:=E0 [(210,DH.CZ.Bt),(166,soft.Fo.Bt)]
theorem times.norm.ev(N:Nat)(b:Int):Cz times.norm.E N f184 (Bw f184) [.int .u64 b]=cond (Br b) (bif (Br (Cf b)) then cond (decide (0<=(Bg ((64-EO (Cf b))-11)))) (xQ (.CR [.int .u64 (Ct .u64 (Cf b) (Bg ((64-EO (Cf b))-11))),.int .i64 (Bg ((BT b)-(Bg ((64-EO (Cf b))-11))))])) xY else xY) xY:=by kernel_rfl
def times.wide.hint:Nat->Option BN
 | 0=>xQ { Df:=[0,1,2,3],Cg:=[],Cr:=[] }
 | _=>xY
def times.wide.E:=D6 (Db [(180,soft.DI.Bt)]) (fun _=>x5) times.wide.hint (fun _=>xY)
section
variable(N M:Nat)(n:Bool)(m e:Int)(r:Bool)(p1 p2:Int)(p3:Bool)
def times.wide.L0:Option DV:=C6 times.wide.E N f185 (Bw f185) [1,0,0] [] M ⟨Fz 39 [(0,.bool n),(1,.int .u64 p1),(2,.int .i64 p2),(3,.bool p3)],[]⟩
theorem times.wide.B8:times.wide.L0 N (M+1) n p1 p2 p3=cond ((BI p2 (-1130:Int))&&(BI 1 p1)) (times.wide.L0 N M n (DU .u64 p1 1) (Bg (p2+1)) (cond p3 xZ ((FZ .u64 p1 1)==(1:Int)))) (bif (BI p2 (-1130:Int)) then cond (E5 0 (-1074:Int) xZ) (xQ (.CR [.int .u64 (EM n 0 (-1074:Int) xZ),.int .u8 (EL n 0 (-1074:Int) xZ)])) xY else bif (E5 p1 p2 p3) then xQ (.CR [.int .u64 (EM n p1 p2 p3),.int .u8 (EL n p1 p2 p3)]) else xY) :=Et (B5 (MH (BI p2 (-1130:Int))) (B5 (JV (BI p2 (-1130:Int))) (B5 (QG (BI p2 (-1130:Int))) (CQ (tt1 _ _) (B5 (U5 p3) (B5 (RW p3) (B5 (RW p3) (B5 (XT p3) rfl)))) rfl))))
theorem times.wide.ev:Cz times.wide.E N f185 (Bw f185) [.bool n,.int .u64 m,.int .i64 e,.bool r]=
 times.wide.L0 N N n m e r:=by kernel_rfl
end
def times.Mul.E:=E0 [(209,DH.JS.Bt),(165,soft.Kind.Bt),(181,soft.Sign.Bt),(182,times.nan.Bt),(184,times.norm.Bt),(183,times.signed.Bt),(185,times.wide.Bt)]
theorem times.Mul.ev(N:Nat)(a b:Int):Cz times.Mul.E N f175 (Bw f175) [.int .u64 a,.int .u64 b]=cond (Br a) (bif (Br b) then cond (Br a) (bif (Br b) then cond (Br a&&Br b) (bif (AfQ a b) then xQ (.CR [.int .u64 9221120237041090560,.int .u8 0]) else bif ((((BH a)==(3:Int))&&((BH b)==(0:Int)))||(((BH a)==(0:Int))&&((BH b)==(3:Int)))) then xQ (.CR [.int .u64 9221120237041090560,.int .u8 16]) else bif (((BH a)==(3:Int))||((BH b)==(3:Int))) then cond (Br 9218868437227405312) (xQ (.CR [.int .u64 (OJ (!((DX a)==(DX b))) 9218868437227405312),.int .u8 0])) xY else bif (((BH a)==(0:Int))||((BH b)==(0:Int))) then cond (Br 0) (xQ (.CR [.int .u64 (OJ (!((DX a)==(DX b))) 0),.int .u8 0])) xY else bif (Br a&&Ke a) then cond (Br b&&Ke b) (bif (Br (Dp a)&&Br (Dp b)) then cond (Mb (HK .u64 (Ct .u64 (OM (Dp a) (Dp b)) 20) (DU .u64 (Lh (Dp a) (Dp b)) 44)) (Bg ((Bg ((G9 a)+(G9 b)))+44))) (xQ (.CR [.int .u64 (EM (!((DX a)==(DX b))) (HK .u64 (Ct .u64 (OM (Dp a) (Dp b)) 20) (DU .u64 (Lh (Dp a) (Dp b)) 44)) (Bg ((Bg ((G9 a)+(G9 b)))+44)) ((Ct .u64 (Lh (Dp a) (Dp b)) 20) !=(0:Int))),.int .u8 (EL (!((DX a)==(DX b))) (HK .u64 (Ct .u64 (OM (Dp a) (Dp b)) 20) (DU .u64 (Lh (Dp a) (Dp b)) 44)) (Bg ((Bg ((G9 a)+(G9 b)))+44)) ((Ct .u64 (Lh (Dp a) (Dp b)) 20) !=(0:Int)))])) xY else xY) xY else xY) xY else xY) xY else xY) xY :=Et (EY (EY (EY (EY (EY (EY rfl (B5 (MH ((BH a)==(3:Int))) (B5 (JV ((BH a)==(3:Int))) (B5 (QG ((BH a)==(3:Int))) (B5 (AlN ((BH a)==(3:Int)) ((BH b)==(0:Int))) (B5 (AhO ((BH a)==(3:Int)) ((BH b)==(0:Int))) (B5 (AhO ((BH a)==(3:Int)) ((BH b)==(0:Int))) (B5 (AlO ((BH a)==(3:Int)) ((BH b)==(0:Int)) ((BH a)==(0:Int))) (B5 (AlP ((BH a)==(3:Int)) ((BH b)==(0:Int)) ((BH a)==(0:Int))) (B5 (AlQ ((BH a)==(3:Int)) ((BH b)==(0:Int)) ((BH a)==(0:Int))) (B5 (AlR ((BH a)==(3:Int)) ((BH b)==(0:Int))) (CQ (AlS _ _ _ _) rfl (B5 (U5 ((BH a)==(3:Int))) (B5 (RW ((BH a)==(3:Int))) (B5 (XT ((BH a)==(3:Int))) (CQ (tt5 _ _) rfl (B5 (U5 ((BH a)==(0:Int))) (B5 (RW ((BH a)==(0:Int))) (B5 (XT ((BH a)==(0:Int))) (CQ (tt5 _ _) rfl rfl)))))))))))))))))))) rfl) rfl) rfl) rfl) rfl)
def times.Div.hint:Nat->Option BN
 | 1=>xQ { Df:=[6,10,11,12,13,14,78],Cg:=[],Cr:=[] }
 | _=>xY
def times.Div.E:=D6 (Db [(165,soft.Kind.Bt),(181,soft.Sign.Bt),(182,times.nan.Bt),(184,times.norm.Bt),(183,times.signed.Bt),(185,times.wide.Bt)]) (fun _=>x5) times.Div.hint (fun _=>xY)
section
variable(N M:Nat)(a b p13 p14 p78:Int)
def times.Div.L0:Option DV:=C6 times.Div.E N f144 (Bw f144) [1,1,1,1,1,1,1,0,1,0] [] M ⟨Fz 104 [(6,.bool (!((DX a)==(DX b)))),(10,.int .i64 (G9 a)),(11,.int .u64 (Dp b)),(12,.int .i64 (G9 b)),(13,.int .u64 p13),(14,.int .u64 p14),(78,.int .i64 p78)],[]⟩
theorem times.Div.B8:times.Div.L0 N (M+1) a b p13 p14 p78=cond (BI p78 61) (bif (Eg (Dp b) (Ct .u64 p14 1)) then times.Div.L0 N M a b (HK .u64 (Ct .u64 p13 1) 1) (BV ((Ct .u64 p14 1)-(Dp b))) (Bg (p78+1)) else times.Div.L0 N M a b (Ct .u64 p13 1) (Ct .u64 p14 1) (Bg (p78+1))) (bif (Mb p13 (Bg ((Bg ((G9 a)-(G9 b)))-61))) then xQ (.CR [.int .u64 (EM (!((DX a)==(DX b))) p13 (Bg ((Bg ((G9 a)-(G9 b)))-61)) (p14 !=(0:Int))),.int .u8 (EL (!((DX a)==(DX b))) p13 (Bg ((Bg ((G9 a)-(G9 b)))-61)) (p14 !=(0:Int)))]) else xY):=by kernel_rfl
theorem times.Div.ev:Cz times.Div.E N f144 (Bw f144) [.int .u64 a,.int .u64 b]=cond (Br a) (bif (Br b) then cond (Br a) (bif (Br b) then cond (Br a&&Br b) (bif (AfQ a b) then xQ (.CR [.int .u64 9221120237041090560,.int .u8 0]) else bif ((((BH a)==(3:Int))&&((BH b)==(3:Int)))||(((BH a)==(0:Int))&&((BH b)==(0:Int)))) then xQ (.CR [.int .u64 9221120237041090560,.int .u8 16]) else bif ((BH a)==(3:Int)) then cond (Br 9218868437227405312) (xQ (.CR [.int .u64 (OJ (!((DX a)==(DX b))) 9218868437227405312),.int .u8 0])) xY else bif (((BH b)==(3:Int))||((BH a)==(0:Int))) then cond (Br 0) (xQ (.CR [.int .u64 (OJ (!((DX a)==(DX b))) 0),.int .u8 0])) xY else bif ((BH b)==(0:Int)) then cond (Br 9218868437227405312) (xQ (.CR [.int .u64 (OJ (!((DX a)==(DX b))) 9218868437227405312),.int .u8 8])) xY else bif (Br a&&Ke a) then cond (Br b&&Ke b) (bif ((Dp b) !=0) then cond ((Dp b) !=0) (times.Div.L0 N N a b (BV (zw (Dp a) (Dp b))) (zD (Dp a) (Dp b)) (0:Int)) xY else xY) xY else xY) xY else xY) xY else xY) xY :=Et (EY (EY (EY (EY (EY (EY rfl (B5 (MH ((BH a)==(3:Int))) (B5 (JV ((BH a)==(3:Int))) (B5 (QG ((BH a)==(3:Int))) (B5 (AlN ((BH a)==(3:Int)) ((BH b)==(3:Int))) (B5 (AhO ((BH a)==(3:Int)) ((BH b)==(3:Int))) (B5 (AhO ((BH a)==(3:Int)) ((BH b)==(3:Int))) (B5 (AlO ((BH a)==(3:Int)) ((BH b)==(3:Int)) ((BH a)==(0:Int))) (B5 (AlP ((BH a)==(3:Int)) ((BH b)==(3:Int)) ((BH a)==(0:Int))) (B5 (AlQ ((BH a)==(3:Int)) ((BH b)==(3:Int)) ((BH a)==(0:Int))) (B5 (AlR ((BH a)==(3:Int)) ((BH b)==(3:Int))) (CQ (AlS _ _ _ _) rfl (EY rfl (B5 (U5 ((BH b)==(3:Int))) (B5 (RW ((BH b)==(3:Int))) (B5 (XT ((BH b)==(3:Int))) (CQ (tt5 _ _) rfl (EY rfl (EY (EY (CQ (CF _) (CQ (CF _) rfl rfl) rfl) rfl) rfl))))))))))))))))))) rfl) rfl) rfl) rfl) rfl)
end
theorem Zv{n:Nat}(h0:n≠0)(h:n<2^64):Go.Lib.bitLen n=n.log2+1:=by
 have h1:=Nat.log2_self_le h0;have h2:=Nat.lt_log2_self (n:=n);have hp:=Cv n.log2
 have e:n / 2^n.log2=1:=by rw[zH] at h2;exact Nat.div_eq_of_lt_le (by omega) (by omega)
 have e1:Go.Lib.bitLen 1=1:=by decide
 rw[Go.Lib.bitLen_shift n.log2 n h1 h,e,e1]
theorem DH.IS.Bn:DH.IS.Kn:=by
 refine⟨?_,DH.IS.call⟩;intro args ha;simp only[DH.IS.Bt,BO] at ha ⊢;cases hd:JC [.i .u64] args with
 | none=>rw[hd] at ha; cases ha
 | some ats =>
   rw[hd] at ha;simp only at ha ⊢;obtain⟨ds,h1,h2⟩:=Ki hd;obtain⟨x,_,_,rfl,rfl,he⟩:=h1.VG;obtain⟨rfl,rfl⟩:=he.Ib;obtain⟨n,rfl,hn⟩:=C9 (x:=x) ha;refine MG.args ?_ h2;intro w vals I hI hv;obtain⟨u,us,e1,e2,e3⟩:=hv;simp only[B0] at e2;have e3:us=[]:=e3;subst e2 e3;have e4:vals=#[.int .u64 (n:Int)]:=Array.ext' e1;subst e4;refine(DH.IS.run n w (by omega) (by omega)).mono ?_
   rintro e w' ⟨rfl,rfl⟩
   refine⟨_,fun _=>xY,rfl,Go.RowKit.Below.refl _ _,⟨fun i b h=>(by cases h),fun i j b h=>(by cases h)⟩,?_⟩;show B0 _ _ (DV.int .i64 (EO n)) _;simp only[B0];congr 1;unfold EO;rw[Ad];by_cases h0:n=0
   ·subst h0; rfl
   ·rw[Zv h0 hn,Ay (by omega)]; rfl
theorem Agk{n:Nat}(hn:n<2^64):0<=EO n/\EO n<=64:=by
 unfold EO;rw[Ad];by_cases h0:n=0
 ·subst h0; decide
 ·have:=(AZ h0).2 hn;rw[Ay (by omega)]; omega
theorem DH.CZ.Bn:Kq 210 DH.CZ.Bt:=ED DH.CZ.E Tryz.func210 (kc DH.IS.Bn .nil) fun x hp=>by obtain⟨n,rfl,hn⟩:=C9 (x:=x) hp;have:=Agk hn;refine⟨0,DH.CZ.out [.i n],[],?_,.int⟩;rw[DH.CZ.ev,CP hn,Aa,Bz (by omega) (by omega)];rfl
theorem I1{a b:Nat}(ha:a<4294967296)(hb:b<4294967296):a*b<=18446744065119617025 :=AP (AE (show a<=4294967295 by omega) (show b<=4294967295 by omega)) (by decide)
theorem AfU(x y:Nat)(hx:x<2^64)(hy:y<2^64):
 x*y / 18446744073709551616=(x / 2^32)*(y / 2^32)+((x / 2^32)*(y%2^32)+(x%2^32)*(y%2^32) / 2^32) / 2^32 +
  (((x / 2^32)*(y%2^32)+(x%2^32)*(y%2^32) / 2^32)%2^32+(x%2^32)*(y / 2^32)) / 2^32:=by
 have ex:x=x / 2^32*4294967296+x%2^32:=by omega
 have ey:y=y / 2^32*4294967296+y%2^32:=by omega
 have ha:x / 2^32<4294967296:=by omega
 have hc:y / 2^32<4294967296:=by omega
 have hb:x%2^32<4294967296:=by omega
 have hd:y%2^32<4294967296:=by omega
 generalize x / 2^32=a at *
 generalize x%2^32=b at *
 generalize y / 2^32=c at *
 generalize y%2^32=d at *
 have e:x*y=a*c*18446744073709551616+(a*d+b*c)*4294967296+b*d:=by
  rw[ex,ey,AM,yc,yc]
  have e1:a*4294967296*(c*4294967296)=a*c*18446744073709551616:=by rw[y8]
  have e2:a*4294967296*d=a*d*4294967296:=wU _ _ _;have e3:b*(c*4294967296)=b*c*4294967296:=(A7 _ _ _).symm;rw[e1,e2,e3];omega
 have b1:=I1 ha hc;have b2:=I1 ha hd;have b3:=I1 hb hc;have b4:=I1 hb hd;rw[e];clear e ex ey;generalize a*c=p at *
 generalize a*d=q at *
 generalize b*c=r at *
 generalize b*d=s at *
 omega
theorem DH.JS.Bn:Kq 209 DH.JS.Bt:=ED DH.JS.E Tryz.func209 .nil fun x y hp=>by
 obtain⟨h1,h2⟩:=Bi.1 hp;obtain⟨x,rfl,hx⟩:=C9 h1;obtain⟨y,rfl,hy⟩:=C9 h2;refine⟨0,DH.JS.out [.i x,.i y],[],?_,Wk.Gr (.cons .int (.cons .int .nil))⟩;show _=xQ (DV.CR [.int .u64 (OM x y),.int .u64 (Lh x y)]);have s32:∀n:Nat,DU .u64 (n:Int) (32:Int)=((n / 2^32:Nat):Int):=fun n=>GP .u64 n 32 (by decide)
 have m32:∀n:Nat,n<2^64->FZ .u64 (n:Int) (4294967295:Int)=((n%2^32:Nat):Int):=fun n hn=>H4 32 hn (by decide)
 have ha:x / 2^32<4294967296:=by omega
 have hc:y / 2^32<4294967296:=by omega
 have hb:x%2^32<4294967296:=by omega
 have hd:y%2^32<4294967296:=by omega
 have b1:=I1 ha hc;have b2:=I1 ha hd;have b3:=I1 hb hc;have b4:=I1 hb hd;have hhi:=AfU x y hx hy;have wn:∀n:Nat,n<2^64->BV (n:Int)=n:=fun n hn=>Dr (by omega) (by omega)
 have hlt:x*y / 18446744073709551616<2^64:=by rw[yr (by decide)];have:=AE (show x<=18446744073709551615 by omega) (show y<=18446744073709551615 by omega);omega
 rw[DH.JS.ev];simp only[s32,m32 x hx,m32 y hy];generalize hA:x / 2^32=a at *
 generalize hB:x%2^32=b at *
 generalize hC:y / 2^32=c at *
 generalize hD:y%2^32=d at *
 simp only[<- Ax];rw[wn (a*c) (by omega),wn (a*d) (by omega),wn (b*c) (by omega),wn (b*d) (by omega),s32];simp only[<- zt];rw[wn (a*d+b*d / 2^32) (by omega),s32,m32 _ (by omega)];simp only[<- zt];rw[wn (a*c+(a*d+b*d / 2^32) / 2^32) (by omega),wn _ (by omega),s32];simp only[<- zt];rw[<- hhi,wn _ hlt];unfold OM Lh;rw[Ad,Ad,PC];congr 3
theorem times.signed.Bn:Kq 183 times.signed.Bt:=ED times.signed.E Tryz.func183 (kc soft.EZ.Bn .nil) fun b n hp=>by have hp:Br b=xZ:=hp;refine⟨0,times.signed.out [.i b,.b n],[],?_,.int⟩;rw[times.signed.ev,hp];cases n<;>rfl
theorem times.nan.Bn:Kq 182 times.nan.Bt:=ED times.nan.E Tryz.func182 (kc soft.Kind.Bn .nil) fun a b hp=>by
 obtain⟨ha,hb⟩:=Bi.1 hp;refine⟨0,times.nan.out [.i a,.i b],[],?_,.bool⟩;rw[times.nan.ev,ha,hb,Aa,Aa];show _=xQ (DV.bool (decide (BH a=4)||decide (BH b=4)));by_cases h1:BH a=4
 ·rw[h1]; rfl
 ·have e1:(BH a==(4:Int))=x5:=by simp; exact h1
  rw[e1,Ag h1,Af];by_cases h2:BH b=4
  ·rw[h2]; rfl
  ·have e2:(BH b==(4:Int))=x5:=by simp; exact h2
   rw[e2,Ag h2]; rfl
theorem LO{n:Nat}(h:By n≠0):(By n).log2<=52/\2^52<=By n*2^CD n/\By n*2^CD n<2^53/\CD n<=52:=by
 have h1:=EX n;have h2:(By n).log2<53:=(AZ h).2 (by omega);have hz:=KD (By n) (CD n) h;have hne:By n*2^CD n≠0:=Ii h;have hl:(By n*2^CD n).log2=52:=by rw[hz]; unfold CD; omega
 refine⟨by omega,?_,?_,by unfold CD; omega⟩
 ·rw[<- Nat.le_log2 hne]; omega
 ·rw[<- AZ hne]; omega
theorem times.norm.Bn:Kq 184 times.norm.Bt:=ED times.norm.E Tryz.func184 (kc DH.CZ.Bn (kc soft.Fo.Bn .nil)) fun b hp=>by
 obtain⟨h1,h2⟩:=Bi.1 hp;obtain⟨n,rfl,hn⟩:=C9 h1;have h2:By n≠0:=Bv.1 h2;obtain⟨l1,l2,l3,l4⟩:=LO h2;have hM:=EX n;have hE:=CO n;refine⟨0,times.norm.out [.i n],[],?_,Wk.Gr (.cons .int (.cons .int .nil))⟩;show _=xQ (DV.CR [.int .u64 (Dp n),.int .i64 (G9 n)]);have e1:Cf (n:Int)=(By n:Int):=rfl;have e2:BT (n:Int)=B7 n:=rfl
 have e3:EO (By n:Int)=((By n).log2:Int)+1:=by unfold EO;rw[Ay (by omega),Ad]
 have e4:Bg ((64-(((By n).log2:Int)+1))-(11:Int))=((CD n:Nat):Int):=by rw[Bz (by omega) (by omega)]; unfold CD; omega
 rw[times.norm.ev,CP hn,e1,e2,CP (n:=By n) (by omega),e3,e4,F3 _ _ (by omega),Ao (by omega),Bz (by omega) (by omega),Ac (by omega)];rfl
theorem AeZ{V t:Nat}{E:Int}(h0:V≠0)(h:V<2^t)(hE:E+t<=-1075):Cs V E=0/\flagsOf V E=3:=by
 have hl:V.log2<t:=(AZ h0).2 h;have hL:Cp V E=-1074:=by unfold Cp; omega
 obtain⟨k,hk⟩:∃k:Nat,(-1074-E).toNat=t+1+k:=⟨(-1074-E).toNat-t-1,by omega⟩
 have hp:2^(t+1)<=2^(t+1+k):=Aq (by decide) (by omega);have ht:2^(t+1)=2*2^t:=by rw[zH]; omega
 have e2:(-(-1074-E)).toNat=0:=by omega
 have hr:HS V (-1074-E)=0:=by unfold HS HT;rw[e2,hk,AG,AR,z7 (by omega),Ao (by omega),Ay (by omega)]
 have hru:Cs V E=0:=by unfold Cs kept;rw[Ay h0,hL,hr];simp
 refine⟨hru,?_⟩;unfold flagsOf exact Ky;rw[Ay h0,hru,hL,e2,hk,AG,AR,Ao (by omega),Ag h0];decide
theorem Ad0(n:Bool){m:Nat}{e:Int}(r:Bool)(hm:1<m)(he:e < -1130):Ga n (m / 2) (e+1) (r||decide (m%2=1))=Ga n m e r:=by
 have e1:(4*m+r.toNat) / 2^3=m / 2:=by cases r<;>simp<;>omega
 have e2:(r||decide (m%2=1))=decide ((4*m+r.toNat)%2^3≠0):=by
  rw[Ar];cases r
  ·simp; omega
  ·simp; omega
 have:=Qf n (V:=4*m+r.toNat) (k:=3) (E:=e-2) (e:=e+1) (s:=r||decide (m%2=1)) (by omega) e2 (by omega) (.inr (by omega));rw[e1] at this;exact this
theorem Qe(n:Bool){e:Int}(r:Bool)(he:e < -1130):Ga n 1 e r=Ga n 0 (-1074) xZ:=by
 have h1:r.toNat<=1:=by cases r<;>decide
 obtain⟨a1,a2⟩:=AeZ (V:=4*1+r.toNat) (t:=3) (E:=e-2) (by omega) (by omega) (by omega);obtain⟨b1,b2⟩:=AeZ (V:=4*0+true.toNat) (t:=1) (E:=-1074-2) (by decide) (by decide) (by decide);unfold Ga;rw[a1,a2,b1,b2]
theorem Ac6(N:Nat)(n:Bool):∀(k m:Nat) (e:Int) (r:Bool),1<=m->m<2^62->m<=2^k->-7000<=e->e<=6000->(2^60<=m\/e<=-1130) ->
 times.wide.L0 N (k+1) n (m:Int) e r=xQ (.CR [.int .u64 (((Ga n m e r).1:Nat):Int),.int .u8 (((Ga n m e r).2:Nat):Int)]):=by
 intro k
 induction k with
 | zero =>
   intro m e r h1 h2 h3 h4 h5 h6;have hm:m=1:=by simp at h3; omega
   subst hm;rw[times.wide.B8,B9,B9];have c1:decide ((1:Int)<((1:Nat):Int))=x5:=by decide
   rw[c1,x8,Af];by_cases he:e < -1130
   ·have hp:E5 (0:Int) (-1074:Int) xZ=xZ:=Bv.2 (by omega);rw[Ac he,Aa,hp,Aa,Qe n r he];rfl
   ·have he:e=-1130:=by omega
    subst he;have hp:E5 ((1:Nat):Int) (-1130:Int) r=xZ:=Bv.2 (by omega);rw[Ag (by omega),Af,hp,Aa];rfl
 | succ k ih =>
   intro m e r h1 h2 h3 h4 h5 h6;rw[times.wide.B8,B9,B9];by_cases he:e < -1130
   ·by_cases hm:1<m
    ·have c1:decide ((1:Int)<(m:Int))=xZ:=Ac (by omega);have e1:DU .u64 (m:Int) (1:Int)=((m / 2:Nat):Int):=GP .u64 m 1 (by decide);have e2:FZ .u64 (m:Int) (1:Int)=((m%2:Nat):Int):=H4 (a:=m) 1 (by omega) (by decide)
     have e3:(cond r xZ ((FZ .u64 (m:Int) (1:Int))==(1:Int)))=(r||decide (m%2=1)):=by
      rw[e2];cases r
      ·rw[Ar]; simp; omega
      ·rfl
     rw[Ac he,c1,Ah,Aa,e1,e3,Bz (by omega) (by omega)];have hk:m / 2<=2^k:=by rw[zH] at h3; omega
     rw[ih (m / 2) (e+1) _ (by omega) (by omega) hk (by omega) (by omega) (.inr (by omega)),Ad0 n r hm he]
    ·have hm:m=1:=by omega
     subst hm;have c1:decide ((1:Int)<((1:Nat):Int))=x5:=by decide
     have hp:E5 (0:Int) (-1074:Int) xZ=xZ:=Bv.2 (by omega);rw[c1,x8,Af,Ac he,Aa,hp,Aa,Qe n r he];rfl
   ·have hp:E5 (m:Int) e r=xZ:=Bv.2 ⟨by omega,by omega,by omega,.inl (by omega),fun _=>by omega⟩;rw[Ag he,zZ,Af,Af,hp,Aa];rfl
theorem times.wide.Bn:Kq 185 times.wide.Bt:=ED times.wide.E Tryz.func185 (kc soft.DI.Bn .nil) fun n m e r hp=>by
 obtain⟨h1,h2,h3,h4⟩:=Bv.1 (show Mb m e=xZ from hp);obtain⟨m,rfl⟩:∃k:Nat,m=k:=⟨m.toNat,by omega⟩
 refine⟨63,times.wide.out [.b n,.i m,.i e,.b r],[],?_,Wk.Gr (.cons .int (.cons .int .nil))⟩;rw[times.wide.ev,Ac6 63 n 62 m e r (by omega) (by omega) (by omega) (by omega) (by omega) (.inl (by omega))];rfl
def Ca.Neg.E:=E0 []
theorem Ca.Neg.ev(N:Nat)(x:Int):Cz Ca.Neg.E N f102 (Bw f102) [.int .u64 x]=xQ (.bool ((BV (zw x 9223372036854775808))==(1:Int))):=by kernel_rfl
def Ca.Power.E:=E0 []
theorem Ca.Power.ev(N:Nat)(x:Int):Cz Ca.Power.E N f101 (Bw f101) [.int .u64 x]=xQ (.int .i64 (Bg (BV (zw (zD x 9223372036854775808) 4503599627370496)))):=by kernel_rfl
def Ca.MU.E:=E0 []
theorem Ca.MU.ev(N:Nat)(x:Int):Cz Ca.MU.E N f100 (Bw f100) [.int .u64 x]=xQ (.int .u64 (zD x 4503599627370496)):=by kernel_rfl
def Ca.Kind.E:=E0 [(100,Ca.MU.Bt),(101,Ca.Power.Bt)]
theorem Ca.Kind.ev(N:Nat)(x:Int):Cz Ca.Kind.E N f58 (Bw f58) [.int .u64 x]=cond (N4 x) (bif ((Ka x)==(2047:Int)) then cond (N4 x) (bif ((Dk x)==(0:Int)) then xQ (.int .i64 3) else xQ (.int .i64 4)) xY else bif (N4 x) then cond (BI 0 (Ka x)) (xQ (.int .i64 2)) (bif (N4 x) then cond (BI 0 (Dk x)) (xQ (.int .i64 1)) (xQ (.int .i64 0)) else xY) else xY) xY:=by kernel_rfl
def Ca.Finite.E:=E0 [(101,Ca.Power.Bt)]
theorem Ca.Finite.ev(N:Nat)(x:Int):Cz Ca.Finite.E N f114 (Bw f114) [.int .u64 x]=cond (N4 x) (xQ (.bool (BI (Ka x) 2047))) xY:=by kernel_rfl
theorem HQ(n m:Nat):zw (n:Int) (m:Int)=((n / m:Nat):Int):=rfl
theorem HP(n m:Nat):zD (n:Int) (m:Int)=((n%m:Nat):Int):=rfl
theorem Aj4:(9223372036854775808:Int)=((2^63:Nat):Int):=rfl
theorem Aj5:(4503599627370496:Int)=((2^52:Nat):Int):=rfl
theorem Ca.Neg.Bn:Kq 102 Ca.Neg.Bt:=ED Ca.Neg.E Tryz.func102 .nil fun x hp=>by obtain⟨n,rfl,hn⟩:=C9 (x:=x) hp;refine⟨0,Ca.Neg.out [.i n],[],?_,.bool⟩;rw[Ca.Neg.ev,Aj4,HQ,Dr (by omega) (by omega)];show _=xQ (DV.bool (DX n));unfold DX Cd;rw[Ad];congr 2;rw[Ar];simp only[beq_iff_eq,Ai];omega
theorem Ca.Power.Bn:Kq 101 Ca.Power.Bt:=ED Ca.Power.E Tryz.func101 .nil fun x hp=>by
 obtain⟨n,rfl⟩:=T6 (x:=x) hp;refine⟨0,Ca.Power.out [.i n],[],?_,.int⟩;rw[Ca.Power.ev,Aj4,Aj5,HP,HQ,Dr (by omega) (by omega),Bz (by omega) (by omega)];show _=xQ (DV.int .i64 (Ka n));unfold Ka DR;rw[Ad];congr 2;have:n%2^63 / 2^52=n / 2^52%2048:=by omega
 rw[this]
theorem Ca.MU.Bn:Kq 100 Ca.MU.Bt:=ED Ca.MU.E Tryz.func100 .nil fun x hp=>by obtain⟨n,rfl⟩:=T6 (x:=x) hp;refine⟨0,Ca.MU.out [.i n],[],?_,.int⟩;rw[Ca.MU.ev,Aj5,HP];rfl
theorem Ca.Kind.Bn:Kq 58 Ca.Kind.Bt:=ED Ca.Kind.E Tryz.func58 (kc Ca.MU.Bn (kc Ca.Power.Bn .nil)) fun x hp=>by
 obtain⟨n,rfl⟩:=T6 (x:=x) hp;refine⟨0,Ca.Kind.out [.i n],[],?_,.int⟩;rw[Ca.Kind.ev,N3];show _=xQ (DV.int .i64 (BH n));unfold BH Bk Ka Dk;simp only[Ad,Aa,B9];have:=IC n;by_cases h1:DR n=2047
 ·by_cases h2:Dn n=0
  ·simp[h1,h2]
  ·have:((Dn n:Int)==0)=x5:=by simp; exact h2
   simp[h1,this,h2]
 ·have h1':((DR n:Int)==2047)=x5:=by simp; omega
  rw[h1'];by_cases h3:0<DR n
  ·simp[h1,h3]
  ·by_cases h4:0<Dn n
   ·simp[h1,h3,h4]
   ·simp[h1,h3,h4]
theorem Ca.Finite.Bn:Kq 114 Ca.Finite.Bt:=ED Ca.Finite.E Tryz.func114 (kc Ca.Power.Bn .nil) fun x hp=>by obtain⟨n,rfl,hn⟩:=C9 (x:=x) hp;refine⟨0,Ca.Finite.out [.i n],[],?_,.bool⟩;rw[Ca.Finite.ev,N3,Aa,B9];show _=xQ (DV.bool (D5 n));unfold D5 Hg Ka;rw[Ad];have:decide ((DR n:Int)<2047)=decide (DR n<2047):=decide_eq_decide.2 (by omega);rw[this]
theorem On{b:Nat}(h0:Bk b≠0)(h3:Bk b≠3)(h4:Bk b≠4):By b≠0:=by
 have:=IC b;unfold Bk at h0 h3 h4;unfold By;by_cases h1:DR b=2047
 ·rw[Az h1] at h3 h4;by_cases h2:Dn b=0
  ·rw[Az h2] at h3; exact absurd rfl h3
  ·rw[Ay h2] at h4; exact absurd rfl h4
 ·rw[Ay h1] at h0;by_cases h2:0<DR b
  ·rw[Ay (by omega)]; omega
  ·rw[Ay h2] at h0;by_cases h5:0<Dn b
   ·rw[Az (by omega)]; omega
   ·rw[Ay h5] at h0; exact absurd rfl h0
theorem Vy{b:Nat}(h0:Bk b=0):By b=0:=by
 unfold Bk at h0;unfold By;by_cases h1:DR b=2047
 ·rw[Az h1] at h0; split at h0<;>omega
 ·rw[Ay h1] at h0;by_cases h2:0<DR b
  ·rw[Az h2] at h0; omega
  ·rw[Ay h2] at h0;by_cases h5:0<Dn b
   ·rw[Az h5] at h0; omega
   ·rw[Az (by omega)]; omega
theorem Aa4{x y:Nat}(hx1:2^52<=x)(hx2:x<2^53)(hy1:2^52<=y)(hy2:y<2^53):2^104<=x*y/\x*y<2^106:=by have h1:=AE hx1 hy1;have h2:x*y<2^53*2^53:=Nat.mul_lt_mul'' hx2 hy2;exact⟨AP (by decide) h1,AU h2 (by decide)⟩
theorem Aim{V:Nat}(h:V<2^106):HK .u64 (Ct .u64 ((V / 18446744073709551616:Nat):Int) (20:Int)) (DU .u64 ((V%18446744073709551616:Nat):Int) (44:Int))=((V / 2^44:Nat):Int):=by have e1:Ct .u64 ((V / 18446744073709551616:Nat):Int) (20:Int)=((V / 18446744073709551616*2^20%2^64:Nat):Int):=F3 _ 20 (by decide);have e2:DU .u64 ((V%18446744073709551616:Nat):Int) (44:Int)=((V%18446744073709551616 / 2^44:Nat):Int):=GP .u64 _ 44 (by decide);rw[e1,e2,Ao (by omega),KJ (k:=20) (by omega) (by omega)];congr 1;omega
theorem Ail{V:Nat}:((Ct .u64 ((V%18446744073709551616:Nat):Int) (20:Int)) !=(0:Int))=decide (V%2^44≠0):=by have e1:Ct .u64 ((V%18446744073709551616:Nat):Int) (20:Int)=((V%18446744073709551616*2^20%2^64:Nat):Int):=F3 _ 20 (by decide);rw[e1,Ar];simp only[bne_iff_ne,ne_eq,Ai];omega
theorem WU(s t:Bool):(!(s==t))=(s !=t):=rfl
theorem w53{x:Nat}(h:x<2^53):Br (x:Int)=xZ:=CP (by omega)
theorem Aix(n:Bool){a b:Nat}(ha:By a≠0)(hb:By b≠0):
 (bif (Br (Dp a)&&Br (Dp b)) then
  bif (Mb (HK .u64 (Ct .u64 (OM (Dp a) (Dp b)) (20:Int)) (DU .u64 (Lh (Dp a) (Dp b)) (44:Int))) (Bg ((Bg ((G9 a)+(G9 b)))+(44:Int)))) then
   xQ (DV.CR [.int .u64 (EM n (HK .u64 (Ct .u64 (OM (Dp a) (Dp b)) (20:Int)) (DU .u64 (Lh (Dp a) (Dp b)) (44:Int))) (Bg ((Bg ((G9 a)+(G9 b)))+(44:Int))) ((Ct .u64 (Lh (Dp a) (Dp b)) (20:Int)) !=(0:Int))),.int .u8 (EL n (HK .u64 (Ct .u64 (OM (Dp a) (Dp b)) (20:Int)) (DU .u64 (Lh (Dp a) (Dp b)) (44:Int))) (Bg ((Bg ((G9 a)+(G9 b)))+(44:Int))) ((Ct .u64 (Lh (Dp a) (Dp b)) (20:Int)) !=(0:Int)))])
  else xY
 else xY)=xQ (.CR [.int .u64 ((Co n (Cs (By a*By b) (B7 a+B7 b)):Nat):Int),.int .u8 ((flagsOf (By a*By b) (B7 a+B7 b):Nat):Int)]):=by
 obtain⟨a1,a2,a3,a4⟩:=LO ha;obtain⟨b1,b2,b3,b4⟩:=LO hb;have ea:=CO a;have eb:=CO b;have ma:Dp (a:Int)=((By a*2^CD a:Nat):Int):=rfl;have mb:Dp (b:Int)=((By b*2^CD b:Nat):Int):=rfl;have na:G9 (a:Int)=B7 a-CD a:=rfl;have nb:G9 (b:Int)=B7 b-CD b:=rfl;have hi:OM (Dp a) (Dp b)=((By a*2^CD a*(By b*2^CD b) / 18446744073709551616:Nat):Int):=rfl;have lo:Lh (Dp a) (Dp b)=((By a*2^CD a*(By b*2^CD b)%18446744073709551616:Nat):Int):=rfl;rw[hi,lo,ma,mb,na,nb,w53 a3,w53 b3,Ah,Aa];obtain⟨v1,v2⟩:=Aa4 a2 a3 b2 b3
 have ev:By a*2^CD a*(By b*2^CD b)=By a*By b*2^(CD a+CD b):=by rw[y8,<- A5]
 obtain⟨s1,s2⟩:=DE (By a*By b) (CD a+CD b) (B7 a+B7 b);rw[<- ev] at s1 s2;generalize By a*2^CD a*(By b*2^CD b)=V at *
 rw[Aim v2,Ail,Bz (x:=_+_) (by rw[Bz (by omega) (by omega)]; omega) (by rw[Bz (by omega) (by omega)]; omega),Bz (by omega) (by omega)];have hw:Mb ((V / 2^44:Nat):Int) (B7 a-CD a+(B7 b-CD b)+44)=xZ:=Bv.2 ⟨by omega,by omega,by omega,by omega⟩;rw[hw,Aa];unfold EM EL;rw[Ad,Qf n (V:=V) (k:=44) (E:=B7 a+B7 b-((CD a+CD b:Nat):Int)) (e:=B7 a-CD a+(B7 b-CD b)+44) (s:=decide (V%2^44≠0)) (by omega) rfl (by omega) (.inl (by omega)),s1,s2]
theorem kq(b k:Nat):(((Bk b:Nat):Int)==((k:Nat):Int))=decide (Bk b=k):=by rw[Ar]; simp only[beq_iff_eq,Ai]; omega
theorem Vh(n:Bool){r:Nat}(h:r<2^63):OJ n (r:Int)=((Co n r:Nat):Int):=by
 unfold OJ Co C1;cases n
 ·rfl
 ·simp only[if_true];rw[Ad,Pr h]
theorem YN(n:Bool):OJ n (9218868437227405312:Int)=((Co n E8:Nat):Int):=Vh n (r:=E8) (by decide)
theorem UK(n:Bool):OJ n (0:Int)=((Co n 0:Nat):Int):=Vh n (r:=0) (by decide)
theorem Ow(b:Nat):BH (b:Int)=((Bk b:Nat):Int):=rfl
theorem AbZ(a b:Nat):AfQ (a:Int) (b:Int)=(decide (Bk a=4)||decide (Bk b=4)):=by unfold AfQ BH;simp only[Ad];rw[Ar];simp only[zK,Ai];omega
theorem k3(b:Nat):(((Bk b:Nat):Int)==(3:Int))=decide (Bk b=3):=kq b 3
theorem k0(b:Nat):(((Bk b:Nat):Int)==(0:Int))=decide (Bk b=0):=kq b 0
theorem times.Mul.Bn:Kq 175 times.Mul.Bt:=ED times.Mul.E Tryz.func175 (kc DH.JS.Bn (kc soft.Kind.Bn (kc soft.Sign.Bn (kc times.nan.Bn (kc times.norm.Bn (kc times.signed.Bn (kc times.wide.Bn .nil))))))) fun a b hp=>by
 obtain⟨ha,hb⟩:=Bi.1 hp;obtain⟨a,rfl,hn⟩:=C9 ha;obtain⟨b,rfl,hm⟩:=C9 hb;refine⟨0,times.Mul.out [.i a,.i b],[],?_,Wk.Gr (.cons .int (.cons .int .nil))⟩;have i1:Br (9218868437227405312:Int)=xZ:=CP (n:=9218868437227405312) (by decide);have i2:Br (0:Int)=xZ:=CP (n:=0) (by decide);rw[times.Mul.ev,ha,hb,AbZ,Ow,Ow,k3,k3,k0,k0,i1,i2,YN,UK,WU];show _=xQ (DV.CR [.int .u64 (((En a b).1:Nat):Int),.int .u8 (((En a b).2:Nat):Int)]);have ea:DX (a:Int)=Cd a:=rfl;have eb:DX (b:Int)=Cd b:=rfl;rw[ea,eb];unfold En;simp only[Ah,Aa];by_cases h4:Bk a=4\/Bk b=4
 ·have c4:(decide (Bk a=4)||decide (Bk b=4))=xZ:=by simp; exact h4
  rw[Az h4,c4,Aa]; rfl
 ·have c4:(decide (Bk a=4)||decide (Bk b=4))=x5:=by simp; omega
  rw[Ay h4,c4,Af];by_cases h3:Bk a=3\/Bk b=3
  ·rw[Az h3];by_cases h0:Bk a=0\/Bk b=0
   ·have c0:(decide (Bk a=3)&&decide (Bk b=0)||decide (Bk a=0)&&decide (Bk b=3))=xZ:=by simp; omega
    rw[Az h0,c0,Aa]; rfl
   ·have c0:(decide (Bk a=3)&&decide (Bk b=0)||decide (Bk a=0)&&decide (Bk b=3))=x5:=by simp; omega
    have c3:(decide (Bk a=3)||decide (Bk b=3))=xZ:=by simp; omega
    rw[Ay h0,c0,Af,c3,Aa]; rfl
  ·have c0:(decide (Bk a=3)&&decide (Bk b=0)||decide (Bk a=0)&&decide (Bk b=3))=x5:=by simp; omega
   have c3:(decide (Bk a=3)||decide (Bk b=3))=x5:=by simp; omega
   rw[Ay h3,c0,Af,c3,Af];by_cases h0:Bk a=0\/Bk b=0
   ·have c5:(decide (Bk a=0)||decide (Bk b=0))=xZ:=by simp; exact h0
    have hz:By a*By b=0:=by
     rcases h0 with h | h
     ·rw[Vy h,Nat.zero_mul]
     ·rw[Vy h,yd]
    rw[c5,Aa,hz,Vn,Qw]; rfl
   ·have c5:(decide (Bk a=0)||decide (Bk b=0))=x5:=by simp; omega
    have pa:=On (b:=a) (by omega) (by omega) (by omega);have pb:=On (b:=b) (by omega) (by omega) (by omega);have na:Ke (a:Int)=xZ:=Bv.2 pa;have nb:Ke (b:Int)=xZ:=Bv.2 pb;rw[c5,Af,na,nb,Ah,Aa,Aa];exact Aix _ pa pb
theorem AgT(N:Nat){a b:Nat}{X Y:Nat}(hY:0<Y)(hY2:Y<2^53)(hX:X<2*Y)(em:Dp (b:Int)=(Y:Int)):∀(k i:Nat),k+i=61 ->
 times.Div.L0 N (k+1) a b ((X*2^i / Y:Nat):Int) ((X*2^i%Y:Nat):Int) (i:Int)=
  times.Div.L0 N 1 a b ((X*2^61 / Y:Nat):Int) ((X*2^61%Y:Nat):Int) (61:Int):=by
 intro k
 induction k with
 | zero =>
   intro i hi;have:i=61:=by omega
   subst this;rfl
 | succ k ih =>
   intro i hi
   have hq:X*2^i / Y<2^62:=by
    rw[yr hY];have h1:X*2^i<2*Y*2^i:=(Nat.mul_lt_mul_right (Cv i)).2 hX
    have h2:2*2^i<=2^62:=by rw[A0,<- zH]; exact Aq (by decide) (by omega)
    have h3:2*2^i*Y<=2^62*Y:=An _ h2;rw[wU] at h1;omega
   have hr:X*2^i%Y<Y:=Nat.mod_lt _ hY;have hd:=Nat.div_add_mod (X*2^i) Y;have e2:X*2^(i+1)=X*2^i*2:=by rw[zH,A7]
   rw[times.Div.B8,B9,E1,em,Ac (by omega),Aa]
   have s1:Ct .u64 ((X*2^i%Y:Nat):Int) (1:Int)=((X*2^i%Y*2:Nat):Int):=by have:=F3 (X*2^i%Y) 1 (by decide);rw[Ao (a:=X*2^i%Y*2^1) (by omega)] at this;exact this
   have s2:Ct .u64 ((X*2^i / Y:Nat):Int) (1:Int)=((X*2^i / Y*2^1:Nat):Int):=by have:=F3 (X*2^i / Y) 1 (by decide);rw[Ao (a:=X*2^i / Y*2^1) (by omega)] at this;exact this
   have s3:HK .u64 ((X*2^i / Y*2^1:Nat):Int) (1:Int)=((X*2^i / Y*2^1+1:Nat):Int):=KJ (k:=1) (b:=1) (by decide) (by omega);have ei:Bg ((i:Int)+1)=((i+1:Nat):Int):=by rw[Bz (by omega) (by omega)]; rfl
   rw[s1,s2,s3,ei];generalize hq':X*2^i / Y=q at *
   generalize hr':X*2^i%Y=r at *
   have step:∀c,X*2^i*2=Y*(2*q+c)+(2*r-c*Y)->c*Y<=2*r->2*r<c*Y+Y->X*2^(i+1) / Y=2*q+c/\X*2^(i+1)%Y=2*r-c*Y:=fun c h1 h2 h3=>by
    rw[e2,h1];constructor
    ·rw[Nat.mul_add_div hY,z7 (by omega)]; omega
    ·rw[Nat.mul_add_mod,Ao (by omega)]
   by_cases hc:Y<=r*2
   ·obtain⟨t1,t2⟩:=step 1 (by rw[yc,AR,yR]; omega) (by omega) (by omega);have:=ih (i+1) (by omega);rw[t1,t2] at this;rw[Ac (by omega),Aa,Dr (by omega) (by omega)];have e3:((r*2:Nat):Int)-(Y:Int)=((2*r-1*Y:Nat):Int):=by omega
    have e4:q*2^1+1=2*q+1:=by omega
    rw[e3,e4];exact this
   ·obtain⟨t1,t2⟩:=step 0 (by rw[AQ,yR]; omega) (by omega) (by omega);have:=ih (i+1) (by omega);rw[t1,t2] at this;rw[Ag (by omega),Af];have e3:r*2=2*r-0*Y:=by omega
    have e4:q*2^1=2*q+0:=by omega
    rw[e3,e4];exact this
theorem AiQ{a b:Nat}(ha:By a≠0)(hb:By b≠0):
 times.Div.L0 62 62 a b (BV (zw (Dp a) (Dp b))) (zD (Dp a) (Dp b)) (0:Int)=
  xQ (.CR [.int .u64 ((Co (Cd a !=Cd b) (Cs (EW (By a) (By b) 120) (B7 a-B7 b-121)):Nat):Int),.int .u8 ((flagsOf (EW (By a) (By b) 120) (B7 a-B7 b-121):Nat):Int)]):=by
 obtain⟨a1,a2,a3,a4⟩:=LO ha;obtain⟨b1,b2,b3,b4⟩:=LO hb;have ea:=CO a;have eb:=CO b;have ma:Dp (a:Int)=((By a*2^CD a:Nat):Int):=rfl;have mb:Dp (b:Int)=((By b*2^CD b:Nat):Int):=rfl;have na:G9 (a:Int)=B7 a-CD a:=rfl;have nb:G9 (b:Int)=B7 b-CD b:=rfl;have sL:=ZY (By a) (By b*2^CD b) (CD a) 61;have hpos:0<By b*2^CD b:=by omega
 have hq1:2^53<=By a*2^CD a*2^61 / (By b*2^CD b):=by rw[y5 hpos]; omega
 have hqq:2^60<=By a*2^CD a*2^61 / (By b*2^CD b):=by rw[y5 hpos]; omega
 have hq2:By a*2^CD a*2^61 / (By b*2^CD b)<2^62:=by rw[yr hpos]; omega
 have hstick:EW (By a*2^CD a) (By b*2^CD b) 61=EW (By a) (By b) (61+CD a-CD b):=by
  rw[sL];have:61+CD a=61+CD a-CD b+CD b:=by omega
  conv=>lhs; rw[this]
  rw[XX]
 have hge1:2^53<=By a*2^(61+CD a-CD b) / By b:=by
  have e1:By a*2^CD a*2^61=By a*2^(61+CD a-CD b)*2^CD b:=by rw[A7,<- A5,A7,<- A5];congr 2;omega
  rw[e1,Nat.mul_div_mul_right _ _ (Cv _)] at hq1;exact hq1
 have hge2:2^53<=By a*2^120 / By b:=Akg (t:=53) (by omega) (by omega) (by have:=EX b; omega) (by omega);obtain⟨s1,s2⟩:=ZX (X:=By a) (Y:=By b) (K:=61+CD a-CD b) (L:=120) (E:=B7 a-CD a-(B7 b-CD b)-61-1) (F:=B7 a-B7 b-121) (by omega) hge1 hge2 (by omega)
 have d1:BV (zw (Dp a) (Dp b))=((By a*2^CD a*2^0 / (By b*2^CD b):Nat):Int):=by rw[ma,mb,HQ,AG,AR];have h1:=Nat.div_le_self (By a*2^CD a) (By b*2^CD b);have h2:By a*2^CD a / (By b*2^CD b)<2^64:=AK h1 (Nat.lt_trans a3 (by decide));generalize By a*2^CD a / (By b*2^CD b)=q at h2 ⊢;exact Dr (Int.natCast_nonneg q) (by omega)
 have d2:zD (Dp a) (Dp b)=((By a*2^CD a*2^0%(By b*2^CD b):Nat):Int):=by rw[ma,mb,HP,AG,AR]
 rw[d1,d2];have lp:=AgT 62 (a:=a) (b:=b) hpos b3 (X:=By a*2^CD a) (by omega) mb 61 0 (by omega);refine lp.trans ?_;rw[times.Div.B8,B9,na,nb,Ag (by omega),Af]
 have we:Bg (Bg (B7 a-CD a-(B7 b-CD b))-61)=B7 a-CD a-(B7 b-CD b)-61:=by rw[Bz (x:=B7 a-CD a-(B7 b-CD b)) (by omega) (by omega),Bz (by omega) (by omega)]
 have hne:(((By a*2^CD a*2^61%(By b*2^CD b):Nat):Int) !=(0:Int))=decide (By a*2^CD a*2^61%(By b*2^CD b)≠0):=by rw[Ar]; simp only[bne_iff_ne,ne_eq,Ai]; omega
 rw[we,hne];have hw:Mb ((By a*2^CD a*2^61 / (By b*2^CD b):Nat):Int) (B7 a-CD a-(B7 b-CD b)-61)=xZ:=Bv.2 ⟨by omega,by omega,by omega,by omega⟩;have hn:DX (a:Int)=Cd a:=rfl;have hn':DX (b:Int)=Cd b:=rfl;rw[hw,Aa,WU,hn,hn'];unfold EM EL;rw[Ad,Ad2 _ rfl rfl hq1,hstick,s1,s2]
theorem times.Div.Bn:Kq 144 times.Div.Bt:=ED times.Div.E Tryz.func144 (kc soft.Kind.Bn (kc soft.Sign.Bn (kc times.nan.Bn (kc times.norm.Bn (kc times.signed.Bn (kc times.wide.Bn .nil)))))) fun a b hp=>by
 obtain⟨ha,hb⟩:=Bi.1 hp;obtain⟨a,rfl,hn⟩:=C9 ha;obtain⟨b,rfl,hm⟩:=C9 hb;refine⟨62,times.Div.out [.i a,.i b],[],?_,Wk.Gr (.cons .int (.cons .int .nil))⟩;have i1:Br (9218868437227405312:Int)=xZ:=CP (n:=9218868437227405312) (by decide);have i2:Br (0:Int)=xZ:=CP (n:=0) (by decide);rw[times.Div.ev,ha,hb,AbZ,Ow,Ow,k3,k3,k0,k0,i1,i2,YN,UK,WU];show _=xQ (DV.CR [.int .u64 (((KS a b).1:Nat):Int),.int .u8 (((KS a b).2:Nat):Int)]);have ea:DX (a:Int)=Cd a:=rfl;have eb:DX (b:Int)=Cd b:=rfl;rw[ea,eb];unfold KS;rw[Ah,Aa,Aa,Aa,Aa,Aa];by_cases h4:Bk a=4\/Bk b=4
 ·have c4:(decide (Bk a=4)||decide (Bk b=4))=xZ:=by simp; exact h4
  rw[Az h4,c4,Aa]; rfl
 ·have c4:(decide (Bk a=4)||decide (Bk b=4))=x5:=by simp; omega
  rw[Ay h4,c4,Af];by_cases h1:Bk a=Bk b/\(Bk a=3\/Bk a=0)
  ·have c1:(decide (Bk a=3)&&decide (Bk b=3)||decide (Bk a=0)&&decide (Bk b=0))=xZ:=by simp; omega
   rw[Az h1,c1,Aa]; rfl
  ·have c1:(decide (Bk a=3)&&decide (Bk b=3)||decide (Bk a=0)&&decide (Bk b=0))=x5:=by simp; omega
   rw[Ay h1,c1,Af];by_cases h2:Bk a=3
   ·rw[Az h2,Ac h2,Aa]; rfl
   ·rw[Ay h2,Ag h2,Af];by_cases h3:Bk b=3\/Bk a=0
    ·have c3:(decide (Bk b=3)||decide (Bk a=0))=xZ:=by simp; exact h3
     rw[Az h3,c3,Aa]; rfl
    ·have c3:(decide (Bk b=3)||decide (Bk a=0))=x5:=by simp; omega
     rw[Ay h3,c3,Af];by_cases h5:Bk b=0
     ·rw[Az h5,Ac h5,Aa]; rfl
     ·rw[Ay h5,Ag h5,Af];have pa:=On (b:=a) (by omega) (by omega) (by omega);have pb:=On (b:=b) (by omega) (by omega) (by omega);have na:Ke (a:Int)=xZ:=Bv.2 pa;have nb:Ke (b:Int)=xZ:=Bv.2 pb
      have hnb:(Dp (b:Int) !=0)=xZ:=by obtain⟨_,l2,_,_⟩:=LO pb;have mb:Dp (b:Int)=((By b*2^CD b:Nat):Int):=rfl;rw[mb];simp only[bne_iff_ne,ne_eq];omega
      rw[na,nb,hnb,Ah,Aa,Aa,Aa,Aa,AiQ pa pb]
def Bs.Add.E:=E0 [(174,sum.Add.Bt)]
theorem Bs.Add.ev(N:Nat)(a b:Int):Cz Bs.Add.E N f137 (Bw f137) [.int .u64 a,.int .u64 b]=cond (Br a&&Br b) (xQ (.int .u64 (DM a b))) xY:=by kernel_rfl
def Bs.Sub.E:=E0 [(231,sum.Sub.Bt)]
theorem Bs.Sub.ev(N:Nat)(a b:Int):Cz Bs.Sub.E N f201 (Bw f201) [.int .u64 a,.int .u64 b]=cond (Br a&&Br b) (xQ (.int .u64 (Ej a b))) xY:=by kernel_rfl
def Bs.Mul.E:=E0 [(175,times.Mul.Bt)]
theorem Bs.Mul.ev(N:Nat)(a b:Int):Cz Bs.Mul.E N f138 (Bw f138) [.int .u64 a,.int .u64 b]=cond (Br a&&Br b) (xQ (.int .u64 (C0 a b))) xY:=by kernel_rfl
def Bs.fit.E:=E0 []
theorem Bs.fit.ev(N:Nat)(x y:Bf):Cz Bs.fit.E N f173 (Bw f173) [.Bj .arg .u64 x,.Bj .arg .u64 y]=xQ (.bool (cond ((wj x:Int)==(wj y:Int)) (Eg (wj x:Int) 64) x5)) :=Et (B5 (MH ((wj x:Int)==(wj y:Int))) (B5 (JV ((wj x:Int)==(wj y:Int))) (B5 (JV ((wj x:Int)==(wj y:Int))) (B5 (QG ((wj x:Int)==(wj y:Int))) rfl))))
def Bs.P8.hint:Nat->Option BN
 | 0=>xQ { Df:=[0,1,6,13,14],Cg:=[],Cr:=[] }
 | _=>xY
def Bs.P8.E:=D6 (Db [(137,Bs.Add.Bt),(138,Bs.Mul.Bt),(173,Bs.fit.Bt)]) (fun _=>x5) Bs.P8.hint (fun _=>xY)
section
variable(N M:Nat)(x y:Bf)(p6 p14:Int)
def Bs.P8.L0:Option DV:=C6 Bs.P8.E N f134 (Bw f134) [1,1,1,0,1,0] [] M ⟨Fz 30 [(0,.Bj .arg .u64 x),(1,.Bj .arg .u64 y),(6,.int .u64 p6),(13,.int .i64 (wj x:Int)),(14,.int .i64 p14)],[]⟩
theorem Bs.P8.B8:Bs.P8.L0 N (M+1) x y p6 p14=cond (BI p14 (wj x:Int)) (bif ((decide (0<=p14))&&(decide (p14<(wj x:Int)))) then cond ((decide (0<=p14))&&(decide (p14<(wj y:Int)))) (bif (Br (wt x (wQ p14) 0)&&Br (wt y (wQ p14) 0)) then cond (Br p6&&Br (C0 (wt x (wQ p14) 0) (wt y (wQ p14) 0))) (Bs.P8.L0 N M x y (DM p6 (C0 (wt x (wQ p14) 0) (wt y (wQ p14) 0))) (Bg (p14+1))) xY else xY) xY else xY) (xQ (.CR [.int .u64 p6,.int .i64 0])) :=Et (EY (CQ (IW _ _) (CQ (IW _ _) (CQ (CF _) (CQ (CF _) rfl rfl) rfl) rfl) rfl) rfl)
theorem Bs.P8.ev:Cz Bs.P8.E N f134 (Bw f134) [.Bj .arg .u64 x,.Bj .arg .u64 y]=cond (!(NI x y)) (xQ (.CR [.int .u64 0,.int .i64 3])) (Bs.P8.L0 N N x y 0 0):=by kernel_rfl
end
open Go Go.Den Go.Ck Go.Proofs Ieee
theorem Bs.Add.Bn:Kq 137 Bs.Add.Bt:=ED Bs.Add.E Tryz.func137 (kc sum.Add.Bn .nil) fun a b hp=>by have hp:(Br a&&Br b)=xZ:=hp;refine⟨0,Bs.Add.out [.i a,.i b],[],?_,.int⟩;rw[Bs.Add.ev,hp]; rfl
theorem Bs.Sub.Bn:Kq 201 Bs.Sub.Bt:=ED Bs.Sub.E Tryz.func201 (kc sum.Sub.Bn .nil) fun a b hp=>by have hp:(Br a&&Br b)=xZ:=hp;refine⟨0,Bs.Sub.out [.i a,.i b],[],?_,.int⟩;rw[Bs.Sub.ev,hp]; rfl
theorem Bs.Mul.Bn:Kq 138 Bs.Mul.Bt:=ED Bs.Mul.E Tryz.func138 (kc times.Mul.Bn .nil) fun a b hp=>by have hp:(Br a&&Br b)=xZ:=hp;refine⟨0,Bs.Mul.out [.i a,.i b],[],?_,.int⟩;rw[Bs.Mul.ev,hp]; rfl
theorem Ag3(x y:Bf):(cond ((wj x:Int)==(wj y:Int)) (Eg (wj x:Int) (64:Int)) x5)=NI x y:=by
 unfold NI;rw[E1,Ar];by_cases h:x.length=y.length
 ·have:((x.length:Int)==(y.length:Int))=xZ:=by rw[beq_iff_eq]; omega
  rw[this,Aa,Ac h,AW,Ai,Ai]; omega
 ·have:((x.length:Int)==(y.length:Int))=x5:=by rw[AD]; omega
  rw[this,Af,Ag h,zZ]
theorem Bs.fit.Bn:Kq 173 Bs.fit.Bt:=ED Bs.fit.E Tryz.func173 .nil fun x y _=>by refine⟨0,Bs.fit.out [.l x,.l y],[],?_,.bool⟩;rw[Bs.fit.ev,Ag3]; rfl
theorem Xg{x y:Bf}:NI x y=xZ↔x.length=y.length/\x.length<=64:=by unfold NI; simp
theorem Zo{l:Bf}{i:Nat}(h:i<l.length):l.drop i=l.getD i 0::l.drop (i+1):=by rw[List.drop_eq_getElem_cons h,Al,As h]; rfl
theorem Um{x y:Bf}{i:Nat}(s:Nat)(hx:i<x.length)(hy:i<y.length):
 Q0 s (x.drop i) (y.drop i)=Q0 (Ef s (En (x.getD i 0).toNat (y.getD i 0).toNat).1).1 (x.drop (i+1)) (y.drop (i+1)):=by
 rw[Zo hx,Zo hy]; rfl
theorem AgQ(N:Nat){x y:Bf}(hf:NI x y=xZ)(hx:Bp x=xZ)(hy:Bp y=xZ):∀(k i F s:Nat),i+k=x.length->k<F->s<2^64 ->
 Bs.P8.L0 N F x y (s:Int) (i:Int)=xQ (.CR [.int .u64 ((Q0 s (x.drop i) (y.drop i):Nat):Int),.int .i64 (0:Int)]):=by
 obtain⟨h1,h2⟩:=Xg.1 hf;intro k
 induction k with
 | zero =>
   intro i F s hi hF hs;obtain⟨F,rfl⟩:∃G,F=G+1:=⟨F-1,by omega⟩
   rw[Bs.P8.B8,B9,Ag (by omega),Af,Ap (by omega)];rfl
 | succ k ih =>
   intro i F s hi hF hs;obtain⟨F,rfl⟩:∃G,F=G+1:=⟨F-1,by omega⟩
   have c1:decide ((i:Int)<(x.length:Int))=xZ:=Ac (by omega);have c2:decide ((i:Int)<(y.length:Int))=xZ:=Ac (by omega);have c3:decide ((0:Int)<=(i:Int))=xZ:=Ac (by omega);have g1:=MF hx (show i<x.length by omega);have g2:=MF hy (show i<y.length by omega);have em:C0 (x.getD i 0) (y.getD i 0)=(((En (x.getD i 0).toNat (y.getD i 0).toNat).1:Nat):Int):=rfl;have ea:∀t:Nat,DM (s:Int) (t:Int)=(((Ef s t).1:Nat):Int):=fun t=>rfl
   rw[Bs.P8.B8,B9,c1,c2,c3,Ad,g1,g2,em,ea,CP hs,CP Lg,Ah,Aa,Aa,Aa,Aa,Aa,Bz (by omega) (by omega),Um s (by omega) (by omega)];exact ih (i+1) F _ (by omega) (by omega) (QB hs Lg).1
theorem Bs.P8.Bn:Kq 134 Bs.P8.Bt:=ED Bs.P8.E Tryz.func134 (kc Bs.Add.Bn (kc Bs.Mul.Bn (kc Bs.fit.Bn .nil))) fun x y hp=>by obtain⟨h1,hy⟩:=Bi.1 hp;obtain⟨hf,hx⟩:=Bi.1 h1;refine⟨x.length+1,Bs.P8.out [.l x,.l y],[],?_,Wk.Gr (.cons .int (.cons .int .nil))⟩;rw[Bs.P8.ev,hf,AH,Af];exact AgQ _ hf hx hy x.length 0 _ 0 (by omega) (by omega) (by decide)
def Bh.size.E:=E0 []
theorem Bh.size.ev(N:Nat)(n:Int):Cz Bh.size.E N f164 (Bw f164) [.int .i64 n]=xQ (.bool (cond (Eg 0 n) (Eg n 6) x5)) :=Et (B5 (MH (Eg 0 n)) (B5 (JV (Eg 0 n)) (B5 (QG (Eg 0 n)) rfl)))
def Bh.Check.E:=E0 [(164,Bh.size.Bt)]
theorem Bh.Check.ev(N:Nat)(r c:Int)(l:Bf):Cz Bh.Check.E N f121 (Bw f121) [.agg [.int .i64 r,.int .i64 c,.Bj .arg .u64 l]]=cond (((!(CJ r))||(!(CJ c)))||((wj l:Int) !=(Bg (r*c)))) (xQ (.int .i64 1)) (xQ (.int .i64 0)) :=Et (B5 (SU (CJ r)) (B5 (OZ (CJ r)) (B5 (OZ (CJ r)) (B5 (OZ (CJ r)) (B5 (U7 (CJ r)) (B5 (AeN (CJ r) (CJ c)) (B5 (AeO (CJ r) (CJ c)) (B5 (AeO (CJ r) (CJ c)) (B5 (AeN (CJ r) (CJ c)) (B5 (AeO (CJ r) (CJ c)) (B5 (AeN (CJ r) (CJ c)) (B5 (AeO (CJ r) (CJ c)) (B5 (AlL (CJ r) (CJ c)) (B5 (AlL (CJ r) (CJ c)) (B5 (AlM (CJ r) (CJ c)) (CQ (An5 _ _ _) rfl rfl))))))))))))))))
def Bh.get.E:=E0 []
theorem Bh.get.ev(N:Nat)(r c:Int)(l:Bf)(i k:Int):Cz Bh.get.E N f119 (Bw f119) [.agg [.int .i64 r,.int .i64 c,.Bj .arg .u64 l],.int .i64 i,.int .i64 k]=cond ((decide (0<=(Bg ((Bg (i*c))+k))))&&(decide ((Bg ((Bg (i*c))+k))<(wj l:Int)))) (xQ (.int .u64 (wt l (wQ (Bg ((Bg (i*c))+k))) 0))) xY:=by kernel_rfl
def Bh.two.E:=E0 [(121,Bh.Check.Bt)]
theorem Bh.two.ev(N:Nat)(r c:Int)(l:Bf)(p q:Int)(m:Bf):Cz Bh.two.E N f116 (Bw f116) [.agg [.int .i64 r,.int .i64 c,.Bj .arg .u64 l],.agg [.int .i64 p,.int .i64 q,.Bj .arg .u64 m]]=cond (((IL r c l) !=(0:Int))||((IL p q m) !=(0:Int))) (xQ (.int .i64 1)) (xQ (.int .i64 0)) :=Et (B5 (U5 ((IL r c l) !=(0:Int))) (B5 (RW ((IL r c l) !=(0:Int))) (B5 (RW ((IL r c l) !=(0:Int))) (B5 (XT ((IL r c l) !=(0:Int))) (CQ (tt5 _ _) rfl rfl)))))
def Bh.Row.E:=E0 []
theorem Bh.Row.ev(N:Nat)(r c:Int)(l:Bf)(i f:Int):Cz Bh.Row.E N f135 (Bw f135) [.agg [.int .i64 r,.int .i64 c,.Bj .arg .u64 l],.int .i64 i,.int .i64 f]=cond (((decide ((0:Int)<=(Bg ((Bg (i*c))+f))))&&(decide ((Bg ((Bg (i*c))+f))<=(Bg ((Bg (i+1))*c)))))&&((decide ((0:Int)<=(Bg ((Bg (i+1))*c))))&&(decide ((Bg ((Bg (i+1))*c))<=(wj l:Int))))) (bif (decide (0+(wj (zN (wQ (Bg ((Bg (i*c))+f))) (zL (wQ (Bg ((Bg (i+1))*c))) l)))<=G2)) then xQ (.Bj (.own 22 43) .u64 ([]++(zN (wQ (Bg ((Bg (i*c))+f))) (zL (wQ (Bg ((Bg (i+1))*c))) l)))) else xY) xY :=Et (CQ (An4 _ _ _ _) rfl rfl)
def Bh.Ei.hint:Nat->Option BN
 | 0=>xQ { Df:=[1,3,7,8],Cg:=[(0,7,100007,.Bj 43 .u64 [])],Cr:=[3] }
 | _=>xY
def Bh.Ei.E:=D6 (Db [(119,Bh.get.Bt)]) (fun _=>x5) Bh.Ei.hint (fun _=>xY)
section
variable(N M:Nat)(r c:Int)(l:Bf)(k f p8:Int)(p7:Bf)
def Bh.Ei.L0:Option DV:=C6 Bh.Ei.E N f68 (Bw f68) [1,1,0,1,0] [] M ⟨Fz 24 [(1,.int .i64 k),(3,.ptr 3 0 0),(7,.Dh 100007),(8,.int .i64 p8)],[(3,x5,.box [.int .i64 r,.int .i64 c,.Bj .arg .u64 l]),(100007,x5,.Bj 43 .u64 p7)]⟩
theorem Bh.Ei.B8:Bh.Ei.L0 N (M+1) r c l k p8 p7=cond (BI p8 r) (bif (FI r c l p8 k) then cond (decide ((wj p7)+1<=G2)) (Bh.Ei.L0 N M r c l k (Bg (p8+1)) (p7++[(CE c l p8 k)])) xY else xY) (xQ (.Bj (.own 100007 43) .u64 p7)):=by kernel_rfl
theorem Bh.Ei.ev:Cz Bh.Ei.E N f68 (Bw f68) [.agg [.int .i64 r,.int .i64 c,.Bj .arg .u64 l],.int .i64 k,.int .i64 f]=
 Bh.Ei.L0 N N r c l k f []:=by kernel_rfl
end
def Bh.JT.E:=E0 []
theorem Bh.JT.ev(N:Nat)(i k:Int):Cz Bh.JT.E N f168 (Bw f168) [.int .i64 i,.int .i64 k]=cond (i==k) (xQ (.int .u64 4607182418800017408)) (xQ (.int .u64 0)):=by kernel_rfl
def Bh.HE.E:=E0 [(119,Bh.get.Bt)]
theorem Bh.HE.ev(N:Nat)(i k:Int)(r c:Int)(l:Bf):Cz Bh.HE.E N f232 (Bw f232) [.int .i64 i,.int .i64 k,.CS [.int .i64 r,.int .i64 c,.Bj .arg .u64 l]]=cond (FI r c l k i) (xQ (.int .u64 (CE c l k i))) xY:=by kernel_rfl
def Bh.HF.E:=E0 [(119,Bh.get.Bt)]
theorem Bh.HF.ev(N:Nat)(i k:Int)(r c:Int)(l:Bf)(x y:Int):Cz Bh.HF.E N f122 (Bw f122) [.int .i64 i,.int .i64 k,.CS [.int .i64 r,.int .i64 c,.Bj .arg .u64 l],.CS [.int .i64 x],.CS [.int .i64 y]]=cond (FI r c l (Bg (x+i)) (Bg (y+k))) (xQ (.int .u64 (CE c l (Bg (x+i)) (Bg (y+k))))) xY:=by kernel_rfl
def Bh.Gu.E:=E0 [(119,Bh.get.Bt)]
theorem Bh.Gu.ev(N:Nat)(i k:Int)(r c:Int)(l:Bf)(p q:Int)(m:Bf):Cz Bh.Gu.E N f118 (Bw f118) [.int .i64 i,.int .i64 k,.CS [.int .i64 r,.int .i64 c,.Bj .arg .u64 l],.CS [.int .i64 p,.int .i64 q,.Bj .arg .u64 m]]=cond (BI i r) (bif (FI r c l i k) then xQ (.int .u64 (CE c l i k)) else xY) (bif (FI p q m (Bg (i-r)) k) then xQ (.int .u64 (CE q m (Bg (i-r)) k)) else xY):=by kernel_rfl
def Bh.JR.E:=E0 [(68,Bh.Ei.Bt),(135,Bh.Row.Bt),(134,Bs.P8.Bt)]
theorem Bh.JR.ev(N:Nat)(i k:Int)(r c:Int)(l:Bf)(p q:Int)(m:Bf):Cz Bh.JR.E N f133 (Bw f133) [.int .i64 i,.int .i64 k,.CS [.int .i64 r,.int .i64 c,.Bj .arg .u64 l],.CS [.int .i64 p,.int .i64 q,.Bj .arg .u64 m]]=cond (WI r c l i&&decide ((0:Int)=0)) (bif (Ht p q m k&&Ch (0<=(0:Int)/\(0:Int)<=p)) then cond ((NI (JZ c l i) (Dm q m k 0 (wQ (p-0)))&&Bp (JZ c l i))&&Bp (Dm q m k 0 (wQ (p-0)))) (xQ (.int .u64 (Fk (JZ c l i) (Dm q m k 0 (wQ (p-0)))))) xY else xY) xY :=Et (CQ (CF _) (CQ (CF _) (CQ (CF _) rfl rfl) rfl) rfl)
theorem Kl{a b:Int}(h1:0<=a)(h2:a<20)(h3:0<=b)(h4:b<20):0<=a*b/\a*b<400:=by have:=Int.mul_nonneg h1 h3;have h5:a*b<=19*19:=Int.mul_le_mul (by omega) (by omega) h3 (by omega);omega
theorem Bh.size.Bn:Kq 164 Bh.size.Bt:=ED Bh.size.E Tryz.func164 .nil fun n _=>by
 refine⟨0,Bh.size.out [.i n],[],?_,.bool⟩
 have e:(cond (Eg (0:Int) n) (Eg n (6:Int)) x5)=CJ n:=by unfold CJ;rw[E1,E1];cases decide (0<=n)<;>rfl
 rw[Bh.size.ev,e]; rfl
theorem Zt(r c:Int)(l:Bf):(((!(CJ r))||(!(CJ c)))||((wj l:Int) !=(Bg (r*c))))=!(BA r c l):=by
 unfold BA;cases h1:CJ r with
 | false=>rfl
 | true =>
   cases h2:CJ c with
   | false=>rfl
   | true =>obtain⟨r1,r2⟩:=Hk.1 h1;obtain⟨c1,c2⟩:=Hk.1 h2;have:=Kl (a:=r) (b:=c) r1 (by omega) c1 (by omega);rw[Bz (by omega) (by omega),Ar];simp
theorem Bh.Check.Bn:Kq 121 Bh.Check.Bt:=ED Bh.Check.E Tryz.func121 (kc Bh.size.Bn .nil) fun r c l _=>by refine⟨0,Bh.Check.out [.i r,.i c,.l l],[],?_,.int⟩;rw[Bh.Check.ev,Zt];show _=xQ (DV.int .i64 (IL r c l));unfold IL;cases BA r c l<;>rfl
theorem X3{c i k:Int}{l:Bf}{R:Int}(h:FI R c l i k=xZ):Bg (Bg (i*c)+k)=i*c+k/\0<=i*c+k/\i*c+k<l.length:=by obtain⟨h1,h2,h3,h4,h5,h6,h7,_⟩:=Bv.1 h;have:=Kl h1 (by omega) h5 (by omega);rw[Bz (x:=i*c) (by omega) (by omega),Bz (by omega) (by omega)];omega
theorem Bh.get.Bn:Kq 119 Bh.get.Bt:=ED Bh.get.E Tryz.func119 .nil fun r c l i k hp=>by obtain⟨e,h1,h2⟩:=X3 (R:=r) (show FI r c l i k=xZ from hp);refine⟨0,Bh.get.out [.i r,.i c,.l l,.i i,.i k],[],?_,.int⟩;rw[Bh.get.ev,e,Ac h1,Ac h2];rfl
theorem P0(r c:Int)(l:Bf):((IL r c l) !=(0:Int))=!(BA r c l):=by unfold IL;cases BA r c l<;>rfl
theorem Bh.two.Bn:Kq 116 Bh.two.Bt:=ED Bh.two.E Tryz.func116 (kc Bh.Check.Bn .nil) fun r c l p q m _=>by refine⟨0,Bh.two.out [.i r,.i c,.l l,.i p,.i q,.l m],[],?_,.int⟩;rw[Bh.two.ev,P0,P0];show _=xQ (DV.int .i64 (SQ r c l p q m));unfold SQ;cases BA r c l<;>cases BA p q m<;>rfl
theorem Bh.Row.Bn:Kq 135 Bh.Row.Bt:=ED Bh.Row.E Tryz.func135 .nil fun r c l i f hp=>by
 obtain⟨h0,hf⟩:=Bi.1 hp;obtain rfl:=A6 hf;obtain⟨hr,hi⟩:=Bi.1 h0;have hi:=Bv.1 hi;obtain⟨R,C,rfl,rfl,r6,c6,hl⟩:=D9 hr;obtain⟨I,rfl⟩:∃k:Nat,i=k:=⟨i.toNat,by omega⟩
 have hm:=Kl (a:=(I:Int)) (b:=(C:Int)) (by omega) (by omega) (by omega) (by omega);have hm2:=Kl (a:=(I:Int)+1) (b:=(C:Int)) (by omega) (by omega) (by omega) (by omega);have hle:(I+1)*C<=R*C:=An C (by omega);have hle2:I*C<=(I+1)*C:=An C (by omega);have e1:(I:Int)*(C:Int)=((I*C:Nat):Int):=(Ax _ _).symm;have e2:((I:Int)+1)*(C:Int)=(((I+1)*C:Nat):Int):=by rw[Ax]; rfl
 refine⟨0,.Bj (.own 22 tB) .u64 (JZ (C:Int) l (I:Int)),[22],?_,.drop _ _ _ _ (ze.2 rfl)⟩;rw[Bh.Row.ev,Bz (x:=(I:Int)+1) (by omega) (by omega),Bz (x:=(I:Int)*(C:Int)) (by omega) (by omega),Int.add_zero,Bz (x:=(I:Int)*(C:Int)) (by omega) (by omega),Bz (x:=((I:Int)+1)*(C:Int)) (by omega) (by omega)];unfold JZ;have d1:decide ((0:Int)<=(I:Int)*(C:Int))=xZ:=Ac (by omega);have d2:decide ((I:Int)*(C:Int)<=((I:Int)+1)*(C:Int))=xZ:=Ac (by rw[e1,e2]; omega);have d3:decide ((0:Int)<=((I:Int)+1)*(C:Int))=xZ:=Ac (by omega);have d4:decide (((I:Int)+1)*(C:Int)<=(l.length:Int))=xZ:=Ac (by rw[e2]; omega)
 have d5:decide (0+(zN ((I:Int)*(C:Int)).toNat (zL (((I:Int)+1)*(C:Int)).toNat l)).length<=G2)=xZ:=by refine Ac ?_;rw[zP,zM];unfold G2;omega
 rw[d1,d2,d3,d4,d5];rfl
theorem Jh(c b i:Int)(n:Nat)(l:Bf):(Dm c l b i n).length=n:=by unfold Dm; rw[AO,AL]
theorem AiS(r c:Int)(l:Bf)(k:Int):Dm c l k 0 (wQ (r-0))=MS r c l k:=by
 unfold Dm MS;rw[Int.sub_zero];refine List.map_congr_left fun j _=>?_
 rw[Int.zero_add]
theorem ZC{r:Int}(h:0<=r):Ch (0<=(0:Int)/\0<=r)=xZ:=Bv.2 ⟨yI _,h⟩
theorem AgZ(N:Nat){R C K f:Nat}{l:Bf}(r6:R<=6)(c6:C<=6)(hl:l.length=R*C)(hk:K<C):∀(k i F:Nat),f+i+k=R->k<F ->
 Bh.Ei.L0 N F (R:Int) (C:Int) l (K:Int) ((f+i:Nat):Int) (Dm (C:Int) l (K:Int) (f:Int) i)=xQ (.Bj (.own 100007 tB) .u64 (Dm (C:Int) l (K:Int) (f:Int) (R-f))):=by
 intro k
 induction k with
 | zero =>
   intro i F hi hF;obtain⟨F,rfl⟩:∃G,F=G+1:=⟨F-1,by omega⟩
   rw[Bh.Ei.B8,B9,Ag (by omega),Af,show R-f=i by omega]
 | succ k ih =>
   intro i F hi hF;obtain⟨F,rfl⟩:∃G,F=G+1:=⟨F-1,by omega⟩
   have d:decide ((Dm (C:Int) l (K:Int) (f:Int) i).length+1<=G2)=xZ:=Ac (by rw[Jh]; unfold G2; omega);rw[Bh.Ei.B8,B9,Ac (by omega),Aa,Q7 r6 c6 hl (show f+i<R by omega) hk,Aa,d,Aa,Bz (by omega) (by omega)];have:=ih (i+1) F (by omega) (by omega);unfold Dm at this ⊢;rw[List.range_succ,List.map_append] at this;exact this
theorem Bh.Ei.Bn:Kq 68 Bh.Ei.Bt:=ED Bh.Ei.E Tryz.func68 (kc Bh.get.Bn .nil) fun r c l k f hp=>by
 obtain⟨h0,hf⟩:=Bi.1 (show(Ht r c l k&&Ch (0<=f/\f<=r))=xZ from hp);have hf:=Bv.1 hf;obtain⟨hr,hi⟩:=Bi.1 h0;have hi:=Bv.1 hi;obtain⟨R,C,rfl,rfl,r6,c6,hl⟩:=D9 hr;obtain⟨K,rfl⟩:∃j:Nat,k=j:=⟨k.toNat,by omega⟩
 obtain⟨f,rfl⟩:∃j:Nat,f=j:=⟨f.toNat,by omega⟩
 refine⟨8,.Bj (.own 100007 tB) .u64 (Dm (C:Int) l (K:Int) (f:Int) (R-f)),[100007],?_,?_⟩
 ·rw[Bh.Ei.ev];exact AgZ 8 r6 c6 hl (by omega) (R-f) 0 8 (by omega) (by omega)
 ·show Wk _ _ (DV.Bj .BE .u64 (Dm (C:Int) l (K:Int) (f:Int) (wQ ((R:Int)-(f:Int)))));rw[show wQ ((R:Int)-(f:Int))=R-f by omega];exact .drop _ _ _ _ (ze.2 rfl)
theorem Lu{r c i k:Int}{l:Bf}(h:BA r c l=xZ)(h1:0<=i)(h2:i<r)(h3:0<=k)(h4:k<c)(R:Int):FI R c l i k=xZ:=by
 obtain⟨R',C,rfl,rfl,r6,c6,hl⟩:=D9 h;obtain⟨I,rfl⟩:∃j:Nat,i=j:=⟨i.toNat,by omega⟩
 obtain⟨K,rfl⟩:∃j:Nat,k=j:=⟨k.toNat,by omega⟩
 exact Q7 r6 c6 hl (by omega) (by omega)
theorem Bh.JT.Bn:Kq 168 Bh.JT.Bt:=ED Bh.JT.E Tryz.func168 .nil fun i k _=>by
 refine⟨0,Bh.JT.out [.i i,.i k],[],?_,.int⟩;rw[Bh.JT.ev];show _=xQ (DV.int .u64 (Mv i k));unfold Mv;by_cases h:i=k
 ·have:(i==k)=xZ:=by rw[h]; simp
  rw[this,Az h]; rfl
 ·have:(i==k)=x5:=by simpa using h
  rw[this,Ay h]; rfl
theorem Bh.HE.Bn:Kq 232 Bh.HE.Bt:=ED Bh.HE.E Tryz.func232 (kc Bh.get.Bn .nil) fun i k r c l hp=>by have hp:FI r c l k i=xZ:=hp;refine⟨0,Bh.HE.out [.i i,.i k,.i r,.i c,.l l],[],?_,.int⟩;rw[Bh.HE.ev,hp]; rfl
theorem Bh.HF.Bn:Kq 122 Bh.HF.Bt:=ED Bh.HF.E Tryz.func122 (kc Bh.get.Bn .nil) fun i k r c l x y hp=>by obtain⟨h1,h2⟩:=Bi.1 hp;have h2:=Bv.1 h2;refine⟨0,Bh.HF.out [.i i,.i k,.i r,.i c,.l l,.i x,.i y],[],?_,.int⟩;rw[Bh.HF.ev,Bz (x:=x+i) (by omega) (by omega),Bz (x:=y+k) (by omega) (by omega),h1]; rfl
theorem Bh.Gu.Bn:Kq 118 Bh.Gu.Bt:=ED Bh.Gu.E Tryz.func118 (kc Bh.get.Bn .nil) fun i k r c l p q m hp=>by
 obtain⟨h1,h2,h3,h4,h5⟩:=Bv.1 (show LF r c l p q m i k=xZ from hp);refine⟨0,Bh.Gu.out [.i i,.i k,.i r,.i c,.l l,.i p,.i q,.l m],[],?_,.int⟩;show _=xQ (DV.int .u64 (Jf r c l q m i k));rw[Bh.Gu.ev,B9,Bz (x:=i-r) (by omega) (by omega)];unfold Jf;by_cases h:i<r
 ·rw[Az h] at h5;rw[Ac h,Aa,h5,Aa,Az h]
 ·rw[Ay h] at h5;rw[Ag h,Af,h5,Aa,Ay h]
theorem Pg{R C:Nat}{l:Bf}(hl:l.length=R*C){I:Nat}(hi:I<R):(JZ (C:Int) l (I:Int)).length=C:=by
 have hle:(I+1)*C<=R*C:=An C (by omega);have e1:((I:Int)*(C:Int)).toNat=I*C:=by rw[<- Ax,Ad]
 have e2:(((I:Int)+1)*(C:Int)).toNat=(I+1)*C:=by
  have:((I:Int)+1)*(C:Int)=(((I+1)*C:Nat):Int):=by rw[Ax]; rfl
  rw[this,Ad]
 unfold JZ;rw[zP,zM,e1,e2];rw[AM,Nat.one_mul] at hle ⊢;omega
theorem AaY(R:Nat)(C:Int)(l:Bf)(K:Int):(MS (R:Int) C l K).length=R:=by unfold MS;rw[AO,AL,Ad]
theorem Aic{c i:Int}{l:Bf}(h:Bp l=xZ):Bp (JZ c l i)=xZ:=by have h:=Bv.1 h;exact Bv.2 fun x hx=>h x (List.mem_of_mem_take (List.mem_of_mem_drop hx))
theorem Ahl{c i k:Int}{l:Bf}(h:Bp l=xZ):Br (CE c l i k)=xZ:=by
 unfold CE;by_cases hj:(i*c+k).toNat<l.length
 ·exact MF h hj
 ·rw[Al,Bb (by omega)];exact CP (n:=0) (by decide)
theorem AiT{r c k:Int}{l:Bf}(h:Bp l=xZ):Bp (MS r c l k)=xZ:=by
 refine Bv.2 fun x hx=>?_
 obtain⟨j,_,rfl⟩:=List.mem_map.1 hx;exact Ahl h
theorem Bh.JR.Bn:Kq 133 Bh.JR.Bt:=ED Bh.JR.E Tryz.func133 (kc Bh.Ei.Bn (kc Bh.Row.Bn (kc Bs.P8.Bn .nil))) fun i k r c l p q m hp=>by
 obtain⟨h1,h2⟩:=Bi.1 (show Rd r c l p q m i k=xZ from hp);obtain⟨h3,h4⟩:=Bi.1 h1;obtain⟨h5,h6⟩:=Bi.1 h2;obtain⟨hl,hm⟩:=Bi.1 h5;obtain rfl:=Bv.1 h6;obtain⟨hr,hi⟩:=Bi.1 h3;have hi:=Bv.1 hi;obtain⟨R,C,rfl,rfl,r6,c6,ll⟩:=D9 hr;obtain⟨I,rfl⟩:∃j:Nat,i=j:=⟨i.toNat,by omega⟩
 refine⟨0,Bh.JR.out [.i I,.i k,.i R,.i C,.l l,.i C,.i q,.l m],[],?_,.int⟩;have hf:NI (JZ (C:Int) l (I:Int)) (MS (C:Int) q m k)=xZ:=Xg.2 ⟨by rw[Pg ll (by omega),AaY],by rw[Pg ll (by omega)]; omega⟩;rw[Bh.JR.ev,AiS,h3,h4,hf,Aic hl,AiT hm,ZC (by omega)];rfl
def Bh.of.JQ.hint:Nat->Option BN
 | 0=>xQ { Df:=[1,2,6,7,13,14],Cg:=[(8,2,108002,.Bj 43 .u64 [])],Cr:=[6,7] }
 | 2=>xQ { Df:=[1,2,6,7,8,13,14,17,18],Cg:=[(8,2,108002,.Bj 43 .u64 [])],Cr:=[6,7] }
 | _=>xY
def Bh.of.IV.hint:Nat->Option BN
 | 0=>xQ { Df:=[1,2,6,7,13,14],Cg:=[(8,2,108002,.Bj 43 .u64 [])],Cr:=[6,7] }
 | 2=>xQ { Df:=[1,2,6,7,8,13,14,17,18],Cg:=[(8,2,108002,.Bj 43 .u64 [])],Cr:=[6,7] }
 | _=>xY
def Bh.of.IV.E:=D6 (Db [(168,Bh.JT.Bt)]) (fun _=>x5) Bh.of.IV.hint (fun _=>xY)
section
variable(N M0 M:Nat)(a b p8 p14_1 p18:Int)(p2:Bf)(p14:Int)(p2_1:Bf)
def Bh.of.IV.L0:Option DV:=C6 Bh.of.IV.E N f117 (Bw f117) [1,1,0,1,0] [] M ⟨Fz 33 [(1,.int .i64 b),(2,.fn 168 [] []),(6,.ptr 6 0 0),(7,.ptr 7 0 0),(13,.int .i64 a),(14,.int .i64 p14)],[(6,x5,.box [.int .i64 0,.int .i64 0,.nil]),(7,x5,.box [.int .i64 a,.int .i64 b,.Dh 108002]),(108002,x5,.Bj 43 .u64 p2_1)]⟩
def Bh.of.IV.L1:Option DV:=C6 Bh.of.IV.E N f117 (Bw f117) [1,1,0,1,0,0,1,1,0,0,1,1,0] [M0] M ⟨Fz 33 [(1,.int .i64 b),(2,.fn 168 [] []),(6,.ptr 6 0 0),(7,.ptr 7 0 0),(8,.int .i64 p8),(13,.int .i64 a),(14,.int .i64 p14_1),(17,.int .i64 b),(18,.int .i64 p18)],[(6,x5,.box [.int .i64 0,.int .i64 0,.nil]),(7,x5,.box [.int .i64 a,.int .i64 b,.Dh 108002]),(108002,x5,.Bj 43 .u64 p2)]⟩
theorem Bh.of.IV.B8:Bh.of.IV.L0 N (M+1) a b p14 p2_1=cond (BI p14 a) (Bh.of.IV.L1 N M N a b p14 p14 0 p2_1) (xQ (.agg [.int .i64 a,.int .i64 b,.Bj (.own 108002 43) .u64 p2_1])):=by kernel_rfl
theorem Bh.of.IV.CT:Bh.of.IV.L1 N M0 (M+1) a b p8 p14_1 p18 p2=cond (BI p18 b) (bif (decide ((wj p2)+1<=G2)) then Bh.of.IV.L1 N M0 M a b p8 p14_1 (Bg (p18+1)) (p2++[(Mv p8 p18)]) else xY) (Bh.of.IV.L0 N M0 a b (Bg (p14_1+1)) p2) :=Et (EY (CQ (CF _) rfl rfl) rfl)
theorem Bh.of.IV.ev:Cz Bh.of.IV.E N f117 (Bw f117) [.int .i64 a,.int .i64 b,.fn 168 [] []]=
 Bh.of.IV.L0 N N a b 0 []:=by kernel_rfl
end
def Bh.of.D0.hint:Nat->Option BN
 | 0=>xQ { Df:=[1,2,6,7,13,14],Cg:=[(8,2,108002,.Bj 43 .u64 [])],Cr:=[6,7] }
 | 2=>xQ { Df:=[1,2,6,7,8,13,14,17,18],Cg:=[(8,2,108002,.Bj 43 .u64 [])],Cr:=[6,7] }
 | _=>xY
def Bh.of.D0.E:=D6 (Db [(232,Bh.HE.Bt)]) (fun _=>x5) Bh.of.D0.hint (fun _=>xY)
section
variable(N M0 M:Nat)(a b r c:Int)(l:Bf)(p8 p14_1 p18:Int)(p2:Bf)(p14:Int)(p2_1:Bf)
def Bh.of.D0.L0:Option DV:=C6 Bh.of.D0.E N f117 (Bw f117) [1,1,0,1,0] [] M ⟨Fz 33 [(1,.int .i64 b),(2,.fn 232 [] [.CS [.int .i64 r,.int .i64 c,.Bj .arg .u64 l]]),(6,.ptr 6 0 0),(7,.ptr 7 0 0),(13,.int .i64 a),(14,.int .i64 p14)],[(6,x5,.box [.int .i64 0,.int .i64 0,.nil]),(7,x5,.box [.int .i64 a,.int .i64 b,.Dh 108002]),(108002,x5,.Bj 43 .u64 p2_1)]⟩
def Bh.of.D0.L1:Option DV:=C6 Bh.of.D0.E N f117 (Bw f117) [1,1,0,1,0,0,1,1,0,0,1,1,0] [M0] M ⟨Fz 33 [(1,.int .i64 b),(2,.fn 232 [] [.CS [.int .i64 r,.int .i64 c,.Bj .arg .u64 l]]),(6,.ptr 6 0 0),(7,.ptr 7 0 0),(8,.int .i64 p8),(13,.int .i64 a),(14,.int .i64 p14_1),(17,.int .i64 b),(18,.int .i64 p18)],[(6,x5,.box [.int .i64 0,.int .i64 0,.nil]),(7,x5,.box [.int .i64 a,.int .i64 b,.Dh 108002]),(108002,x5,.Bj 43 .u64 p2)]⟩
theorem Bh.of.D0.B8:Bh.of.D0.L0 N (M+1) a b r c l p14 p2_1=cond (BI p14 a) (Bh.of.D0.L1 N M N a b r c l p14 p14 0 p2_1) (xQ (.agg [.int .i64 a,.int .i64 b,.Bj (.own 108002 43) .u64 p2_1])):=by kernel_rfl
theorem Bh.of.D0.CT:Bh.of.D0.L1 N M0 (M+1) a b r c l p8 p14_1 p18 p2=cond (BI p18 b) (bif (FI r c l p18 p8) then cond (decide ((wj p2)+1<=G2)) (Bh.of.D0.L1 N M0 M a b r c l p8 p14_1 (Bg (p18+1)) (p2++[(CE c l p18 p8)])) xY else xY) (Bh.of.D0.L0 N M0 a b r c l (Bg (p14_1+1)) p2) :=Et (EY (CQ (CF _) (CQ (CF _) rfl rfl) rfl) rfl)
theorem Bh.of.D0.ev:Cz Bh.of.D0.E N f117 (Bw f117) [.int .i64 a,.int .i64 b,.fn 232 [] [.CS [.int .i64 r,.int .i64 c,.Bj .arg .u64 l]]]=
 Bh.of.D0.L0 N N a b r c l 0 []:=by kernel_rfl
end
def Bh.of.Part.hint:Nat->Option BN
 | 0=>xQ { Df:=[1,2,6,7,13,14],Cg:=[(8,2,108002,.Bj 43 .u64 [])],Cr:=[6,7] }
 | 2=>xQ { Df:=[1,2,6,7,8,13,14,17,18],Cg:=[(8,2,108002,.Bj 43 .u64 [])],Cr:=[6,7] }
 | _=>xY
def Bh.of.Part.E:=D6 (Db [(122,Bh.HF.Bt)]) (fun _=>x5) Bh.of.Part.hint (fun _=>xY)
section
variable(N M0 M:Nat)(a b r c:Int)(l:Bf)(x y p8 p14_1 p18:Int)(p2:Bf)(p14:Int)(p2_1:Bf)
def Bh.of.Part.L0:Option DV:=C6 Bh.of.Part.E N f117 (Bw f117) [1,1,0,1,0] [] M ⟨Fz 33 [(1,.int .i64 b),(2,.fn 122 [] [.CS [.int .i64 r,.int .i64 c,.Bj .arg .u64 l],.CS [.int .i64 x],.CS [.int .i64 y]]),(6,.ptr 6 0 0),(7,.ptr 7 0 0),(13,.int .i64 a),(14,.int .i64 p14)],[(6,x5,.box [.int .i64 0,.int .i64 0,.nil]),(7,x5,.box [.int .i64 a,.int .i64 b,.Dh 108002]),(108002,x5,.Bj 43 .u64 p2_1)]⟩
def Bh.of.Part.L1:Option DV:=C6 Bh.of.Part.E N f117 (Bw f117) [1,1,0,1,0,0,1,1,0,0,1,1,0] [M0] M ⟨Fz 33 [(1,.int .i64 b),(2,.fn 122 [] [.CS [.int .i64 r,.int .i64 c,.Bj .arg .u64 l],.CS [.int .i64 x],.CS [.int .i64 y]]),(6,.ptr 6 0 0),(7,.ptr 7 0 0),(8,.int .i64 p8),(13,.int .i64 a),(14,.int .i64 p14_1),(17,.int .i64 b),(18,.int .i64 p18)],[(6,x5,.box [.int .i64 0,.int .i64 0,.nil]),(7,x5,.box [.int .i64 a,.int .i64 b,.Dh 108002]),(108002,x5,.Bj 43 .u64 p2)]⟩
theorem Bh.of.Part.B8:Bh.of.Part.L0 N (M+1) a b r c l x y p14 p2_1=cond (BI p14 a) (Bh.of.Part.L1 N M N a b r c l x y p14 p14 0 p2_1) (xQ (.agg [.int .i64 a,.int .i64 b,.Bj (.own 108002 43) .u64 p2_1])):=by kernel_rfl
theorem Bh.of.Part.CT:Bh.of.Part.L1 N M0 (M+1) a b r c l x y p8 p14_1 p18 p2=cond (BI p18 b) (bif (FI r c l (x+p8) (y+p18)&&Tc x y p8 p18) then cond (decide ((wj p2)+1<=G2)) (Bh.of.Part.L1 N M0 M a b r c l x y p8 p14_1 (Bg (p18+1)) (p2++[(CE c l (x+p8) (y+p18))])) xY else xY) (Bh.of.Part.L0 N M0 a b r c l x y (Bg (p14_1+1)) p2) :=Et (EY (CQ (CF _) (CQ (CF _) rfl rfl) rfl) rfl)
theorem Bh.of.Part.ev:Cz Bh.of.Part.E N f117 (Bw f117) [.int .i64 a,.int .i64 b,.fn 122 [] [.CS [.int .i64 r,.int .i64 c,.Bj .arg .u64 l],.CS [.int .i64 x],.CS [.int .i64 y]]]=
 Bh.of.Part.L0 N N a b r c l x y 0 []:=by kernel_rfl
end
def Bh.of.Stack.hint:Nat->Option BN
 | 0=>xQ { Df:=[1,2,6,7,13,14],Cg:=[(8,2,108002,.Bj 43 .u64 [])],Cr:=[6,7] }
 | 2=>xQ { Df:=[1,2,6,7,8,13,14,17,18],Cg:=[(8,2,108002,.Bj 43 .u64 [])],Cr:=[6,7] }
 | _=>xY
def Bh.of.Stack.E:=D6 (Db [(118,Bh.Gu.Bt)]) (fun _=>x5) Bh.of.Stack.hint (fun _=>xY)
section
variable(N M0 M:Nat)(a b r c:Int)(l:Bf)(p q:Int)(m:Bf)(p8 p14_1 p18:Int)(p2:Bf)(p14:Int)(p2_1:Bf)
def Bh.of.Stack.L0:Option DV:=C6 Bh.of.Stack.E N f117 (Bw f117) [1,1,0,1,0] [] M ⟨Fz 33 [(1,.int .i64 b),(2,.fn 118 [] [.CS [.int .i64 r,.int .i64 c,.Bj .arg .u64 l],.CS [.int .i64 p,.int .i64 q,.Bj .arg .u64 m]]),(6,.ptr 6 0 0),(7,.ptr 7 0 0),(13,.int .i64 a),(14,.int .i64 p14)],[(6,x5,.box [.int .i64 0,.int .i64 0,.nil]),(7,x5,.box [.int .i64 a,.int .i64 b,.Dh 108002]),(108002,x5,.Bj 43 .u64 p2_1)]⟩
def Bh.of.Stack.L1:Option DV:=C6 Bh.of.Stack.E N f117 (Bw f117) [1,1,0,1,0,0,1,1,0,0,1,1,0] [M0] M ⟨Fz 33 [(1,.int .i64 b),(2,.fn 118 [] [.CS [.int .i64 r,.int .i64 c,.Bj .arg .u64 l],.CS [.int .i64 p,.int .i64 q,.Bj .arg .u64 m]]),(6,.ptr 6 0 0),(7,.ptr 7 0 0),(8,.int .i64 p8),(13,.int .i64 a),(14,.int .i64 p14_1),(17,.int .i64 b),(18,.int .i64 p18)],[(6,x5,.box [.int .i64 0,.int .i64 0,.nil]),(7,x5,.box [.int .i64 a,.int .i64 b,.Dh 108002]),(108002,x5,.Bj 43 .u64 p2)]⟩
theorem Bh.of.Stack.B8:Bh.of.Stack.L0 N (M+1) a b r c l p q m p14 p2_1=cond (BI p14 a) (Bh.of.Stack.L1 N M N a b r c l p q m p14 p14 0 p2_1) (xQ (.agg [.int .i64 a,.int .i64 b,.Bj (.own 108002 43) .u64 p2_1])):=by kernel_rfl
theorem Bh.of.Stack.CT:Bh.of.Stack.L1 N M0 (M+1) a b r c l p q m p8 p14_1 p18 p2=cond (BI p18 b) (bif (LF r c l p q m p8 p18) then cond (decide ((wj p2)+1<=G2)) (Bh.of.Stack.L1 N M0 M a b r c l p q m p8 p14_1 (Bg (p18+1)) (p2++[(Jf r c l q m p8 p18)])) xY else xY) (Bh.of.Stack.L0 N M0 a b r c l p q m (Bg (p14_1+1)) p2) :=Et (EY (CQ (CF _) (CQ (CF _) rfl rfl) rfl) rfl)
theorem Bh.of.Stack.ev:Cz Bh.of.Stack.E N f117 (Bw f117) [.int .i64 a,.int .i64 b,.fn 118 [] [.CS [.int .i64 r,.int .i64 c,.Bj .arg .u64 l],.CS [.int .i64 p,.int .i64 q,.Bj .arg .u64 m]]]=
 Bh.of.Stack.L0 N N a b r c l p q m 0 []:=by kernel_rfl
end
def Bh.of.Mul.hint:Nat->Option BN
 | 0=>xQ { Df:=[1,2,6,7,13,14],Cg:=[(8,2,108002,.Bj 43 .u64 [])],Cr:=[6,7] }
 | 2=>xQ { Df:=[1,2,6,7,8,13,14,17,18],Cg:=[(8,2,108002,.Bj 43 .u64 [])],Cr:=[6,7] }
 | _=>xY
def Bh.of.Mul.E:=D6 (Db [(133,Bh.JR.Bt)]) (fun _=>x5) Bh.of.Mul.hint (fun _=>xY)
section
variable(N M0 M:Nat)(a b r c:Int)(l:Bf)(p q:Int)(m:Bf)(p8 p14_1 p18:Int)(p2:Bf)(p14:Int)(p2_1:Bf)
def Bh.of.Mul.L0:Option DV:=C6 Bh.of.Mul.E N f117 (Bw f117) [1,1,0,1,0] [] M ⟨Fz 33 [(1,.int .i64 b),(2,.fn 133 [] [.CS [.int .i64 r,.int .i64 c,.Bj .arg .u64 l],.CS [.int .i64 p,.int .i64 q,.Bj .arg .u64 m]]),(6,.ptr 6 0 0),(7,.ptr 7 0 0),(13,.int .i64 a),(14,.int .i64 p14)],[(6,x5,.box [.int .i64 0,.int .i64 0,.nil]),(7,x5,.box [.int .i64 a,.int .i64 b,.Dh 108002]),(108002,x5,.Bj 43 .u64 p2_1)]⟩
def Bh.of.Mul.L1:Option DV:=C6 Bh.of.Mul.E N f117 (Bw f117) [1,1,0,1,0,0,1,1,0,0,1,1,0] [M0] M ⟨Fz 33 [(1,.int .i64 b),(2,.fn 133 [] [.CS [.int .i64 r,.int .i64 c,.Bj .arg .u64 l],.CS [.int .i64 p,.int .i64 q,.Bj .arg .u64 m]]),(6,.ptr 6 0 0),(7,.ptr 7 0 0),(8,.int .i64 p8),(13,.int .i64 a),(14,.int .i64 p14_1),(17,.int .i64 b),(18,.int .i64 p18)],[(6,x5,.box [.int .i64 0,.int .i64 0,.nil]),(7,x5,.box [.int .i64 a,.int .i64 b,.Dh 108002]),(108002,x5,.Bj 43 .u64 p2)]⟩
theorem Bh.of.Mul.B8:Bh.of.Mul.L0 N (M+1) a b r c l p q m p14 p2_1=cond (BI p14 a) (Bh.of.Mul.L1 N M N a b r c l p q m p14 p14 0 p2_1) (xQ (.agg [.int .i64 a,.int .i64 b,.Bj (.own 108002 43) .u64 p2_1])):=by kernel_rfl
theorem Bh.of.Mul.CT:Bh.of.Mul.L1 N M0 (M+1) a b r c l p q m p8 p14_1 p18 p2=cond (BI p18 b) (bif (Rd r c l p q m p8 p18) then cond (decide ((wj p2)+1<=G2)) (Bh.of.Mul.L1 N M0 M a b r c l p q m p8 p14_1 (Bg (p18+1)) (p2++[(Fk (JZ c l p8) (MS p q m p18))])) xY else xY) (Bh.of.Mul.L0 N M0 a b r c l p q m (Bg (p14_1+1)) p2) :=Et (EY (CQ (CF _) (CQ (CF _) rfl rfl) rfl) rfl)
theorem Bh.of.Mul.ev:Cz Bh.of.Mul.E N f117 (Bw f117) [.int .i64 a,.int .i64 b,.fn 133 [] [.CS [.int .i64 r,.int .i64 c,.Bj .arg .u64 l],.CS [.int .i64 p,.int .i64 q,.Bj .arg .u64 m]]]=
 Bh.of.Mul.L0 N N a b r c l p q m 0 []:=by kernel_rfl
end
def Bh.IV.E:=E0 [(117,Bh.of.IV.Bt),(164,Bh.size.Bt)]
theorem Bh.IV.ev(N:Nat)(n:Int):Cz Bh.IV.E N f126 (Bw f126) [.int .i64 n]=cond (!(CJ n)) (xQ (.CR [.agg [.int .i64 0,.int .i64 0,.nil],.int .i64 3])) (bif ((CJ n&&CJ n)) then xQ (.CR [.agg [.int .i64 n,.int .i64 n,.Bj .BE .u64 (BZ (wQ n) (wQ n) (fun j1 j2=>Mv j1 j2))],.int .i64 0]) else xY):=by kernel_rfl
def Bh.D0.E:=E0 [(121,Bh.Check.Bt),(117,Bh.of.D0.Bt)]
theorem Bh.D0.ev(N:Nat)(r c:Int)(l:Bf):Cz Bh.D0.E N f203 (Bw f203) [.agg [.int .i64 r,.int .i64 c,.Bj .arg .u64 l]]=cond ((IL r c l) !=(0:Int)) (xQ (.CR [.agg [.int .i64 0,.int .i64 0,.nil],.int .i64 (IL r c l)])) (bif ((CJ c&&CJ r)&&BA r c l&&decide (c=c/\r=r)) then xQ (.CR [.agg [.int .i64 c,.int .i64 r,.Bj .BE .u64 (BZ (wQ c) (wQ r) (fun j1 j2=>CE c l j2 j1))],.int .i64 0]) else xY):=by kernel_rfl
def Bh.Part.E:=E0 [(121,Bh.Check.Bt),(117,Bh.of.Part.Bt)]
theorem Bh.Part.ev(N:Nat)(r c:Int)(l:Bf)(x y:Int)(a b:Int):Cz Bh.Part.E N f63 (Bw f63) [.agg [.int .i64 r,.int .i64 c,.Bj .arg .u64 l],.int .i64 x,.int .i64 y,.int .i64 a,.int .i64 b]=cond ((IL r c l) !=(0:Int)) (xQ (.CR [.agg [.int .i64 0,.int .i64 0,.nil],.int .i64 (IL r c l)])) (bif ((((((((BI x 0)||(BI y 0))||(BI a 0))||(BI b 0))||(BI r x))||(BI c y))||(BI (Bg (r-x)) a))||(BI (Bg (c-y)) b)) then some (.CR [.agg [.int .i64 0,.int .i64 0,.nil],.int .i64 3]) else bif ((CJ a&&CJ b)&&BA r c l&&K8 r c x y a b) then some (.CR [.agg [.int .i64 a,.int .i64 b,.Bj .BE .u64 (BZ (wQ a) (wQ b) (fun j1 j2=>CE c l (x+j1) (y+j2)))],.int .i64 0]) else xY) :=Et (EY rfl (B5 (U5 (BI x 0)) (B5 (RW (BI x 0)) (B5 (XT (BI x 0)) (B5 (XS (BI x 0) (BI y 0)) (B5 (ZT (BI x 0) (BI y 0)) (B5 (AhM (BI x 0) (BI y 0)) (B5 (AcF (BI x 0) (BI y 0) (BI a 0)) (B5 (AcG (BI x 0) (BI y 0) (BI a 0)) (B5 (AhN (BI x 0) (BI y 0) (BI a 0)) (B5 (AcH (BI x 0) (BI y 0) (BI a 0) (BI b 0)) (B5 (AcH (BI x 0) (BI y 0) (BI a 0) (BI b 0)) (B5 (AlH (BI x 0) (BI y 0) (BI a 0) (BI b 0)) (B5 (AjM (BI x 0) (BI y 0) (BI a 0) (BI b 0)) (B5 (AjN (BI x 0) (BI y 0) (BI a 0) (BI b 0)) (B5 (AlI (BI x 0) (BI y 0) (BI a 0) (BI b 0) (BI r x)) (B5 (AlI (BI x 0) (BI y 0) (BI a 0) (BI b 0) (BI r x)) (B5 (Anv (BI x 0) (BI y 0) (BI a 0) (BI b 0) (BI r x)) (B5 (Anw (BI x 0) (BI y 0) (BI a 0) (BI b 0) (BI r x)) (B5 (Anx (BI x 0) (BI y 0) (BI a 0) (BI b 0) (BI r x)) (B5 (AjO (BI x 0) (BI y 0) (BI a 0) (BI b 0) (BI r x) (BI c y)) (B5 (AjO (BI x 0) (BI y 0) (BI a 0) (BI b 0) (BI r x) (BI c y)) (B5 (Anz (BI x 0) (BI y 0) (BI a 0) (BI b 0) (BI r x) (BI c y)) (B5 (AjO (BI x 0) (BI y 0) (BI a 0) (BI b 0) (BI r x) (BI c y)) (B5 (AlJ (BI x 0) (BI y 0) (BI a 0) (BI b 0) (BI r x) (BI c y)) (B5 (AlJ (BI x 0) (BI y 0) (BI a 0) (BI b 0) (BI r x) (BI c y)) (B5 (An0 (BI x 0) (BI y 0) (BI a 0) (BI b 0) (BI r x) (BI c y)) (B5 (AjP (BI x 0) (BI y 0) (BI a 0) (BI b 0) (BI r x) (BI c y) (BI (Bg (r-x)) a)) (B5 (AjP (BI x 0) (BI y 0) (BI a 0) (BI b 0) (BI r x) (BI c y) (BI (Bg (r-x)) a)) (B5 (An1 (BI x 0) (BI y 0) (BI a 0) (BI b 0) (BI r x) (BI c y) (BI (Bg (r-x)) a)) (B5 (AjP (BI x 0) (BI y 0) (BI a 0) (BI b 0) (BI r x) (BI c y) (BI (Bg (r-x)) a)) (B5 (AlK (BI x 0) (BI y 0) (BI a 0) (BI b 0) (BI r x) (BI c y) (BI (Bg (r-x)) a)) (B5 (AlK (BI x 0) (BI y 0) (BI a 0) (BI b 0) (BI r x) (BI c y) (BI (Bg (r-x)) a)) (B5 (An2 (BI x 0) (BI y 0) (BI a 0) (BI b 0) (BI r x) (BI c y) (BI (Bg (r-x)) a)) (CQ (An3 _ _ _ _ _ _ _ _) rfl rfl)))))))))))))))))))))))))))))))))))
def Bh.Stack.E:=E0 [(117,Bh.of.Stack.Bt),(116,Bh.two.Bt)]
theorem Bh.Stack.ev(N:Nat)(r c:Int)(l:Bf)(p q:Int)(m:Bf):Cz Bh.Stack.E N f61 (Bw f61) [.agg [.int .i64 r,.int .i64 c,.Bj .arg .u64 l],.agg [.int .i64 p,.int .i64 q,.Bj .arg .u64 m]]=cond ((SQ r c l p q m) !=(0:Int)) (xQ (.CR [.agg [.int .i64 0,.int .i64 0,.nil],.int .i64 (SQ r c l p q m)])) (bif ((c !=q)||(BI 6 (Bg (r+p)))) then xQ (.CR [.agg [.int .i64 0,.int .i64 0,.nil],.int .i64 3]) else bif ((CJ (Bg (r+p))&&CJ c)&&(BA r c l&&BA p q m)&&decide ((Bg (r+p))=r+p/\c=c/\q=c)) then xQ (.CR [.agg [.int .i64 (Bg (r+p)),.int .i64 c,.Bj .BE .u64 (BZ (wQ (Bg (r+p))) (wQ c) (fun j1 j2=>Jf r c l q m j1 j2))],.int .i64 0]) else xY) :=Et (EY rfl (B5 (U5 (c !=q)) (B5 (RW (c !=q)) (B5 (U5 (c !=q)) (B5 (RW (c !=q)) (B5 (tt8 (c !=q)) (B5 (RW (c !=q)) (B5 (XT (c !=q)) (CQ (tt5 _ _) rfl rfl)))))))))
def Bh.Mul.E:=E0 [(117,Bh.of.Mul.Bt),(116,Bh.two.Bt)]
theorem Bh.Mul.ev(N:Nat)(r c:Int)(l:Bf)(p q:Int)(m:Bf):Cz Bh.Mul.E N f65 (Bw f65) [.agg [.int .i64 r,.int .i64 c,.Bj .arg .u64 l],.agg [.int .i64 p,.int .i64 q,.Bj .arg .u64 m]]=cond ((SQ r c l p q m) !=(0:Int)) (xQ (.CR [.agg [.int .i64 0,.int .i64 0,.nil],.int .i64 (SQ r c l p q m)])) (bif (c !=p) then xQ (.CR [.agg [.int .i64 0,.int .i64 0,.nil],.int .i64 3]) else bif ((CJ r&&CJ q)&&((BA r c l&&BA p q m)&&(Bp l&&Bp m))&&decide (r=r/\q=q/\c=p)) then xQ (.CR [.agg [.int .i64 r,.int .i64 q,.Bj .BE .u64 (BZ (wQ r) (wQ q) (fun j1 j2=>Fk (JZ c l j1) (MS p q m j2)))],.int .i64 0]) else xY):=by kernel_rfl
theorem of.IV.inner(N:Nat)  {A B:Nat} (hA:A<=6) (hB:B<=6) {F:Nat->Nat->Int} (hF:∀i j:Nat,F i j=Mv (i:Int) (j:Int)) {i:Nat} (hi:i<A):∀(k j M0 M:Nat),j+k=B->k<M ->
 Bh.of.IV.L1 N M0 M (A:Int) (B:Int) (i:Int) (i:Int) (j:Int) (BZ i B F++(zf j).map (F i))=Bh.of.IV.L0 N M0 (A:Int) (B:Int) ((i+1:Nat):Int) (BZ (i+1) B F):=by
 intro k
 induction k with
 | zero =>
   intro j M0 M hj hM;obtain⟨M,rfl⟩:∃G,M=G+1:=⟨M-1,by omega⟩
   obtain rfl:j=B:=by omega
   rw[Bh.of.IV.CT,B9,Ag (by omega),Af,Bz (by omega) (by omega),<- LU];rfl
 | succ k ih =>
   intro j M0 M hj hM;obtain⟨M,rfl⟩:∃G,M=G+1:=⟨M-1,by omega⟩
   have d:decide ((BZ i B F++(zf j).map (F i)).length+1<=G2)=xZ:=by refine Ac ?_;have:=AE (show i<=6 by omega) hB;rw[A8,BW,AO,AL]; unfold G2; omega
   rw[Bh.of.IV.CT,B9,Ac (by omega),Aa,d,Aa,Bz (by omega) (by omega),<- hF i j];have:=ih (j+1) M0 M (by omega) (by omega);rw[K5,<- yQ] at this;exact this
theorem of.IV.outer(N:Nat)  {A B:Nat} (hA:A<=6) (hB:B<=6) (hN:6<N) {F:Nat->Nat->Int} (hF:∀i j:Nat,F i j=Mv (i:Int) (j:Int)):∀(k i M:Nat),i+k=A->k<M ->
 Bh.of.IV.L0 N M (A:Int) (B:Int) (i:Int) (BZ i B F)=xQ (.agg [.int .i64 (A:Int),.int .i64 (B:Int),.Bj (.own 108002 tB) .u64 (BZ A B F)]):=by
 intro k
 induction k with
 | zero =>
   intro i M hi hM;obtain⟨M,rfl⟩:∃G,M=G+1:=⟨M-1,by omega⟩
   obtain rfl:i=A:=by omega
   rw[Bh.of.IV.B8,B9,Ag (by omega),Af]
 | succ k ih =>
   intro i M hi hM;obtain⟨M,rfl⟩:∃G,M=G+1:=⟨M-1,by omega⟩
   have n:=of.IV.inner N hA hB hF (show i<A by omega) B 0 M N (by omega) (by omega);rw[xE,yZ,yA] at n;rw[Bh.of.IV.B8,B9,Ac (by omega),Aa];exact n.trans (ih (i+1) M (by omega) (by omega))
theorem Bh.of.IV.Bn:Kq 117 Bh.of.IV.Bt:=ED Bh.of.IV.E Tryz.func117 (kc Bh.JT.Bn .nil) fun a b hp=>by have h1:(CJ a&&CJ b)=xZ:=hp;obtain⟨ha,hb⟩:=Bi.1 h1;obtain⟨A,rfl,hA⟩:=GN ha;obtain⟨B,rfl,hB⟩:=GN hb;refine⟨8,.agg [.int .i64 (A:Int),.int .i64 (B:Int),.Bj (.own 108002 tB) .u64 (BZ A B fun(i j:Nat)=>Mv (i:Int) (j:Int))],[108002],?_,Wk.GQ (.cons .int (.cons .int (.cons (.drop _ _ _ _ (ze.2 rfl)) .nil)))⟩;rw[Bh.of.IV.ev];have n:=of.IV.outer 8 hA hB (by omega) (F:=fun(i j:Nat)=>Mv (i:Int) (j:Int)) (fun _ _=>rfl) A 0 8 (by omega) (by omega);rw[LS] at n;exact n
theorem of.D0.inner(N:Nat)(r c:Int)(l:Bf){A B:Nat}(hA:A<=6)(hB:B<=6){F:Nat->Nat->Int}(hF:∀i j:Nat,F i j=CE c l (j:Int) (i:Int)){i:Nat}(hi:i<A)(hp:∀j:Nat,j<B->FI r c l (j:Int) (i:Int)=xZ):∀(k j M0 M:Nat),j+k=B->k<M ->
 Bh.of.D0.L1 N M0 M (A:Int) (B:Int) r c l (i:Int) (i:Int) (j:Int) (BZ i B F++(zf j).map (F i))=Bh.of.D0.L0 N M0 (A:Int) (B:Int) r c l ((i+1:Nat):Int) (BZ (i+1) B F):=by
 intro k
 induction k with
 | zero =>
   intro j M0 M hj hM;obtain⟨M,rfl⟩:∃G,M=G+1:=⟨M-1,by omega⟩
   obtain rfl:j=B:=by omega
   rw[Bh.of.D0.CT,B9,Ag (by omega),Af,Bz (by omega) (by omega),<- LU];rfl
 | succ k ih =>
   intro j M0 M hj hM;obtain⟨M,rfl⟩:∃G,M=G+1:=⟨M-1,by omega⟩
   have d:decide ((BZ i B F++(zf j).map (F i)).length+1<=G2)=xZ:=by refine Ac ?_;have:=AE (show i<=6 by omega) hB;rw[A8,BW,AO,AL]; unfold G2; omega
   rw[Bh.of.D0.CT,B9,Ac (by omega),Aa,hp j (by omega),Aa,d,Aa,Bz (by omega) (by omega),<- hF i j];have:=ih (j+1) M0 M (by omega) (by omega);rw[K5,<- yQ] at this;exact this
theorem of.D0.outer(N:Nat)(r c:Int)(l:Bf){A B:Nat}(hA:A<=6)(hB:B<=6)(hN:6<N){F:Nat->Nat->Int}(hF:∀i j:Nat,F i j=CE c l (j:Int) (i:Int))(hp:∀i j:Nat,i<A->j<B->FI r c l (j:Int) (i:Int)=xZ):∀(k i M:Nat),i+k=A->k<M ->
 Bh.of.D0.L0 N M (A:Int) (B:Int) r c l (i:Int) (BZ i B F)=xQ (.agg [.int .i64 (A:Int),.int .i64 (B:Int),.Bj (.own 108002 tB) .u64 (BZ A B F)]):=by
 intro k
 induction k with
 | zero =>
   intro i M hi hM;obtain⟨M,rfl⟩:∃G,M=G+1:=⟨M-1,by omega⟩
   obtain rfl:i=A:=by omega
   rw[Bh.of.D0.B8,B9,Ag (by omega),Af]
 | succ k ih =>
   intro i M hi hM;obtain⟨M,rfl⟩:∃G,M=G+1:=⟨M-1,by omega⟩
   have n:=of.D0.inner N r c l hA hB hF (show i<A by omega) (fun j hj=>hp i j (by omega) hj) B 0 M N (by omega) (by omega);rw[xE,yZ,yA] at n;rw[Bh.of.D0.B8,B9,Ac (by omega),Aa];exact n.trans (ih (i+1) M (by omega) (by omega))
theorem Bh.of.D0.Bn:Kq 117 Bh.of.D0.Bt:=ED Bh.of.D0.E Tryz.func117 (kc Bh.HE.Bn .nil) fun a b r c l hp=>by
 obtain⟨h12,hy⟩:=Bi.1 (show(((CJ a&&CJ b)&&BA r c l)&&decide (a=c/\b=r))=xZ from hp);obtain⟨h1,hx⟩:=Bi.1 h12;have h2:=Bi.2 ⟨hx,hy⟩;obtain⟨ha,hb⟩:=Bi.1 h1;obtain⟨A,rfl,hA⟩:=GN ha;obtain⟨B,rfl,hB⟩:=GN hb;obtain⟨hr,he⟩:=Bi.1 h2;obtain⟨e1,e2⟩:=A6 he;have hp:∀i j:Nat,i<A->j<B->FI r c l (j:Int) (i:Int)=xZ:=fun i j hi hj=>Lu hr (by omega) (by omega) (by omega) (by omega) r
 refine⟨8,.agg [.int .i64 (A:Int),.int .i64 (B:Int),.Bj (.own 108002 tB) .u64 (BZ A B fun(i j:Nat)=>CE c l (j:Int) (i:Int))],[108002],?_,Wk.GQ (.cons .int (.cons .int (.cons (.drop _ _ _ _ (ze.2 rfl)) .nil)))⟩;rw[Bh.of.D0.ev];have n:=of.D0.outer 8 r c l hA hB (by omega) (F:=fun(i j:Nat)=>CE c l (j:Int) (i:Int)) (fun _ _=>rfl) hp A 0 8 (by omega) (by omega);rw[LS] at n;exact n
theorem of.Part.inner(N:Nat)(r c:Int)(l:Bf)(x y:Int){A B:Nat}(hA:A<=6)(hB:B<=6){F:Nat->Nat->Int}(hF:∀i j:Nat,F i j=CE c l (x+(i:Int)) (y+(j:Int))){i:Nat}(hi:i<A)(hp:∀j:Nat,j<B->(FI r c l (x+(i:Int)) (y+(j:Int))&&Tc x y (i:Int) (j:Int))=xZ):∀(k j M0 M:Nat),j+k=B->k<M ->
 Bh.of.Part.L1 N M0 M (A:Int) (B:Int) r c l x y (i:Int) (i:Int) (j:Int) (BZ i B F++(zf j).map (F i))=Bh.of.Part.L0 N M0 (A:Int) (B:Int) r c l x y ((i+1:Nat):Int) (BZ (i+1) B F):=by
 intro k
 induction k with
 | zero =>
   intro j M0 M hj hM;obtain⟨M,rfl⟩:∃G,M=G+1:=⟨M-1,by omega⟩
   obtain rfl:j=B:=by omega
   rw[Bh.of.Part.CT,B9,Ag (by omega),Af,Bz (by omega) (by omega),<- LU];rfl
 | succ k ih =>
   intro j M0 M hj hM;obtain⟨M,rfl⟩:∃G,M=G+1:=⟨M-1,by omega⟩
   have d:decide ((BZ i B F++(zf j).map (F i)).length+1<=G2)=xZ:=by refine Ac ?_;have:=AE (show i<=6 by omega) hB;rw[A8,BW,AO,AL]; unfold G2; omega
   rw[Bh.of.Part.CT,B9,Ac (by omega),Aa,hp j (by omega),Aa,d,Aa,Bz (by omega) (by omega),<- hF i j];have:=ih (j+1) M0 M (by omega) (by omega);rw[K5,<- yQ] at this;exact this
theorem of.Part.outer(N:Nat)(r c:Int)(l:Bf)(x y:Int){A B:Nat}(hA:A<=6)(hB:B<=6)(hN:6<N){F:Nat->Nat->Int}(hF:∀i j:Nat,F i j=CE c l (x+(i:Int)) (y+(j:Int)))(hp:∀i j:Nat,i<A->j<B->(FI r c l (x+(i:Int)) (y+(j:Int))&&Tc x y (i:Int) (j:Int))=xZ):∀(k i M:Nat),i+k=A->k<M ->
 Bh.of.Part.L0 N M (A:Int) (B:Int) r c l x y (i:Int) (BZ i B F)=xQ (.agg [.int .i64 (A:Int),.int .i64 (B:Int),.Bj (.own 108002 tB) .u64 (BZ A B F)]):=by
 intro k
 induction k with
 | zero =>
   intro i M hi hM;obtain⟨M,rfl⟩:∃G,M=G+1:=⟨M-1,by omega⟩
   obtain rfl:i=A:=by omega
   rw[Bh.of.Part.B8,B9,Ag (by omega),Af]
 | succ k ih =>
   intro i M hi hM;obtain⟨M,rfl⟩:∃G,M=G+1:=⟨M-1,by omega⟩
   have n:=of.Part.inner N r c l x y hA hB hF (show i<A by omega) (fun j hj=>hp i j (by omega) hj) B 0 M N (by omega) (by omega);rw[xE,yZ,yA] at n;rw[Bh.of.Part.B8,B9,Ac (by omega),Aa];exact n.trans (ih (i+1) M (by omega) (by omega))
theorem Bh.of.Part.Bn:Kq 117 Bh.of.Part.Bt:=ED Bh.of.Part.E Tryz.func117 (kc Bh.HF.Bn .nil) fun a b r c l x y hp=>by
 obtain⟨h12,hy⟩:=Bi.1 (show(((CJ a&&CJ b)&&BA r c l)&&K8 r c x y a b)=xZ from hp);obtain⟨h1,hx⟩:=Bi.1 h12;have h2:=Bi.2 ⟨hx,hy⟩;obtain⟨ha,hb⟩:=Bi.1 h1;obtain⟨A,rfl,hA⟩:=GN ha;obtain⟨B,rfl,hB⟩:=GN hb;obtain⟨hr,he⟩:=Bi.1 h2;have he:=A6 he;have hs:=GU.1 hr
 have hp:∀i j:Nat,i<A->j<B->(FI r c l (x+(i:Int)) (y+(j:Int))&&Tc x y (i:Int) (j:Int))=xZ:=fun i j hi hj =>
  Bi.2 ⟨Lu hr (by omega) (by omega) (by omega) (by omega) r,Bv.2 (by omega)⟩
 refine⟨8,.agg [.int .i64 (A:Int),.int .i64 (B:Int),.Bj (.own 108002 tB) .u64 (BZ A B fun(i j:Nat)=>CE c l (x+(i:Int)) (y+(j:Int)))],[108002],?_,Wk.GQ (.cons .int (.cons .int (.cons (.drop _ _ _ _ (ze.2 rfl)) .nil)))⟩;rw[Bh.of.Part.ev];have n:=of.Part.outer 8 r c l x y hA hB (by omega) (F:=fun(i j:Nat)=>CE c l (x+(i:Int)) (y+(j:Int))) (fun _ _=>rfl) hp A 0 8 (by omega) (by omega);rw[LS] at n;exact n
theorem of.Stack.inner(N:Nat)(r c:Int)(l:Bf)(p q:Int)(m:Bf){A B:Nat}(hA:A<=6)(hB:B<=6){F:Nat->Nat->Int}(hF:∀i j:Nat,F i j=Jf r c l q m (i:Int) (j:Int)){i:Nat}(hi:i<A)(hp:∀j:Nat,j<B->LF r c l p q m (i:Int) (j:Int)=xZ):∀(k j M0 M:Nat),j+k=B->k<M ->
 Bh.of.Stack.L1 N M0 M (A:Int) (B:Int) r c l p q m (i:Int) (i:Int) (j:Int) (BZ i B F++(zf j).map (F i))=Bh.of.Stack.L0 N M0 (A:Int) (B:Int) r c l p q m ((i+1:Nat):Int) (BZ (i+1) B F):=by
 intro k
 induction k with
 | zero =>
   intro j M0 M hj hM;obtain⟨M,rfl⟩:∃G,M=G+1:=⟨M-1,by omega⟩
   obtain rfl:j=B:=by omega
   rw[Bh.of.Stack.CT,B9,Ag (by omega),Af,Bz (by omega) (by omega),<- LU];rfl
 | succ k ih =>
   intro j M0 M hj hM;obtain⟨M,rfl⟩:∃G,M=G+1:=⟨M-1,by omega⟩
   have d:decide ((BZ i B F++(zf j).map (F i)).length+1<=G2)=xZ:=by refine Ac ?_;have:=AE (show i<=6 by omega) hB;rw[A8,BW,AO,AL]; unfold G2; omega
   rw[Bh.of.Stack.CT,B9,Ac (by omega),Aa,hp j (by omega),Aa,d,Aa,Bz (by omega) (by omega),<- hF i j];have:=ih (j+1) M0 M (by omega) (by omega);rw[K5,<- yQ] at this;exact this
theorem of.Stack.outer(N:Nat)(r c:Int)(l:Bf)(p q:Int)(m:Bf){A B:Nat}(hA:A<=6)(hB:B<=6)(hN:6<N){F:Nat->Nat->Int}(hF:∀i j:Nat,F i j=Jf r c l q m (i:Int) (j:Int))(hp:∀i j:Nat,i<A->j<B->LF r c l p q m (i:Int) (j:Int)=xZ):∀(k i M:Nat),i+k=A->k<M ->
 Bh.of.Stack.L0 N M (A:Int) (B:Int) r c l p q m (i:Int) (BZ i B F)=xQ (.agg [.int .i64 (A:Int),.int .i64 (B:Int),.Bj (.own 108002 tB) .u64 (BZ A B F)]):=by
 intro k
 induction k with
 | zero =>
   intro i M hi hM;obtain⟨M,rfl⟩:∃G,M=G+1:=⟨M-1,by omega⟩
   obtain rfl:i=A:=by omega
   rw[Bh.of.Stack.B8,B9,Ag (by omega),Af]
 | succ k ih =>
   intro i M hi hM;obtain⟨M,rfl⟩:∃G,M=G+1:=⟨M-1,by omega⟩
   have n:=of.Stack.inner N r c l p q m hA hB hF (show i<A by omega) (fun j hj=>hp i j (by omega) hj) B 0 M N (by omega) (by omega);rw[xE,yZ,yA] at n;rw[Bh.of.Stack.B8,B9,Ac (by omega),Aa];exact n.trans (ih (i+1) M (by omega) (by omega))
theorem Bh.of.Stack.Bn:Kq 117 Bh.of.Stack.Bt:=ED Bh.of.Stack.E Tryz.func117 (kc Bh.Gu.Bn .nil) fun a b r c l p q m hp=>by
 obtain⟨h12,hy⟩:=Bi.1 (show(((CJ a&&CJ b)&&(BA r c l&&BA p q m))&&decide (a=r+p/\b=c/\q=c))=xZ from hp);obtain⟨h1,hx⟩:=Bi.1 h12;have h2:=Bi.2 ⟨hx,hy⟩;obtain⟨ha,hb⟩:=Bi.1 h1;obtain⟨A,rfl,hA⟩:=GN ha;obtain⟨B,rfl,hB⟩:=GN hb;obtain⟨h3,he⟩:=Bi.1 h2;obtain⟨hr,hm⟩:=Bi.1 h3;obtain⟨e1,e2,e3⟩:=A6 he;have hs:=GU.1 hr
 have hp:∀i j:Nat,i<A->j<B->LF r c l p q m (i:Int) (j:Int)=xZ:=fun i j hi hj=>by
  refine Bv.2 ⟨by omega,by omega,by omega,by omega,?_⟩;by_cases h:(i:Int)<r
  ·rw[Az h]; exact Lu hr (by omega) (by omega) (by omega) (by omega) r
  ·rw[Ay h]; exact Lu hm (by omega) (by omega) (by omega) (by omega) p
 refine⟨8,.agg [.int .i64 (A:Int),.int .i64 (B:Int),.Bj (.own 108002 tB) .u64 (BZ A B fun(i j:Nat)=>Jf r c l q m (i:Int) (j:Int))],[108002],?_,Wk.GQ (.cons .int (.cons .int (.cons (.drop _ _ _ _ (ze.2 rfl)) .nil)))⟩;rw[Bh.of.Stack.ev];have n:=of.Stack.outer 8 r c l p q m hA hB (by omega) (F:=fun(i j:Nat)=>Jf r c l q m (i:Int) (j:Int)) (fun _ _=>rfl) hp A 0 8 (by omega) (by omega);rw[LS] at n;exact n
theorem of.Mul.inner(N:Nat)(r c:Int)(l:Bf)(p q:Int)(m:Bf){A B:Nat}(hA:A<=6)(hB:B<=6){F:Nat->Nat->Int}(hF:∀i j:Nat,F i j=Fk (JZ c l (i:Int)) (MS p q m (j:Int))){i:Nat}(hi:i<A)(hp:∀j:Nat,j<B->Rd r c l p q m (i:Int) (j:Int)=xZ):∀(k j M0 M:Nat),j+k=B->k<M ->
 Bh.of.Mul.L1 N M0 M (A:Int) (B:Int) r c l p q m (i:Int) (i:Int) (j:Int) (BZ i B F++(zf j).map (F i))=Bh.of.Mul.L0 N M0 (A:Int) (B:Int) r c l p q m ((i+1:Nat):Int) (BZ (i+1) B F):=by
 intro k
 induction k with
 | zero =>
   intro j M0 M hj hM;obtain⟨M,rfl⟩:∃G,M=G+1:=⟨M-1,by omega⟩
   obtain rfl:j=B:=by omega
   rw[Bh.of.Mul.CT,B9,Ag (by omega),Af,Bz (by omega) (by omega),<- LU];rfl
 | succ k ih =>
   intro j M0 M hj hM;obtain⟨M,rfl⟩:∃G,M=G+1:=⟨M-1,by omega⟩
   have d:decide ((BZ i B F++(zf j).map (F i)).length+1<=G2)=xZ:=by refine Ac ?_;have:=AE (show i<=6 by omega) hB;rw[A8,BW,AO,AL]; unfold G2; omega
   rw[Bh.of.Mul.CT,B9,Ac (by omega),Aa,hp j (by omega),Aa,d,Aa,Bz (by omega) (by omega),<- hF i j];have:=ih (j+1) M0 M (by omega) (by omega);rw[K5,<- yQ] at this;exact this
theorem of.Mul.outer(N:Nat)(r c:Int)(l:Bf)(p q:Int)(m:Bf){A B:Nat}(hA:A<=6)(hB:B<=6)(hN:6<N){F:Nat->Nat->Int}(hF:∀i j:Nat,F i j=Fk (JZ c l (i:Int)) (MS p q m (j:Int)))(hp:∀i j:Nat,i<A->j<B->Rd r c l p q m (i:Int) (j:Int)=xZ):∀(k i M:Nat),i+k=A->k<M ->
 Bh.of.Mul.L0 N M (A:Int) (B:Int) r c l p q m (i:Int) (BZ i B F)=xQ (.agg [.int .i64 (A:Int),.int .i64 (B:Int),.Bj (.own 108002 tB) .u64 (BZ A B F)]):=by
 intro k
 induction k with
 | zero =>
   intro i M hi hM;obtain⟨M,rfl⟩:∃G,M=G+1:=⟨M-1,by omega⟩
   obtain rfl:i=A:=by omega
   rw[Bh.of.Mul.B8,B9,Ag (by omega),Af]
 | succ k ih =>
   intro i M hi hM;obtain⟨M,rfl⟩:∃G,M=G+1:=⟨M-1,by omega⟩
   have n:=of.Mul.inner N r c l p q m hA hB hF (show i<A by omega) (fun j hj=>hp i j (by omega) hj) B 0 M N (by omega) (by omega);rw[xE,yZ,yA] at n;rw[Bh.of.Mul.B8,B9,Ac (by omega),Aa];exact n.trans (ih (i+1) M (by omega) (by omega))
theorem Bh.of.Mul.Bn:Kq 117 Bh.of.Mul.Bt:=ED Bh.of.Mul.E Tryz.func117 (kc Bh.JR.Bn .nil) fun a b r c l p q m hp=>by
 obtain⟨h12,hy⟩:=Bi.1 (show(((CJ a&&CJ b)&&((BA r c l&&BA p q m)&&(Bp l&&Bp m)))&&decide (a=r/\b=q/\c=p))=xZ from hp);obtain⟨h1,hx⟩:=Bi.1 h12;have h2:=Bi.2 ⟨hx,hy⟩;obtain⟨ha,hb⟩:=Bi.1 h1;obtain⟨A,rfl,hA⟩:=GN ha;obtain⟨B,rfl,hB⟩:=GN hb;obtain⟨h3,he⟩:=Bi.1 h2;obtain⟨h4,h5⟩:=Bi.1 h3;obtain⟨hr,hm⟩:=Bi.1 h4;obtain⟨e1,e2,e3⟩:=A6 he
 have hp:∀i j:Nat,i<A->j<B->Rd r c l p q m (i:Int) (j:Int)=xZ:=fun i j hi hj =>
  Bi.2 ⟨Bi.2 ⟨Bi.2 ⟨hr,Bv.2 (by omega)⟩,Bi.2 ⟨hm,Bv.2 (by omega)⟩⟩,Bi.2 ⟨h5,Bv.2 e3⟩⟩
 refine⟨8,.agg [.int .i64 (A:Int),.int .i64 (B:Int),.Bj (.own 108002 tB) .u64 (BZ A B fun(i j:Nat)=>Fk (JZ c l (i:Int)) (MS p q m (j:Int)))],[108002],?_,Wk.GQ (.cons .int (.cons .int (.cons (.drop _ _ _ _ (ze.2 rfl)) .nil)))⟩;rw[Bh.of.Mul.ev];have n:=of.Mul.outer 8 r c l p q m hA hB (by omega) (F:=fun(i j:Nat)=>Fk (JZ c l (i:Int)) (MS p q m (j:Int))) (fun _ _=>rfl) hp A 0 8 (by omega) (by omega);rw[LS] at n;exact n
def Yy(x:MX):DV:=.CR [.agg [.int .i64 x.1,.int .i64 x.2.1,.Bj .BE .u64 x.2.2.1],.int .i64 x.2.2.2]
def AnL(e:Int):DV:=.CR [.agg [.int .i64 0,.int .i64 0,.nil],.int .i64 e]
theorem SO{drops:List Nat}{x:MX}:Wk drops (Yy x) (Yy x) :=Wk.Gr (.cons (Wk.GQ (.cons .int (.cons .int (.cons .Jq .nil)))) (.cons .int .nil))
theorem R4{drops:List Nat}{e:Int}:Wk drops (AnL e) (Yy (JJ e)) :=Wk.Gr (.cons (Wk.GQ (.cons .int (.cons .int (.cons (.nil _ _) .nil)))) (.cons .int .nil))
theorem Bh.IV.Bn:Kq 126 Bh.IV.Bt:=ED Bh.IV.E Tryz.func126 (kc Bh.of.IV.Bn (kc Bh.size.Bn .nil)) fun n _=>by
 show ∃N dv drops,_=xQ dv/\Wk drops dv (Yy (KR n));unfold KR;by_cases h:CJ n=xZ
 ·rw[Az h];exact⟨0,_,[],by rw[Bh.IV.ev,h]; rfl,SO⟩
 ·have e:CJ n=x5:=by simpa using h
  rw[Ay h];exact⟨0,_,[],by rw[Bh.IV.ev,e]; rfl,R4⟩
theorem Lc{r c:Int}{l:Bf}(h:BA r c l=xZ):CJ r=xZ/\CJ c=xZ:=by obtain⟨h1,h2,_⟩:=GU.1 h;exact⟨Hk.2 h1,Hk.2 h2⟩
theorem Bh.D0.Bn:Kq 203 Bh.D0.Bt:=ED Bh.D0.E Tryz.func203 (kc Bh.Check.Bn (kc Bh.of.D0.Bn .nil)) fun r c l _=>by
 show ∃N dv drops,_=xQ dv/\Wk drops dv (Yy (E3 r c l));unfold E3;by_cases h:BA r c l=xZ
 ·obtain⟨h1,h2⟩:=Lc h;rw[Az h];exact⟨0,_,[],by rw[Bh.D0.ev,P0,h,h1,h2,Ac ⟨rfl,rfl⟩]; rfl,SO⟩
 ·have e:BA r c l=x5:=by simpa using h
  have ec:IL r c l=1:=by unfold IL; rw[e]; rfl
  rw[Ay h];exact⟨0,_,[],by rw[Bh.D0.ev,P0,e,ec]; rfl,R4⟩
theorem Vx{r c x y a b:Int}(hr:0<=r/\r<=6)(hc:0<=c/\c<=6):
 ((((((((BI x (0:Int))||(BI y (0:Int)))||(BI a (0:Int)))||(BI b (0:Int)))||(BI r x))||(BI c y))||(BI (Bg (r-x)) a))||(BI (Bg (c-y)) b))=!(K8 r c x y a b):=by
 unfold K8;simp only[B9];by_cases h:0<=x/\0<=y/\x<=r/\y<=c
 ·rw[Bz (x:=r-x) (by omega) (by omega),Bz (x:=c-y) (by omega) (by omega),Ar];simp only[zK,Ai,Bool.not_eq_true',Av];omega
 ·have e:decide (0<=x/\0<=y/\0<=a/\0<=b/\x<=r/\y<=c/\a<=r-x/\b<=c-y)=x5:=Ag (by omega);rw[e,Ar];simp only[zK,Ai,Bc,iff_true];omega
theorem Aas{r c x y a b:Int}{l:Bf}(h:BA r c l=xZ)(hp:K8 r c x y a b=xZ):CJ a=xZ/\CJ b=xZ:=by obtain⟨h1,h2,_⟩:=GU.1 h;have:=A6 hp;exact⟨Hk.2 (by omega),Hk.2 (by omega)⟩
theorem Bh.Part.Bn:Kq 63 Bh.Part.Bt:=ED Bh.Part.E Tryz.func63 (kc Bh.Check.Bn (kc Bh.of.Part.Bn .nil)) fun r c l x y a b _=>by
 show ∃N dv drops,_=xQ dv/\Wk drops dv (Yy (Fy r c l x y a b));unfold Fy;by_cases h:BA r c l=xZ
 ·obtain⟨h1,h2,_⟩:=GU.1 h;by_cases hp:K8 r c x y a b=xZ
  ·obtain⟨s1,s2⟩:=Aas h hp;rw[Az h,Az hp];exact⟨0,_,[],by rw[Bh.Part.ev,P0,Vx h1 h2,h,hp,s1,s2]; rfl,SO⟩
  ·have e:K8 r c x y a b=x5:=by simpa using hp
   rw[Az h,Ay hp];exact⟨0,_,[],by rw[Bh.Part.ev,P0,Vx h1 h2,h,e]; rfl,R4⟩
 ·have e:BA r c l=x5:=by simpa using h
  have ec:IL r c l=1:=by unfold IL; rw[e]; rfl
  rw[Ay h];exact⟨0,_,[],by rw[Bh.Part.ev,P0,e,ec]; rfl,R4⟩
theorem Nc(r c:Int)(l:Bf)(p q:Int)(m:Bf):((SQ r c l p q m) !=(0:Int))=!(BA r c l&&BA p q m):=by unfold SQ;cases BA r c l&&BA p q m<;>rfl
theorem AeF{r c:Int}{l:Bf}{p q:Int}{m:Bf}(h:(BA r c l&&BA p q m)=x5):SQ r c l p q m=1:=by unfold SQ; rw[h]; rfl
theorem Bh.Mul.Bn:Kq 65 Bh.Mul.Bt:=ED Bh.Mul.E Tryz.func65 (kc Bh.of.Mul.Bn (kc Bh.two.Bn .nil)) fun r c l p q m hp=>by
 show ∃N dv drops,_=xQ dv/\Wk drops dv (Yy (Pq r c l p q m));unfold Pq;have hp:(Bp l&&Bp m)=xZ:=hp;by_cases h:(BA r c l&&BA p q m)=xZ
 ·obtain⟨h1,h2⟩:=Bi.1 h;by_cases hc:c=p
  ·have e:(c !=p)=x5:=by rw[hc]; simp
   rw[Az h,Az hc];exact⟨0,_,[],by rw[Bh.Mul.ev,Nc,h,e,(Lc h1).1,(Lc h2).2,hp,Ac ⟨rfl,rfl,hc⟩]; rfl,SO⟩
  ·have e:(c !=p)=xZ:=by simpa using hc
   rw[Az h,Ay hc];exact⟨0,_,[],by rw[Bh.Mul.ev,Nc,h,e]; rfl,R4⟩
 ·have e:(BA r c l&&BA p q m)=x5:=by simpa using h
  rw[Ay h];exact⟨0,_,[],by rw[Bh.Mul.ev,Nc,e,AeF e]; rfl,R4⟩
theorem Bh.Stack.Bn:Kq 61 Bh.Stack.Bt:=ED Bh.Stack.E Tryz.func61 (kc Bh.of.Stack.Bn (kc Bh.two.Bn .nil)) fun r c l p q m _=>by
 show ∃N dv drops,_=xQ dv/\Wk drops dv (Yy (Je r c l p q m));unfold Je;by_cases h:(BA r c l&&BA p q m)=xZ
 ·obtain⟨h1,h2⟩:=Bi.1 h;obtain⟨r1,c1,_⟩:=GU.1 h1;obtain⟨p1,q1,_⟩:=GU.1 h2;have ew:Bg (r+p)=r+p:=Bz (by omega) (by omega);by_cases hc:c=q/\r+p<=6
  ·have e:((c !=q)||(BI (6:Int) (r+p)))=x5:=by rw[B9,hc.1]; simp; omega
   rw[Az h,Az hc];exact⟨0,_,[],by rw[Bh.Stack.ev,ew,Nc,h,e,(Lc h1).2,Hk.2 (show 0<=r+p/\r+p<=6 by omega),Ac ⟨rfl,rfl,hc.1.symm⟩]; rfl,SO⟩
  ·have e:((c !=q)||(BI (6:Int) (r+p)))=xZ:=by rw[B9]; simp; omega
   rw[Az h,Ay hc];exact⟨0,_,[],by rw[Bh.Stack.ev,ew,Nc,h,e]; rfl,R4⟩
 ·have e:(BA r c l&&BA p q m)=x5:=by simpa using h
  rw[Ay h];exact⟨0,_,[],by rw[Bh.Stack.ev,Nc,e,AeF e]; rfl,R4⟩
def Cn.Jd.E:=E0 []
theorem Cn.Jd.ev(N:Nat)(r c:Int)(l:Bf):Cz Cn.Jd.E N f90 (Bw f90) [.agg [.int .i64 r,.int .i64 c,.Bj .arg .u64 l]]=xQ (.bool (cond (bif (cond (bif (Eg 0 r) then (Eg r 6) else x5) (Eg 0 c) x5) then (Eg c 6) else x5) ((wj l:Int)==(Bg (r*c))) x5)) :=Et (B5 (MH (Eg 0 r)) (B5 (JV (Eg 0 r)) (B5 (JV (Eg 0 r)) (B5 (QG (Eg 0 r)) (B5 (AhJ (Eg 0 r) (Eg r 6)) (B5 (AcD (Eg 0 r) (Eg r 6)) (B5 (AcD (Eg 0 r) (Eg r 6)) (B5 (AhK (Eg 0 r) (Eg r 6)) (B5 (AjK (Eg 0 r) (Eg r 6) (Eg 0 c)) (B5 (AcE (Eg 0 r) (Eg r 6) (Eg 0 c)) (B5 (AcE (Eg 0 r) (Eg r 6) (Eg 0 c)) (B5 (AjL (Eg 0 r) (Eg r 6) (Eg 0 c)) (B5 (AhL (Eg 0 r) (Eg r 6) (Eg 0 c) (Eg c 6)) (B5 (AeM (Eg 0 r) (Eg r 6) (Eg 0 c) (Eg c 6)) (B5 (AeM (Eg 0 r) (Eg r 6) (Eg 0 c) (Eg c 6)) (B5 (AhL (Eg 0 r) (Eg r 6) (Eg 0 c) (Eg c 6)) (B5 (AeM (Eg 0 r) (Eg r 6) (Eg 0 c) (Eg c 6)) (B5 (AhL (Eg 0 r) (Eg r 6) (Eg 0 c) (Eg c 6)) (B5 (AeM (Eg 0 r) (Eg r 6) (Eg 0 c) (Eg c 6)) (B5 (AlF (Eg 0 r) (Eg r 6) (Eg 0 c) (Eg c 6)) (B5 (AlF (Eg 0 r) (Eg r 6) (Eg 0 c) (Eg c 6)) (B5 (AlG (Eg 0 r) (Eg r 6) (Eg 0 c) (Eg c 6)) rfl))))))))))))))))))))))
def Cn.At.E:=E0 []
theorem Cn.At.ev(N:Nat)(r c:Int)(l:Bf)(i k:Int):Cz Cn.At.E N f55 (Bw f55) [.agg [.int .i64 r,.int .i64 c,.Bj .arg .u64 l],.int .i64 i,.int .i64 k]=cond ((decide (0<=(Bg ((Bg (i*c))+k))))&&(decide ((Bg ((Bg (i*c))+k))<(wj l:Int)))) (xQ (.int .u64 (wt l (wQ (Bg ((Bg (i*c))+k))) 0))) xY:=by kernel_rfl
def Cn.JQ.E:=E0 []
theorem Cn.JQ.ev(N:Nat)(a b:Int):Cz Cn.JQ.E N f53 (Bw f53) [.int .i64 a,.int .i64 b]=cond (((decide ((0:Int)<=(Bg (a*b))))&&(decide ((Bg (a*b))<=(Bg (a*b)))))&&(decide ((Bg (a*b))<=G2))) (xQ (.agg [.int .i64 a,.int .i64 b,.Bj (.own 10 43) .u64 (List.replicate (wQ (Bg (a*b))) 0)])) xY:=by kernel_rfl
def Cn.P6.E:=E0 []
theorem Cn.P6.ev(N:Nat)(r c:Int)(l:Bf)(i k b:Int):Cz Cn.P6.E N f54 (Bw f54) [.agg [.int .i64 r,.int .i64 c,.Bj .arg .u64 l],.int .i64 i,.int .i64 k,.int .u64 b]=cond (decide (0+(wj l)<=G2)) (bif ((decide (0<=(Bg ((Bg (i*c))+k))))&&(decide ((Bg ((Bg (i*c))+k))<(wj ([]++l):Int)))) then cond (decide ((wQ (Bg ((Bg (i*c))+k)))<(wj ([]++l)))) (xQ (.agg [.int .i64 r,.int .i64 c,.Bj (.own 13 43) .u64 (zv ([]++l) (wQ (Bg ((Bg (i*c))+k))) b)])) xY else xY) xY:=by kernel_rfl
def Cn.Mul.hint:Nat->Option BN
 | 0=>xQ { Df:=[2,3,4,5,6],Cg:=[],Cr:=[2,3,4,5] }
 | 2=>xQ { Df:=[2,3,4,5,6,7],Cg:=[],Cr:=[2,3,4,5] }
 | _=>xY
def Cn.D0.hint:Nat->Option BN
 | 0=>xQ { Df:=[1,2,3,4],Cg:=[],Cr:=[1,2,3] }
 | 2=>xQ { Df:=[1,2,3,4,5],Cg:=[],Cr:=[1,2,3] }
 | _=>xY
def Cn.D0.E:=D6 (Db [(55,Cn.At.Bt),(54,Cn.P6.Bt),(53,Cn.JQ.Bt)]) (fun _=>x5) Cn.D0.hint (fun _=>xY)
section
variable(N M0 M:Nat)(r c:Int)(l:Bf)(p5:Int)(p3:Bf)(p4_1 p4:Int)(p3_1:Bf)
def Cn.D0.L0:Option DV:=C6 Cn.D0.E N f14 (Bw f14) [1,1,0,1,0] [] M ⟨Fz 32 [(1,.ptr 1 0 0),(2,.ptr 2 0 0),(3,.ptr 3 0 0),(4,.int .i64 p4)],[(1,x5,.box [.int .i64 r,.int .i64 c,.Bj .arg .u64 l]),(2,x5,.box [.int .i64 0,.int .i64 0,.nil]),(3,x5,.box [.int .i64 c,.int .i64 r,.Bj .BE .u64 p3_1])]⟩
def Cn.D0.L1:Option DV:=C6 Cn.D0.E N f14 (Bw f14) [1,1,0,1,0,0,1,0,0,1,0] [M0] M ⟨Fz 32 [(1,.ptr 1 0 0),(2,.ptr 2 0 0),(3,.ptr 3 0 0),(4,.int .i64 p4_1),(5,.int .i64 p5)],[(1,x5,.box [.int .i64 r,.int .i64 c,.Bj .arg .u64 l]),(2,x5,.box [.int .i64 0,.int .i64 0,.nil]),(3,x5,.box [.int .i64 c,.int .i64 r,.Bj .BE .u64 p3])]⟩
theorem Cn.D0.B8:Cn.D0.L0 N (M+1) r c l p4 p3_1=cond (BI p4 r) (Cn.D0.L1 N M N r c l 0 p3_1 p4) (xQ (.agg [.int .i64 c,.int .i64 r,.Bj .BE .u64 p3_1])):=by kernel_rfl
theorem Cn.D0.CT:Cn.D0.L1 N M0 (M+1) r c l p5 p3 p4_1=cond (BI p5 c) (bif (FI r c l p4_1 p5) then cond (FI c r p3 p5 p4_1) (Cn.D0.L1 N M0 M r c l (Bg (p5+1)) (zv p3 (wQ (p5*r+p4_1)) (CE c l p4_1 p5)) p4_1) xY else xY) (Cn.D0.L0 N M0 r c l (Bg (p4_1+1)) p3) :=Et (EY (CQ (CF _) (CQ (CF _) rfl rfl) rfl) rfl)
theorem Cn.D0.ev:Cz Cn.D0.E N f14 (Bw f14) [.agg [.int .i64 r,.int .i64 c,.Bj .arg .u64 l]]=cond (CJ c&&CJ r) (Cn.D0.L0 N N r c l 0 (BZ (wQ c) (wQ r) (fun _ _=>0))) xY:=by kernel_rfl
end
theorem Cn.Jd.Bn:Kq 90 Cn.Jd.Bt:=ED Cn.Jd.E Tryz.func90 .nil fun r c l _=>by
 refine⟨0,Cn.Jd.out [.i r,.i c,.l l],[],?_,.bool⟩
 have e:(cond (bif (cond (bif (Eg (0:Int) r) then (Eg r (6:Int)) else x5) (Eg (0:Int) c) x5) then (Eg c (6:Int)) else x5) ((wj l:Int)==(Bg (r*c))) x5)=BA r c l:=by
  have:=Zt r c l
  have h:(cond (bif (cond (bif (Eg (0:Int) r) then (Eg r (6:Int)) else x5) (Eg (0:Int) c) x5) then (Eg c (6:Int)) else x5) ((wj l:Int)==(Bg (r*c))) x5)=!(((!(CJ r))||(!(CJ c)))||((wj l:Int) !=(Bg (r*c)))):=by unfold CJ bne;rw[E1,E1,E1,E1];cases decide (0<=r)<;>cases decide (r<=6)<;>cases decide (0<=c)<;>cases decide (c<=6)<;>cases ((wj l:Int)==(Bg (r*c)))<;>rfl
  rw[h,this,Bool.not_not]
 rw[Cn.Jd.ev,e]; rfl
theorem Cn.At.Bn:Kq 55 Cn.At.Bt:=ED Cn.At.E Tryz.func55 .nil fun r c l i k hp=>by obtain⟨e,h1,h2⟩:=X3 (R:=r) (show FI r c l i k=xZ from hp);refine⟨0,Cn.At.out [.i r,.i c,.l l,.i i,.i k],[],?_,.int⟩;rw[Cn.At.ev,e,Ac h1,Ac h2];rfl
theorem SN{drops:List Nat}{i:Nat}{e:TypeId}{a b:Int}{l:Bf}(h:i∈drops):Wk drops (.agg [.int .i64 a,.int .i64 b,.Bj (.own i e) .u64 l]) (.agg [.int .i64 a,.int .i64 b,.Bj .BE .u64 l]) :=Wk.GQ (.cons .int (.cons .int (.cons (.drop _ _ _ _ h) .nil)))
theorem XM{drops:List Nat}{a b:Int}{l:Bf}:Wk drops (.agg [.int .i64 a,.int .i64 b,.Bj .BE .u64 l]) (.agg [.int .i64 a,.int .i64 b,.Bj .BE .u64 l]) :=Wk.GQ (.cons .int (.cons .int (.cons .Jq .nil)))
theorem Cn.JQ.Bn:Kq 53 Cn.JQ.Bt:=ED Cn.JQ.E Tryz.func53 .nil fun a b hp=>by
 obtain⟨ha,hb⟩:=Bi.1 (show(CJ a&&CJ b)=xZ from hp);obtain⟨A,rfl,hA⟩:=GN ha;obtain⟨B,rfl,hB⟩:=GN hb;have hm:=Kl (a:=(A:Int)) (b:=(B:Int)) (by omega) (by omega) (by omega) (by omega);have e:((A:Int)*(B:Int)).toNat=A*B:=by rw[<- Ax,Ad]
 refine⟨0,.agg [.int .i64 (A:Int),.int .i64 (B:Int),.Bj (.own 10 tB) .u64 (BZ A B fun _ _=>0)],[10],?_,SN (ze.2 rfl)⟩;rw[Cn.JQ.ev,Bz (by omega) (by omega),Ac hm.1,Ac (yI _),Ac (show(A:Int)*(B:Int)<=(G2:Int) by unfold G2; omega),e,AaK];rfl
theorem Cn.P6.Bn:Kq 54 Cn.P6.Bt:=ED Cn.P6.E Tryz.func54 .nil fun r c l i k b hp=>by obtain⟨_,_,_,_,_,_,_,h8⟩:=Bv.1 (show FI r c l i k=xZ from hp);obtain⟨e,g1,g2⟩:=X3 (R:=r) (show FI r c l i k=xZ from hp);refine⟨0,.agg [.int .i64 r,.int .i64 c,.Bj (.own 13 tB) .u64 (zv l (i*c+k).toNat b)],[13],?_,SN (ze.2 rfl)⟩;rw[Cn.P6.ev,e,List.nil_append,Ac (show 0+l.length<=G2 by unfold G2; omega),Ac g1,Ac g2,Ac (show(i*c+k).toNat<l.length by omega)];rfl
theorem AgR{r c i k:Nat}(hk:k<c){d d':Nat->Nat->Bool}{f:Nat->Nat->Int}{x:Int}(hx:x=f i k)
 (h:∀a b,a<r->b<c->(d' a b=xZ↔d a b=xZ\/(a=i/\b=k))):
 zv (BZ r c fun a b=>if d a b=xZ then f a b else 0) (wQ ((i:Int)*(c:Int)+(k:Int))) x=BZ r c fun a b=>if d' a b=xZ then f a b else 0:=by
 have e:((i:Int)*(c:Int)+(k:Int)).toNat=i*c+k:=by rw[<- Ax,<- zt,Ad]
 rw[e,LV hk];refine Eo fun a b ha hb=>?_
 have h:=h a b ha hb;by_cases hab:a=i/\b=k
 ·rw[Az hab,Az (h.2 (.inr hab)),hx,hab.1,hab.2]
 ·rw[Ay hab];by_cases hd:d a b=xZ
  ·rw[Az hd,Az (h.2 (.inl hd))]
  ·rw[Ay hd,Ay (fun k=>(h.1 k).elim hd hab)]
def dC(i k a b:Nat):Bool:=decide (b<i\/(b=i/\a<k))
def fill(r c:Nat)(f:Nat->Nat->Int)(d:Nat->Nat->Bool):Bf:=BZ r c fun a b=>if d a b=xZ then f a b else 0
theorem YY(r c:Nat)(f:Nat->Nat->Int)(d:Nat->Nat->Bool):(fill r c f d).length=r*c:=BW _ _ _
theorem Ag6{r c i k:Nat}(hk:k<c){d d':Nat->Nat->Bool}{f:Nat->Nat->Int}{x:Int}(hx:x=f i k)(h:∀a b,a<r->b<c->(d' a b=xZ↔d a b=xZ\/(a=i/\b=k))):
 zv (fill r c f d) (wQ ((i:Int)*(c:Int)+(k:Int))) x=fill r c f d':=AgR hk hx h
theorem AaP{r c:Nat}{f:Nat->Nat->Int}{d d':Nat->Nat->Bool}(h:∀a b,a<r->b<c->(d a b=xZ↔d' a b=xZ)):fill r c f d=fill r c f d':=by
 refine Eo fun a b ha hb=>?_
 have:=h a b ha hb;by_cases hd:d a b=xZ
 ·rw[Az hd,Az (this.1 hd)]
 ·rw[Ay hd,Ay (fun k=>hd (this.2 k))]
theorem Ag7{r c:Nat}{f:Nat->Nat->Int}{d:Nat->Nat->Bool}(h:∀a b,a<r->b<c->d a b=xZ):fill r c f d=BZ r c f :=Eo fun a b ha hb=>by rw[Az (h a b ha hb)]
theorem AdV{r c:Nat}{f:Nat->Nat->Int}{d:Nat->Nat->Bool}(h:∀a b,a<r->b<c->¬d a b=xZ):fill r c f d=BZ r c fun _ _=>0 :=Eo fun a b ha hb=>by rw[Ay (h a b ha hb)]
theorem Uf.inner(N:Nat){R C:Nat}{l:Bf}(h6:R<=6/\C<=6)(hl:l.length=R*C){F:Nat->Nat->Int}(hF:F=fun(i j:Nat)=>CE (C:Int) l (j:Int) (i:Int)){i:Nat}(hi:i<R):∀(k j M0 M:Nat),j+k=C->k<M ->
 Cn.D0.L1 N M0 M (R:Int) (C:Int) l (j:Int) (fill C R F (dC i j)) (i:Int)=Cn.D0.L0 N M0 (R:Int) (C:Int) l ((i+1:Nat):Int) (fill C R F (dC (i+1) 0)):=by
 intro k
 induction k with
 | zero =>
   intro j M0 M hj hM;obtain⟨M,rfl⟩:∃G,M=G+1:=⟨M-1,by omega⟩
   have e:fill C R F (dC i j)=fill C R F (dC (i+1) 0):=AaP fun a b ha hb=>by simp only[dC,Ai]; omega
   rw[Cn.D0.CT,B9,Ag (by omega),Af,Bz (by omega) (by omega),e];rfl
 | succ k ih =>
   intro j M0 M hj hM;obtain⟨M,rfl⟩:∃G,M=G+1:=⟨M-1,by omega⟩
   have c1:FI (R:Int) (C:Int) l (i:Int) (j:Int)=xZ:=Q7 h6.1 h6.2 hl hi (by omega);have c9:FI (C:Int) (R:Int) (fill C R F (dC i j)) (j:Int) (i:Int)=xZ:=Q7 (by omega) (by omega) (YY _ _ _ _) (by omega) (by omega);rw[Cn.D0.CT,B9,Ac (by omega),Aa,c1,Aa,c9,Aa,Bz (x:=(j:Int)+1) (by omega) (by omega),Ag6 (d':=dC i (j+1)) (by omega) (by rw[hF]) (fun a b ha hb=>by simp only[dC,Ai]; omega)];exact ih (j+1) M0 M (by omega) (by omega)
theorem Uf.outer(N:Nat)(hN:6<N){R C:Nat}{l:Bf}(h6:R<=6/\C<=6)(hl:l.length=R*C){F:Nat->Nat->Int}(hF:F=fun(i j:Nat)=>CE (C:Int) l (j:Int) (i:Int)):∀(k i M:Nat),i+k=R->k<M ->
 Cn.D0.L0 N M (R:Int) (C:Int) l (i:Int) (fill C R F (dC i 0))=xQ (.agg [.int .i64 (C:Int),.int .i64 (R:Int),.Bj .BE .u64 (BZ C R F)]):=by
 intro k
 induction k with
 | zero =>
   intro i M hi hM;obtain⟨M,rfl⟩:∃G,M=G+1:=⟨M-1,by omega⟩
   rw[Cn.D0.B8,B9,Ag (by omega),Af,Ag7 (fun a b ha hb=>by simp only[dC,Ai]; omega)]
 | succ k ih =>
   intro i M hi hM;obtain⟨M,rfl⟩:∃G,M=G+1:=⟨M-1,by omega⟩
   have n:=Uf.inner N h6 hl hF (show i<R by omega) C 0 M N (by omega) (by omega);rw[Cn.D0.B8,B9,Ac (by omega),Aa];exact n.trans (ih (i+1) M (by omega) (by omega))
theorem Cn.D0.Bn:Kq 14 Cn.D0.Bt:=ED Cn.D0.E Tryz.func14 (kc Cn.At.Bn (kc Cn.P6.Bn (kc Cn.JQ.Bn .nil))) fun r c l hp=>by have hr:BA r c l=xZ:=hp;obtain⟨R,C,rfl,rfl,r6,c6,hl⟩:=D9 hr;refine⟨8,.agg [.int .i64 (C:Int),.int .i64 (R:Int),.Bj .BE .u64 (BZ C R fun(i j:Nat)=>CE (C:Int) l (j:Int) (i:Int))],[],?_,XM⟩;have n:=Uf.outer 8 (by omega) ⟨r6,c6⟩ hl rfl R 0 8 (by omega) (by omega);rw[AdV (fun a b ha hb=>by simp only[dC,Ai]; omega)] at n;rw[Cn.D0.ev,W7 r6,W7 c6,Ah,Aa,Ad,Ad];exact n
def Bq.KE.E:=E0 []
theorem Bq.KE.ev(N:Nat)(l:Bf)(i:Int):Cz Bq.KE.E N f159 (Bw f159) [.Bj .arg .u32 l,.int .i64 i]=cond ((Eg 0 i)&&(BI i (wj l:Int))) (bif ((decide (0<=i))&&(decide (i<(wj l:Int)))) then xQ (.int .u64 (BV (wt l (wQ i) 0))) else xY) (xQ (.int .u64 0)) :=Et (B5 (MH (Eg 0 i)) (B5 (MH (Eg 0 i)) (B5 (JV (Eg 0 i)) (B5 (AcJ (Eg 0 i)) (B5 (QG (Eg 0 i)) (CQ (tt1 _ _) rfl rfl))))))
def Bq.Made.hint:Nat->Option BN
 | 0=>xQ { Df:=[0,1,4,5],Cg:=[],Cr:=[4] }
 | _=>xY
def Bq.Made.E:=D6 (Db []) (fun _=>x5) Bq.Made.hint (fun _=>xY)
section
variable(N M:Nat)(n:Bool)(l:Bf)(p5:Int)
def Bq.Made.L0:Option DV:=C6 Bq.Made.E N f104 (Bw f104) [1,1,0,0] [] M ⟨Fz 28 [(0,.bool n),(1,.Bj .arg .u32 l),(4,.ptr 4 0 0),(5,.int .i64 p5)],[(4,x5,.box [.bool x5,.nil])]⟩
theorem Bq.Made.B8:Bq.Made.L0 N (M+1) n l p5=cond ((!(BI 0 p5))||((decide (0<=(Bg (p5-1))))&&(decide ((Bg (p5-1))<(wj l:Int))))) (bif ((BI 0 p5)&&((wt l (wQ (Bg (p5-1))) 0)==(0:Int))) then Bq.Made.L0 N M n l (Bg (p5-1)) else bif (p5==(0:Int)) then xQ (.agg [.bool x5,.nil]) else bif ((decide ((0:Int)<=p5))&&(decide (p5<=(wj l:Int)))) then xQ (.agg [.bool n,.Bj .arg .u32 (zL (wQ p5) l)]) else xY) xY :=Et (B5 (MH (BI 0 p5)) (B5 (MH (BI 0 p5)) (B5 (JV (BI 0 p5)) (CQ (AlE _ _ _) (B5 (JV (BI 0 p5)) (B5 (JV (BI 0 p5)) (B5 (QG (BI 0 p5)) (CQ (tt1 _ _) rfl (EY rfl (CQ (IW _ _) rfl rfl)))))) rfl))))
theorem Bq.Made.ev:Cz Bq.Made.E N f104 (Bw f104) [.bool n,.Bj .arg .u32 l]=
 Bq.Made.L0 N N n l (wj l:Int):=by kernel_rfl
end
def Bq.Of.E:=E0 [(104,Bq.Made.Bt)]
theorem Bq.Of.ev(N:Nat)(n:Int):Cz Bq.Of.E N f40 (Bw f40) [.int .i64 n]=cond (BI n 0) (bif (GZ [(HM (zD (BV ((BV (Bg (0-(Bg (n+1)))))+1)) 4294967296)),(HM (BV (zw (BV ((BV (Bg (0-(Bg (n+1)))))+1)) 4294967296)))]) then xQ (.agg [.bool (BG (wv xZ [(HM (zD (BV ((BV (Bg (0-(Bg (n+1)))))+1)) 4294967296)),(HM (BV (zw (BV ((BV (Bg (0-(Bg (n+1)))))+1)) 4294967296)))])),.Bj .arg .u32 (Bo (wv xZ [(HM (zD (BV ((BV (Bg (0-(Bg (n+1)))))+1)) 4294967296)),(HM (BV (zw (BV ((BV (Bg (0-(Bg (n+1)))))+1)) 4294967296)))]))]) else xY) (bif (GZ [(HM (zD n 4294967296)),(HM (Bg (zw n 4294967296)))]) then xQ (.agg [.bool (BG (wv x5 [(HM (zD n 4294967296)),(HM (Bg (zw n 4294967296)))])),.Bj .arg .u32 (Bo (wv x5 [(HM (zD n 4294967296)),(HM (Bg (zw n 4294967296)))]))]) else xY):=by kernel_rfl
def Bq.Jt.hint:Nat->Option BN
 | 0=>xQ { Df:=[0,1,5],Cg:=[],Cr:=[] }
 | _=>xY
def Bq.Jt.E:=D6 (Db [(159,Bq.KE.Bt)]) (fun _=>x5) Bq.Jt.hint (fun _=>xY)
section
variable(N M:Nat)(a b:Bf)(p5:Int)
def Bq.Jt.L0:Option DV:=C6 Bq.Jt.E N f111 (Bw f111) [1,0,1,0] [] M ⟨Fz 29 [(0,.Bj .arg .u32 a),(1,.Bj .arg .u32 b),(5,.int .i64 p5)],[]⟩
theorem Bq.Jt.B8:Bq.Jt.L0 N (M+1) a b p5=cond (Eg 0 p5) (bif (GZ a) then cond (GZ b) (bif (BI (Gx a p5) (Gx b p5)) then xQ (.int .i64 (-1:Int)) else bif (GZ a) then cond (GZ b) (bif (BI (Gx b p5) (Gx a p5)) then xQ (.int .i64 1) else Bq.Jt.L0 N M a b (Bg (p5-1))) xY else xY) xY else xY) (xQ (.int .i64 0)):=by kernel_rfl
theorem Bq.Jt.ev:Cz Bq.Jt.E N f111 (Bw f111) [.Bj .arg .u32 a,.Bj .arg .u32 b]=
 Bq.Jt.L0 N N a b (max (wj a:Int) (wj b:Int)):=by kernel_rfl
end
def Bq.plus.hint:Nat->Option BN
 | 0=>xQ { Df:=[0,1,5,6,7],Cg:=[(0,5,100005,.Bj 121 .u32 [])],Cr:=[] }
 | _=>xY
def Bq.plus.E:=D6 (Db [(159,Bq.KE.Bt)]) (fun _=>x5) Bq.plus.hint (fun _=>xY)
section
variable(N M:Nat)(a b:Bf)(p6 p7:Int)(p5:Bf)
def Bq.plus.L0:Option DV:=C6 Bq.plus.E N f110 (Bw f110) [1,1,1,0,1,0] [] M ⟨Fz 37 [(0,.Bj .arg .u32 a),(1,.Bj .arg .u32 b),(5,.Dh 100005),(6,.int .u64 p6),(7,.int .i64 p7)],[(100005,x5,.Bj 121 .u32 p5)]⟩
theorem Bq.plus.B8:Bq.plus.L0 N (M+1) a b p6 p7 p5=cond (Eg p7 (max (wj a:Int) (wj b:Int))) (bif (GZ a) then cond (GZ b) (bif (decide ((wj p5)+1<=G2)) then Bq.plus.L0 N M a b (BV (zw (BV ((BV ((Gx a p7)+(Gx b p7)))+p6)) 4294967296)) (Bg (p7+1)) (p5++[(HM (zD (BV ((BV ((Gx a p7)+(Gx b p7)))+p6)) 4294967296))]) else xY) xY else xY) (xQ (.Bj (.own 100005 121) .u32 p5)):=by kernel_rfl
theorem Bq.plus.ev:Cz Bq.plus.E N f110 (Bw f110) [.Bj .arg .u32 a,.Bj .arg .u32 b]=
 Bq.plus.L0 N N a b 0 0 []:=by kernel_rfl
end
def Bq.minus.hint:Nat->Option BN
 | 0=>xQ { Df:=[0,1,5,6,7],Cg:=[(0,5,100005,.Bj 121 .u32 [])],Cr:=[] }
 | _=>xY
def Bq.minus.E:=D6 (Db [(159,Bq.KE.Bt)]) (fun _=>x5) Bq.minus.hint (fun _=>xY)
section
variable(N M:Nat)(a b:Bf)(p6 p7:Int)(p5:Bf)
def Bq.minus.L0:Option DV:=C6 Bq.minus.E N f112 (Bw f112) [1,1,1,0,1,0] [] M ⟨Fz 36 [(0,.Bj .arg .u32 a),(1,.Bj .arg .u32 b),(5,.Dh 100005),(6,.int .u64 p6),(7,.int .i64 p7)],[(100005,x5,.Bj 121 .u32 p5)]⟩
theorem Bq.minus.B8:Bq.minus.L0 N (M+1) a b p6 p7 p5=cond (BI p7 (wj a:Int)) (bif (GZ a) then cond (GZ b) (bif (decide ((wj p5)+1<=G2)) then Bq.minus.L0 N M a b (BV ((1:Int)-(BV (zw (BV ((BV ((BV ((4294967296:Int)+(Gx a p7)))-(Gx b p7)))-p6)) 4294967296)))) (Bg (p7+1)) (p5++[(HM (zD (BV ((BV ((BV ((4294967296:Int)+(Gx a p7)))-(Gx b p7)))-p6)) 4294967296))]) else xY) xY else xY) (xQ (.Bj (.own 100005 121) .u32 p5)):=by kernel_rfl
theorem Bq.minus.ev:Cz Bq.minus.E N f112 (Bw f112) [.Bj .arg .u32 a,.Bj .arg .u32 b]=
 Bq.minus.L0 N N a b 0 0 []:=by kernel_rfl
end
def Bq.Add.E:=E0 [(104,Bq.Made.Bt),(111,Bq.Jt.Bt),(112,Bq.minus.Bt),(110,Bq.plus.Bt)]
theorem Bq.Add.ev(N:Nat)(n:Bool)(a:Bf)(m:Bool)(b:Bf):Cz Bq.Add.E N f48 (Bw f48) [.agg [.bool n,.Bj .arg .u32 a],.agg [.bool m,.Bj .arg .u32 b]]=cond (n==m) (bif (GZ a&&GZ b) then cond (GZ (Ix a b)) (xQ (.agg [.bool (BG (wv n (Ix a b))),.Bj .arg .u32 (Bo (wv n (Ix a b)))])) xY else xY) (bif (GZ a&&GZ b) then cond (BI (Rs (C3 a) (C3 b)) 0) (bif ((GZ b&&GZ a)&&leL a b) then cond (GZ (Ho b a)) (xQ (.agg [.bool (BG (wv m (Ho b a))),.Bj .arg .u32 (Bo (wv m (Ho b a)))])) xY else xY) (bif ((GZ a&&GZ b)&&leL b a) then cond (GZ (Ho a b)) (xQ (.agg [.bool (BG (wv n (Ho a b))),.Bj .arg .u32 (Bo (wv n (Ho a b)))])) xY else xY) else xY) :=Et (EY (CQ (CF _) (CQ (CF _) rfl rfl) rfl) (EY (EY (CQ (CF _) (CQ (CF _) rfl rfl) rfl) (CQ (CF _) (CQ (CF _) rfl rfl) rfl)) rfl))
def Bq.Neg.E:=E0 [(104,Bq.Made.Bt)]
theorem Bq.Neg.ev(N:Nat)(n:Bool)(a:Bf):Cz Bq.Neg.E N f103 (Bw f103) [.agg [.bool n,.Bj .arg .u32 a]]=cond (GZ a) (xQ (.agg [.bool (BG (wv (!n) a)),.Bj .arg .u32 (Bo (wv (!n) a))])) xY:=by kernel_rfl
theorem Bq.KE.Bn:Kq 159 Bq.KE.Bt:=ED Bq.KE.E Tryz.func159 .nil fun l i hp=>by
 obtain⟨hl,hi⟩:=IG hp;refine⟨0,Bq.KE.out [.l l,.i i],[],?_,.int⟩;rw[Bq.KE.ev,E1,B9];show _=xQ (DV.int .u64 (Gx l i));by_cases h0:0<=i
 ·obtain⟨k,rfl⟩:∃k:Nat,i=k:=⟨i.toNat,by omega⟩
  have hv:=GF hi k;have hg:=Ll hi k;rw[hv,Ad,hg,Ac h0,AW];by_cases h1:(k:Int)<(l.length:Int)
  ·rw[Ac h1,Aa,Aa,Dr (by omega) (by omega)]
  ·have h2:l.getD k 0=0:=by rw[Al,Bb (by omega)]; rfl
   rw[h2] at hg;rw[Ag h1,Af,<- hg]
 ·have:Gx l i=0:=by unfold Gx; rw[Ay h0]
  rw[Ag h0,zZ,Af,this]
theorem Wi{drops:List Nat}{b:Bool}{l:Bf}:Wk drops (.agg [.bool b,.Bj .arg .u32 l]) (.agg [.bool b,.Bj .arg .u32 l]):=Wk.GQ (.cons .bool (.cons .X5 .nil))
theorem Adw:BG 0=x5:=rfl
theorem YF:Bo 0=[]:=rfl
theorem Ad7(N:Nat)(n:Bool){l:Bf}(hl:l.length<1073741824)(hi:Qu l):∀(p F:Nat),p<=l.length->p<F->C3 l<2^(32*p) ->
 ∃dv,Bq.Made.L0 N F n l (p:Int)=xQ dv/\Wk [] dv (.agg [.bool (BG (wv n l)),.Bj .arg .u32 (Bo (wv n l))]):=by
 have hlast:∀p,p<=l.length->DC (C3 l)=p->p≠0->xQ (DV.agg [.bool n,.Bj .arg .u32 (l.take p)])=xQ (DV.agg [.bool (BG (wv n l)),.Bj .arg .u32 (Bo (wv n l))]):=by
  intro p hp hq h0;have h1:=AaF hi;rw[hq] at h1;have h2:C3 l≠0:=fun h=>by rw[h] at hq; exact h0 hq.symm
  have e:(wv n l).natAbs=C3 l:=by unfold wv GI; split<;>omega
  have e1:Bo (wv n l)=MN (C3 l):=by unfold Bo; rw[e]
  have e2:BG (wv n l)=n:=by unfold BG wv GI; cases n<;>simp<;>omega
  rw[h1,e1,e2]
 intro p
 induction p with
 | zero =>
   intro F hp hF hv;obtain⟨F,rfl⟩:∃G,F=G+1:=⟨F-1,by omega⟩
   have hz:wv n l=0:=by
    have:C3 l=0:=by rw[yd,AG] at hv; omega
    unfold wv GI; rw[this]; cases n<;>rfl
   refine⟨.agg [.bool x5,.nil],?_,?_⟩
   ·rw[Bq.Made.B8,B9]; rfl
   ·rw[hz,Adw,YF];exact Wk.GQ (.cons .bool (.cons (.nil _ _) .nil))
 | succ p ih =>
   intro F hp hF hv;obtain⟨F,rfl⟩:∃G,F=G+1:=⟨F-1,by omega⟩
   rw[Bq.Made.B8,B9,Bz (by omega) (by omega)];have e0:((p+1:Nat):Int)-1=(p:Int):=by omega
   have t0:decide ((0:Int)<((p+1:Nat):Int))=xZ:=Ac (by omega);have t1:decide ((0:Int)<=(p:Int))=xZ:=by simp
   have t2:decide ((p:Int)<(l.length:Int))=xZ:=by simp; omega
   have hg:=Ll hi p
   have hq:C3 l / 2^(32*p)<4294967296:=by rw[yr (Cv _),<- JO]; exact hv
   rw[Ao hq] at hg;rw[e0,t0,t1,t2,Ad,hg];simp only[AH,Ah,Bool.false_or,Aa,AW];by_cases hz:C3 l / 2^(32*p)=0
   ·have:(((C3 l / 2^(32*p):Nat):Int)==0)=xZ:=by rw[hz]; rfl
    rw[this,Aa];refine ih F (by omega) (by omega) ?_;rcases AF (C3 l) (2^(32*p)) with h | h
    ·exact h
    ·have:=Nat.div_pos h (Cv _); omega
   ·have:(((C3 l / 2^(32*p):Nat):Int)==0)=x5:=by simp only[AD,ne_eq]; omega
    have t3:(((p+1:Nat):Int)==0)=x5:=by simp only[AD,ne_eq]; omega
    have t4:decide (((p+1:Nat):Int)<=(l.length:Int))=xZ:=by simp; omega
    have t5:decide ((0:Int)<=((p+1:Nat):Int))=xZ:=Ac (by omega);rw[this,Af,t3,Af,t4,t5,Ah,Aa,Ad]
    have hlen:DC (C3 l)=p+1:=by
     have a1:=Jy hv
     have a2:=Ai8 (n:=C3 l) (k:=p) (by
      rcases AF (C3 l) (2^(32*p)) with h | h
      ·exact absurd (z7 h) hz
      ·exact h)
     omega
    exact⟨_,hlast (p+1) hp hlen (by omega),Wi⟩
theorem Bq.Made.Bn:Kq 104 Bq.Made.Bt:=ED Bq.Made.E Tryz.func104 .nil fun n l hp=>by obtain⟨hl,hi⟩:=IG hp;obtain⟨dv,h1,h2⟩:=Ad7 (l.length+1) n hl hi l.length (l.length+1) (AB _) (by omega) (I9 hi);exact⟨l.length+1,dv,[],by rw[Bq.Made.ev]; exact h1,h2⟩
theorem US{a b:Int}(ha:0<=a/\a<4294967296)(hb:0<=b/\b<4294967296):GZ [a,b]=xZ:=
 IF (show 2<1073741824 by decide) fun x hx=>by
  rcases zF.1 hx with rfl | hx
  ·exact ha
  ·rcases zF.1 hx with rfl | hx
   ·exact hb
   ·cases hx
theorem YD:(4294967296:Int)=((4294967296:Nat):Int):=rfl
theorem Bq.Of.Bn:Kq 40 Bq.Of.Bt:=ED Bq.Of.E Tryz.func40 (kc Bq.Made.Bn .nil) fun n hp=>by
 have hp:=Bv.1 hp;refine⟨0,Bq.Of.out [.i n],[],?_,Wi⟩;rw[Bq.Of.ev,B9];show _=xQ (DV.agg [.bool (BG n),.Bj .arg .u32 (Bo n)]);by_cases h:n<0
 ·obtain⟨k,rfl⟩:∃k:Nat,n=-(k:Int):=⟨(-n).toNat,by omega⟩
  have e1:BV (BV (Bg (0-Bg (-(k:Int)+1)))+1)=(k:Int):=by rw[Bz (x:=-(k:Int)+1) (by omega) (by omega),Bz (by omega) (by omega),Dr (x:=0-(-(k:Int)+1)) (by omega) (by omega),Dr (by omega) (by omega)]; omega
  rw[Ac h,Aa,e1,YD,HP,HQ,HL (by omega) (by omega),Dr (by omega) (by omega),HL (by omega) (by omega),
   US (by omega) (by omega),Aa]
  have e2:wv xZ [((k%4294967296:Nat):Int),((k / 4294967296:Nat):Int)]=-(k:Int):=by unfold wv GI C3 C3 C3;rw[Az rfl,Ad,Ad];omega
  rw[e2]
 ·obtain⟨k,rfl⟩:∃k:Nat,n=(k:Int):=⟨n.toNat,by omega⟩
  rw[Ag h,Af,YD,HP,HQ,HL (by omega) (by omega),Bz (by omega) (by omega),HL (by omega) (by omega),
   US (by omega) (by omega),Aa]
  have e2:wv x5 [((k%4294967296:Nat):Int),((k / 4294967296:Nat):Int)]=(k:Int):=by unfold wv GI C3 C3 C3;rw[Ay (by decide),Ad,Ad];omega
  rw[e2]
theorem Bq.Neg.Bn:Kq 103 Bq.Neg.Bt:=ED Bq.Neg.E Tryz.func103 (kc Bq.Made.Bn .nil) fun n a hp=>by obtain⟨v,rfl,rfl,hv⟩:=Ia hp;refine⟨0,Bq.Neg.out [.b (BG v),.l (Bo v)],[],?_,Wi⟩;rw[Bq.Neg.ev,LN (by omega),Aa,AjC];rfl
theorem Ad3(N:Nat){a b:Bf}(ha:GZ a=xZ)(hb:GZ b=xZ):∀(j F:Nat),j<4000000000->j<F->C3 a / 2^(32*j)=C3 b / 2^(32*j) ->
 Bq.Jt.L0 N F a b ((j:Int)-1)=xQ (.int .i64 (Rs (C3 a) (C3 b))):=by
 have ia:=(IG ha).2;have ib:=(IG hb).2;intro j
 induction j with
 | zero =>
   intro F hj hF h;obtain⟨F,rfl⟩:∃G,F=G+1:=⟨F-1,by omega⟩
   rw[yd,AG,yH,yH] at h;have e:Rs (C3 a) (C3 b)=0:=by unfold Rs; rw[Ay (by omega),Ay (by omega)]
   rw[Bq.Jt.B8,E1,e];rfl
 | succ j ih =>
   intro F hj hF h;obtain⟨F,rfl⟩:∃G,F=G+1:=⟨F-1,by omega⟩
   have e0:((j+1:Nat):Int)-1=(j:Int):=by omega
   have t0:decide ((0:Int)<=(j:Int))=xZ:=Ac (by omega);rw[JO,A0,<- A9,<- A9] at h
   have up:C3 a / 2^(32*j)<C3 b / 2^(32*j)->C3 a<C3 b:=fun k=>by
    rcases AF (C3 a) (C3 b) with h1 | h1
    ·exact h1
    ·have:=wL (c:=2^(32*j)) h1; omega
   have down:C3 b / 2^(32*j)<C3 a / 2^(32*j)->C3 b<C3 a:=fun k=>by
    rcases AF (C3 b) (C3 a) with h1 | h1
    ·exact h1
    ·have:=wL (c:=2^(32*j)) h1; omega
   rw[Bq.Jt.B8,e0,E1,t0,Aa,ha,hb,Aa,Aa,B9,B9,GF ia,GF ib,Bz (by omega) (by omega)];have ih:=ih F (by omega) (by omega);generalize C3 a / 2^(32*j)=x at *
   generalize C3 b / 2^(32*j)=y at *
   by_cases h1:x%4294967296<y%4294967296
   ·have e:Rs (C3 a) (C3 b)=-1:=by unfold Rs; rw[Az (up (by omega))]
    rw[Ac (by omega),Aa,e]
   ·rw[Ag (by omega),Af];by_cases h2:y%4294967296<x%4294967296
    ·have:=down (by omega);have e:Rs (C3 a) (C3 b)=1:=by unfold Rs; rw[Ay (by omega),Az this]
     rw[Ac (by omega),Aa,e];rfl
    ·rw[Ag (by omega),Af];exact ih (by omega)
theorem Acx{l:Bf}(h:Qu l){j:Nat}(hj:l.length<=j):C3 l / 2^(32*j)=0 :=z7 (AU (I9 h) (Aq (by decide) (by omega)))
theorem Bq.Jt.Bn:Kq 111 Bq.Jt.Bt:=ED Bq.Jt.E Tryz.func111 (kc Bq.KE.Bn .nil) fun a b hp=>by
 obtain⟨ha,hb⟩:=Bi.1 hp;obtain⟨la,ia⟩:=IG ha;obtain⟨lb,ib⟩:=IG hb;refine⟨max a.length b.length+2,Bq.Jt.out [.l a,.l b],[],?_,.int⟩;rw[Bq.Jt.ev];have e:max (a.length:Int) (b.length:Int)=((max a.length b.length+1:Nat):Int)-1:=by omega
 rw[e];exact Ad3 _ ha hb _ _ (by omega) (by omega) (by rw[Acx ia (by omega),Acx ib (by omega)])
theorem Vv(N:Nat){a b:Bf}(ha:GZ a=xZ)(hb:GZ b=xZ):∀(k i c F:Nat),i+k=max a.length b.length+1->k<F->c<=1 ->
 C3 a / 2^(32*i)+C3 b / 2^(32*i)+c=(C3 a+C3 b) / 2^(32*i) ->
 Bq.plus.L0 N F a b (c:Int) (i:Int) (digits i (C3 a+C3 b))=xQ (.Bj (.own 100005 tW) .u32 (Ix a b)):=by
 obtain⟨la,ia⟩:=IG ha;obtain⟨lb,ib⟩:=IG hb;intro k
 induction k with
 | zero =>
   intro i c F hi hF hc h;obtain⟨F,rfl⟩:∃G,F=G+1:=⟨F-1,by omega⟩
   have t0:decide ((i:Int)<=max (a.length:Int) (b.length:Int))=x5:=Ag (by omega);rw[Bq.plus.B8,E1,t0,Af];unfold Ix;rw[show i=max a.length b.length+1 by omega]
 | succ k ih =>
   intro i c F hi hF hc h;obtain⟨F,rfl⟩:∃G,F=G+1:=⟨F-1,by omega⟩
   have t0:decide ((i:Int)<=max (a.length:Int) (b.length:Int))=xZ:=Ac (by omega);have t1:decide ((digits i (C3 a+C3 b)).length+1<=G2)=xZ:=Ac (by rw[Er]; unfold G2; omega);rw[Bq.plus.B8,E1,t0,ha,hb,t1];simp only[Aa];rw[GF ia,GF ib];have ih:=ih (i+1);rw[JO,A0 4294967296,<- A9,<- A9,<- A9,I4] at ih;generalize C3 a / 2^(32*i)=x at *
   generalize C3 b / 2^(32*i)=y at *
   generalize (C3 a+C3 b) / 2^(32*i)=z at *
   have e1:BV (BV (((x%4294967296:Nat):Int)+((y%4294967296:Nat):Int))+(c:Int))=((x%4294967296+y%4294967296+c:Nat):Int):=by rw[Dr (x:=((x%4294967296:Nat):Int)+((y%4294967296:Nat):Int)) (by omega) (by omega),Dr (by omega) (by omega)]; omega
   rw[e1,YD,HP,HQ,HL (by omega) (by omega),Dr (by omega) (by omega),Bz (by omega) (by omega)];have e2:(x%4294967296+y%4294967296+c)%4294967296=z%4294967296:=by omega
   rw[e2];exact ih ((x%4294967296+y%4294967296+c) / 4294967296) F (by omega) (by omega) (by omega) (by omega)
theorem WL{i:Nat}{e:TypeId}{k:IntKind}{l:Bf}:Wk [i] (.Bj (.own i e) k l) (.Bj .arg k l):=.Acs i e k l (ze.2 rfl)
theorem Bq.plus.Bn:Kq 110 Bq.plus.Bt:=ED Bq.plus.E Tryz.func110 (kc Bq.KE.Bn .nil) fun a b hp=>by obtain⟨ha,hb⟩:=Bi.1 hp;refine⟨max a.length b.length+2,.Bj (.own 100005 tW) .u32 (Ix a b),[100005],?_,WL⟩;rw[Bq.plus.ev];exact Vv _ ha hb (max a.length b.length+1) 0 0 _ (by omega) (by omega) (by omega) (by simp)
theorem Aa5(N:Nat){a b:Bf}(ha:GZ a=xZ)(hb:GZ b=xZ):∀(k i w F:Nat),i+k=a.length->k<F->w<=1 ->
 C3 a / 2^(32*i)=C3 b / 2^(32*i)+(C3 a-C3 b) / 2^(32*i)+w ->
 Bq.minus.L0 N F a b (w:Int) (i:Int) (digits i (C3 a-C3 b))=xQ (.Bj (.own 100005 tW) .u32 (Ho a b)):=by
 obtain⟨la,ia⟩:=IG ha;obtain⟨lb,ib⟩:=IG hb;intro k
 induction k with
 | zero =>
   intro i c F hi hF hc h;obtain⟨F,rfl⟩:∃G,F=G+1:=⟨F-1,by omega⟩
   have t0:decide ((i:Int)<(a.length:Int))=x5:=Ag (by omega);rw[Bq.minus.B8,B9,t0,Af];unfold Ho;rw[show i=a.length by omega]
 | succ k ih =>
   intro i w F hi hF hc h;obtain⟨F,rfl⟩:∃G,F=G+1:=⟨F-1,by omega⟩
   have t0:decide ((i:Int)<(a.length:Int))=xZ:=Ac (by omega);have t1:decide ((digits i (C3 a-C3 b)).length+1<=G2)=xZ:=Ac (by rw[Er]; unfold G2; omega);rw[Bq.minus.B8,B9,t0,ha,hb,t1];simp only[Aa];rw[GF ia,GF ib];have ih:=ih (i+1);rw[JO,A0 4294967296,<- A9,<- A9,<- A9,I4] at ih;generalize C3 a / 2^(32*i)=x at *
   generalize C3 b / 2^(32*i)=y at *
   generalize (C3 a-C3 b) / 2^(32*i)=z at *
   have e1:BV (BV (BV ((4294967296:Int)+((x%4294967296:Nat):Int))-((y%4294967296:Nat):Int))-(w:Int))=((4294967296+x%4294967296-y%4294967296-w:Nat):Int):=by rw[Dr (x:=(4294967296:Int)+((x%4294967296:Nat):Int)) (by omega) (by omega),Dr (x:=(4294967296:Int)+((x%4294967296:Nat):Int)-((y%4294967296:Nat):Int)) (by omega) (by omega),Dr (by omega) (by omega)]; omega
   have e2:(4294967296+x%4294967296-y%4294967296-w)%4294967296=z%4294967296:=by omega
   have e3:BV ((1:Int)-(((4294967296+x%4294967296-y%4294967296-w) / 4294967296:Nat):Int))=((1-(4294967296+x%4294967296-y%4294967296-w) / 4294967296:Nat):Int):=by rw[Dr (by omega) (by omega)]; omega
   rw[e1,YD,HP,HQ,HL (by omega) (by omega),Dr (x:=(((4294967296+x%4294967296-y%4294967296-w) / 4294967296:Nat):Int)) (by omega) (by omega),Bz (by omega) (by omega),e2,e3];exact ih (1-(4294967296+x%4294967296-y%4294967296-w) / 4294967296) F (by omega) (by omega) (by omega) (by omega)
theorem Bq.minus.Bn:Kq 112 Bq.minus.Bt:=ED Bq.minus.E Tryz.func112 (kc Bq.KE.Bn .nil) fun a b hp=>by obtain⟨h1,hle⟩:=Bi.1 hp;obtain⟨ha,hb⟩:=Bi.1 h1;have hle:=Bv.1 hle;refine⟨a.length+1,.Bj (.own 100005 tW) .u32 (Ho a b),[100005],?_,WL⟩;rw[Bq.minus.ev];exact Aa5 _ ha hb a.length 0 0 _ (by omega) (by omega) (by omega) (by simp; omega)
theorem FK(v:Int):Qu (Bo v):=YE _
theorem Aez{v w:Int}(h:BG v=BG w):wv (BG v) (Ix (Bo v) (Bo w))=v+w:=by
 unfold wv;rw[Vw (FK _) (FK _),Eb,Eb];unfold BG at h ⊢;unfold GI;rw[decide_eq_decide] at h;by_cases hv:v<0
 ·have hw:=h.1 hv;rw[Ac hv,Az rfl]; omega
 ·have hw:¬w<0:=fun k=>hv (h.2 k)
  rw[Ag hv,Ay (by decide)]; omega
theorem Ab0{v w:Int}(h:BG v≠BG w)(hl:w.natAbs<=v.natAbs):wv (BG v) (Ho (Bo v) (Bo w))=v+w:=by
 unfold wv;rw[Aa7 _ (FK _),Eb,Eb];unfold BG at h ⊢;unfold GI;rw[ne_eq,decide_eq_decide] at h;by_cases hv:v<0
 ·have hw:¬w<0:=fun k=>h ⟨fun _=>k,fun _=>hv⟩
  rw[Ac hv,Az rfl]; omega
 ·have hw:w<0:=by
   rcases Int.lt_or_le w 0 with k | k
   ·exact k
   ·exact absurd ⟨fun k'=>absurd k' hv,fun k'=>by omega⟩ h
  rw[Ag hv,Ay (by decide)]; omega
theorem Bq.Add.Bn:Kq 48 Bq.Add.Bt:=ED Bq.Add.E Tryz.func48 (kc Bq.Made.Bn (kc Bq.Jt.Bn (kc Bq.minus.Bn (kc Bq.plus.Bn .nil)))) fun n a m b hp=>by
 obtain⟨h1,h2⟩:=Bi.1 hp;obtain⟨v,rfl,rfl,hv⟩:=Ia h1;obtain⟨w,rfl,rfl,hw⟩:=Ia h2;refine⟨0,Bq.Add.out [.b (BG v),.l (Bo v),.b (BG w),.l (Bo w)],[],?_,Wi⟩;have o1:GZ (Bo v)=xZ:=LN (by omega);have o2:GZ (Bo w)=xZ:=LN (by omega);rw[Bq.Add.ev,o1,o2,Ah,Aa];show _=xQ (DV.agg [.bool (BG (wv (BG v) (Bo v)+wv (BG w) (Bo w))),.Bj .arg .u32 (Bo (wv (BG v) (Bo v)+wv (BG w) (Bo w)))]);rw[EV,EV];by_cases hs:BG v=BG w
 ·have:(BG v==BG w)=xZ:=by simp[hs]
  have o3:GZ (Ix (Bo v) (Bo w))=xZ:=IF (by rw[Mj,CL,CL]; omega) (Tv _ _);rw[this,Aa,o3,Aa,Aez hs]
 ·have:(BG v==BG w)=x5:=by simp[hs]
  rw[this,Af,Aa,B9,Eb,Eb,AW,AW];by_cases hl:v.natAbs<w.natAbs
  ·have e:decide (Rs v.natAbs w.natAbs<0)=xZ:=Ac (by unfold Rs; rw[Az hl]; decide);have o3:GZ (Ho (Bo w) (Bo v))=xZ:=IF (by rw[ON,CL]; omega) (V5 _ _);have o4:leL (Bo v) (Bo w)=xZ:=Bv.2 (by rw[Eb,Eb]; omega);rw[e,Aa,o4,Aa,o3,Aa,Ab0 (fun k=>hs k.symm) (by omega),Int.add_comm]
  ·have e:decide (Rs v.natAbs w.natAbs<0)=x5:=Ag (by unfold Rs; rw[Ay hl]; split<;>decide);have o3:GZ (Ho (Bo v) (Bo w))=xZ:=IF (by rw[ON,CL]; omega) (V5 _ _);have o4:leL (Bo w) (Bo v)=xZ:=Bv.2 (by rw[Eb,Eb]; omega);rw[e,Af,o4,Aa,o3,Aa,Ab0 hs (by omega)]
end Go.Proofs.S1
end
