/- A verified evaluator of the program's form and its use for this seat: S1EqBits6, S1EqTimes, S1PTimes, S1PTimesA, S1EqVec, S1PVec, S1EqMat, S1PMat, S1EqCmp, S1PCmp, S1PDiv, S1EqRoot, S1PRoot, S1PRootA, LdxL, S1EqLdx, S1PLdx. -/
import Derived.Test.YtfpbkmeodcgcbaaGreatTE
import Derived.Test.YtfpbkmeodcgcbaaGreatTF
import Derived.Test.YtfpbkmeodcgcbaaGreatTI
import Derived.Test.YtfpbkmeodcgcbaaGreatTG
import Derived.Test.YtfpbkmeodcgcbaaGreatTH
set_option linter.unusedVariables false
set_option linter.unusedSimpArgs false
open Option renaming some->xM,none->xN
open Bool renaming true->wg,false->wy
open Int renaming toNat->wz
open List renaming length->vA,getD->vB
open Int renaming tdiv->zB,tmod->zH,natCast_add->yy,natCast_nonneg->xu
open Nat renaming log2_self_le->zS,lt_log2_self->yi,pow_succ->zG,mul_add->yc,mul_mul_mul_comm->xc,mul_right_comm->wX,div_lt_iff_lt_mul->yM,le_log2->zP,div_eq_of_lt->z8,zero_mul->zI,mod_lt->zv,mul_left_comm->yT,le_div_iff_mul_le->yU,mul_div_mul_right->x8,div_le_self->yE,lt_trans->y9,shiftLeft_eq->yN,mul_div_cancel->x9,eq_of_testBit_eq->wK,testBit_two_pow_mul_add->ug,testBit_two_pow->xY,testBit_lt_two_pow->wL
open Bool renaming and_false->xA,false_and->z6
open List renaming drop_eq_getElem_cons->yL,drop->zM,take->zC,mem_singleton->zh,length_drop->zW,length_take->zV,all_cons->z9
open BitVec renaming ofInt->zp,toNat_and->xC
noncomputable section
open Go.Proofs.Tryz
namespace Go.Proofs.S1
open Go Go.Den Go.CI Go.Proofs
set_option maxRecDepth 100000
def DE.CY.E:=E0 [(180,DE.Jk.Bk)]
theorem DE.CY.ev(N:Nat)(x:Int):BX DE.CY.E N f183 (Br f183) [.int .u64 x]=cond (Bo x) (xM (.int .i64 (Be ((64:Int)-(EK x))))) xN:=by kernel_rfl
def DE.Ko.E:=E0 []
theorem DE.Ko.ev(N:Nat)(x y:Int):BX DE.Ko.E N f172 (Br f172) [.int .u64 x,.int .u64 y]=xM (.Cw [.int .u64 (BQ ((BQ ((BQ ((D7 .u64 x 32)*(D7 .u64 y 32)))+(D7 .u64 (BQ ((BQ ((D7 .u64 x 32)*(ED .u64 y 4294967295)))+(D7 .u64 (BQ ((ED .u64 x 4294967295)*(ED .u64 y 4294967295))) 32))) 32)))+(D7 .u64 (BQ ((ED .u64 (BQ ((BQ ((D7 .u64 x 32)*(ED .u64 y 4294967295)))+(D7 .u64 (BQ ((ED .u64 x 4294967295)*(ED .u64 y 4294967295))) 32))) 4294967295)+(BQ ((ED .u64 x 4294967295)*(D7 .u64 y 32))))) 32))),.int .u64 (BQ (x*y))]):=by kernel_rfl
abbrev DE.Jk.Kn:Prop:=DR prog 180 DE.Jk.Bk
theorem DE.Jk.call:∀(args:Array Value) (w:World),(callFunc 180 args).run prog w=.ok (.enter 180 args) w:=Nm func180 (by kernel_rfl) (show f180.body=xM (Br f180) by kernel_rfl)
theorem DE.Jk.run(x:Int)(w:World)(h0:0<=x)(h1:x<=18446744073709551615):Calls prog 180 #[.int .u64 x] w fun e w'=>e=.returned (.int .i64 (Lib.bitLen x.toNat))/\w'=w:=Tryz.AbJ x w h0 h1
open Go Go.Den Go.CI Go.Proofs
set_option maxRecDepth 100000
def times.signed.E:=E0 [(142,soft.DO.Bk)]
theorem times.signed.ev(N:Nat)(b:Int)(n:Bool):BX times.signed.E N f170 (Br f170) [.int .u64 b,.bool n]=cond n (bif (Bo b) then xM (.int .u64 (CM b)) else xN) (xM (.int .u64 b)):=by kernel_rfl
def times.nan.E:=E0 [(133,soft.Kind.Bk)]
theorem times.nan.ev(N:Nat)(a b:Int):BX times.nan.E N f169 (Br f169) [.int .u64 a,.int .u64 b]=cond (Bo a) (bif ((B8 a)==(4:Int)) then xM (.bool wg) else bif (Bo b) then cond ((B8 b)==(4:Int)) (xM (.bool wg)) (xM (.bool wy)) else xN) xN:=by kernel_rfl
def times.norm.E:=E0 [(183,DE.CY.Bk),(162,soft.Fh.Bk)]
theorem times.norm.ev(N:Nat)(b:Int):BX times.norm.E N f171 (Br f171) [.int .u64 b]=cond (Bo b) (bif (Bo (Ci b)) then cond (decide (0<=(Be ((64-EK (Ci b))-11)))) (xM (.Cw [.int .u64 (Cr .u64 (Ci b) (Be ((64-EK (Ci b))-11))),.int .i64 (Be ((BO b)-(Be ((64-EK (Ci b))-11))))])) xN else xN) xN:=by kernel_rfl
def times.wide.hint:Nat->Option BH
 | 0=>xM { CH:=[0,1,2,3],BW:=[],Cf:=[] }
 | _=>xN
def times.wide.E:=CP (CC [(163,soft.DG.Bk)]) (fun _=>wy) times.wide.hint (fun _=>xN)
section
variable(N M:Nat)(n:Bool)(m e:Int)(r:Bool)(p1 p2:Int)(p3:Bool)
def times.wide.L0:Option DV:=BU times.wide.E N f173 (Br f173) [1,0,0] [] M ⟨EP 39 [(0,.bool n),(1,.int .u64 p1),(2,.int .i64 p2),(3,.bool p3)],[]⟩
theorem times.wide.B1:times.wide.L0 N (M+1) n p1 p2 p3=cond ((BI p2 (-1130:Int))&&(BI 1 p1)) (times.wide.L0 N M n (D7 .u64 p1 1) (Be (p2+1)) (cond p3 wg ((ED .u64 p1 1)==(1:Int)))) (bif (BI p2 (-1130:Int)) then cond (Ep 0 (-1074:Int) wg) (xM (.Cw [.int .u64 (EJ n 0 (-1074:Int) wg),.int .u8 (EI n 0 (-1074:Int) wg)])) xN else bif (Ep p1 p2 p3) then xM (.Cw [.int .u64 (EJ n p1 p2 p3),.int .u8 (EI n p1 p2 p3)]) else xN) :=Et (B4 (L8 (BI p2 (-1130:Int))) (B4 (Ka (BI p2 (-1130:Int))) (B4 (Pp (BI p2 (-1130:Int))) (C0 (tt1 _ _) (B4 (O1 p3) (B4 (Nx p3) (B4 (Nx p3) (B4 (SM p3) rfl)))) rfl))))
theorem times.wide.ev:BX times.wide.E N f173 (Br f173) [.bool n,.int .u64 m,.int .i64 e,.bool r]=
 times.wide.L0 N N n m e r:=by kernel_rfl
end
def times.Mul.E:=E0 [(172,DE.Ko.Bk),(133,soft.Kind.Bk),(159,soft.Sign.Bk),(169,times.nan.Bk),(171,times.norm.Bk),(170,times.signed.Bk),(173,times.wide.Bk)]
theorem times.Mul.ev(N:Nat)(a b:Int):BX times.Mul.E N f141 (Br f141) [.int .u64 a,.int .u64 b]=cond (Bo a) (bif (Bo b) then cond (Bo a) (bif (Bo b) then cond (Bo a&&Bo b) (bif (AgS a b) then xM (.Cw [.int .u64 9221120237041090560,.int .u8 0]) else bif ((((B8 a)==(3:Int))&&((B8 b)==(0:Int)))||(((B8 a)==(0:Int))&&((B8 b)==(3:Int)))) then xM (.Cw [.int .u64 9221120237041090560,.int .u8 16]) else bif (((B8 a)==(3:Int))||((B8 b)==(3:Int))) then cond (Bo 9218868437227405312) (xM (.Cw [.int .u64 (Pq (!((DI a)==(DI b))) 9218868437227405312),.int .u8 0])) xN else bif (((B8 a)==(0:Int))||((B8 b)==(0:Int))) then cond (Bo 0) (xM (.Cw [.int .u64 (Pq (!((DI a)==(DI b))) 0),.int .u8 0])) xN else bif (Bo a&&K3 a) then cond (Bo b&&K3 b) (bif (Bo (Dj a)&&Bo (Dj b)) then cond (MG (Ht .u64 (Cr .u64 (Pv (Dj a) (Dj b)) 20) (D7 .u64 (LJ (Dj a) (Dj b)) 44)) (Be ((Be ((GK a)+(GK b)))+44))) (xM (.Cw [.int .u64 (EJ (!((DI a)==(DI b))) (Ht .u64 (Cr .u64 (Pv (Dj a) (Dj b)) 20) (D7 .u64 (LJ (Dj a) (Dj b)) 44)) (Be ((Be ((GK a)+(GK b)))+44)) ((Cr .u64 (LJ (Dj a) (Dj b)) 20) !=(0:Int))),.int .u8 (EI (!((DI a)==(DI b))) (Ht .u64 (Cr .u64 (Pv (Dj a) (Dj b)) 20) (D7 .u64 (LJ (Dj a) (Dj b)) 44)) (Be ((Be ((GK a)+(GK b)))+44)) ((Cr .u64 (LJ (Dj a) (Dj b)) 20) !=(0:Int)))])) xN else xN) xN else xN) xN else xN) xN else xN) xN :=Et (DJ (DJ (DJ (DJ (DJ (DJ rfl (B4 (L8 ((B8 a)==(3:Int))) (B4 (Ka ((B8 a)==(3:Int))) (B4 (Pp ((B8 a)==(3:Int))) (B4 (AmX ((B8 a)==(3:Int)) ((B8 b)==(0:Int))) (B4 (AiS ((B8 a)==(3:Int)) ((B8 b)==(0:Int))) (B4 (AiS ((B8 a)==(3:Int)) ((B8 b)==(0:Int))) (B4 (AmY ((B8 a)==(3:Int)) ((B8 b)==(0:Int)) ((B8 a)==(0:Int))) (B4 (AmZ ((B8 a)==(3:Int)) ((B8 b)==(0:Int)) ((B8 a)==(0:Int))) (B4 (Ana ((B8 a)==(3:Int)) ((B8 b)==(0:Int)) ((B8 a)==(0:Int))) (B4 (Anb ((B8 a)==(3:Int)) ((B8 b)==(0:Int))) (C0 (Anc _ _ _ _) rfl (B4 (O1 ((B8 a)==(3:Int))) (B4 (Nx ((B8 a)==(3:Int))) (B4 (SM ((B8 a)==(3:Int))) (C0 (tt5 _ _) rfl (B4 (O1 ((B8 a)==(0:Int))) (B4 (Nx ((B8 a)==(0:Int))) (B4 (SM ((B8 a)==(0:Int))) (C0 (tt5 _ _) rfl rfl)))))))))))))))))))) rfl) rfl) rfl) rfl) rfl)
def times.Div.hint:Nat->Option BH
 | 1=>xM { CH:=[6,10,11,12,13,14,78],BW:=[],Cf:=[] }
 | _=>xN
def times.Div.E:=CP (CC [(133,soft.Kind.Bk),(159,soft.Sign.Bk),(169,times.nan.Bk),(171,times.norm.Bk),(170,times.signed.Bk),(173,times.wide.Bk)]) (fun _=>wy) times.Div.hint (fun _=>xN)
section
variable(N M:Nat)(a b p13 p14 p78:Int)
def times.Div.L0:Option DV:=BU times.Div.E N f166 (Br f166) [1,1,1,1,1,1,1,0,1,0] [] M ⟨EP 104 [(6,.bool (!((DI a)==(DI b)))),(10,.int .i64 (GK a)),(11,.int .u64 (Dj b)),(12,.int .i64 (GK b)),(13,.int .u64 p13),(14,.int .u64 p14),(78,.int .i64 p78)],[]⟩
theorem times.Div.B1:times.Div.L0 N (M+1) a b p13 p14 p78=cond (BI p78 61) (bif (Eu (Dj b) (Cr .u64 p14 1)) then times.Div.L0 N M a b (Ht .u64 (Cr .u64 p13 1) 1) (BQ ((Cr .u64 p14 1)-(Dj b))) (Be (p78+1)) else times.Div.L0 N M a b (Cr .u64 p13 1) (Cr .u64 p14 1) (Be (p78+1))) (bif (MG p13 (Be ((Be ((GK a)-(GK b)))-61))) then xM (.Cw [.int .u64 (EJ (!((DI a)==(DI b))) p13 (Be ((Be ((GK a)-(GK b)))-61)) (p14 !=(0:Int))),.int .u8 (EI (!((DI a)==(DI b))) p13 (Be ((Be ((GK a)-(GK b)))-61)) (p14 !=(0:Int)))]) else xN):=by kernel_rfl
theorem times.Div.ev:BX times.Div.E N f166 (Br f166) [.int .u64 a,.int .u64 b]=cond (Bo a) (bif (Bo b) then cond (Bo a) (bif (Bo b) then cond (Bo a&&Bo b) (bif (AgS a b) then xM (.Cw [.int .u64 9221120237041090560,.int .u8 0]) else bif ((((B8 a)==(3:Int))&&((B8 b)==(3:Int)))||(((B8 a)==(0:Int))&&((B8 b)==(0:Int)))) then xM (.Cw [.int .u64 9221120237041090560,.int .u8 16]) else bif ((B8 a)==(3:Int)) then cond (Bo 9218868437227405312) (xM (.Cw [.int .u64 (Pq (!((DI a)==(DI b))) 9218868437227405312),.int .u8 0])) xN else bif (((B8 b)==(3:Int))||((B8 a)==(0:Int))) then cond (Bo 0) (xM (.Cw [.int .u64 (Pq (!((DI a)==(DI b))) 0),.int .u8 0])) xN else bif ((B8 b)==(0:Int)) then cond (Bo 9218868437227405312) (xM (.Cw [.int .u64 (Pq (!((DI a)==(DI b))) 9218868437227405312),.int .u8 8])) xN else bif (Bo a&&K3 a) then cond (Bo b&&K3 b) (bif ((Dj b) !=0) then cond ((Dj b) !=0) (times.Div.L0 N N a b (BQ (zB (Dj a) (Dj b))) (zH (Dj a) (Dj b)) (0:Int)) xN else xN) xN else xN) xN else xN) xN else xN) xN :=Et (DJ (DJ (DJ (DJ (DJ (DJ rfl (B4 (L8 ((B8 a)==(3:Int))) (B4 (Ka ((B8 a)==(3:Int))) (B4 (Pp ((B8 a)==(3:Int))) (B4 (AmX ((B8 a)==(3:Int)) ((B8 b)==(3:Int))) (B4 (AiS ((B8 a)==(3:Int)) ((B8 b)==(3:Int))) (B4 (AiS ((B8 a)==(3:Int)) ((B8 b)==(3:Int))) (B4 (AmY ((B8 a)==(3:Int)) ((B8 b)==(3:Int)) ((B8 a)==(0:Int))) (B4 (AmZ ((B8 a)==(3:Int)) ((B8 b)==(3:Int)) ((B8 a)==(0:Int))) (B4 (Ana ((B8 a)==(3:Int)) ((B8 b)==(3:Int)) ((B8 a)==(0:Int))) (B4 (Anb ((B8 a)==(3:Int)) ((B8 b)==(3:Int))) (C0 (Anc _ _ _ _) rfl (DJ rfl (B4 (O1 ((B8 b)==(3:Int))) (B4 (Nx ((B8 b)==(3:Int))) (B4 (SM ((B8 b)==(3:Int))) (C0 (tt5 _ _) rfl (DJ rfl (DJ (DJ (C0 (Cp _) (C0 (Cp _) rfl rfl) rfl) rfl) rfl))))))))))))))))))) rfl) rfl) rfl) rfl) rfl)
end
theorem ZU{n:Nat}(h0:n≠0)(h:n<2^64):Go.Lib.bitLen n=n.log2+1:=by
 have h1:=zS h0;have h2:=yi (n:=n);have hp:=Cs n.log2
 have e:n / 2^n.log2=1:=by rw[zG] at h2;exact Nat.div_eq_of_lt_le (by omega) (by omega)
 have e1:Go.Lib.bitLen 1=1:=by decide
 rw[Go.Lib.bitLen_shift n.log2 n h1 h,e,e1]
theorem DE.Jk.Bi:DE.Jk.Kn:=by
 refine⟨?_,DE.Jk.call⟩;intro args ha;simp only[DE.Jk.Bk,B9] at ha ⊢;cases hd:KB [.i .u64] args with
 | none=>rw[hd] at ha; cases ha
 | some ats =>
   rw[hd] at ha;simp only at ha ⊢;obtain⟨ds,h1,h2⟩:=KA hd;obtain⟨x,_,_,rfl,rfl,he⟩:=h1.Ah7;obtain⟨rfl,rfl⟩:=he.Ta;obtain⟨n,rfl,hn⟩:=BR (x:=x) ha;refine Mh.args ?_ h2;intro w vals I hI hv;obtain⟨u,us,e1,e2,e3⟩:=hv;simp only[Bz] at e2;have e3:us=[]:=e3;subst e2 e3;have e4:vals=#[.int .u64 (n:Int)]:=Array.ext' e1;subst e4;refine(DE.Jk.run n w (by omega) (by omega)).mono ?_
   rintro e w' ⟨rfl,rfl⟩
   refine⟨_,fun _=>xN,rfl,Go.RowKit.Below.refl _ _,⟨fun i b h=>(by cases h),fun i j b h=>(by cases h)⟩,?_⟩;show Bz _ _ (DV.int .i64 (EK n)) _;simp only[Bz];congr 1;unfold EK;rw[Ad];by_cases h0:n=0
   ·subst h0; rfl
   ·rw[ZU h0 hn,Ay (by omega)]; rfl
theorem Ahz{n:Nat}(hn:n<2^64):0<=EK n/\EK n<=64:=by
 unfold EK;rw[Ad];by_cases h0:n=0
 ·subst h0; decide
 ·have:=(AV h0).2 hn;rw[Ay (by omega)]; omega
theorem DE.CY.Bi:Kq 183 DE.CY.Bk:=D6 DE.CY.E Tryz.func183 (kc DE.Jk.Bi .nil) fun x hp=>by obtain⟨n,rfl,hn⟩:=BR (x:=x) hp;have:=Ahz hn;refine⟨0,DE.CY.out [.i n],[],?_,.int⟩;rw[DE.CY.ev,Cq hn,Aa,Bq (by omega) (by omega)];rfl
theorem IJ{a b:Nat}(ha:a<4294967296)(hb:b<4294967296):a*b<=18446744065119617025 :=AL (A9 (show a<=4294967295 by omega) (show b<=4294967295 by omega)) (by decide)
theorem AgX(x y:Nat)(hx:x<2^64)(hy:y<2^64):
 x*y / 18446744073709551616=(x / 2^32)*(y / 2^32)+((x / 2^32)*(y%2^32)+(x%2^32)*(y%2^32) / 2^32) / 2^32 +
  (((x / 2^32)*(y%2^32)+(x%2^32)*(y%2^32) / 2^32)%2^32+(x%2^32)*(y / 2^32)) / 2^32:=by
 have ex:x=x / 2^32*4294967296+x%2^32:=by omega
 have ey:y=y / 2^32*4294967296+y%2^32:=by omega
 have ha:x / 2^32<4294967296:=by omega
 have hc:y / 2^32<4294967296:=by omega
 have hb:x%2^32<4294967296:=by omega
 have hd:y%2^32<4294967296:=by omega
 generalize x / 2^32=a at *
 generalize x%2^32=b at *
 generalize y / 2^32=c at *
 generalize y%2^32=d at *
 have e:x*y=a*c*18446744073709551616+(a*d+b*c)*4294967296+b*d:=by
  rw[ex,ey,AI,yc,yc]
  have e1:a*4294967296*(c*4294967296)=a*c*18446744073709551616:=by rw[xc]
  have e2:a*4294967296*d=a*d*4294967296:=wX _ _ _;have e3:b*(c*4294967296)=b*c*4294967296:=(A4 _ _ _).symm;rw[e1,e2,e3];omega
 have b1:=IJ ha hc;have b2:=IJ ha hd;have b3:=IJ hb hc;have b4:=IJ hb hd;rw[e];clear e ex ey;generalize a*c=p at *
 generalize a*d=q at *
 generalize b*c=r at *
 generalize b*d=s at *
 omega
theorem DE.Ko.Bi:Kq 172 DE.Ko.Bk:=D6 DE.Ko.E Tryz.func172 .nil fun x y hp=>by
 obtain⟨h1,h2⟩:=Bf.1 hp;obtain⟨x,rfl,hx⟩:=BR h1;obtain⟨y,rfl,hy⟩:=BR h2;refine⟨0,DE.Ko.out [.i x,.i y],[],?_,Wk.Gx (.cons .int (.cons .int .nil))⟩;show _=xM (DV.Cw [.int .u64 (Pv x y),.int .u64 (LJ x y)]);have s32:∀n:Nat,D7 .u64 (n:Int) (32:Int)=((n / 2^32:Nat):Int):=fun n=>Hd .u64 n 32 (by decide)
 have m32:∀n:Nat,n<2^64->ED .u64 (n:Int) (4294967295:Int)=((n%2^32:Nat):Int):=fun n hn=>HO 32 hn (by decide)
 have ha:x / 2^32<4294967296:=by omega
 have hc:y / 2^32<4294967296:=by omega
 have hb:x%2^32<4294967296:=by omega
 have hd:y%2^32<4294967296:=by omega
 have b1:=IJ ha hc;have b2:=IJ ha hd;have b3:=IJ hb hc;have b4:=IJ hb hd;have hhi:=AgX x y hx hy;have wn:∀n:Nat,n<2^64->BQ (n:Int)=n:=fun n hn=>Di (by omega) (by omega)
 have hlt:x*y / 18446744073709551616<2^64:=by rw[yM (by decide)];have:=A9 (show x<=18446744073709551615 by omega) (show y<=18446744073709551615 by omega);omega
 rw[DE.Ko.ev];simp only[s32,m32 x hx,m32 y hy];generalize hA:x / 2^32=a at *
 generalize hB:x%2^32=b at *
 generalize hC:y / 2^32=c at *
 generalize hD:y%2^32=d at *
 simp only[<- Ax];rw[wn (a*c) (by omega),wn (a*d) (by omega),wn (b*c) (by omega),wn (b*d) (by omega),s32];simp only[<- yy];rw[wn (a*d+b*d / 2^32) (by omega),s32,m32 _ (by omega)];simp only[<- yy];rw[wn (a*c+(a*d+b*d / 2^32) / 2^32) (by omega),wn _ (by omega),s32];simp only[<- yy];rw[<- hhi,wn _ hlt];unfold Pv LJ;rw[Ad,Ad,Mk];congr 3
theorem times.signed.Bi:Kq 170 times.signed.Bk:=D6 times.signed.E Tryz.func170 (kc soft.DO.Bi .nil) fun b n hp=>by have hp:Bo b=wg:=hp;refine⟨0,times.signed.out [.i b,.b n],[],?_,.int⟩;rw[times.signed.ev,hp];cases n<;>rfl
theorem times.nan.Bi:Kq 169 times.nan.Bk:=D6 times.nan.E Tryz.func169 (kc soft.Kind.Bi .nil) fun a b hp=>by
 obtain⟨ha,hb⟩:=Bf.1 hp;refine⟨0,times.nan.out [.i a,.i b],[],?_,.bool⟩;rw[times.nan.ev,ha,hb,Aa,Aa];show _=xM (DV.bool (decide (B8 a=4)||decide (B8 b=4)));by_cases h1:B8 a=4
 ·rw[h1]; rfl
 ·have e1:(B8 a==(4:Int))=wy:=by simp; exact h1
  rw[e1,Ag h1,Af];by_cases h2:B8 b=4
  ·rw[h2]; rfl
  ·have e2:(B8 b==(4:Int))=wy:=by simp; exact h2
   rw[e2,Ag h2]; rfl
theorem Mv{n:Nat}(h:Bs n≠0):(Bs n).log2<=52/\2^52<=Bs n*2^C1 n/\Bs n*2^C1 n<2^53/\C1 n<=52:=by
 have h1:=E1 n;have h2:(Bs n).log2<53:=(AV h).2 (by omega);have hz:=JP (Bs n) (C1 n) h;have hne:Bs n*2^C1 n≠0:=GO h;have hl:(Bs n*2^C1 n).log2=52:=by rw[hz]; unfold C1; omega
 refine⟨by omega,?_,?_,by unfold C1; omega⟩
 ·rw[<- zP hne]; omega
 ·rw[<- AV hne]; omega
theorem times.norm.Bi:Kq 171 times.norm.Bk:=D6 times.norm.E Tryz.func171 (kc DE.CY.Bi (kc soft.Fh.Bi .nil)) fun b hp=>by
 obtain⟨h1,h2⟩:=Bf.1 hp;obtain⟨n,rfl,hn⟩:=BR h1;have h2:Bs n≠0:=Bt.1 h2;obtain⟨l1,l2,l3,l4⟩:=Mv h2;have hM:=E1 n;have hE:=C4 n;refine⟨0,times.norm.out [.i n],[],?_,Wk.Gx (.cons .int (.cons .int .nil))⟩;show _=xM (DV.Cw [.int .u64 (Dj n),.int .i64 (GK n)]);have e1:Ci (n:Int)=(Bs n:Int):=rfl;have e2:BO (n:Int)=By n:=rfl
 have e3:EK (Bs n:Int)=((Bs n).log2:Int)+1:=by unfold EK;rw[Ay (by omega),Ad]
 have e4:Be ((64-(((Bs n).log2:Int)+1))-(11:Int))=((C1 n:Nat):Int):=by rw[Bq (by omega) (by omega)]; unfold C1; omega
 rw[times.norm.ev,Cq hn,e1,e2,Cq (n:=Bs n) (by omega),e3,e4,Ff _ _ (by omega),Ao (by omega),Bq (by omega) (by omega),Ac (by omega)];rfl
theorem AdA{V t:Nat}{E:Int}(h0:V≠0)(h:V<2^t)(hE:E+t<=-1075):Cj V E=0/\flagsOf V E=3:=by
 have hl:V.log2<t:=(AV h0).2 h;have hL:Cl V E=-1074:=by unfold Cl; omega
 obtain⟨k,hk⟩:∃k:Nat,(-1074-E).toNat=t+1+k:=⟨(-1074-E).toNat-t-1,by omega⟩
 have hp:2^(t+1)<=2^(t+1+k):=Aq (by decide) (by omega);have ht:2^(t+1)=2*2^t:=by rw[zG]; omega
 have e2:(-(-1074-E)).toNat=0:=by omega
 have hr:HR V (-1074-E)=0:=by unfold HR HH;rw[e2,hk,AB,AN,z8 (by omega),Ao (by omega),Ay (by omega)]
 have hru:Cj V E=0:=by unfold Cj kept;rw[Ay h0,hL,hr];simp
 refine⟨hru,?_⟩;unfold flagsOf exact KQ;rw[Ay h0,hru,hL,e2,hk,AB,AN,Ao (by omega),Ag h0];decide
theorem Aes(n:Bool){m:Nat}{e:Int}(r:Bool)(hm:1<m)(he:e < -1130):FY n (m / 2) (e+1) (r||decide (m%2=1))=FY n m e r:=by
 have e1:(4*m+r.toNat) / 2^3=m / 2:=by cases r<;>simp<;>omega
 have e2:(r||decide (m%2=1))=decide ((4*m+r.toNat)%2^3≠0):=by
  rw[Ar];cases r
  ·simp; omega
  ·simp; omega
 have:=Q9 n (V:=4*m+r.toNat) (k:=3) (E:=e-2) (e:=e+1) (s:=r||decide (m%2=1)) (by omega) e2 (by omega) (.inr (by omega));rw[e1] at this;exact this
theorem Q8(n:Bool){e:Int}(r:Bool)(he:e < -1130):FY n 1 e r=FY n 0 (-1074) wg:=by
 have h1:r.toNat<=1:=by cases r<;>decide
 obtain⟨a1,a2⟩:=AdA (V:=4*1+r.toNat) (t:=3) (E:=e-2) (by omega) (by omega) (by omega);obtain⟨b1,b2⟩:=AdA (V:=4*0+true.toNat) (t:=1) (E:=-1074-2) (by decide) (by decide) (by decide);unfold FY;rw[a1,a2,b1,b2]
theorem Ad2(N:Nat)(n:Bool):∀(k m:Nat) (e:Int) (r:Bool),1<=m->m<2^62->m<=2^k->-7000<=e->e<=6000->(2^60<=m\/e<=-1130) ->
 times.wide.L0 N (k+1) n (m:Int) e r=xM (.Cw [.int .u64 (((FY n m e r).1:Nat):Int),.int .u8 (((FY n m e r).2:Nat):Int)]):=by
 intro k
 induction k with
 | zero =>
   intro m e r h1 h2 h3 h4 h5 h6;have hm:m=1:=by simp at h3; omega
   subst hm;rw[times.wide.B1,Bw,Bw];have c1:decide ((1:Int)<((1:Nat):Int))=wy:=by decide
   rw[c1,xA,Af];by_cases he:e < -1130
   ·have hp:Ep (0:Int) (-1074:Int) wg=wg:=Bt.2 (by omega);rw[Ac he,Aa,hp,Aa,Q8 n r he];rfl
   ·have he:e=-1130:=by omega
    subst he;have hp:Ep ((1:Nat):Int) (-1130:Int) r=wg:=Bt.2 (by omega);rw[Ag (by omega),Af,hp,Aa];rfl
 | succ k ih =>
   intro m e r h1 h2 h3 h4 h5 h6;rw[times.wide.B1,Bw,Bw];by_cases he:e < -1130
   ·by_cases hm:1<m
    ·have c1:decide ((1:Int)<(m:Int))=wg:=Ac (by omega);have e1:D7 .u64 (m:Int) (1:Int)=((m / 2:Nat):Int):=Hd .u64 m 1 (by decide);have e2:ED .u64 (m:Int) (1:Int)=((m%2:Nat):Int):=HO (a:=m) 1 (by omega) (by decide)
     have e3:(cond r wg ((ED .u64 (m:Int) (1:Int))==(1:Int)))=(r||decide (m%2=1)):=by
      rw[e2];cases r
      ·rw[Ar]; simp; omega
      ·rfl
     rw[Ac he,c1,Ah,Aa,e1,e3,Bq (by omega) (by omega)];have hk:m / 2<=2^k:=by rw[zG] at h3; omega
     rw[ih (m / 2) (e+1) _ (by omega) (by omega) hk (by omega) (by omega) (.inr (by omega)),Aes n r hm he]
    ·have hm:m=1:=by omega
     subst hm;have c1:decide ((1:Int)<((1:Nat):Int))=wy:=by decide
     have hp:Ep (0:Int) (-1074:Int) wg=wg:=Bt.2 (by omega);rw[c1,xA,Af,Ac he,Aa,hp,Aa,Q8 n r he];rfl
   ·have hp:Ep (m:Int) e r=wg:=Bt.2 ⟨by omega,by omega,by omega,.inl (by omega),fun _=>by omega⟩;rw[Ag he,z6,Af,Af,hp,Aa];rfl
theorem times.wide.Bi:Kq 173 times.wide.Bk:=D6 times.wide.E Tryz.func173 (kc soft.DG.Bi .nil) fun n m e r hp=>by
 obtain⟨h1,h2,h3,h4⟩:=Bt.1 (show MG m e=wg from hp);obtain⟨m,rfl⟩:∃k:Nat,m=k:=⟨m.toNat,by omega⟩
 refine⟨63,times.wide.out [.b n,.i m,.i e,.b r],[],?_,Wk.Gx (.cons .int (.cons .int .nil))⟩;rw[times.wide.ev,Ad2 63 n 62 m e r (by omega) (by omega) (by omega) (by omega) (by omega) (.inl (by omega))];rfl
theorem Mq{b:Nat}(h0:Bj b≠0)(h3:Bj b≠3)(h4:Bj b≠4):Bs b≠0:=by
 have:=HI b;unfold Bj at h0 h3 h4;unfold Bs;by_cases h1:Dn b=2047
 ·rw[Az h1] at h3 h4;by_cases h2:CL b=0
  ·rw[Az h2] at h3; exact absurd rfl h3
  ·rw[Ay h2] at h4; exact absurd rfl h4
 ·rw[Ay h1] at h0;by_cases h2:0<Dn b
  ·rw[Ay (by omega)]; omega
  ·rw[Ay h2] at h0;by_cases h5:0<CL b
   ·rw[Az (by omega)]; omega
   ·rw[Ay h5] at h0; exact absurd rfl h0
theorem RE{b:Nat}(h0:Bj b=0):Bs b=0:=by
 unfold Bj at h0;unfold Bs;by_cases h1:Dn b=2047
 ·rw[Az h1] at h0; split at h0<;>omega
 ·rw[Ay h1] at h0;by_cases h2:0<Dn b
  ·rw[Az h2] at h0; omega
  ·rw[Ay h2] at h0;by_cases h5:0<CL b
   ·rw[Az h5] at h0; omega
   ·rw[Az (by omega)]; omega
theorem Aba{x y:Nat}(hx1:2^52<=x)(hx2:x<2^53)(hy1:2^52<=y)(hy2:y<2^53):2^104<=x*y/\x*y<2^106:=by have h1:=A9 hx1 hy1;have h2:x*y<2^53*2^53:=Nat.mul_lt_mul'' hx2 hy2;exact⟨AL (by decide) h1,AP h2 (by decide)⟩
theorem Ajw{V:Nat}(h:V<2^106):Ht .u64 (Cr .u64 ((V / 18446744073709551616:Nat):Int) (20:Int)) (D7 .u64 ((V%18446744073709551616:Nat):Int) (44:Int))=((V / 2^44:Nat):Int):=by have e1:Cr .u64 ((V / 18446744073709551616:Nat):Int) (20:Int)=((V / 18446744073709551616*2^20%2^64:Nat):Int):=Ff _ 20 (by decide);have e2:D7 .u64 ((V%18446744073709551616:Nat):Int) (44:Int)=((V%18446744073709551616 / 2^44:Nat):Int):=Hd .u64 _ 44 (by decide);rw[e1,e2,Ao (by omega),Lm (k:=20) (by omega) (by omega)];congr 1;omega
theorem Ajv{V:Nat}:((Cr .u64 ((V%18446744073709551616:Nat):Int) (20:Int)) !=(0:Int))=decide (V%2^44≠0):=by have e1:Cr .u64 ((V%18446744073709551616:Nat):Int) (20:Int)=((V%18446744073709551616*2^20%2^64:Nat):Int):=Ff _ 20 (by decide);rw[e1,Ar];simp only[bne_iff_ne,ne_eq,Ai];omega
theorem X8(s t:Bool):(!(s==t))=(s !=t):=rfl
theorem w53{x:Nat}(h:x<2^53):Bo (x:Int)=wg:=Cq (by omega)
theorem Aj3(n:Bool){a b:Nat}(ha:Bs a≠0)(hb:Bs b≠0):
 (bif (Bo (Dj a)&&Bo (Dj b)) then
  bif (MG (Ht .u64 (Cr .u64 (Pv (Dj a) (Dj b)) (20:Int)) (D7 .u64 (LJ (Dj a) (Dj b)) (44:Int))) (Be ((Be ((GK a)+(GK b)))+(44:Int)))) then
   xM (DV.Cw [.int .u64 (EJ n (Ht .u64 (Cr .u64 (Pv (Dj a) (Dj b)) (20:Int)) (D7 .u64 (LJ (Dj a) (Dj b)) (44:Int))) (Be ((Be ((GK a)+(GK b)))+(44:Int))) ((Cr .u64 (LJ (Dj a) (Dj b)) (20:Int)) !=(0:Int))),.int .u8 (EI n (Ht .u64 (Cr .u64 (Pv (Dj a) (Dj b)) (20:Int)) (D7 .u64 (LJ (Dj a) (Dj b)) (44:Int))) (Be ((Be ((GK a)+(GK b)))+(44:Int))) ((Cr .u64 (LJ (Dj a) (Dj b)) (20:Int)) !=(0:Int)))])
  else xN
 else xN)=xM (.Cw [.int .u64 ((BG n (Cj (Bs a*Bs b) (By a+By b)):Nat):Int),.int .u8 ((flagsOf (Bs a*Bs b) (By a+By b):Nat):Int)]):=by
 obtain⟨a1,a2,a3,a4⟩:=Mv ha;obtain⟨b1,b2,b3,b4⟩:=Mv hb;have ea:=C4 a;have eb:=C4 b;have ma:Dj (a:Int)=((Bs a*2^C1 a:Nat):Int):=rfl;have mb:Dj (b:Int)=((Bs b*2^C1 b:Nat):Int):=rfl;have na:GK (a:Int)=By a-C1 a:=rfl;have nb:GK (b:Int)=By b-C1 b:=rfl;have hi:Pv (Dj a) (Dj b)=((Bs a*2^C1 a*(Bs b*2^C1 b) / 18446744073709551616:Nat):Int):=rfl;have lo:LJ (Dj a) (Dj b)=((Bs a*2^C1 a*(Bs b*2^C1 b)%18446744073709551616:Nat):Int):=rfl;rw[hi,lo,ma,mb,na,nb,w53 a3,w53 b3,Ah,Aa];obtain⟨v1,v2⟩:=Aba a2 a3 b2 b3
 have ev:Bs a*2^C1 a*(Bs b*2^C1 b)=Bs a*Bs b*2^(C1 a+C1 b):=by rw[xc,<- A2]
 obtain⟨s1,s2⟩:=CZ (Bs a*Bs b) (C1 a+C1 b) (By a+By b);rw[<- ev] at s1 s2;generalize Bs a*2^C1 a*(Bs b*2^C1 b)=V at *
 rw[Ajw v2,Ajv,Bq (x:=_+_) (by rw[Bq (by omega) (by omega)]; omega) (by rw[Bq (by omega) (by omega)]; omega),Bq (by omega) (by omega)];have hw:MG ((V / 2^44:Nat):Int) (By a-C1 a+(By b-C1 b)+44)=wg:=Bt.2 ⟨by omega,by omega,by omega,by omega⟩;rw[hw,Aa];unfold EJ EI;rw[Ad,Q9 n (V:=V) (k:=44) (E:=By a+By b-((C1 a+C1 b:Nat):Int)) (e:=By a-C1 a+(By b-C1 b)+44) (s:=decide (V%2^44≠0)) (by omega) rfl (by omega) (.inl (by omega)),s1,s2]
theorem kq(b k:Nat):(((Bj b:Nat):Int)==((k:Nat):Int))=decide (Bj b=k):=by rw[Ar]; simp only[beq_iff_eq,Ai]; omega
theorem VE(n:Bool){r:Nat}(h:r<2^63):Pq n (r:Int)=((BG n r:Nat):Int):=by
 unfold Pq BG CM;cases n
 ·rfl
 ·simp only[if_true];rw[Ad,PL h]
theorem Zz(n:Bool):Pq n (9218868437227405312:Int)=((BG n Dk:Nat):Int):=VE n (r:=Dk) (by decide)
theorem Vy(n:Bool):Pq n (0:Int)=((BG n 0:Nat):Int):=VE n (r:=0) (by decide)
theorem OP(b:Nat):B8 (b:Int)=((Bj b:Nat):Int):=rfl
theorem Ac8(a b:Nat):AgS (a:Int) (b:Int)=(decide (Bj a=4)||decide (Bj b=4)):=by unfold AgS B8;simp only[Ad];rw[Ar];simp only[Bool.or_eq_true,Ai];omega
theorem k3(b:Nat):(((Bj b:Nat):Int)==(3:Int))=decide (Bj b=3):=kq b 3
theorem k0(b:Nat):(((Bj b:Nat):Int)==(0:Int))=decide (Bj b=0):=kq b 0
theorem times.Mul.Bi:Kq 141 times.Mul.Bk:=D6 times.Mul.E Tryz.func141 (kc DE.Ko.Bi (kc soft.Kind.Bi (kc soft.Sign.Bi (kc times.nan.Bi (kc times.norm.Bi (kc times.signed.Bi (kc times.wide.Bi .nil))))))) fun a b hp=>by
 obtain⟨ha,hb⟩:=Bf.1 hp;obtain⟨a,rfl,hn⟩:=BR ha;obtain⟨b,rfl,hm⟩:=BR hb;refine⟨0,times.Mul.out [.i a,.i b],[],?_,Wk.Gx (.cons .int (.cons .int .nil))⟩;have i1:Bo (9218868437227405312:Int)=wg:=Cq (n:=9218868437227405312) (by decide);have i2:Bo (0:Int)=wg:=Cq (n:=0) (by decide);rw[times.Mul.ev,ha,hb,Ac8,OP,OP,k3,k3,k0,k0,i1,i2,Zz,Vy,X8];show _=xM (DV.Cw [.int .u64 (((EA a b).1:Nat):Int),.int .u8 (((EA a b).2:Nat):Int)]);have ea:DI (a:Int)=BE a:=rfl;have eb:DI (b:Int)=BE b:=rfl;rw[ea,eb];unfold EA;simp only[Ah,Aa];by_cases h4:Bj a=4\/Bj b=4
 ·have c4:(decide (Bj a=4)||decide (Bj b=4))=wg:=by simp; exact h4
  rw[Az h4,c4,Aa]; rfl
 ·have c4:(decide (Bj a=4)||decide (Bj b=4))=wy:=by simp; omega
  rw[Ay h4,c4,Af];by_cases h3:Bj a=3\/Bj b=3
  ·rw[Az h3];by_cases h0:Bj a=0\/Bj b=0
   ·have c0:(decide (Bj a=3)&&decide (Bj b=0)||decide (Bj a=0)&&decide (Bj b=3))=wg:=by simp; omega
    rw[Az h0,c0,Aa]; rfl
   ·have c0:(decide (Bj a=3)&&decide (Bj b=0)||decide (Bj a=0)&&decide (Bj b=3))=wy:=by simp; omega
    have c3:(decide (Bj a=3)||decide (Bj b=3))=wg:=by simp; omega
    rw[Ay h0,c0,Af,c3,Aa]; rfl
  ·have c0:(decide (Bj a=3)&&decide (Bj b=0)||decide (Bj a=0)&&decide (Bj b=3))=wy:=by simp; omega
   have c3:(decide (Bj a=3)||decide (Bj b=3))=wy:=by simp; omega
   rw[Ay h3,c0,Af,c3,Af];by_cases h0:Bj a=0\/Bj b=0
   ·have c5:(decide (Bj a=0)||decide (Bj b=0))=wg:=by simp; exact h0
    have hz:Bs a*Bs b=0:=by
     rcases h0 with h | h
     ·rw[RE h,zI]
     ·rw[RE h,Nat.mul_zero]
    rw[c5,Aa,hz,Ju,Nc]; rfl
   ·have c5:(decide (Bj a=0)||decide (Bj b=0))=wy:=by simp; omega
    have pa:=Mq (b:=a) (by omega) (by omega) (by omega);have pb:=Mq (b:=b) (by omega) (by omega) (by omega);have na:K3 (a:Int)=wg:=Bt.2 pa;have nb:K3 (b:Int)=wg:=Bt.2 pb;rw[c5,Af,na,nb,Ah,Aa,Aa];exact Aj3 _ pa pb
theorem Aic(N:Nat){a b:Nat}{X Y:Nat}(hY:0<Y)(hY2:Y<2^53)(hX:X<2*Y)(em:Dj (b:Int)=(Y:Int)):∀(k i:Nat),k+i=61 ->
 times.Div.L0 N (k+1) a b ((X*2^i / Y:Nat):Int) ((X*2^i%Y:Nat):Int) (i:Int)=
  times.Div.L0 N 1 a b ((X*2^61 / Y:Nat):Int) ((X*2^61%Y:Nat):Int) (61:Int):=by
 intro k
 induction k with
 | zero =>
   intro i hi;have:i=61:=by omega
   subst this;rfl
 | succ k ih =>
   intro i hi
   have hq:X*2^i / Y<2^62:=by
    rw[yM hY];have h1:X*2^i<2*Y*2^i:=(Nat.mul_lt_mul_right (Cs i)).2 hX
    have h2:2*2^i<=2^62:=by rw[A1,<- zG]; exact Aq (by decide) (by omega)
    have h3:2*2^i*Y<=2^62*Y:=An _ h2;rw[wX] at h1;omega
   have hr:X*2^i%Y<Y:=zv _ hY;have hd:=Nat.div_add_mod (X*2^i) Y;have e2:X*2^(i+1)=X*2^i*2:=by rw[zG,A4]
   rw[times.Div.B1,Bw,DX,em,Ac (by omega),Aa]
   have s1:Cr .u64 ((X*2^i%Y:Nat):Int) (1:Int)=((X*2^i%Y*2:Nat):Int):=by have:=Ff (X*2^i%Y) 1 (by decide);rw[Ao (a:=X*2^i%Y*2^1) (by omega)] at this;exact this
   have s2:Cr .u64 ((X*2^i / Y:Nat):Int) (1:Int)=((X*2^i / Y*2^1:Nat):Int):=by have:=Ff (X*2^i / Y) 1 (by decide);rw[Ao (a:=X*2^i / Y*2^1) (by omega)] at this;exact this
   have s3:Ht .u64 ((X*2^i / Y*2^1:Nat):Int) (1:Int)=((X*2^i / Y*2^1+1:Nat):Int):=Lm (k:=1) (b:=1) (by decide) (by omega);have ei:Be ((i:Int)+1)=((i+1:Nat):Int):=by rw[Bq (by omega) (by omega)]; rfl
   rw[s1,s2,s3,ei];generalize hq':X*2^i / Y=q at *
   generalize hr':X*2^i%Y=r at *
   have step:∀c,X*2^i*2=Y*(2*q+c)+(2*r-c*Y)->c*Y<=2*r->2*r<c*Y+Y->X*2^(i+1) / Y=2*q+c/\X*2^(i+1)%Y=2*r-c*Y:=fun c h1 h2 h3=>by
    rw[e2,h1];constructor
    ·rw[Nat.mul_add_div hY,z8 (by omega)]; omega
    ·rw[Nat.mul_add_mod,Ao (by omega)]
   by_cases hc:Y<=r*2
   ·obtain⟨t1,t2⟩:=step 1 (by rw[yc,AN,yT]; omega) (by omega) (by omega);have:=ih (i+1) (by omega);rw[t1,t2] at this;rw[Ac (by omega),Aa,Di (by omega) (by omega)];have e3:((r*2:Nat):Int)-(Y:Int)=((2*r-1*Y:Nat):Int):=by omega
    have e4:q*2^1+1=2*q+1:=by omega
    rw[e3,e4];exact this
   ·obtain⟨t1,t2⟩:=step 0 (by rw[AM,yT]; omega) (by omega) (by omega);have:=ih (i+1) (by omega);rw[t1,t2] at this;rw[Ag (by omega),Af];have e3:r*2=2*r-0*Y:=by omega
    have e4:q*2^1=2*q+0:=by omega
    rw[e3,e4];exact this
theorem Ako{a b:Nat}(ha:Bs a≠0)(hb:Bs b≠0):
 times.Div.L0 62 62 a b (BQ (zB (Dj a) (Dj b))) (zH (Dj a) (Dj b)) (0:Int)=
  xM (.Cw [.int .u64 ((BG (BE a !=BE b) (Cj (Ey (Bs a) (Bs b) 120) (By a-By b-121)):Nat):Int),.int .u8 ((flagsOf (Ey (Bs a) (Bs b) 120) (By a-By b-121):Nat):Int)]):=by
 obtain⟨a1,a2,a3,a4⟩:=Mv ha;obtain⟨b1,b2,b3,b4⟩:=Mv hb;have ea:=C4 a;have eb:=C4 b;have ma:Dj (a:Int)=((Bs a*2^C1 a:Nat):Int):=rfl;have mb:Dj (b:Int)=((Bs b*2^C1 b:Nat):Int):=rfl;have na:GK (a:Int)=By a-C1 a:=rfl;have nb:GK (b:Int)=By b-C1 b:=rfl;have sL:=Aay (Bs a) (Bs b*2^C1 b) (C1 a) 61;have hpos:0<Bs b*2^C1 b:=by omega
 have hq1:2^53<=Bs a*2^C1 a*2^61 / (Bs b*2^C1 b):=by rw[yU hpos]; omega
 have hqq:2^60<=Bs a*2^C1 a*2^61 / (Bs b*2^C1 b):=by rw[yU hpos]; omega
 have hq2:Bs a*2^C1 a*2^61 / (Bs b*2^C1 b)<2^62:=by rw[yM hpos]; omega
 have hstick:Ey (Bs a*2^C1 a) (Bs b*2^C1 b) 61=Ey (Bs a) (Bs b) (61+C1 a-C1 b):=by
  rw[sL];have:61+C1 a=61+C1 a-C1 b+C1 b:=by omega
  conv=>lhs; rw[this]
  rw[Y7]
 have hge1:2^53<=Bs a*2^(61+C1 a-C1 b) / Bs b:=by
  have e1:Bs a*2^C1 a*2^61=Bs a*2^(61+C1 a-C1 b)*2^C1 b:=by rw[A4,<- A2,A4,<- A2];congr 2;omega
  rw[e1,x8 _ _ (Cs _)] at hq1;exact hq1
 have hge2:2^53<=Bs a*2^120 / Bs b:=Agy (t:=53) (by omega) (by omega) (by have:=E1 b; omega) (by omega);obtain⟨s1,s2⟩:=Tx (X:=Bs a) (Y:=Bs b) (K:=61+C1 a-C1 b) (L:=120) (E:=By a-C1 a-(By b-C1 b)-61-1) (F:=By a-By b-121) (by omega) hge1 hge2 (by omega)
 have d1:BQ (zB (Dj a) (Dj b))=((Bs a*2^C1 a*2^0 / (Bs b*2^C1 b):Nat):Int):=by rw[ma,mb,Ik,AB,AN];have h1:=yE (Bs a*2^C1 a) (Bs b*2^C1 b);have h2:Bs a*2^C1 a / (Bs b*2^C1 b)<2^64:=AG h1 (y9 a3 (by decide));generalize Bs a*2^C1 a / (Bs b*2^C1 b)=q at h2 ⊢;exact Di (xu q) (by omega)
 have d2:zH (Dj a) (Dj b)=((Bs a*2^C1 a*2^0%(Bs b*2^C1 b):Nat):Int):=by rw[ma,mb,Ij,AB,AN]
 rw[d1,d2];have lp:=Aic 62 (a:=a) (b:=b) hpos b3 (X:=Bs a*2^C1 a) (by omega) mb 61 0 (by omega);refine lp.trans ?_;rw[times.Div.B1,Bw,na,nb,Ag (by omega),Af]
 have we:Be (Be (By a-C1 a-(By b-C1 b))-61)=By a-C1 a-(By b-C1 b)-61:=by rw[Bq (x:=By a-C1 a-(By b-C1 b)) (by omega) (by omega),Bq (by omega) (by omega)]
 have hne:(((Bs a*2^C1 a*2^61%(Bs b*2^C1 b):Nat):Int) !=(0:Int))=decide (Bs a*2^C1 a*2^61%(Bs b*2^C1 b)≠0):=by rw[Ar]; simp only[bne_iff_ne,ne_eq,Ai]; omega
 rw[we,hne];have hw:MG ((Bs a*2^C1 a*2^61 / (Bs b*2^C1 b):Nat):Int) (By a-C1 a-(By b-C1 b)-61)=wg:=Bt.2 ⟨by omega,by omega,by omega,by omega⟩;have hn:DI (a:Int)=BE a:=rfl;have hn':DI (b:Int)=BE b:=rfl;rw[hw,Aa,X8,hn,hn'];unfold EJ EI;rw[Ad,Aeu _ rfl rfl hq1,hstick,s1,s2]
theorem times.Div.Bi:Kq 166 times.Div.Bk:=D6 times.Div.E Tryz.func166 (kc soft.Kind.Bi (kc soft.Sign.Bi (kc times.nan.Bi (kc times.norm.Bi (kc times.signed.Bi (kc times.wide.Bi .nil)))))) fun a b hp=>by
 obtain⟨ha,hb⟩:=Bf.1 hp;obtain⟨a,rfl,hn⟩:=BR ha;obtain⟨b,rfl,hm⟩:=BR hb;refine⟨62,times.Div.out [.i a,.i b],[],?_,Wk.Gx (.cons .int (.cons .int .nil))⟩;have i1:Bo (9218868437227405312:Int)=wg:=Cq (n:=9218868437227405312) (by decide);have i2:Bo (0:Int)=wg:=Cq (n:=0) (by decide);rw[times.Div.ev,ha,hb,Ac8,OP,OP,k3,k3,k0,k0,i1,i2,Zz,Vy,X8];show _=xM (DV.Cw [.int .u64 (((JW a b).1:Nat):Int),.int .u8 (((JW a b).2:Nat):Int)]);have ea:DI (a:Int)=BE a:=rfl;have eb:DI (b:Int)=BE b:=rfl;rw[ea,eb];unfold JW;rw[Ah,Aa,Aa,Aa,Aa,Aa];by_cases h4:Bj a=4\/Bj b=4
 ·have c4:(decide (Bj a=4)||decide (Bj b=4))=wg:=by simp; exact h4
  rw[Az h4,c4,Aa]; rfl
 ·have c4:(decide (Bj a=4)||decide (Bj b=4))=wy:=by simp; omega
  rw[Ay h4,c4,Af];by_cases h1:Bj a=Bj b/\(Bj a=3\/Bj a=0)
  ·have c1:(decide (Bj a=3)&&decide (Bj b=3)||decide (Bj a=0)&&decide (Bj b=0))=wg:=by simp; omega
   rw[Az h1,c1,Aa]; rfl
  ·have c1:(decide (Bj a=3)&&decide (Bj b=3)||decide (Bj a=0)&&decide (Bj b=0))=wy:=by simp; omega
   rw[Ay h1,c1,Af];by_cases h2:Bj a=3
   ·rw[Az h2,Ac h2,Aa]; rfl
   ·rw[Ay h2,Ag h2,Af];by_cases h3:Bj b=3\/Bj a=0
    ·have c3:(decide (Bj b=3)||decide (Bj a=0))=wg:=by simp; exact h3
     rw[Az h3,c3,Aa]; rfl
    ·have c3:(decide (Bj b=3)||decide (Bj a=0))=wy:=by simp; omega
     rw[Ay h3,c3,Af];by_cases h5:Bj b=0
     ·rw[Az h5,Ac h5,Aa]; rfl
     ·rw[Ay h5,Ag h5,Af];have pa:=Mq (b:=a) (by omega) (by omega) (by omega);have pb:=Mq (b:=b) (by omega) (by omega) (by omega);have na:K3 (a:Int)=wg:=Bt.2 pa;have nb:K3 (b:Int)=wg:=Bt.2 pb
      have hnb:(Dj (b:Int) !=0)=wg:=by obtain⟨_,l2,_,_⟩:=Mv pb;have mb:Dj (b:Int)=((Bs b*2^C1 b:Nat):Int):=rfl;rw[mb];simp only[bne_iff_ne,ne_eq];omega
      rw[na,nb,hnb,Ah,Aa,Aa,Aa,Aa,Ako pa pb]
def Bu.Add.E:=E0 [(140,sum.Add.Bk)]
theorem Bu.Add.ev(N:Nat)(a b:Int):BX Bu.Add.E N f114 (Br f114) [.int .u64 a,.int .u64 b]=cond (Bo a&&Bo b) (xM (.int .u64 (EN a b))) xN:=by kernel_rfl
def Bu.Sub.E:=E0 [(117,sum.Sub.Bk)]
theorem Bu.Sub.ev(N:Nat)(a b:Int):BX Bu.Sub.E N f64 (Br f64) [.int .u64 a,.int .u64 b]=cond (Bo a&&Bo b) (xM (.int .u64 (CA a b))) xN:=by kernel_rfl
def Bu.Mul.E:=E0 [(141,times.Mul.Bk)]
theorem Bu.Mul.ev(N:Nat)(a b:Int):BX Bu.Mul.E N f115 (Br f115) [.int .u64 a,.int .u64 b]=cond (Bo a&&Bo b) (xM (.int .u64 (CN a b))) xN:=by kernel_rfl
def Bu.fit.E:=E0 []
theorem Bu.fit.ev(N:Nat)(x y:Bb):BX Bu.fit.E N f113 (Br f113) [.Bh .arg .u64 x,.Bh .arg .u64 y]=xM (.bool (cond ((vA x:Int)==(vA y:Int)) (Eu (vA x:Int) 64) wy)) :=Et (B4 (L8 ((vA x:Int)==(vA y:Int))) (B4 (Ka ((vA x:Int)==(vA y:Int))) (B4 (Ka ((vA x:Int)==(vA y:Int))) (B4 (Pp ((vA x:Int)==(vA y:Int))) rfl))))
def Bu.FL.hint:Nat->Option BH
 | 0=>xM { CH:=[0,1,6,13,14],BW:=[],Cf:=[] }
 | _=>xN
def Bu.FL.E:=CP (CC [(114,Bu.Add.Bk),(115,Bu.Mul.Bk),(113,Bu.fit.Bk)]) (fun _=>wy) Bu.FL.hint (fun _=>xN)
section
variable(N M:Nat)(x y:Bb)(p6 p14:Int)
def Bu.FL.L0:Option DV:=BU Bu.FL.E N f57 (Br f57) [1,1,1,0,1,0] [] M ⟨EP 30 [(0,.Bh .arg .u64 x),(1,.Bh .arg .u64 y),(6,.int .u64 p6),(13,.int .i64 (vA x:Int)),(14,.int .i64 p14)],[]⟩
theorem Bu.FL.B1:Bu.FL.L0 N (M+1) x y p6 p14=cond (BI p14 (vA x:Int)) (bif ((decide (0<=p14))&&(decide (p14<(vA x:Int)))) then cond ((decide (0<=p14))&&(decide (p14<(vA y:Int)))) (bif (Bo (vB x (wz p14) 0)&&Bo (vB y (wz p14) 0)) then cond (Bo p6&&Bo (CN (vB x (wz p14) 0) (vB y (wz p14) 0))) (Bu.FL.L0 N M x y (EN p6 (CN (vB x (wz p14) 0) (vB y (wz p14) 0))) (Be (p14+1))) xN else xN) xN else xN) (xM (.Cw [.int .u64 p6,.int .i64 0])) :=Et (DJ (C0 (I1 _ _) (C0 (I1 _ _) (C0 (Cp _) (C0 (Cp _) rfl rfl) rfl) rfl) rfl) rfl)
theorem Bu.FL.ev:BX Bu.FL.E N f57 (Br f57) [.Bh .arg .u64 x,.Bh .arg .u64 y]=cond (!(NA x y)) (xM (.Cw [.int .u64 0,.int .i64 3])) (Bu.FL.L0 N N x y 0 0):=by kernel_rfl
end
def Bv.F.E:=E0 []
theorem Bv.F.ev(N:Nat)(x:Int):BX Bv.F.E N f128 (Br f128) [.int .u64 x]=cond (decide (0<=x)) (xM (.fl (wz x))) xN:=by kernel_rfl
def Bv.B.E:=E0 [(147,Fz.Canon.nb.Bk)]
theorem Bv.B.ev(N x:Nat):BX Bv.B.E N f126 (Br f126) [.fl x]=xM (.int .u64 (FA x)):=by kernel_rfl
def Bv.Add.E:=E0 [(126,Bv.B.Bk),(128,Bv.F.Bk)]
theorem Bv.Add.ev(N:Nat)(a b:Int):BX Bv.Add.E N f129 (Br f129) [.int .u64 a,.int .u64 b]=cond (Bo a) (bif (Bo b) then xM (.int .u64 (FA ((Ieee.double.add (wz a) (wz b)).getD nanBits))) else xN) xN:=by kernel_rfl
def Bv.Sub.E:=E0 [(126,Bv.B.Bk),(128,Bv.F.Bk)]
theorem Bv.Sub.ev(N:Nat)(a b:Int):BX Bv.Sub.E N f78 (Br f78) [.int .u64 a,.int .u64 b]=cond (Bo a) (bif (Bo b) then xM (.int .u64 (FA ((Ieee.double.sub (wz a) (wz b)).getD nanBits))) else xN) xN:=by kernel_rfl
def Bv.Mul.E:=E0 [(126,Bv.B.Bk),(128,Bv.F.Bk)]
theorem Bv.Mul.ev(N:Nat)(a b:Int):BX Bv.Mul.E N f79 (Br f79) [.int .u64 a,.int .u64 b]=cond (Bo a) (bif (Bo b) then xM (.int .u64 (FA ((Ieee.double.mul (wz a) (wz b)).getD nanBits))) else xN) xN:=by kernel_rfl
def Bv.FL.hint:Nat->Option BH
 | 0=>xM { CH:=[0,1,5,6],BW:=[],Cf:=[] }
 | _=>xN
def Bv.FL.E:=CP (CC [(129,Bv.Add.Bk),(79,Bv.Mul.Bk)]) (fun _=>wy) Bv.FL.hint (fun _=>xN)
section
variable(N M:Nat)(x y:Bb)(p5 p6:Int)
def Bv.FL.L0:Option DV:=BU Bv.FL.E N f83 (Br f83) [1,1,0,1,0] [] M ⟨EP 25 [(0,.Bh .arg .u64 x),(1,.Bh .arg .u64 y),(5,.int .u64 p5),(6,.int .i64 p6)],[]⟩
theorem Bv.FL.B1:Bv.FL.L0 N (M+1) x y p5 p6=cond (BI p6 (vA x:Int)) (bif ((decide (0<=p6))&&(decide (p6<(vA x:Int)))) then cond ((decide (0<=p6))&&(decide (p6<(vA y:Int)))) (bif (Bo (vB x (wz p6) 0)&&Bo (vB y (wz p6) 0)) then cond (Bo p5&&Bo (CN (vB x (wz p6) 0) (vB y (wz p6) 0))) (Bv.FL.L0 N M x y (EN p5 (CN (vB x (wz p6) 0) (vB y (wz p6) 0))) (Be (p6+1))) xN else xN) xN else xN) (xM (.int .u64 p5)) :=Et (DJ (C0 (I1 _ _) (C0 (I1 _ _) (C0 (Cp _) (C0 (Cp _) rfl rfl) rfl) rfl) rfl) rfl)
theorem Bv.FL.ev:BX Bv.FL.E N f83 (Br f83) [.Bh .arg .u64 x,.Bh .arg .u64 y]=
 Bv.FL.L0 N N x y 0 0:=by kernel_rfl
end
open Go Go.Den Go.CI Go.Proofs Ieee
theorem Q5{b:Nat}(h3:Bj b≠3)(h4:Bj b≠4):Bs b=0↔Bj b=0:=
 ⟨fun h=>by
  by_cases h0:Bj b=0
  ·exact h0
  ·exact absurd h (Mq h0 h3 h4),RE⟩
theorem J5(s:Bool):DM (BG s Dk)=BG s Dk:=Gs s (A7 _)
theorem QC{a b:Nat}(ha:a<2^64)(hb:b<2^64){d:Nat}(hd:Bj d=4):DM ((Ieee.double.mul a b).getD d)=(EA a b).1:=by
 have cd:DM d=Jt:=Az hd;have ex:∀s t:Bool,(s ^^ t)=(s !=t):=fun s t=>by cases s<;>cases t<;>rfl
 unfold Format.mul;rw[HG ha,HG hb];unfold EA;by_cases a4:Bj a=4
 ·rw[Az (.inl a4),G9 a4]; exact cd
 ·by_cases b4:Bj b=4
  ·rw[Az (.inr b4),G9 b4];by_cases a3:Bj a=3
   ·rw[Ew a3]; exact cd
   ·rw[Ev a3 a4]; exact cd
  ·rw[Ay (fun h=>h.elim a4 b4)];by_cases a3:Bj a=3
   ·rw[Az (.inl a3),Ew a3];by_cases b3:Bj b=3
    ·rw[Ew b3,Ay (by omega)];show DM (BG (BE a ^^ BE b) Dk)=_;rw[J5,ex]
    ·rw[Ev b3 b4];have z:=Q5 b3 b4;by_cases b0:Bj b=0
     ·have e:(Datum.infinity (BE a)).product (.number (BE b) (Bs b) (By b))=xN:=Az (z.2 b0);rw[e,Az (.inr b0)]; exact cd
     ·have e:(Datum.infinity (BE a)).product (.number (BE b) (Bs b) (By b))=xM (.infinity (BE a ^^ BE b)):=Ay (fun k=>b0 (z.1 k));rw[e,Ay (by omega)];show DM (BG (BE a ^^ BE b) Dk)=_;rw[J5,ex]
   ·rw[Ev a3 a4];have z:=Q5 a3 a4;by_cases b3:Bj b=3
    ·rw[Az (.inr b3),Ew b3];have sw:∀s t:Bool,(t ^^ s)=(s !=t):=fun s t=>by cases s<;>cases t<;>rfl
     by_cases a0:Bj a=0
     ·have e:(Datum.number (BE a) (Bs a) (By a)).product (.infinity (BE b))=xN:=Az (z.2 a0);rw[e,Az (.inl a0)]; exact cd
     ·have e:(Datum.number (BE a) (Bs a) (By a)).product (.infinity (BE b))=xM (.infinity (BE b ^^ BE a)):=Ay (fun k=>a0 (z.1 k));rw[e,Ay (by omega)];show DM (BG (BE b ^^ BE a) Dk)=_;rw[J5,sw]
    ·rw[Ev b3 b4,Ay (by omega)];show DM (Ieee.double.write (.number (BE a ^^ BE b) (Bs a*Bs b) (By a+By b)))=_;rw[KC,Gs _ (HE _ _),ex]
theorem Gd:Bj nanBits=4:=by decide +kernel
theorem Bu.Add.Bi:Kq 114 Bu.Add.Bk:=D6 Bu.Add.E Tryz.func114 (kc sum.Add.Bi .nil) fun a b hp=>by have hp:(Bo a&&Bo b)=wg:=hp;refine⟨0,Bu.Add.out [.i a,.i b],[],?_,.int⟩;rw[Bu.Add.ev,hp]; rfl
theorem Bu.Sub.Bi:Kq 64 Bu.Sub.Bk:=D6 Bu.Sub.E Tryz.func64 (kc sum.Sub.Bi .nil) fun a b hp=>by have hp:(Bo a&&Bo b)=wg:=hp;refine⟨0,Bu.Sub.out [.i a,.i b],[],?_,.int⟩;rw[Bu.Sub.ev,hp]; rfl
theorem Bu.Mul.Bi:Kq 115 Bu.Mul.Bk:=D6 Bu.Mul.E Tryz.func115 (kc times.Mul.Bi .nil) fun a b hp=>by have hp:(Bo a&&Bo b)=wg:=hp;refine⟨0,Bu.Mul.out [.i a,.i b],[],?_,.int⟩;rw[Bu.Mul.ev,hp]; rfl
theorem AhG(x y:Bb):(cond ((vA x:Int)==(vA y:Int)) (Eu (vA x:Int) (64:Int)) wy)=NA x y:=by
 unfold NA;rw[DX,Ar];by_cases h:x.length=y.length
 ·have:((x.length:Int)==(y.length:Int))=wg:=by rw[beq_iff_eq]; omega
  rw[this,Aa,Ac h,AR,Ai,Ai]; omega
 ·have:((x.length:Int)==(y.length:Int))=wy:=by rw[A8]; omega
  rw[this,Af,Ag h,z6]
theorem Bu.fit.Bi:Kq 113 Bu.fit.Bk:=D6 Bu.fit.E Tryz.func113 .nil fun x y _=>by refine⟨0,Bu.fit.out [.l x,.l y],[],?_,.bool⟩;rw[Bu.fit.ev,AhG]; rfl
theorem OT{x y:Bb}:NA x y=wg↔x.length=y.length/\x.length<=64:=by unfold NA; simp
theorem ZK{l:Bb}{i:Nat}(h:i<l.length):l.drop i=l.getD i 0::l.drop (i+1):=by rw[yL h,Al,As h]; rfl
theorem Ok{x y:Bb}{i:Nat}(s:Nat)(hx:i<x.length)(hy:i<y.length):
 J4 s (x.drop i) (y.drop i)=J4 (Em s (EA (x.getD i 0).toNat (y.getD i 0).toNat).1).1 (x.drop (i+1)) (y.drop (i+1)):=by
 rw[ZK hx,ZK hy]; rfl
theorem Aib(N:Nat){x y:Bb}(hf:NA x y=wg)(hx:Bg x=wg)(hy:Bg y=wg):∀(k i F s:Nat),i+k=x.length->k<F->s<2^64 ->
 Bu.FL.L0 N F x y (s:Int) (i:Int)=xM (.Cw [.int .u64 ((J4 s (x.drop i) (y.drop i):Nat):Int),.int .i64 (0:Int)]):=by
 obtain⟨h1,h2⟩:=OT.1 hf;intro k
 induction k with
 | zero =>
   intro i F s hi hF hs;obtain⟨F,rfl⟩:∃G,F=G+1:=⟨F-1,by omega⟩
   rw[Bu.FL.B1,Bw,Ag (by omega),Af,Ap (by omega)];rfl
 | succ k ih =>
   intro i F s hi hF hs;obtain⟨F,rfl⟩:∃G,F=G+1:=⟨F-1,by omega⟩
   have c1:decide ((i:Int)<(x.length:Int))=wg:=Ac (by omega);have c2:decide ((i:Int)<(y.length:Int))=wg:=Ac (by omega);have c3:decide ((0:Int)<=(i:Int))=wg:=Ac (by omega);have g1:=GS hx (show i<x.length by omega);have g2:=GS hy (show i<y.length by omega);have em:CN (x.getD i 0) (y.getD i 0)=(((EA (x.getD i 0).toNat (y.getD i 0).toNat).1:Nat):Int):=rfl;have ea:∀t:Nat,EN (s:Int) (t:Int)=(((Em s t).1:Nat):Int):=fun t=>rfl
   rw[Bu.FL.B1,Bw,c1,c2,c3,Ad,g1,g2,em,ea,Cq hs,Cq LI,Ah,Aa,Aa,Aa,Aa,Aa,Bq (by omega) (by omega),Ok s (by omega) (by omega)];exact ih (i+1) F _ (by omega) (by omega) (Nw hs LI).1
theorem Bu.FL.Bi:Kq 57 Bu.FL.Bk:=D6 Bu.FL.E Tryz.func57 (kc Bu.Add.Bi (kc Bu.Mul.Bi (kc Bu.fit.Bi .nil))) fun x y hp=>by obtain⟨h1,hy⟩:=Bf.1 hp;obtain⟨hf,hx⟩:=Bf.1 h1;refine⟨x.length+1,Bu.FL.out [.l x,.l y],[],?_,Wk.Gx (.cons .int (.cons .int .nil))⟩;rw[Bu.FL.ev,hf,AD,Af];exact Aib _ hf hx hy x.length 0 _ 0 (by omega) (by omega) (by decide)
theorem Bv.F.Bi:Kq 128 Bv.F.Bk:=D6 Bv.F.E Tryz.func128 .nil fun x hp=>by obtain⟨n,rfl,hn⟩:=BR (x:=x) hp;refine⟨0,Bv.F.out [.i n],[],?_,.fl⟩;rw[Bv.F.ev,Ac (xu n)]; rfl
theorem Bv.B.Bi:Kq 126 Bv.B.Bk:=D6 Bv.B.E Tryz.func126 (.cons Fz.Canon.AgQ .nil) fun x _=>by refine⟨0,Bv.B.out [.f x],[],?_,.int⟩;rw[Bv.B.ev]; rfl
theorem Bv.Add.Bi:Kq 129 Bv.Add.Bk:=D6 Bv.Add.E Tryz.func129 (kc Bv.B.Bi (kc Bv.F.Bi .nil)) fun a b hp=>by obtain⟨ha,hb⟩:=Bf.1 hp;obtain⟨a,rfl,hn⟩:=BR ha;obtain⟨b,rfl,hm⟩:=BR hb;refine⟨0,Bv.Add.out [.i a,.i b],[],?_,.int⟩;rw[Bv.Add.ev,ha,hb,Ad,Ad];unfold FA;rw[Aix hn hm Gd]; rfl
theorem Bv.Sub.Bi:Kq 78 Bv.Sub.Bk:=D6 Bv.Sub.E Tryz.func78 (kc Bv.B.Bi (kc Bv.F.Bi .nil)) fun a b hp=>by obtain⟨ha,hb⟩:=Bf.1 hp;obtain⟨a,rfl,hn⟩:=BR ha;obtain⟨b,rfl,hm⟩:=BR hb;refine⟨0,Bv.Sub.out [.i a,.i b],[],?_,.int⟩;rw[Bv.Sub.ev,ha,hb,Ad,Ad];unfold FA;rw[AfR hn hm Gd]; rfl
theorem Bv.Mul.Bi:Kq 79 Bv.Mul.Bk:=D6 Bv.Mul.E Tryz.func79 (kc Bv.B.Bi (kc Bv.F.Bi .nil)) fun a b hp=>by obtain⟨ha,hb⟩:=Bf.1 hp;obtain⟨a,rfl,hn⟩:=BR ha;obtain⟨b,rfl,hm⟩:=BR hb;refine⟨0,Bv.Mul.out [.i a,.i b],[],?_,.int⟩;rw[Bv.Mul.ev,ha,hb,Ad,Ad];unfold FA;rw[QC hn hm Gd]; rfl
theorem Xp(N:Nat){x y:Bb}(hf:NA x y=wg)(hx:Bg x=wg)(hy:Bg y=wg):∀(k i F s:Nat),i+k=x.length->k<F->s<2^64 ->
 Bv.FL.L0 N F x y (s:Int) (i:Int)=xM (.int .u64 ((J4 s (x.drop i) (y.drop i):Nat):Int)):=by
 obtain⟨h1,h2⟩:=OT.1 hf;intro k
 induction k with
 | zero =>
   intro i F s hi hF hs;obtain⟨F,rfl⟩:∃G,F=G+1:=⟨F-1,by omega⟩
   rw[Bv.FL.B1,Bw,Ag (by omega),Af,Ap (by omega)];rfl
 | succ k ih =>
   intro i F s hi hF hs;obtain⟨F,rfl⟩:∃G,F=G+1:=⟨F-1,by omega⟩
   have c1:decide ((i:Int)<(x.length:Int))=wg:=Ac (by omega);have c2:decide ((i:Int)<(y.length:Int))=wg:=Ac (by omega);have c3:decide ((0:Int)<=(i:Int))=wg:=Ac (by omega);have g1:=GS hx (show i<x.length by omega);have g2:=GS hy (show i<y.length by omega);have em:CN (x.getD i 0) (y.getD i 0)=(((EA (x.getD i 0).toNat (y.getD i 0).toNat).1:Nat):Int):=rfl;have ea:∀t:Nat,EN (s:Int) (t:Int)=(((Em s t).1:Nat):Int):=fun t=>rfl
   rw[Bv.FL.B1,Bw,c1,c2,c3,Ad,g1,g2,em,ea,Cq hs,Cq LI,Ah,Aa,Aa,Aa,Aa,Aa,Bq (by omega) (by omega),Ok s (by omega) (by omega)];exact ih (i+1) F _ (by omega) (by omega) (Nw hs LI).1
theorem Bv.FL.Bi:Kq 83 Bv.FL.Bk:=D6 Bv.FL.E Tryz.func83 (kc Bv.Add.Bi (kc Bv.Mul.Bi .nil)) fun x y hp=>by obtain⟨h1,hy⟩:=Bf.1 hp;obtain⟨hf,hx⟩:=Bf.1 h1;refine⟨x.length+1,Bv.FL.out [.l x,.l y],[],?_,.int⟩;rw[Bv.FL.ev];exact Xp _ hf hx hy x.length 0 _ 0 (by omega) (by omega) (by decide)
def Bc.size.E:=E0 []
theorem Bc.size.ev(N:Nat)(n:Int):BX Bc.size.E N f116 (Br f116) [.int .i64 n]=xM (.bool (cond (Eu 0 n) (Eu n 6) wy)) :=Et (B4 (L8 (Eu 0 n)) (B4 (Ka (Eu 0 n)) (B4 (Pp (Eu 0 n)) rfl)))
def Bc.Check.E:=E0 [(116,Bc.size.Bk)]
theorem Bc.Check.ev(N:Nat)(r c:Int)(l:Bb):BX Bc.Check.E N f60 (Br f60) [.agg [.int .i64 r,.int .i64 c,.Bh .arg .u64 l]]=cond (((!(Ce r))||(!(Ce c)))||((vA l:Int) !=(Be (r*c)))) (xM (.int .i64 1)) (xM (.int .i64 0)) :=Et (B4 (WN (Ce r)) (B4 (PA (Ce r)) (B4 (PA (Ce r)) (B4 (PA (Ce r)) (B4 (WO (Ce r)) (B4 (Alu (Ce r) (Ce c)) (B4 (AiR (Ce r) (Ce c)) (B4 (AiR (Ce r) (Ce c)) (B4 (Alu (Ce r) (Ce c)) (B4 (AiR (Ce r) (Ce c)) (B4 (Alu (Ce r) (Ce c)) (B4 (AiR (Ce r) (Ce c)) (B4 (AmW (Ce r) (Ce c)) (B4 (AmW (Ce r) (Ce c)) (B4 (Ao3 (Ce r) (Ce c)) (C0 (Ao4 _ _ _) rfl rfl))))))))))))))))
def Bc.get.E:=E0 []
theorem Bc.get.ev(N:Nat)(r c:Int)(l:Bb)(i k:Int):BX Bc.get.E N f62 (Br f62) [.agg [.int .i64 r,.int .i64 c,.Bh .arg .u64 l],.int .i64 i,.int .i64 k]=cond ((decide (0<=(Be ((Be (i*c))+k))))&&(decide ((Be ((Be (i*c))+k))<(vA l:Int)))) (xM (.int .u64 (vB l (wz (Be ((Be (i*c))+k))) 0))) xN:=by kernel_rfl
def Bc.two.E:=E0 [(60,Bc.Check.Bk)]
theorem Bc.two.ev(N:Nat)(r c:Int)(l:Bb)(p q:Int)(m:Bb):BX Bc.two.E N f54 (Br f54) [.agg [.int .i64 r,.int .i64 c,.Bh .arg .u64 l],.agg [.int .i64 p,.int .i64 q,.Bh .arg .u64 m]]=cond (((Ki r c l) !=(0:Int))||((Ki p q m) !=(0:Int))) (xM (.int .i64 1)) (xM (.int .i64 0)) :=Et (B4 (O1 ((Ki r c l) !=(0:Int))) (B4 (Nx ((Ki r c l) !=(0:Int))) (B4 (Nx ((Ki r c l) !=(0:Int))) (B4 (SM ((Ki r c l) !=(0:Int))) (C0 (tt5 _ _) rfl rfl)))))
def Bc.Row.E:=E0 []
theorem Bc.Row.ev(N:Nat)(r c:Int)(l:Bb)(i f:Int):BX Bc.Row.E N f58 (Br f58) [.agg [.int .i64 r,.int .i64 c,.Bh .arg .u64 l],.int .i64 i,.int .i64 f]=cond (((decide ((0:Int)<=(Be ((Be (i*c))+f))))&&(decide ((Be ((Be (i*c))+f))<=(Be ((Be (i+1))*c)))))&&((decide ((0:Int)<=(Be ((Be (i+1))*c))))&&(decide ((Be ((Be (i+1))*c))<=(vA l:Int))))) (bif (decide (0+(vA (zM (wz (Be ((Be (i*c))+f))) (zC (wz (Be ((Be (i+1))*c))) l)))<=GL)) then xM (.Bh (.own 22 47) .u64 ([]++(zM (wz (Be ((Be (i*c))+f))) (zC (wz (Be ((Be (i+1))*c))) l)))) else xN) xN :=Et (C0 (AmV _ _ _ _) rfl rfl)
def Bc.EB.hint:Nat->Option BH
 | 0=>xM { CH:=[1,3,7,8],BW:=[(0,7,100007,.Bh 47 .u64 [])],Cf:=[3] }
 | _=>xN
def Bc.EB.E:=CP (CC [(62,Bc.get.Bk)]) (fun _=>wy) Bc.EB.hint (fun _=>xN)
section
variable(N M:Nat)(r c:Int)(l:Bb)(k f p8:Int)(p7:Bb)
def Bc.EB.L0:Option DV:=BU Bc.EB.E N f59 (Br f59) [1,1,0,1,0] [] M ⟨EP 24 [(1,.int .i64 k),(3,.ptr 3 0 0),(7,.De 100007),(8,.int .i64 p8)],[(3,wy,.box [.int .i64 r,.int .i64 c,.Bh .arg .u64 l]),(100007,wy,.Bh 47 .u64 p7)]⟩
theorem Bc.EB.B1:Bc.EB.L0 N (M+1) r c l k p8 p7=cond (BI p8 r) (bif (Db r c l p8 k) then cond (decide ((vA p7)+1<=GL)) (Bc.EB.L0 N M r c l k (Be (p8+1)) (p7++[(Cc c l p8 k)])) xN else xN) (xM (.Bh (.own 100007 47) .u64 p7)):=by kernel_rfl
theorem Bc.EB.ev:BX Bc.EB.E N f59 (Br f59) [.agg [.int .i64 r,.int .i64 c,.Bh .arg .u64 l],.int .i64 k,.int .i64 f]=
 Bc.EB.L0 N N r c l k f []:=by kernel_rfl
end
def Bc.Gl.E:=E0 []
theorem Bc.Gl.ev(N:Nat)(i k:Int):BX Bc.Gl.E N f165 (Br f165) [.int .i64 i,.int .i64 k]=xM (.int .u64 0):=by kernel_rfl
def Bc.Ku.E:=E0 []
theorem Bc.Ku.ev(N:Nat)(i k:Int):BX Bc.Ku.E N f135 (Br f135) [.int .i64 i,.int .i64 k]=cond (i==k) (xM (.int .u64 4607182418800017408)) (xM (.int .u64 0)):=by kernel_rfl
def Bc.HZ.E:=E0 [(62,Bc.get.Bk)]
theorem Bc.HZ.ev(N:Nat)(i k:Int)(r c:Int)(l:Bb):BX Bc.HZ.E N f100 (Br f100) [.int .i64 i,.int .i64 k,.CQ [.int .i64 r,.int .i64 c,.Bh .arg .u64 l]]=cond (Db r c l k i) (xM (.int .u64 (Cc c l k i))) xN:=by kernel_rfl
def Bc.Ia.E:=E0 [(62,Bc.get.Bk)]
theorem Bc.Ia.ev(N:Nat)(i k:Int)(r c:Int)(l:Bb)(x y:Int):BX Bc.Ia.E N f61 (Br f61) [.int .i64 i,.int .i64 k,.CQ [.int .i64 r,.int .i64 c,.Bh .arg .u64 l],.CQ [.int .i64 x],.CQ [.int .i64 y]]=cond (Db r c l (Be (x+i)) (Be (y+k))) (xM (.int .u64 (Cc c l (Be (x+i)) (Be (y+k))))) xN:=by kernel_rfl
def Bc.Kl.E:=E0 [(62,Bc.get.Bk),(64,Bu.Sub.Bk)]
theorem Bc.Kl.ev(N:Nat)(i k:Int)(r c:Int)(l:Bb)(p q:Int)(m:Bb):BX Bc.Kl.E N f63 (Br f63) [.int .i64 i,.int .i64 k,.CQ [.int .i64 r,.int .i64 c,.Bh .arg .u64 l],.CQ [.int .i64 p,.int .i64 q,.Bh .arg .u64 m]]=cond (Db r c l i k) (bif (Db p q m i k) then cond (Bo (Cc c l i k)&&Bo (Cc q m i k)) (xM (.int .u64 (CA (Cc c l i k) (Cc q m i k)))) xN else xN) xN :=Et (C0 (Cp _) (C0 (Cp _) (C0 (Cp _) rfl rfl) rfl) rfl)
def Bc.G5.E:=E0 [(62,Bc.get.Bk)]
theorem Bc.G5.ev(N:Nat)(i k:Int)(r c:Int)(l:Bb)(p q:Int)(m:Bb):BX Bc.G5.E N f68 (Br f68) [.int .i64 i,.int .i64 k,.CQ [.int .i64 r,.int .i64 c,.Bh .arg .u64 l],.CQ [.int .i64 p,.int .i64 q,.Bh .arg .u64 m]]=cond (BI i r) (bif (Db r c l i k) then xM (.int .u64 (Cc c l i k)) else xN) (bif (Db p q m (Be (i-r)) k) then xM (.int .u64 (Cc q m (Be (i-r)) k)) else xN):=by kernel_rfl
def Bc.Km.E:=E0 [(59,Bc.EB.Bk),(58,Bc.Row.Bk),(57,Bu.FL.Bk)]
theorem Bc.Km.ev(N:Nat)(i k:Int)(r c:Int)(l:Bb)(p q:Int)(m:Bb):BX Bc.Km.E N f56 (Br f56) [.int .i64 i,.int .i64 k,.CQ [.int .i64 r,.int .i64 c,.Bh .arg .u64 l],.CQ [.int .i64 p,.int .i64 q,.Bh .arg .u64 m]]=cond (KY r c l i&&decide ((0:Int)=0)) (bif (EM p q m k&&CE (0<=(0:Int)/\(0:Int)<=p)) then cond ((NA (Ee c l i) (Cb q m k 0 (wz (p-0)))&&Bg (Ee c l i))&&Bg (Cb q m k 0 (wz (p-0)))) (xM (.int .u64 (Fu (Ee c l i) (Cb q m k 0 (wz (p-0)))))) xN else xN) xN :=Et (C0 (Cp _) (C0 (Cp _) (C0 (Cp _) rfl rfl) rfl) rfl)
theorem IB{a b:Int}(h1:0<=a)(h2:a<20)(h3:0<=b)(h4:b<20):0<=a*b/\a*b<400:=by have:=Int.mul_nonneg h1 h3;have h5:a*b<=19*19:=Int.mul_le_mul (by omega) (by omega) h3 (by omega);omega
theorem Bc.size.Bi:Kq 116 Bc.size.Bk:=D6 Bc.size.E Tryz.func116 .nil fun n _=>by
 refine⟨0,Bc.size.out [.i n],[],?_,.bool⟩
 have e:(cond (Eu (0:Int) n) (Eu n (6:Int)) wy)=Ce n:=by unfold Ce;rw[DX,DX];cases decide (0<=n)<;>rfl
 rw[Bc.size.ev,e]; rfl
theorem ZS(r c:Int)(l:Bb):(((!(Ce r))||(!(Ce c)))||((vA l:Int) !=(Be (r*c))))=!(B5 r c l):=by
 unfold B5;cases h1:Ce r with
 | false=>rfl
 | true =>
   cases h2:Ce c with
   | false=>rfl
   | true =>obtain⟨r1,r2⟩:=Hz.1 h1;obtain⟨c1,c2⟩:=Hz.1 h2;have:=IB (a:=r) (b:=c) r1 (by omega) c1 (by omega);rw[Bq (by omega) (by omega),Ar];simp
theorem Bc.Check.Bi:Kq 60 Bc.Check.Bk:=D6 Bc.Check.E Tryz.func60 (kc Bc.size.Bi .nil) fun r c l _=>by refine⟨0,Bc.Check.out [.i r,.i c,.l l],[],?_,.int⟩;rw[Bc.Check.ev,ZS];show _=xM (DV.int .i64 (Ki r c l));unfold Ki;cases B5 r c l<;>rfl
theorem GR{c i k:Int}{l:Bb}{R:Int}(h:Db R c l i k=wg):Be (Be (i*c)+k)=i*c+k/\0<=i*c+k/\i*c+k<l.length:=by obtain⟨h1,h2,h3,h4,h5,h6,h7,_⟩:=Bt.1 h;have:=IB h1 (by omega) h5 (by omega);rw[Bq (x:=i*c) (by omega) (by omega),Bq (by omega) (by omega)];omega
theorem Bc.get.Bi:Kq 62 Bc.get.Bk:=D6 Bc.get.E Tryz.func62 .nil fun r c l i k hp=>by obtain⟨e,h1,h2⟩:=GR (R:=r) (show Db r c l i k=wg from hp);refine⟨0,Bc.get.out [.i r,.i c,.l l,.i i,.i k],[],?_,.int⟩;rw[Bc.get.ev,e,Ac h1,Ac h2];rfl
theorem PX(r c:Int)(l:Bb):((Ki r c l) !=(0:Int))=!(B5 r c l):=by unfold Ki;cases B5 r c l<;>rfl
theorem Bc.two.Bi:Kq 54 Bc.two.Bk:=D6 Bc.two.E Tryz.func54 (kc Bc.Check.Bi .nil) fun r c l p q m _=>by refine⟨0,Bc.two.out [.i r,.i c,.l l,.i p,.i q,.l m],[],?_,.int⟩;rw[Bc.two.ev,PX,PX];show _=xM (DV.int .i64 (Ru r c l p q m));unfold Ru;cases B5 r c l<;>cases B5 p q m<;>rfl
theorem Bc.Row.Bi:Kq 58 Bc.Row.Bk:=D6 Bc.Row.E Tryz.func58 .nil fun r c l i f hp=>by
 obtain⟨h0,hf⟩:=Bf.1 hp;obtain rfl:=A3 hf;obtain⟨hr,hi⟩:=Bf.1 h0;have hi:=Bt.1 hi;obtain⟨R,C,rfl,rfl,r6,c6,hl⟩:=CU hr;obtain⟨I,rfl⟩:∃k:Nat,i=k:=⟨i.toNat,by omega⟩
 have hm:=IB (a:=(I:Int)) (b:=(C:Int)) (by omega) (by omega) (by omega) (by omega);have hm2:=IB (a:=(I:Int)+1) (b:=(C:Int)) (by omega) (by omega) (by omega) (by omega);have hle:(I+1)*C<=R*C:=An C (by omega);have hle2:I*C<=(I+1)*C:=An C (by omega);have e1:(I:Int)*(C:Int)=((I*C:Nat):Int):=(Ax _ _).symm;have e2:((I:Int)+1)*(C:Int)=(((I+1)*C:Nat):Int):=by rw[Ax]; rfl
 refine⟨0,.Bh (.own 22 tB) .u64 (Ee (C:Int) l (I:Int)),[22],?_,.drop _ _ _ _ (zh.2 rfl)⟩;rw[Bc.Row.ev,Bq (x:=(I:Int)+1) (by omega) (by omega),Bq (x:=(I:Int)*(C:Int)) (by omega) (by omega),Int.add_zero,Bq (x:=(I:Int)*(C:Int)) (by omega) (by omega),Bq (x:=((I:Int)+1)*(C:Int)) (by omega) (by omega)];unfold Ee;have d1:decide ((0:Int)<=(I:Int)*(C:Int))=wg:=Ac (by omega);have d2:decide ((I:Int)*(C:Int)<=((I:Int)+1)*(C:Int))=wg:=Ac (by rw[e1,e2]; omega);have d3:decide ((0:Int)<=((I:Int)+1)*(C:Int))=wg:=Ac (by omega);have d4:decide (((I:Int)+1)*(C:Int)<=(l.length:Int))=wg:=Ac (by rw[e2]; omega)
 have d5:decide (0+(zM ((I:Int)*(C:Int)).toNat (zC (((I:Int)+1)*(C:Int)).toNat l)).length<=GL)=wg:=by refine Ac ?_;rw[zW,zV];unfold GL;omega
 rw[d1,d2,d3,d4,d5];rfl
theorem FO(c b i:Int)(n:Nat)(l:Bb):(Cb c l b i n).length=n:=by unfold Cb; rw[AK,AH]
theorem Adk(r c:Int)(l:Bb)(k:Int):Cb c l k 0 (wz (r-0))=Hw r c l k:=by
 unfold Cb Hw;rw[Int.sub_zero];refine List.map_congr_left fun j _=>?_
 rw[Int.zero_add]
theorem Tn{r:Int}(h:0<=r):CE (0<=(0:Int)/\0<=r)=wg:=Bt.2 ⟨Int.le_refl _,h⟩
theorem Aik(N:Nat){R C K f:Nat}{l:Bb}(r6:R<=6)(c6:C<=6)(hl:l.length=R*C)(hk:K<C):∀(k i F:Nat),f+i+k=R->k<F ->
 Bc.EB.L0 N F (R:Int) (C:Int) l (K:Int) ((f+i:Nat):Int) (Cb (C:Int) l (K:Int) (f:Int) i)=xM (.Bh (.own 100007 tB) .u64 (Cb (C:Int) l (K:Int) (f:Int) (R-f))):=by
 intro k
 induction k with
 | zero =>
   intro i F hi hF;obtain⟨F,rfl⟩:∃G,F=G+1:=⟨F-1,by omega⟩
   rw[Bc.EB.B1,Bw,Ag (by omega),Af,show R-f=i by omega]
 | succ k ih =>
   intro i F hi hF;obtain⟨F,rfl⟩:∃G,F=G+1:=⟨F-1,by omega⟩
   have d:decide ((Cb (C:Int) l (K:Int) (f:Int) i).length+1<=GL)=wg:=Ac (by rw[FO]; unfold GL; omega);rw[Bc.EB.B1,Bw,Ac (by omega),Aa,Dl r6 c6 hl (show f+i<R by omega) hk,Aa,d,Aa,Bq (by omega) (by omega)];have:=ih (i+1) F (by omega) (by omega);unfold Cb at this ⊢;rw[List.range_succ,List.map_append] at this;exact this
theorem Bc.EB.Bi:Kq 59 Bc.EB.Bk:=D6 Bc.EB.E Tryz.func59 (kc Bc.get.Bi .nil) fun r c l k f hp=>by
 obtain⟨h0,hf⟩:=Bf.1 (show(EM r c l k&&CE (0<=f/\f<=r))=wg from hp);have hf:=Bt.1 hf;obtain⟨hr,hi⟩:=Bf.1 h0;have hi:=Bt.1 hi;obtain⟨R,C,rfl,rfl,r6,c6,hl⟩:=CU hr;obtain⟨K,rfl⟩:∃j:Nat,k=j:=⟨k.toNat,by omega⟩
 obtain⟨f,rfl⟩:∃j:Nat,f=j:=⟨f.toNat,by omega⟩
 refine⟨8,.Bh (.own 100007 tB) .u64 (Cb (C:Int) l (K:Int) (f:Int) (R-f)),[100007],?_,?_⟩
 ·rw[Bc.EB.ev];exact Aik 8 r6 c6 hl (by omega) (R-f) 0 8 (by omega) (by omega)
 ·show Wk _ _ (DV.Bh .BF .u64 (Cb (C:Int) l (K:Int) (f:Int) (wz ((R:Int)-(f:Int)))));rw[show wz ((R:Int)-(f:Int))=R-f by omega];exact .drop _ _ _ _ (zh.2 rfl)
theorem HA{r c i k:Int}{l:Bb}(h:B5 r c l=wg)(h1:0<=i)(h2:i<r)(h3:0<=k)(h4:k<c)(R:Int):Db R c l i k=wg:=by
 obtain⟨R',C,rfl,rfl,r6,c6,hl⟩:=CU h;obtain⟨I,rfl⟩:∃j:Nat,i=j:=⟨i.toNat,by omega⟩
 obtain⟨K,rfl⟩:∃j:Nat,k=j:=⟨k.toNat,by omega⟩
 exact Dl r6 c6 hl (by omega) (by omega)
theorem Bc.Gl.Bi:Kq 165 Bc.Gl.Bk:=D6 Bc.Gl.E Tryz.func165 .nil fun i k _=>by refine⟨0,Bc.Gl.out [.i i,.i k],[],?_,.int⟩;rw[Bc.Gl.ev]; rfl
theorem Bc.Ku.Bi:Kq 135 Bc.Ku.Bk:=D6 Bc.Ku.E Tryz.func135 .nil fun i k _=>by
 refine⟨0,Bc.Ku.out [.i i,.i k],[],?_,.int⟩;rw[Bc.Ku.ev];show _=xM (DV.int .u64 (Hc i k));unfold Hc;by_cases h:i=k
 ·have:(i==k)=wg:=by rw[h]; simp
  rw[this,Az h]; rfl
 ·have:(i==k)=wy:=by simpa using h
  rw[this,Ay h]; rfl
theorem Bc.HZ.Bi:Kq 100 Bc.HZ.Bk:=D6 Bc.HZ.E Tryz.func100 (kc Bc.get.Bi .nil) fun i k r c l hp=>by have hp:Db r c l k i=wg:=hp;refine⟨0,Bc.HZ.out [.i i,.i k,.i r,.i c,.l l],[],?_,.int⟩;rw[Bc.HZ.ev,hp]; rfl
theorem Bc.Ia.Bi:Kq 61 Bc.Ia.Bk:=D6 Bc.Ia.E Tryz.func61 (kc Bc.get.Bi .nil) fun i k r c l x y hp=>by obtain⟨h1,h2⟩:=Bf.1 hp;have h2:=Bt.1 h2;refine⟨0,Bc.Ia.out [.i i,.i k,.i r,.i c,.l l,.i x,.i y],[],?_,.int⟩;rw[Bc.Ia.ev,Bq (x:=x+i) (by omega) (by omega),Bq (x:=y+k) (by omega) (by omega),h1]; rfl
theorem Bc.G5.Bi:Kq 68 Bc.G5.Bk:=D6 Bc.G5.E Tryz.func68 (kc Bc.get.Bi .nil) fun i k r c l p q m hp=>by
 obtain⟨h1,h2,h3,h4,h5⟩:=Bt.1 (show Ml r c l p q m i k=wg from hp);refine⟨0,Bc.G5.out [.i i,.i k,.i r,.i c,.l l,.i p,.i q,.l m],[],?_,.int⟩;show _=xM (DV.int .u64 (HT r c l q m i k));rw[Bc.G5.ev,Bw,Bq (x:=i-r) (by omega) (by omega)];unfold HT;by_cases h:i<r
 ·rw[Az h] at h5;rw[Ac h,Aa,h5,Aa,Az h]
 ·rw[Ay h] at h5;rw[Ag h,Af,h5,Aa,Ay h]
theorem KX{R C:Nat}{l:Bb}(hl:l.length=R*C){I:Nat}(hi:I<R):(Ee (C:Int) l (I:Int)).length=C:=by
 have hle:(I+1)*C<=R*C:=An C (by omega);have e1:((I:Int)*(C:Int)).toNat=I*C:=by rw[<- Ax,Ad]
 have e2:(((I:Int)+1)*(C:Int)).toNat=(I+1)*C:=by
  have:((I:Int)+1)*(C:Int)=(((I+1)*C:Nat):Int):=by rw[Ax]; rfl
  rw[this,Ad]
 unfold Ee;rw[zW,zV,e1,e2];rw[AI,Nat.one_mul] at hle ⊢;omega
theorem UO(R:Nat)(C:Int)(l:Bb)(K:Int):(Hw (R:Int) C l K).length=R:=by unfold Hw;rw[AK,AH,Ad]
theorem Acw{c i:Int}{l:Bb}(h:Bg l=wg):Bg (Ee c l i)=wg:=by have h:=Bt.1 h;exact Bt.2 fun x hx=>h x (List.mem_of_mem_take (List.mem_of_mem_drop hx))
theorem FT{c i k:Int}{l:Bb}(h:Bg l=wg):Bo (Cc c l i k)=wg:=by
 unfold Cc;by_cases hj:(i*c+k).toNat<l.length
 ·exact GS h hj
 ·rw[Al,AY (by omega)];exact Cq (n:=0) (by decide)
theorem Adl{r c k:Int}{l:Bb}(h:Bg l=wg):Bg (Hw r c l k)=wg:=by
 refine Bt.2 fun x hx=>?_
 obtain⟨j,_,rfl⟩:=List.mem_map.1 hx;exact FT h
theorem Bc.Km.Bi:Kq 56 Bc.Km.Bk:=D6 Bc.Km.E Tryz.func56 (kc Bc.EB.Bi (kc Bc.Row.Bi (kc Bu.FL.Bi .nil))) fun i k r c l p q m hp=>by
 obtain⟨h1,h2⟩:=Bf.1 (show RI r c l p q m i k=wg from hp);obtain⟨h3,h4⟩:=Bf.1 h1;obtain⟨h5,h6⟩:=Bf.1 h2;obtain⟨hl,hm⟩:=Bf.1 h5;obtain rfl:=Bt.1 h6;obtain⟨hr,hi⟩:=Bf.1 h3;have hi:=Bt.1 hi;obtain⟨R,C,rfl,rfl,r6,c6,ll⟩:=CU hr;obtain⟨I,rfl⟩:∃j:Nat,i=j:=⟨i.toNat,by omega⟩
 refine⟨0,Bc.Km.out [.i I,.i k,.i R,.i C,.l l,.i C,.i q,.l m],[],?_,.int⟩;have hf:NA (Ee (C:Int) l (I:Int)) (Hw (C:Int) q m k)=wg:=OT.2 ⟨by rw[KX ll (by omega),UO],by rw[KX ll (by omega)]; omega⟩;rw[Bc.Km.ev,Adk,h3,h4,hf,Acw hl,Adl hm,Tn (by omega)];rfl
def compare.Pj.E:=E0 [(159,soft.Sign.Bk)]
theorem compare.Pj.ev(N:Nat)(b:Int):BX compare.Pj.E N f164 (Br f164) [.int .u64 b]=cond (Bo b) (bif (DI b) then xM (.int .i64 (Be (0-(Be (G3 .u64 b 9223372036854775808))))) else xM (.int .i64 (Be b))) xN:=by kernel_rfl
def compare.Order.E:=E0 [(164,compare.Pj.Bk),(133,soft.Kind.Bk)]
theorem compare.Order.ev(N:Nat)(a b:Int):BX compare.Order.E N f137 (Br f137) [.int .u64 a,.int .u64 b]=cond (Bo a) (bif ((B8 a)==(4:Int)) then xM (.Cw [.int .i64 0,.bool wy]) else bif (Bo b) then cond ((B8 b)==(4:Int)) (xM (.Cw [.int .i64 0,.bool wy])) (bif (Bo a) then cond (Bo b) (bif (BI (VN a) (VN b)) then xM (.Cw [.int .i64 (-1:Int),.bool wg]) else bif (Bo a) then cond (Bo b) (bif (BI (VN b) (VN a)) then xM (.Cw [.int .i64 1,.bool wg]) else xM (.Cw [.int .i64 0,.bool wg])) xN else xN) xN else xN) else xN) xN:=by kernel_rfl
def compare.Po.E:=E0 [(137,compare.Order.Bk)]
theorem compare.Po.ev(N:Nat)(a b:Int):BX compare.Po.E N f108 (Br f108) [.int .u64 a,.int .u64 b]=cond (Bo a&&Bo b) (xM (.bool (BI (Ma a b) 0))) xN:=by kernel_rfl
def compare.J8.E:=E0 []
theorem compare.J8.ev(N:Nat)(a:Int):BX compare.J8.E N f105 (Br f105) [.int .u64 a]=xM (.int .u64 (G3 .u64 a 9223372036854775808)):=by kernel_rfl
def compare.Dx.hint:Nat->Option BH
 | 1=>xM { CH:=[0,6,7,8],BW:=[],Cf:=[] }
 | _=>xN
def compare.Dx.E:=CP (CC [(133,soft.Kind.Bk),(163,soft.DG.Bk),(162,soft.Fh.Bk),(159,soft.Sign.Bk)]) (fun _=>wy) compare.Dx.hint (fun _=>xN)
section
variable(N M:Nat)(a n p6 p7:Int)(p8:Bool)
def compare.Dx.L0:Option DV:=BU compare.Dx.E N f136 (Br f136) [1,1,1,1,1,1,0,0] [] M ⟨EP 59 [(0,.int .u64 a),(6,.int .u64 p6),(7,.int .i64 p7),(8,.bool p8)],[]⟩
theorem compare.Dx.B1:compare.Dx.L0 N (M+1) a p6 p7 p8=cond ((BI p7 (-1130:Int))&&(BI 1 p6)) (compare.Dx.L0 N M a (D7 .u64 p6 1) (Be (p7+1)) (cond p8 wg ((ED .u64 p6 1)==(1:Int)))) (bif (BI p7 (-1130:Int)) then cond (Bo a) (bif (Ep 0 (-1074:Int) wg) then xM (.Cw [.int .u64 (EJ (DI a) 0 (-1074:Int) wg),.int .u8 (EI (DI a) 0 (-1074:Int) wg)]) else xN) xN else bif (Bo a) then cond (Ep p6 p7 p8) (xM (.Cw [.int .u64 (EJ (DI a) p6 p7 p8),.int .u8 (EI (DI a) p6 p7 p8)])) xN else xN) :=Et (B4 (L8 (BI p7 (-1130:Int))) (B4 (Ka (BI p7 (-1130:Int))) (B4 (Pp (BI p7 (-1130:Int))) (C0 (tt1 _ _) (B4 (O1 p8) (B4 (Nx p8) (B4 (Nx p8) (B4 (SM p8) rfl)))) rfl))))
theorem compare.Dx.ev:BX compare.Dx.E N f136 (Br f136) [.int .u64 a,.int .i64 n]=cond (Bo a) (bif ((B8 a)==(4:Int)) then xM (.Cw [.int .u64 9221120237041090560,.int .u8 0]) else bif ((B8 a)==(3:Int)) then cond ((B8 a)==(3:Int)) (xM (.Cw [.int .u64 a,.int .u8 0])) (bif (Bo a) then compare.Dx.L0 N N a (Ci a) (Be ((BO a)+(max (-2300:Int) (min 2300 n)))) wy else xN) else bif ((B8 a)==(0:Int)) then xM (.Cw [.int .u64 a,.int .u8 0]) else bif (Bo a) then compare.Dx.L0 N N a (Ci a) (Be ((BO a)+(max (-2300:Int) (min 2300 n)))) wy else xN) xN:=by kernel_rfl
end
def Bu.Ct.E:=E0 [(136,compare.Dx.Bk)]
theorem Bu.Ct.ev(N:Nat)(a n:Int):BX Bu.Ct.E N f106 (Br f106) [.int .u64 a,.int .i64 n]=cond (D1 a n) (xM (.int .u64 (BP a n))) xN:=by kernel_rfl
def Bu.Div.E:=E0 [(166,times.Div.Bk)]
theorem Bu.Div.ev(N:Nat)(a b:Int):BX Bu.Div.E N f139 (Br f139) [.int .u64 a,.int .u64 b]=cond (Bo a&&Bo b) (xM (.int .u64 (El a b))) xN:=by kernel_rfl
def Bu.Cu.hint:Nat->Option BH
 | 0=>xM { CH:=[3,6,7,8],BW:=[],Cf:=[] }
 | _=>xN
def Bu.Cu.E:=CP (CC [(105,compare.J8.Bk),(133,soft.Kind.Bk)]) (fun _=>wy) Bu.Cu.hint (fun _=>xN)
section
variable(N M:Nat)(x:Bb)(p3 p8:Int)
def Bu.Cu.L0:Option DV:=BU Bu.Cu.E N f107 (Br f107) [1,1,0,1,0] [] M ⟨EP 21 [(3,.int .u64 p3),(6,.Bh .arg .u64 x),(7,.int .i64 (vA x:Int)),(8,.int .i64 p8)],[]⟩
theorem Bu.Cu.B1:Bu.Cu.L0 N (M+1) x p3 p8=cond (BI p8 (vA x:Int)) (bif ((decide (0<=p8))&&(decide (p8<(vA x:Int)))) then cond (Bo (vB x (wz p8) 0)) (bif ((B8 (vB x (wz p8) 0))==(4:Int)) then xM (.int .u64 9221120237041090560) else bif (Bo (vB x (wz p8) 0)) then Bu.Cu.L0 N M x (max p3 (Gf (vB x (wz p8) 0))) (Be (p8+1)) else xN) xN else xN) (xM (.int .u64 p3)):=by kernel_rfl
theorem Bu.Cu.ev:BX Bu.Cu.E N f107 (Br f107) [.Bh .arg .u64 x]=
 Bu.Cu.L0 N N x 0 0:=by kernel_rfl
end
def Bu.Finite.hint:Nat->Option BH
 | 0=>xM { CH:=[5,6,7],BW:=[],Cf:=[] }
 | _=>xN
def Bu.Finite.E:=CP (CC [(99,soft.Finite.Bk)]) (fun _=>wy) Bu.Finite.hint (fun _=>xN)
section
variable(N M:Nat)(x:Bb)(p7:Int)
def Bu.Finite.L0:Option DV:=BU Bu.Finite.E N f104 (Br f104) [1,0,1,0] [] M ⟨EP 15 [(5,.Bh .arg .u64 x),(6,.int .i64 (vA x:Int)),(7,.int .i64 p7)],[]⟩
theorem Bu.Finite.B1:Bu.Finite.L0 N (M+1) x p7=cond (BI p7 (vA x:Int)) (bif ((decide (0<=p7))&&(decide (p7<(vA x:Int)))) then cond (Bo (vB x (wz p7) 0)) (bif (!(CO (vB x (wz p7) 0))) then xM (.bool wy) else Bu.Finite.L0 N M x (Be (p7+1))) xN else xN) (xM (.bool wg)):=by kernel_rfl
theorem Bu.Finite.ev:BX Bu.Finite.E N f104 (Br f104) [.Bh .arg .u64 x]=
 Bu.Finite.L0 N N x 0:=by kernel_rfl
end
def Dw.Check.hint:Nat->Option BH
 | 0=>xM { CH:=[9,10,11],BW:=[],Cf:=[] }
 | _=>xN
def Dw.Check.E:=CP (CC [(60,Bc.Check.Bk),(99,soft.Finite.Bk)]) (fun _=>wy) Dw.Check.hint (fun _=>xN)
section
variable(N:Nat)(r c:Int)(M:Nat)(l:Bb)(p11:Int)
def Dw.Check.L0:Option DV:=BU Dw.Check.E N f49 (Br f49) [1,1,0,1,0] [] M ⟨EP 19 [(9,.Bh .arg .u64 l),(10,.int .i64 (vA l:Int)),(11,.int .i64 p11)],[]⟩
theorem Dw.Check.B1:Dw.Check.L0 N (M+1) l p11=cond (BI p11 (vA l:Int)) (bif ((decide (0<=p11))&&(decide (p11<(vA l:Int)))) then cond (Bo (vB l (wz p11) 0)) (bif (!(CO (vB l (wz p11) 0))) then xM (.int .i64 4) else Dw.Check.L0 N M l (Be (p11+1))) xN else xN) (xM (.int .i64 0)):=by kernel_rfl
theorem Dw.Check.ev:BX Dw.Check.E N f49 (Br f49) [.agg [.int .i64 r,.int .i64 c,.Bh .arg .u64 l]]=cond ((Ki r c l) !=(0:Int)) (xM (.int .i64 1)) (Dw.Check.L0 N N l 0):=by kernel_rfl
end
theorem OI{k j:Nat}(h:k≠j):(((k:Nat):Int)==((j:Nat):Int))=wy:=by rw[A8]; omega
theorem WC(n:Nat):n%2^63<2^63:=zv _ (by decide)
theorem Va{n:Nat}(h:n<2^64):G3 .u64 (n:Int) (9223372036854775808:Int)=((n%2^63:Nat):Int):=by have:=Nu (BE n) (WC n);rw[KF h] at this;exact this
theorem compare.J8.Bi:Kq 105 compare.J8.Bk:=D6 compare.J8.E Tryz.func105 .nil fun a hp=>by obtain⟨n,rfl,hn⟩:=BR (show Bo a=wg from hp);refine⟨0,compare.J8.out [.i (n:Int)],[],?_,.int⟩;show _=xM (DV.int .u64 (((n:Int).toNat%2^63:Nat):Int));rw[compare.J8.ev,Va hn,Ad]
theorem compare.Pj.Bi:Kq 164 compare.Pj.Bk:=D6 compare.Pj.E Tryz.func164 (kc soft.Sign.Bi .nil) fun b hp=>by
 have hp:Bo b=wg:=hp;obtain⟨n,rfl,hn⟩:=BR hp;refine⟨0,compare.Pj.out [.i (n:Int)],[],?_,.int⟩;show _=xM (DV.int .i64 (F1 (n:Int).toNat));have h63:=WC n;rw[compare.Pj.ev,hp,Aa,Va hn,Ad];unfold F1 FX DI;rw[Ad];cases hs:BE n with
 | true =>rw[Aa,Az rfl,Bq (x:=((n%2^63:Nat):Int)) (by omega) (by omega),Bq (by omega) (by omega)];congr 2; omega
 | false =>
   have:n<2^63:=by unfold BE at hs;have:=of_decide_eq_false hs;omega
   rw[Af,Ay (by decide),Ao this,Bq (by omega) (by omega)]
theorem compare.Order.Bi:Kq 137 compare.Order.Bk:=D6 compare.Order.E Tryz.func137 (kc compare.Pj.Bi (kc soft.Kind.Bi .nil)) fun a b hp=>by
 obtain⟨ha,hb⟩:=Bf.1 (show(Bo a&&Bo b)=wg from hp);refine⟨0,compare.Order.out [.i a,.i b],[],?_,Wk.Gx (.cons .int (.cons .bool .nil))⟩;show _=xM (DV.Cw [.int .i64 (Vo a.toNat b.toNat),.bool (Vp a.toNat b.toNat)]);rw[compare.Order.ev,ha,hb,Aa,Aa,Aa,Aa,Aa,Aa,Bw,Bw];unfold Vo Vp VN B8;by_cases h1:Bj a.toNat=4
 ·have e:(((Bj a.toNat:Nat):Int)==(4:Int))=wg:=by rw[h1]; rfl
  rw[e,Aa,Az (.inl h1),Ac (.inl h1)]; rfl
 ·have e:(((Bj a.toNat:Nat):Int)==(4:Int))=wy:=OI h1;rw[e,Af];by_cases h2:Bj b.toNat=4
  ·have e:(((Bj b.toNat:Nat):Int)==(4:Int))=wg:=by rw[h2]; rfl
   rw[e,Aa,Az (.inr h2),Ac (.inr h2)]; rfl
  ·have e:(((Bj b.toNat:Nat):Int)==(4:Int))=wy:=OI h2;have hn:¬(Bj a.toNat=4\/Bj b.toNat=4):=fun h=>h.elim h1 h2
   rw[e,Af,Ay hn,Ag hn];by_cases h3:F1 a.toNat<F1 b.toNat
   ·rw[Ac h3,Az h3]; rfl
   ·rw[Ag h3,Ay h3];by_cases h4:F1 b.toNat<F1 a.toNat
    ·rw[Ac h4,Az h4]; rfl
    ·rw[Ag h4,Ay h4]; rfl
theorem compare.Po.Bi:Kq 108 compare.Po.Bk:=D6 compare.Po.E Tryz.func108 (kc compare.Order.Bi .nil) fun a b hp=>by have hp:(Bo a&&Bo b)=wg:=hp;refine⟨0,compare.Po.out [.i a,.i b],[],?_,.bool⟩;rw[compare.Po.ev,hp,Bw]; rfl
theorem AaD(N:Nat){a:Int}(ha:Bo a=wg):∀(k F m:Nat) (e:Int) (b:Bool),e=-1130-(k:Int)->k<F->m<2^53->(m≠0\/b=wg)->-9000<e ->
 compare.Dx.L0 N F a (m:Int) e b=xM (.Cw [.int .u64 (((BG (BE a.toNat) 0,3):Nat × Nat).1:Nat),.int .u8 (((BG (BE a.toNat) 0,3):Nat × Nat).2:Nat)]):=by
 have pre1:Ep (0:Int) (-1074:Int) wg=wg:=Bt.2 (by omega);intro k
 induction k with
 | zero =>
   intro F m e b he hF hm h0 _;obtain⟨F,rfl⟩:∃G,F=G+1:=⟨F-1,by omega⟩
   have hlt:BI e (-1130:Int)=wy:=by rw[Bw]; exact Ag (by omega)
   have Pk:Ep (m:Int) e b=wg:=Bt.2 (by omega);rw[compare.Dx.B1,hlt,z6,Af,Af,ha,Aa,Pk,Aa];unfold EJ EI DI;rw[Ad,Aep _ hm h0 (by omega)]
 | succ k ih =>
   intro F m e b he hF hm h0 hb;obtain⟨F,rfl⟩:∃G,F=G+1:=⟨F-1,by omega⟩
   have hlt:BI e (-1130:Int)=wg:=by rw[Bw]; exact Ac (by omega)
   rw[compare.Dx.B1,hlt,AR,Aa,Bw];by_cases h1:(1:Int)<(m:Int)
   ·have em:D7 .u64 (m:Int) (1:Int)=((m / 2^1:Nat):Int):=Hd .u64 m 1 (by decide);rw[Ac h1,Aa,em,Bq (by omega) (by omega)];exact ih F (m / 2^1) (e+1) _ (by omega) (by omega) (by omega) (.inl (by omega)) (by omega)
   ·rw[Ag h1,Af,ha,Aa,pre1,Aa];unfold EJ EI DI;rw[show(0:Int).toNat=0 from rfl,AgO]
theorem compare.Dx.Bi:Kq 136 compare.Dx.Bk:=D6 compare.Dx.E Tryz.func136 (kc soft.Kind.Bi (kc soft.DG.Bi (kc soft.Fh.Bi (kc soft.Sign.Bi .nil)))) fun a n hp=>by
 obtain⟨ha,hn⟩:=Bf.1 (show D1 a n=wg from hp);have hn:=Bt.1 hn;refine⟨3000,compare.Dx.out [.i a,.i n],[],?_,Wk.Gx (.cons .int (.cons .int .nil))⟩;show _=xM (DV.Cw [.int .u64 ((Co a.toNat n).1:Nat),.int .u8 ((Co a.toNat n).2:Nat)]);have em:max (-2300:Int) (min (2300:Int) n)=n:=by omega
 have pE:=C4 a.toNat;have pM:=E1 a.toNat;have ee:Be (BO a+n)=By a.toNat+n:=by unfold BO; exact Bq (by omega) (by omega)
 rw[compare.Dx.ev,ha,Aa,Aa,em,ee];unfold B8;by_cases h4:Bj a.toNat=4
 ·have e:(((Bj a.toNat:Nat):Int)==(4:Int))=wg:=by rw[h4]; rfl
  rw[e,Aa];unfold Co;rw[Az h4]; rfl
 have e4:(((Bj a.toNat:Nat):Int)==(4:Int))=wy:=OI h4;rw[e4,Af];by_cases h3:Bj a.toNat=3
 ·have e:(((Bj a.toNat:Nat):Int)==(3:Int))=wg:=by rw[h3]; rfl
  obtain⟨k,rfl,hk⟩:=BR ha;rw[e,Aa,Aa];unfold Co;rw[Ay h4,Az (.inl h3),Ad]; rfl
 have e3:(((Bj a.toNat:Nat):Int)==(3:Int))=wy:=OI h3;rw[e3,Af];by_cases h0:Bj a.toNat=0
 ·have e:(((Bj a.toNat:Nat):Int)==(0:Int))=wg:=by rw[h0]; rfl
  obtain⟨k,rfl,hk⟩:=BR ha;rw[e,Aa];unfold Co;rw[Ay h4,Az (.inr h0),Ad]; rfl
 have e0:(((Bj a.toNat:Nat):Int)==(0:Int))=wy:=OI h0;have hk:¬(Bj a.toNat=3\/Bj a.toNat=0):=fun h=>h.elim h3 h0
 have hm:Bs a.toNat≠0:=fun h=>h0 ((Dd h3 h4).1 h)
 rw[e0,Af];show compare.Dx.L0 3000 3000 a (Bs a.toNat:Nat) (By a.toNat+n) wy=_;by_cases ht:By a.toNat+n<=-1130
 ·rw[AaC h4 hk ht];exact AaD 3000 ha (-1130-(By a.toNat+n)).toNat 3000 _ _ wy (by omega) (by omega) (by omega) (.inl hm) (by omega)
 ·have hlt:BI (By a.toNat+n) (-1130:Int)=wy:=by rw[Bw]; exact Ag (by omega)
  have Pk:Ep ((Bs a.toNat:Nat):Int) (By a.toNat+n) wy=wg:=Bt.2 ⟨by omega,by omega,by omega,by omega,fun h=>by cases h⟩;rw[He h4 hk,show(3000:Nat)=2999+1 from rfl,compare.Dx.B1,hlt,z6,Af,Af,ha,Aa,Pk,Aa];unfold EJ EI DI;rw[Ad,Sw]
theorem Bu.Ct.Bi:Kq 106 Bu.Ct.Bk:=D6 Bu.Ct.E Tryz.func106 (kc compare.Dx.Bi .nil) fun a n hp=>by have hp:D1 a n=wg:=hp;refine⟨0,Bu.Ct.out [.i a,.i n],[],?_,.int⟩;rw[Bu.Ct.ev,hp]; rfl
theorem Bu.Div.Bi:Kq 139 Bu.Div.Bk:=D6 Bu.Div.E Tryz.func139 (kc times.Div.Bi .nil) fun a b hp=>by have hp:(Bo a&&Bo b)=wg:=hp;refine⟨0,Bu.Div.out [.i a,.i b],[],?_,.int⟩;rw[Bu.Div.ev,hp]; rfl
theorem GD{l:Bb}{i:Nat}(h:i<l.length):l.drop i=l.getD i 0::l.drop (i+1):=by rw[yL h,Al,As h]; rfl
theorem Hq{l:Bb}(h:CW l=wg):l.length<4611686018427387904/\∀j,j<l.length->Bo (l.getD j 0)=wg:=by obtain⟨h1,h2⟩:=Bt.1 h;exact⟨h1,fun j hj=>by rw[Al,As hj]; exact h2 _ (List.getElem_mem hj)⟩
theorem GN{l:Bb}(h:Bg l=wg)(hl:l.length<=1000):CW l=wg:=Bt.2 ⟨by omega,Bt.1 h⟩
theorem ZC(N:Nat){x:Bb}(hx:CW x=wg):∀(k i F:Nat),i+k=x.length->k<F->Bu.Finite.L0 N F x (i:Int)=xM (.bool ((x.drop i).all CO)):=by
 obtain⟨hl,hu⟩:=Hq hx;intro k
 induction k with
 | zero =>
   intro i F hi hF;obtain⟨F,rfl⟩:∃G,F=G+1:=⟨F-1,by omega⟩
   rw[Bu.Finite.B1,Bw,Ag (by omega),Af,Ap (by omega)]; rfl
 | succ k ih =>
   intro i F hi hF;obtain⟨F,rfl⟩:∃G,F=G+1:=⟨F-1,by omega⟩
   rw[Bu.Finite.B1,Bw,Ac (show(i:Int)<(x.length:Int) by omega),Aa,Ac (show(0:Int)<=(i:Int) by omega),Ah,Aa,Ad,hu i (by omega),Aa,GD (by omega),z9];cases CO (x.getD i 0) with
   | false=>rfl
   | true =>rw[AD,Af,Bq (by omega) (by omega),AR];exact ih (i+1) F (by omega) (by omega)
theorem Bu.Finite.Bi:Kq 104 Bu.Finite.Bk:=D6 Bu.Finite.E Tryz.func104 (kc soft.Finite.Bi .nil) fun x hp=>by have hp:CW x=wg:=hp;refine⟨x.length+1,Bu.Finite.out [.l x],[],?_,.bool⟩;show _=xM (DV.bool (x.all CO));rw[Bu.Finite.ev];exact ZC _ hp x.length 0 (x.length+1) (by omega) (by omega)
theorem Afi{x:Bb}{i:Nat}(h:i<x.length)(m:Nat):It (x.drop i) m=if Bj (x.getD i 0).toNat=4 then Jt else It (x.drop (i+1)) (max m (CV (x.getD i 0).toNat)):=by rw[GD h]; rfl
theorem Yg(N:Nat){x:Bb}(hx:CW x=wg):∀(k i F m:Nat),i+k=x.length->k<F->Bu.Cu.L0 N F x (m:Int) (i:Int)=xM (.int .u64 ((It (x.drop i) m:Nat):Int)):=by
 obtain⟨hl,hu⟩:=Hq hx;intro k
 induction k with
 | zero =>
   intro i F m hi hF;obtain⟨F,rfl⟩:∃G,F=G+1:=⟨F-1,by omega⟩
   rw[Bu.Cu.B1,Bw,Ag (by omega),Af,Ap (by omega)]; rfl
 | succ k ih =>
   intro i F m hi hF;obtain⟨F,rfl⟩:∃G,F=G+1:=⟨F-1,by omega⟩
   rw[Bu.Cu.B1,Bw,Ac (show(i:Int)<(x.length:Int) by omega),Aa,Ac (show(0:Int)<=(i:Int) by omega),Ah,Aa,Ad,hu i (by omega),Aa,Afi (by omega)];unfold B8;by_cases h4:Bj (x.getD i 0).toNat=4
   ·have e:(((Bj (x.getD i 0).toNat:Nat):Int)==(4:Int))=wg:=by rw[h4]; rfl
    rw[e,Aa,Az h4]; rfl
   ·have e:(((Bj (x.getD i 0).toNat:Nat):Int)==(4:Int))=wy:=OI h4;have em:max (m:Int) (Gf (x.getD i 0))=((max m (CV (x.getD i 0).toNat):Nat):Int):=by unfold Gf; omega
    rw[e,Af,Aa,Ay h4,em,Bq (by omega) (by omega)];exact ih (i+1) F _ (by omega) (by omega)
theorem Bu.Cu.Bi:Kq 107 Bu.Cu.Bk:=D6 Bu.Cu.E Tryz.func107 (kc compare.J8.Bi (kc soft.Kind.Bi .nil)) fun x hp=>by have hp:CW x=wg:=hp;refine⟨x.length+1,Bu.Cu.out [.l x],[],?_,.int⟩;rw[Bu.Cu.ev];exact Yg _ hp x.length 0 (x.length+1) 0 (by omega) (by omega)
theorem Ye(N:Nat){x:Bb}(hx:CW x=wg):∀(k i F:Nat),i+k=x.length->k<F->Dw.Check.L0 N F x (i:Int)=xM (.int .i64 (if (x.drop i).all CO=wg then 0 else 4)):=by
 obtain⟨hl,hu⟩:=Hq hx;intro k
 induction k with
 | zero =>
   intro i F hi hF;obtain⟨F,rfl⟩:∃G,F=G+1:=⟨F-1,by omega⟩
   rw[Dw.Check.B1,Bw,Ag (by omega),Af,Ap (by omega)]; rfl
 | succ k ih =>
   intro i F hi hF;obtain⟨F,rfl⟩:∃G,F=G+1:=⟨F-1,by omega⟩
   rw[Dw.Check.B1,Bw,Ac (show(i:Int)<(x.length:Int) by omega),Aa,Ac (show(0:Int)<=(i:Int) by omega),Ah,Aa,Ad,hu i (by omega),Aa,GD (by omega),z9];cases CO (x.getD i 0) with
   | false=>rfl
   | true =>rw[AD,Af,Bq (by omega) (by omega),AR];exact ih (i+1) F (by omega) (by omega)
theorem Hf{r c:Int}{l:Bb}(h:B5 r c l=wg):l.length<=36:=by obtain⟨R,C,rfl,rfl,r6,c6,hl⟩:=CU h;have:=A9 r6 c6;omega
theorem Dw.Check.Bi:Kq 49 Dw.Check.Bk:=D6 Dw.Check.E Tryz.func49 (kc Bc.Check.Bi (kc soft.Finite.Bi .nil)) fun r c l hp=>by
 have hp:Bg l=wg:=hp;refine⟨l.length+1,Dw.Check.out [.i r,.i c,.l l],[],?_,.int⟩;show _=xM (DV.int .i64 (Cm r c l));rw[Dw.Check.ev];unfold Ki Cm Dc;by_cases h:B5 r c l=wg
 ·have:=Hf h;rw[Az h,Az h];have e:((0:Int) !=(0:Int))=wy:=by decide
  rw[e,Af];exact Ye _ (GN hp (by omega)) l.length 0 (l.length+1) (by omega) (by omega)
 ·rw[Ay h,Ay h]; rfl
theorem Agx{m n:Nat}(hm:m≠0)(hn:n≠0)(lm:m<2^53)(ln:n<2^53)(i j:Int):
 Cj (Ey m n (54+n.log2-m.log2)) (i-j-((54+n.log2-m.log2:Nat):Int)-1)=Cj (Ey m n 120) (i-j-121):=by
 have l1:=(AV hm).2 lm;have a1:=zS hm;have a2:=yi (n:=n)
 have g1:2^53<=m*2^(54+n.log2-m.log2) / n:=by
  rw[yU (by omega)];have h1:2^m.log2*2^(54+n.log2-m.log2)<=m*2^(54+n.log2-m.log2):=An _ a1
  have h2:2^m.log2*2^(54+n.log2-m.log2)=2^53*2^(n.log2+1):=by rw[<- A2,<- A2];congr 1;omega
  have h3:2^53*n<=2^53*2^(n.log2+1):=Nat.mul_le_mul_left _ (by omega);omega
 have g2:2^53<=m*2^120 / n:=Agy (t:=53) (by omega) (by omega) ln (by omega);exact(Tx (by omega) g1 g2 (by omega)).1
theorem Ajs(s t:Bool)(m:Nat)(i:Int)(n:Nat)(j:Int)(hn:n≠0):(Datum.number s m i).quotient 54 (.number t n j)=
 xM (.number (s ^^ t) (Ey m n (54+n.log2-m.log2)) (i-j-((54+n.log2-m.log2:Nat):Int)-1)):=by
 have e:(Datum.number s m i).quotient 54 (.number t n j)=xM (.number (s ^^ t) (2*(m <<< (54+n.log2-m.log2) / n)+(m <<< (54+n.log2-m.log2)%n !=0).toNat) (i-j-((54+n.log2-m.log2:Nat):Int)-1)):=Ay hn;rw[e,yN];unfold Ey;congr 3;by_cases h:m*2^(54+n.log2-m.log2)%n=0
 ·rw[Az h,h]; rfl
 ·have:(m*2^(54+n.log2-m.log2)%n !=0)=wg:=by simpa using h
  rw[Ay h,this]; rfl
theorem Aid{a b:Nat}(ha:a<2^64)(hb:b<2^64){d:Nat}(hd:Bj d=4):DM ((Ieee.double.div a b).getD d)=(JW a b).1:=by
 have cd:DM d=Jt:=Az hd;have ex:∀s t:Bool,(s ^^ t)=(s !=t):=fun s t=>by cases s<;>cases t<;>rfl
 have e54:Ieee.double.fractionBits+2=54:=rfl;unfold Format.div;rw[HG ha,HG hb,e54];unfold JW;by_cases a4:Bj a=4
 ·rw[Az (.inl a4),G9 a4]; exact cd
 ·by_cases b4:Bj b=4
  ·rw[Az (.inr b4),G9 b4];by_cases a3:Bj a=3
   ·rw[Ew a3]; exact cd
   ·rw[Ev a3 a4]; exact cd
  ·rw[Ay (fun h=>h.elim a4 b4)];by_cases a3:Bj a=3
   ·rw[Ew a3];by_cases b3:Bj b=3
    ·rw[Ew b3,Az ⟨by omega,.inl a3⟩]; exact cd
    ·rw[Ev b3 b4,Ay (by omega),Az a3];show DM (BG (BE a ^^ BE b) Dk)=_;rw[Go.Proofs.S1.J5,ex]
   ·rw[Ev a3 a4];by_cases b3:Bj b=3
    ·rw[Ew b3,Ay (by omega),Ay a3,Az (.inl b3)];show DM (Ieee.double.write (.number (BE a ^^ BE b) 0 0))=_;rw[KC,Ju,ex];exact Gs _ (Nat.zero_le _)
    ·rw[Ev b3 b4];have za:=Q5 a3 a4;have zb:=Q5 b3 b4;by_cases b0:Bj b=0
     ·by_cases a0:Bj a=0
      ·have e:(Datum.number (BE a) (Bs a) (By a)).quotient 54 (.number (BE b) (Bs b) (By b))=xN:=by show(if Bs b=0 then (if Bs a=0 then xN else _) else _)=_;rw[Az (zb.2 b0),Az (za.2 a0)]
       rw[e,Az ⟨by omega,.inr a0⟩]; exact cd
      ·have e:(Datum.number (BE a) (Bs a) (By a)).quotient 54 (.number (BE b) (Bs b) (By b))=xM (.infinity (BE a ^^ BE b)):=by show(if Bs b=0 then (if Bs a=0 then xN else _) else _)=_;rw[Az (zb.2 b0),Ay (fun k=>a0 (za.1 k))]
       rw[e,Ay (by omega),Ay a3,Ay (by omega),Az b0];show DM (BG (BE a ^^ BE b) Dk)=_;rw[Go.Proofs.S1.J5,ex]
     ·have hn:Bs b≠0:=fun k=>b0 (zb.1 k)
      rw[Ajs _ _ _ _ _ _ hn,Ay (by omega),Ay a3];show DM (Ieee.double.write (.number _ _ _))=_;rw[KC,Gs _ (HE _ _),ex];by_cases a0:Bj a=0
      ·rw[Az (.inr a0),za.2 a0]
       have:Ey 0 (Bs b) (54+(Bs b).log2-Nat.log2 0)=0:=by unfold Ey;rw[zI,Nat.zero_div,Nat.zero_mod,Az rfl]
       rw[this,Ju]
      ·have hm:Bs a≠0:=fun k=>a0 (za.1 k)
       have la:=E1 a;have lb:=E1 b;rw[Ay (by omega),Ay b0,Agx hm hn (by omega) (by omega)]
def root.HN.hint:Nat->Option BH
 | 0=>xM { CH:=[0,4,5,6,14],BW:=[],Cf:=[] }
 | _=>xN
def root.HN.E:=CP (CC []) (fun _=>wy) root.HN.hint (fun _=>xN)
section
variable(N M:Nat)(m p4 p5 p6 p14:Int)
def root.HN.L0:Option DV:=BU root.HN.E N f188 (Br f188) [1,1,0,1,0] [] M ⟨EP 68 [(0,.int .u64 m),(4,.int .u64 p4),(5,.int .u64 p5),(6,.int .u64 p6),(14,.int .i64 p14)],[]⟩
theorem root.HN.B1:root.HN.L0 N (M+1) m p4 p5 p6 p14=cond (BI p14 64) (bif (BI p14 32) then cond (decide (0<=(Be ((62:Int)-(Be ((2:Int)*p14)))))) (bif (decide ((G7 (Ht .u64 (Cr .u64 p6 2) (ED .u64 (D7 .u64 m (Be ((62:Int)-(Be ((2:Int)*p14))))) 3)) (Ht .u64 (Cr .u64 p4 2) 1) 0)<=1)) then cond ((G7 (Ht .u64 (Cr .u64 p5 2) (D7 .u64 p6 62)) (D7 .u64 p4 62) (G7 (Ht .u64 (Cr .u64 p6 2) (ED .u64 (D7 .u64 m (Be ((62:Int)-(Be ((2:Int)*p14))))) 3)) (Ht .u64 (Cr .u64 p4 2) 1) 0))==(0:Int)) (root.HN.L0 N M m (Ht .u64 (Cr .u64 p4 1) 1) (L9 (Ht .u64 (Cr .u64 p5 2) (D7 .u64 p6 62)) (D7 .u64 p4 62) (G7 (Ht .u64 (Cr .u64 p6 2) (ED .u64 (D7 .u64 m (Be ((62:Int)-(Be ((2:Int)*p14))))) 3)) (Ht .u64 (Cr .u64 p4 2) 1) 0)) (L9 (Ht .u64 (Cr .u64 p6 2) (ED .u64 (D7 .u64 m (Be ((62:Int)-(Be ((2:Int)*p14))))) 3)) (Ht .u64 (Cr .u64 p4 2) 1) 0) (Be (p14+1))) (root.HN.L0 N M m (Cr .u64 p4 1) (Ht .u64 (Cr .u64 p5 2) (D7 .u64 p6 62)) (Ht .u64 (Cr .u64 p6 2) (ED .u64 (D7 .u64 m (Be ((62:Int)-(Be ((2:Int)*p14))))) 3)) (Be (p14+1))) else xN) xN else bif (decide ((G7 (Ht .u64 (Cr .u64 p6 2) 0) (Ht .u64 (Cr .u64 p4 2) 1) 0)<=1)) then cond ((G7 (Ht .u64 (Cr .u64 p5 2) (D7 .u64 p6 62)) (D7 .u64 p4 62) (G7 (Ht .u64 (Cr .u64 p6 2) 0) (Ht .u64 (Cr .u64 p4 2) 1) 0))==(0:Int)) (root.HN.L0 N M m (Ht .u64 (Cr .u64 p4 1) 1) (L9 (Ht .u64 (Cr .u64 p5 2) (D7 .u64 p6 62)) (D7 .u64 p4 62) (G7 (Ht .u64 (Cr .u64 p6 2) 0) (Ht .u64 (Cr .u64 p4 2) 1) 0)) (L9 (Ht .u64 (Cr .u64 p6 2) 0) (Ht .u64 (Cr .u64 p4 2) 1) 0) (Be (p14+1))) (root.HN.L0 N M m (Cr .u64 p4 1) (Ht .u64 (Cr .u64 p5 2) (D7 .u64 p6 62)) (Ht .u64 (Cr .u64 p6 2) 0) (Be (p14+1))) else xN) (xM (.Cw [.int .u64 p4,.bool (cond (p5==(0:Int)) (p6==(0:Int)) wy)])) :=Et (DJ rfl (B4 (L8 (p5==(0:Int))) (B4 (Ka (p5==(0:Int))) (B4 (Pp (p5==(0:Int))) rfl))))
theorem root.HN.ev:BX root.HN.E N f188 (Br f188) [.int .u64 m]=
 root.HN.L0 N N m 0 0 0 0:=by kernel_rfl
end
def root.Sqrt.hint:Nat->Option BH
 | 5=>xM { CH:=[5,7,9],BW:=[],Cf:=[] }
 | _=>xN
def root.Sqrt.E:=CP (CC [(183,DE.CY.Bk),(188,root.HN.Bk),(133,soft.Kind.Bk),(163,soft.DG.Bk),(162,soft.Fh.Bk),(159,soft.Sign.Bk)]) (fun _=>wy) root.Sqrt.hint (fun _=>xN)
section
variable(N:Nat)(a:Int)(M:Nat)(p5 p7:Int)(p9:Bool)
def root.Sqrt.L0:Option DV:=BU root.Sqrt.E N f186 (Br f186) [1,1,1,1,1,1,1,1,1,0,0] [] M ⟨EP 73 [(5,.int .i64 p5),(7,.int .u64 p7),(9,.bool p9)],[]⟩
theorem root.Sqrt.B1:root.Sqrt.L0 N (M+1) p5 p7 p9=cond (Eu 4611686018427387904 p7) (root.Sqrt.L0 N M (Be (p5+2)) (D7 .u64 p7 1) (cond p9 wg ((ED .u64 p7 1)==(1:Int)))) (bif (Ep p7 (Be ((Be (zB p5 2))-32)) p9) then xM (.Cw [.int .u64 (EJ wy p7 (Be ((Be (zB p5 2))-32)) p9),.int .u8 (EI wy p7 (Be ((Be (zB p5 2))-32)) p9)]) else xN) :=Et (DJ (B4 (O1 p9) (B4 (Nx p9) (B4 (Nx p9) (B4 (SM p9) rfl)))) rfl)
theorem root.Sqrt.ev:BX root.Sqrt.E N f186 (Br f186) [.int .u64 a]=cond (Bo a) (bif ((B8 a)==(4:Int)) then xM (.Cw [.int .u64 9221120237041090560,.int .u8 0]) else bif (Bo a) then cond ((B8 a)==(0:Int)) (xM (.Cw [.int .u64 a,.int .u8 0])) (bif (a==(9218868437227405312:Int)) then xM (.Cw [.int .u64 a,.int .u8 0]) else bif (Bo a) then cond (DI a) (xM (.Cw [.int .u64 9221120237041090560,.int .u8 16])) (bif (Bo a) then cond (Bo (Ci a)) (bif ((zH (Be ((BO a)-(Be ((64-EK (Ci a))-2)))) 2) !=(0:Int)) then cond (decide (0<=(Be ((Be ((64-EK (Ci a))-2))-1)))) (bif (CE (0<=(Cr .u64 (Ci a) (Be ((Be ((64-EK (Ci a))-2))-1)))/\(Cr .u64 (Ci a) (Be ((Be ((64-EK (Ci a))-2))-1)))<9223372036854775808)) then root.Sqrt.L0 N N (Be ((BO a)-(Be ((Be ((64-EK (Ci a))-2))-1)))) (QH (Cr .u64 (Ci a) (Be ((Be ((64-EK (Ci a))-2))-1)))) (!(QI (Cr .u64 (Ci a) (Be ((Be ((64-EK (Ci a))-2))-1))))) else xN) xN else bif (decide (0<=(Be ((64-EK (Ci a))-2)))) then cond (CE (0<=(Cr .u64 (Ci a) (Be ((64-EK (Ci a))-2)))/\(Cr .u64 (Ci a) (Be ((64-EK (Ci a))-2)))<9223372036854775808)) (root.Sqrt.L0 N N (Be ((BO a)-(Be ((64-EK (Ci a))-2)))) (QH (Cr .u64 (Ci a) (Be ((64-EK (Ci a))-2)))) (!(QI (Cr .u64 (Ci a) (Be ((64-EK (Ci a))-2)))))) xN else xN) xN else xN) else xN) else xN) xN:=by kernel_rfl
end
def Bu.Sqrt.E:=E0 [(186,root.Sqrt.Bk)]
theorem Bu.Sqrt.ev(N:Nat)(a:Int):BX Bu.Sqrt.E N f181 (Br f181) [.int .u64 a]=cond (Bo a) (xM (.int .u64 (ET a))) xN:=by kernel_rfl
def compare.N8.E:=E0 [(180,DE.Jk.Bk),(99,soft.Finite.Bk),(133,soft.Kind.Bk),(162,soft.Fh.Bk)]
theorem compare.N8.ev(N:Nat)(a:Int):BX compare.N8.E N f156 (Br f156) [.int .u64 a]=cond (Bo a) (bif ((!(CO a))||(Bo a)) then cond ((!(CO a))||((B8 a)==(0:Int))) (xM (.int .i64 0)) (bif (Bo a) then cond (Bo (Ci a)) (xM (.int .i64 (Be ((Be ((EK (Ci a))-1))+(BO a))))) xN else xN) else xN) xN :=Et (DJ (B4 (WN (CO a)) (C0 (Ad9 _ _) (B4 (PA (CO a)) (B4 (WO (CO a)) (C0 (Alv _ _) rfl rfl))) rfl)) rfl)
def Bu.Norm.hint:Nat->Option BH
 | 0=>xM { CH:=[5,6,25,26,27],BW:=[],Cf:=[] }
 | _=>xN
def Bu.Norm.E:=CP (CC [(156,compare.N8.Bk),(99,soft.Finite.Bk),(114,Bu.Add.Bk),(107,Bu.Cu.Bk),(115,Bu.Mul.Bk),(106,Bu.Ct.Bk),(181,Bu.Sqrt.Bk)]) (fun _=>wy) Bu.Norm.hint (fun _=>xN)
section
variable(N M:Nat)(x:Bb)(p6 p27:Int)
def Bu.Norm.L0:Option DV:=BU Bu.Norm.E N f158 (Br f158) [1,1,1,1,1,1,0,1,0] [] M ⟨EP 45 [(5,.int .i64 (BK (BA x))),(6,.int .u64 p6),(25,.Bh .arg .u64 x),(26,.int .i64 (vA x:Int)),(27,.int .i64 p27)],[]⟩
theorem Bu.Norm.B1:Bu.Norm.L0 N (M+1) x p6 p27=cond (BI p27 (vA x:Int)) (bif ((decide (0<=p27))&&(decide (p27<(vA x:Int)))) then cond (D1 (vB x (wz p27) 0) (Be (0-(BK (BA x))))) (bif (Bo (BP (vB x (wz p27) 0) (Be (0-(BK (BA x)))))&&Bo (BP (vB x (wz p27) 0) (Be (0-(BK (BA x)))))) then cond (Bo p6&&Bo (CN (BP (vB x (wz p27) 0) (Be (0-(BK (BA x))))) (BP (vB x (wz p27) 0) (Be (0-(BK (BA x))))))) (Bu.Norm.L0 N M x (EN p6 (CN (BP (vB x (wz p27) 0) (Be (0-(BK (BA x))))) (BP (vB x (wz p27) 0) (Be (0-(BK (BA x))))))) (Be (p27+1))) xN else xN) xN else xN) (bif (Bo p6) then cond (D1 (ET p6) (BK (BA x))) (xM (.Cw [.int .u64 (BP (ET p6) (BK (BA x))),.int .i64 0])) xN else xN):=by kernel_rfl
theorem Bu.Norm.ev:BX Bu.Norm.E N f158 (Br f158) [.Bh .arg .u64 x]=cond (BI 64 (vA x:Int)) (xM (.Cw [.int .u64 0,.int .i64 3])) (bif (CW x) then cond (((BA x)==(0:Int))||(Bo (BA x))) (bif (((BA x)==(0:Int))||(!(CO (BA x)))) then xM (.Cw [.int .u64 (BA x),.int .i64 0]) else bif (Bo (BA x)) then Bu.Norm.L0 N N x 0 (0:Int) else xN) xN else xN) :=Et (DJ rfl (DJ (B4 (O1 ((BA x)==(0:Int))) (C0 (AiN _ _) (B4 (Nx ((BA x)==(0:Int))) (B4 (SM ((BA x)==(0:Int))) (C0 (AmJ _ _) rfl rfl))) rfl)) rfl))
end
theorem Oq(n s:Nat)(h:s<=64):D7 .u64 (n:Int) (s:Int)=((n / 2^s:Nat):Int):=Hd .u64 n s h
theorem sh2{n t:Nat}(ht:t<4):Ht .u64 (Cr .u64 (n:Int) (2:Int)) (t:Int)=((n%2^62*4+t:Nat):Int):=by rw[show(2:Int)=((2:Nat):Int) from rfl,Ff n 2 (by decide),show n*2^2%2^64=(n%2^62)*2^2 by omega];exact Lm ht (by omega)
theorem sh1{n:Nat}(h:n<2^63):Cr .u64 (n:Int) (1:Int)=((2*n:Nat):Int):=by rw[show(1:Int)=((1:Nat):Int) from rfl,Ff n 1 (by decide)];congr 1; omega
theorem AoF{n:Nat}(h:n<2^63):Ht .u64 (Cr .u64 (n:Int) (1:Int)) (1:Int)=((2*n+1:Nat):Int):=by rw[show(1:Int)=((1:Nat):Int) from rfl,Ff n 1 (by decide),show n*2^1%2^64=n*2^1 by omega,A1 2 n];exact Lm (k:=1) (by decide) (by omega)
theorem AfF{m i:Nat}(hi:i<32):ED .u64 (D7 .u64 (m:Int) (Be ((62:Int)-(Be ((2:Int)*(i:Int)))))) (3:Int)=((m / 2^(62-2*i)%2^64%4:Nat):Int)\/2^64<=m:=by
 by_cases hm:m<2^64
 ·left;rw[Bq (x:=(2:Int)*(i:Int)) (by omega) (by omega),Bq (x:=(62:Int)-2*(i:Int)) (by omega) (by omega),show(62:Int)-2*(i:Int)=((62-2*i:Nat):Int) by omega,Oq _ _ (by omega)];have hd:m / 2^(62-2*i)<2^64:=AG (yE _ _) hm;rw[show(3:Int)=((2^2-1:Nat):Int) from rfl,HO 2 hd (by decide)];congr 1;omega
 ·right; omega
def Pk(m i:Nat):Nat:=m*2^64 / 2^(128-2*i)
theorem Ag2{m i:Nat}(hi:i<32):Pk m (i+1)=4*Pk m i+m / 2^(62-2*i)%4:=by
 unfold Pk;have e1:128-2*i=64+(64-2*i):=by omega
 have e2:128-2*(i+1)=64+(62-2*i):=by omega
 rw[e1,e2,A2,A2,A1 (2^64),A1 (2^64),x8 _ _ (by decide),x8 _ _ (by decide),show 64-2*i=(62-2*i)+2 by omega,A2,<- A6];omega
theorem Aed{m i:Nat}(hi:32<=i)(h:i<64):Pk m (i+1)=4*Pk m i:=by
 unfold Pk;have e1:(2:Nat)^64=2^(2*i-64)*2^(128-2*i):=by rw[<- A2]; congr 1; omega
 have e2:(2:Nat)^64=2^(2*i-64)*4*2^(128-2*(i+1)):=by rw[show(4:Nat)=2^2 from rfl,<- A2,<- A2]; congr 1; omega
 have a1:m*2^64 / 2^(128-2*i)=m*2^(2*i-64):=by rw[e1,<- A4,x9 _ (Cs _)]
 have a2:m*2^64 / 2^(128-2*(i+1))=m*(2^(2*i-64)*4):=by rw[e2,<- A4,x9 _ (Cs _)]
 rw[a1,a2,<- A4,A1 4]
theorem Ajd{A B tl th:Nat}(hA:A<2^64)(htl:tl<2^64)(hB:B<2^64)(hth:th<4):
 (G7 (A:Int) (tl:Int) (0:Int)=0\/G7 (A:Int) (tl:Int) (0:Int)=1) /\
 (th*2^64+tl<=B*2^64+A->(G7 (B:Int) (th:Int) (G7 (A:Int) (tl:Int) (0:Int))==(0:Int))=wg /\
  ∃h l:Nat,L9 (B:Int) (th:Int) (G7 (A:Int) (tl:Int) (0:Int))=(h:Int)/\L9 (A:Int) (tl:Int) (0:Int)=(l:Int)/\l<2^64/\h*2^64+l=B*2^64+A-(th*2^64+tl)) /\
 (B*2^64+A<th*2^64+tl->(G7 (B:Int) (th:Int) (G7 (A:Int) (tl:Int) (0:Int))==(0:Int))=wy):=by
 have e1:G7 (A:Int) (tl:Int) (0:Int)=((if A<tl then 1 else 0:Nat):Int):=by unfold G7;rw[Ad,Ad];rfl
 by_cases h:A<tl
 ·rw[Az h] at e1;rw[e1]
  have e2:G7 (B:Int) (th:Int) ((1:Nat):Int)=((if B<th+1 then 1 else 0:Nat):Int):=by unfold G7;rw[Ad,Ad];rfl
  refine⟨.inr rfl,fun hle=>?_,fun hlt=>?_⟩
  ·rw[Ay (by omega)] at e2;rw[e2];refine⟨rfl,B-th-1,A+2^64-tl,?_,?_,by omega,by omega⟩
   ·unfold L9;rw[Ad,Ad,Ad];congr 1; omega
   ·unfold L9;rw[Ad,Ad];show((_:Nat):Int)=_;congr 1;show(A+18446744073709551616-tl-0)%18446744073709551616=_;omega
  ·rw[Az (by omega)] at e2;rw[e2]; rfl
 ·rw[Ay h] at e1;rw[e1]
  have e2:G7 (B:Int) (th:Int) ((0:Nat):Int)=((if B<th then 1 else 0:Nat):Int):=by unfold G7;rw[Ad,Ad];rfl
  refine⟨.inl rfl,fun hle=>?_,fun hlt=>?_⟩
  ·rw[Ay (by omega)] at e2;rw[e2];refine⟨rfl,B-th,A-tl,?_,?_,by omega,by omega⟩
   ·unfold L9;rw[Ad,Ad,Ad];congr 1; omega
   ·unfold L9;rw[Ad,Ad];show((_:Nat):Int)=_;congr 1;show(A+18446744073709551616-tl-0)%18446744073709551616=_;omega
  ·rw[Az (by omega)] at e2;rw[e2]; rfl
theorem glue(n t:Nat):n / 2^62*2^64+(n%2^62*4+t)=4*n+t:=by omega
theorem Ae4(N:Nat){m:Nat}(hm:m<2^63):∀(k i F rt rest:Nat),i+k=64->k<F->Pk m i=rt*rt+rest->rest<=2*rt->rt<2^i->∀hi lo:Nat,hi*2^64+lo=rest->lo<2^64 ->
 root.HN.L0 N F (m:Int) (rt:Int) (hi:Int) (lo:Int) (i:Int)=xM (.Cw [.int .u64 (QH m),.bool (QI m)]):=by
 intro k
 induction k with
 | zero =>
   intro i F rt rest hi hF hP hr hb h l e hl;obtain⟨F,rfl⟩:∃G,F=G+1:=⟨F-1,by omega⟩
   obtain rfl:i=64:=by omega
   have hP':m*2^64=rt*rt+rest:=by rw[<- hP]; unfold Pk;rw[show 128-2*64=0 from rfl,AB,Nat.div_one]
   have hroot:=Ajq hP' hr;rw[root.HN.B1,Bw,Ag (by omega),Af];have e1:QH (m:Int)=(rt:Int):=by unfold QH; rw[Ad,<- hroot]
   have e2:QI (m:Int)=(cond ((h:Int)==(0:Int)) ((l:Int)==(0:Int)) wy):=by
    unfold QI;rw[Ad,<- hroot,hP'];by_cases h0:h=0
    ·subst h0;rw[show(((0:Nat):Int)==(0:Int))=wg from rfl,Aa,Ar,Ai,beq_iff_eq];omega
    ·rw[show((h:Int)==(0:Int))=wy by rw[A8]; omega,Af,Ag];omega
   rw[e1,e2]
 | succ k ih =>
   intro i F rt rest hi hF hP hr hb h l e hl;obtain⟨F,rfl⟩:∃G,F=G+1:=⟨F-1,by omega⟩
   have hp:2^i<=2^63:=Aq (by decide) (by omega);have hi63:2^(i+1)=2*2^i:=by rw[zG,A1]
   have f1:2*rt+1<2^(i+1):=by rw[hi63]; omega
   have f2:2*rt<2^(i+1):=by omega
   have hh:h=0:=by omega
   subst hh;have hrest:rest=l:=by omega
   subst hrest
   obtain⟨two,t4,hP',hcode⟩:∃two:Nat,two<4/\Pk m (i+1)=4*Pk m i+two /\
    root.HN.L0 N (F+1) (m:Int) (rt:Int) ((0:Nat):Int) (rest:Int) (i:Int)=
    (bif (decide ((G7 (Ht .u64 (Cr .u64 (rest:Int) (2:Int)) (two:Int)) (Ht .u64 (Cr .u64 (rt:Int) (2:Int)) (1:Int)) (0:Int))<=1)) then
     bif ((G7 (Ht .u64 (Cr .u64 ((0:Nat):Int) (2:Int)) (D7 .u64 (rest:Int) (62:Int))) (D7 .u64 (rt:Int) (62:Int)) (G7 (Ht .u64 (Cr .u64 (rest:Int) (2:Int)) (two:Int)) (Ht .u64 (Cr .u64 (rt:Int) (2:Int)) (1:Int)) (0:Int)))==(0:Int)) then
      root.HN.L0 N F (m:Int) (Ht .u64 (Cr .u64 (rt:Int) (1:Int)) (1:Int)) (L9 (Ht .u64 (Cr .u64 ((0:Nat):Int) (2:Int)) (D7 .u64 (rest:Int) (62:Int))) (D7 .u64 (rt:Int) (62:Int)) (G7 (Ht .u64 (Cr .u64 (rest:Int) (2:Int)) (two:Int)) (Ht .u64 (Cr .u64 (rt:Int) (2:Int)) (1:Int)) (0:Int))) (L9 (Ht .u64 (Cr .u64 (rest:Int) (2:Int)) (two:Int)) (Ht .u64 (Cr .u64 (rt:Int) (2:Int)) (1:Int)) (0:Int)) (Be ((i:Int)+(1:Int)))
     else root.HN.L0 N F (m:Int) (Cr .u64 (rt:Int) (1:Int)) (Ht .u64 (Cr .u64 ((0:Nat):Int) (2:Int)) (D7 .u64 (rest:Int) (62:Int))) (Ht .u64 (Cr .u64 (rest:Int) (2:Int)) (two:Int)) (Be ((i:Int)+(1:Int)))
    else xN):=by
    by_cases h32:i<32
    ·refine⟨m / 2^(62-2*i)%4,zv _ (by decide),Ag2 h32,?_⟩;have ht:=(AfF (m:=m) h32).resolve_right (by omega);have hq:m / 2^(62-2*i)%2^64%4=m / 2^(62-2*i)%4:=by omega
     rw[hq] at ht;rw[root.HN.B1,Bw,Ac (show(i:Int)<64 by omega),Aa,Bw,Ac (show(i:Int)<32 by omega),Aa,ht,Bq (x:=(2:Int)*(i:Int)) (by omega) (by omega),Bq (x:=(62:Int)-2*(i:Int)) (by omega) (by omega),Ac (show(0:Int)<=62-2*(i:Int) by omega),Aa]
    ·refine⟨0,by decide,by rw[Aed (by omega) (by omega),AM],?_⟩;rw[root.HN.B1,Bw,Ac (show(i:Int)<64 by omega),Aa,Bw,Ag (show ¬(i:Int)<32 by omega),Af];rfl
   obtain⟨s1,s2⟩:=AbA hP hr t4;have eA:=sh2 (n:=rest) t4;have eT:=sh2 (n:=rt) (t:=1) (by decide)
   have eB:Ht .u64 (Cr .u64 ((0:Nat):Int) (2:Int)) (D7 .u64 (rest:Int) (62:Int))=((rest / 2^62:Nat):Int):=by rw[show(62:Int)=((62:Nat):Int) from rfl,Oq _ _ (by decide),sh2 (n:=0) (t:=rest / 2^62) (by omega)];congr 1; omega
   have eH:D7 .u64 (rt:Int) (62:Int)=((rt / 2^62:Nat):Int):=by rw[show(62:Int)=((62:Nat):Int) from rfl,Oq _ _ (by decide)]
   have eT':Ht .u64 (Cr .u64 (rt:Int) (2:Int)) (1:Int)=((rt%2^62*4+1:Nat):Int):=eT;obtain⟨b1,b2,b3⟩:=Ajd (A:=rest%2^62*4+two) (B:=rest / 2^62) (tl:=rt%2^62*4+1) (th:=rt / 2^62) (by omega) (by omega) (by omega) (by omega);rw[hcode,eA,eT',eB,eH,Ac (by rcases b1 with b | b<;>rw[b]<;>decide),Aa,Bq (by omega) (by omega)];by_cases hc:4*rt+1<=4*rest+two
   ·obtain⟨c1,hh,ll,c2,c3,c4,c5⟩:=b2 (by rw[glue,glue]; exact hc);obtain⟨d1,d2⟩:=s1 hc;rw[c1,Aa,c2,c3,AoF (by omega)];refine ih (i+1) F (2*rt+1) (4*rest+two-(4*rt+1)) (by omega) (by omega) (hP'.trans d1) d2 f1 hh ll ?_ c4;rw[c5,glue,glue]
   ·rw[b3 (by rw[glue,glue]; omega),Af,sh1 (by omega)];obtain⟨d1,d2⟩:=s2 (by omega);refine ih (i+1) F (2*rt) (4*rest+two) (by omega) (by omega) (hP'.trans d1) d2 f2 _ _ (glue _ _) ?_;clear hcode;omega
theorem root.HN.Bi:Kq 188 root.HN.Bk:=D6 root.HN.E Tryz.func188 .nil fun m hp=>by
 have hp:=Bt.1 hp;obtain⟨n,rfl⟩:∃n:Nat,m=n:=⟨m.toNat,by omega⟩
 refine⟨65,root.HN.out [.i n],[],?_,Wk.Gx (.cons .int (.cons .bool .nil))⟩;rw[root.HN.ev]
 have h0:Pk n 0=0*0+0:=by unfold Pk;rw[z8];show n*18446744073709551616<340282366920938463463374607431768211456;omega
 exact Ae4 65 (by omega) 64 0 65 0 0 rfl (by omega) h0 (A7 0) Nat.one_pos 0 0 rfl (Nat.pow_pos (by decide))
theorem Uu{b:Nat}(h:Bs b≠0):EK (Bs b:Int)=((Bs b).log2:Int)+1:=by unfold EK;rw[Ay (by omega),Ad]
theorem AdM{w:Nat}{E:Int}{s:Bool}(hw:2^62<=w)(n:Nat)(h:Jm n=w)(hs:s=decide (w*w≠n)):
 FY wy (w / 2) (E+2) (cond s wg (decide (w%2=1)))=(Cj (Eb n) E,flagsOf (Eb n) E):=by
 have e1:Eb n / 2^2=w / 2:=by unfold Eb; rw[h]; split<;>omega
 have e2:(cond s wg (decide (w%2=1)))=decide (Eb n%2^2≠0):=by
  rw[hs];unfold Eb;rw[h];by_cases h0:w*w=n
  ·rw[Ag (by omega),Af,Az h0,decide_eq_decide]; omega
  ·rw[Ac h0,Aa,Ay h0]; symm; exact Ac (by omega)
 rw[<- e1];have:=Q9 wy (V:=Eb n) (k:=2) (E:=E) (e:=E+2) rfl e2 (by rw[e1]; omega) (by left; rw[e1]; omega);rw[Fx] at this;exact this
theorem root.Sqrt.num{b:Nat}(hb:b<2^64)(h4:Bj b≠4)(h:¬(Bj b=0\/b=Dk))(hn:BE b=wy){z:Nat}(hz:2^60<=Bs b*2^z)(hz2:Bs b*2^z<2^62)(he:(By b-(z:Int))%2=0)(z60:z<=62):
 root.Sqrt.L0 2 2 (By b-(z:Int)) (QH ((Bs b*2^z:Nat):Int)) (!(QI ((Bs b*2^z:Nat):Int)))=xM (.Cw [.int .u64 (ET (b:Int)),.int .u8 (NL (b:Int))]):=by
 have hE:=C4 b;have hM:=E1 b
 have h3:Bj b≠3:=fun h3=>by
  refine h (.inr ?_);have hpn:BE b=wy:=hn;unfold BE at hpn;have hlt:b<2^63:=by simpa using hpn
  unfold Bj at h3;have hp:=HI b;unfold Dn at h3;unfold CL at h3;unfold Dk;split at h3
  ·split at h3
   ·omega
   ·omega
  ·split at h3
   ·omega
   ·split at h3<;>omega
 have hm:Bs b≠0:=fun h0=>h (.inl ((Dd h3 h4).1 h0))
 have eN:Bs b*2^z*2^64=Bs b*2^(z+64):=by rw[A4,<- A2]
 have i1:2^62<=Jm (Bs b*2^z*2^64):=QQ (t:=62) (by omega);have i2:=(JR (Bs b*2^z*2^64)).1
 have i3:Jm (Bs b*2^z*2^64)<2^63:=by refine YE (AG i2 ?_);show _<9223372036854775808*9223372036854775808;omega
 have r1:QH ((Bs b*2^z:Nat):Int)=(Jm (Bs b*2^z*2^64):Int):=by unfold QH; rw[Ad]
 have r2:(!(QI ((Bs b*2^z:Nat):Int)))=decide (Jm (Bs b*2^z*2^64)*Jm (Bs b*2^z*2^64)≠Bs b*2^z*2^64):=by unfold QI; rw[Ad,<- decide_not]
 obtain⟨k1,k2⟩:=NV hm;have same:=VK (m:=Bs b) (k:=z+64) (l:=EV b) (E:=(By b-(z:Int)) / 2-33) (F:=(By b-(EV b:Int)) / 2-1) (by rw[<- eN]; omega) k1 (by omega);rw[<- eN] at same;have near:=AdM (E:=(By b-(z:Int)) / 2-33) i1 _ rfl r2;rw[same.1,same.2] at near;have sq:Gu b=_:=NK h4 h hn;rw[r1,r2];rw[r2] at near;generalize Jm (Bs b*2^z*2^64)=w at *
 have w1:Eu (4611686018427387904:Int) (w:Int)=wg:=by rw[DX]; exact Ac (by omega)
 have w2:D7 .u64 (w:Int) (1:Int)=((w / 2:Nat):Int):=by rw[show(1:Int)=((1:Nat):Int) from rfl,Oq _ _ (by decide)]
 have w3:((ED .u64 (w:Int) (1:Int))==(1:Int))=decide (w%2=1):=by rw[show ED .u64 (w:Int) (1:Int)=((w%2^1:Nat):Int) from HO 1 (by omega) (by decide),Ar,beq_iff_eq,Ai];omega
 have w4:Eu (4611686018427387904:Int) ((w / 2:Nat):Int)=wy:=by rw[DX]; exact Ag (by omega)
 have w5:Be (Be (zB (By b-(z:Int)+2) 2)-32)=(By b-(z:Int)) / 2-33+2:=by
  have:zB (By b-(z:Int)+2) 2=(By b-(z:Int)) / 2+1:=by rw[Int.tdiv_eq_ediv];split<;>omega
  rw[this,Bq (x:=(By b-(z:Int)) / 2+1) (by omega) (by omega),Bq (by omega) (by omega)];omega
 have w6:Be (By b-(z:Int)+2)=By b-(z:Int)+2:=Bq (by omega) (by omega);generalize hs:decide (w*w≠Bs b*2^z*2^64)=s at *
 have pre:Ep ((w / 2:Nat):Int) ((By b-(z:Int)) / 2-33+2) (cond s wg (decide (w%2=1)))=wg:=Bt.2 ⟨by omega,by omega,by omega,by omega,fun _=>.inl (by omega)⟩;rw[show(2:Nat)=1+1 from rfl,root.Sqrt.B1,w1,Aa,w2,w3,w6,show(1:Nat)=0+1 from rfl,root.Sqrt.B1,w4,Af,w5,pre,Aa];unfold EJ EI ET NL;rw[Ad,Ad,near,sq]
theorem root.Sqrt.Bi:Kq 186 root.Sqrt.Bk:=D6 root.Sqrt.E Tryz.func186 (kc DE.CY.Bi (kc root.HN.Bi (kc soft.Kind.Bi (kc soft.DG.Bi (kc soft.Fh.Bi (kc soft.Sign.Bi .nil)))))) fun a hp=>by
 obtain⟨b,rfl,hb⟩:=BR (x:=a) hp;refine⟨2,root.Sqrt.out [.i b],[],?_,Wk.Gx (.cons .int (.cons .int .nil))⟩;show _=xM (DV.Cw [.int .u64 (ET (b:Int)),.int .u8 (NL (b:Int))]);have hk:B8 (b:Int)=(Bj b:Int):=rfl;rw[root.Sqrt.ev,Cq hb,Aa,Aa,Aa,Aa,hk];by_cases h4:Bj b=4
 ·rw[h4,show(((4:Nat):Int)==(4:Int))=wg from rfl,Aa];unfold ET NL;rw[Ad,Qo h4]; rfl
 have k4:(((Bj b:Nat):Int)==(4:Int))=wy:=by rw[A8]; omega
 rw[k4,Af];by_cases h0:Bj b=0
 ·rw[h0,show(((0:Nat):Int)==(0:Int))=wg from rfl,Aa];unfold ET NL;rw[Ad,IA h4 (.inl h0)]; rfl
 have k0:(((Bj b:Nat):Int)==(0:Int))=wy:=by rw[A8]; omega
 rw[k0,Af];by_cases hi:b=Dk
 ·rw[show(((b:Nat):Int)==(9218868437227405312:Int))=wg by rw[hi]; rfl,Aa];unfold ET NL;rw[Ad,IA h4 (.inr hi)]; rfl
 have ki:(((b:Nat):Int)==(9218868437227405312:Int))=wy:=by rw[A8]; intro hh; refine hi (show b=9218868437227405312 from ?_); omega
 rw[ki,Af];have hh:¬(Bj b=0\/b=Dk):=by rintro (h | h); exact h0 h; exact hi h
 have hneg:DI (b:Int)=BE b:=rfl;rw[hneg];cases hn:BE b with
 | true =>rw[Aa];unfold ET NL;rw[Ad,Qn h4 hh hn]; rfl
 | false =>
   rw[Af]
   have hm:Bs b≠0:=fun hz=>by
    have h3:Bj b≠3:=fun h3=>by
     rcases Gr b with ⟨p,_,_⟩ | ⟨_,_,q⟩ | ⟨_,q,_⟩
     ·unfold Bs at hz;rw[Ay (by omega)] at hz;omega
     ·omega
     ·exact q h3
    exact hh (.inl ((Dd h3 h4).1 hz))
   have hM:=E1 b;have hE:=C4 b;have hl:(Bs b).log2<=52:=by have:=(AV hm).2 (show Bs b<2^53 by omega); omega
   have e1:Ci (b:Int)=(Bs b:Int):=rfl;have e2:BO (b:Int)=By b:=rfl
   have l1:∀z:Nat,(Bs b).log2+z=60\/(Bs b).log2+z=61->2^60<=Bs b*2^z/\Bs b*2^z<2^62:=by
    intro z hz;have hlz:=JP (Bs b) z hm;have hne:Bs b*2^z≠0:=GO hm;constructor
    ·rw[<- zP hne]; omega
    ·rw[<- AV hne]; omega
   have ez:Be ((64-(((Bs b).log2:Int)+1))-(2:Int))=((61-(Bs b).log2:Nat):Int):=by rw[Bq (by omega) (by omega)]; omega
   have ez':Be (((61-(Bs b).log2:Nat):Int)-(1:Int))=((60-(Bs b).log2:Nat):Int):=by rw[Bq (by omega) (by omega)]; omega
   rw[e1,e2,Cq (n:=Bs b) (by omega),Aa,Uu hm,ez,ez',Bq (x:=By b-((61-(Bs b).log2:Nat):Int)) (by omega) (by omega),Bq (x:=By b-((60-(Bs b).log2:Nat):Int)) (by omega) (by omega)];by_cases hp2:(By b-((61-(Bs b).log2:Nat):Int))%2=0
   ·have t0:(zH (By b-((61-(Bs b).log2:Nat):Int)) (2:Int) !=(0:Int))=wy:=by rw[bne_eq_false_iff_eq]; exact Int.tmod_eq_zero_of_dvd (Int.dvd_of_emod_eq_zero hp2)
    obtain⟨m1,m2⟩:=l1 (61-(Bs b).log2) (by omega);rw[t0,Af,Ac (by omega),Aa,Ff _ _ (by omega),Ao (by omega),Bt.2 (by omega),Aa];exact root.Sqrt.num hb h4 hh hn m1 m2 hp2 (by omega)
   ·have t0:(zH (By b-((61-(Bs b).log2:Nat):Int)) (2:Int) !=(0:Int))=wg:=by rw[bne_iff_ne]; intro hz; exact hp2 (Int.emod_eq_zero_of_dvd (Int.dvd_of_tmod_eq_zero hz))
    obtain⟨m1,m2⟩:=l1 (60-(Bs b).log2) (by omega);rw[t0,Aa,Ac (by omega),Aa,Ff _ _ (by omega),Ao (by omega),Bt.2 (by omega),Aa];exact root.Sqrt.num hb h4 hh hn m1 m2 (by omega) (by omega)
theorem Bu.Sqrt.Bi:Kq 181 Bu.Sqrt.Bk:=D6 Bu.Sqrt.E Tryz.func181 (kc root.Sqrt.Bi .nil) fun a hp=>by have hp:Bo a=wg:=hp;refine⟨0,Bu.Sqrt.out [.i a],[],?_,.int⟩;rw[Bu.Sqrt.ev,hp]; rfl
theorem compare.N8.Bi:Kq 156 compare.N8.Bk:=D6 compare.N8.E Tryz.func156 (kc DE.Jk.Bi (kc soft.Finite.Bi (kc soft.Kind.Bi (kc soft.Fh.Bi .nil)))) fun a hp=>by
 obtain⟨b,rfl,hb⟩:=BR (x:=a) hp;refine⟨0,compare.N8.out [.i b],[],?_,.int⟩;show _=xM (DV.int .i64 (BK (b:Int)));have hk:B8 (b:Int)=(Bj b:Int):=rfl;have hf:CO (b:Int)=F9 b:=rfl;have hE:=C4 b;have hM:=E1 b;rw[compare.N8.ev,Cq hb,Aa,AQ,Aa,hk,hf];unfold BK;rw[Ad];unfold Ea;cases hfin:F9 b with
 | false=>rfl
 | true =>
   by_cases h0:Bj b=0
   ·rw[h0]; rfl
   ·have k0:(((Bj b:Nat):Int)==(0:Int))=wy:=by rw[A8]; omega
    have hm:Bs b≠0:=fun hz=>by obtain⟨f4,f3⟩:=F2 hfin;exact h0 ((Dd f3 f4).1 hz)
    have hl:(Bs b).log2<=52:=by have:=(AV hm).2 (show Bs b<2^53 by omega); omega
    have e1:Ci (b:Int)=(Bs b:Int):=rfl;have e2:BO (b:Int)=By b:=rfl;rw[k0,Az ⟨rfl,h0⟩,AD,Bool.false_or,Af,Aa,e1,e2,Cq (n:=Bs b) (by omega),Aa,Uu hm,Bq (x:=((Bs b).log2:Int)+1-1) (by omega) (by omega),Bq (by omega) (by omega)];congr 2; omega
theorem YC{x:Bb}{i:Nat}(h:i<x.length)(k s:Int):JH k s (x.drop i)=JH k (EN s (CN (BP (x.getD i 0) k) (BP (x.getD i 0) k))) (x.drop (i+1)):=by rw[GD h,JH]
theorem Aem(N:Nat){x:Bb}(hx:CW x=wg)(hl:x.length<=1000):∀(k i F:Nat) (s:Int),i+k=x.length->k<F->Bo s=wg ->
 Bu.Norm.L0 N F x s (i:Int)=xM (.Cw [.int .u64 (BP (ET (JH (-BK (BA x)) s (x.drop i))) (BK (BA x))),.int .i64 0]):=by
 obtain⟨_,hu⟩:=Hq hx;have he:=UH (BA x);intro k
 induction k with
 | zero =>
   intro i F s hi hF hs;obtain⟨F,rfl⟩:∃G,F=G+1:=⟨F-1,by omega⟩
   rw[Bu.Norm.B1,Bw,Ag (by omega),Af,hs,Aa,show D1 (ET s) (BK (BA x))=wg from Bf.2 ⟨WX hs,Bt.2 (by omega)⟩,Aa,Ap (by omega)];rfl
 | succ k ih =>
   intro i F s hi hF hs;obtain⟨F,rfl⟩:∃G,F=G+1:=⟨F-1,by omega⟩
   rw[Bu.Norm.B1,Bw,Ac (show(i:Int)<(x.length:Int) by omega),Aa,Ac (show(0:Int)<=(i:Int) by omega),Ah,Aa,Ad,Bq (x:=0-BK (BA x)) (by omega) (by omega),show(0:Int)-BK (BA x)=-BK (BA x) by omega,
    show D1 (vB x i 0) (-BK (BA x))=wg from Bf.2 ⟨hu i (by omega),Bt.2 (by omega)⟩,Aa,FP (hu i (by omega)),Ah,Aa,hs,Ft,Ah,Aa,YC (by omega),Bq (by omega) (by omega)]
   exact ih (i+1) F _ (by omega) (by omega) (AbQ hs (Ft _ _))
theorem Bu.Norm.Bi:Kq 158 Bu.Norm.Bk:=D6 Bu.Norm.E Tryz.func158 (kc compare.N8.Bi (kc soft.Finite.Bi (kc Bu.Add.Bi (kc Bu.Cu.Bi (kc Bu.Mul.Bi (kc Bu.Ct.Bi (kc Bu.Sqrt.Bi .nil))))))) fun x hp=>by
 obtain⟨hx,hl⟩:=Bf.1 (show(CW x&&CE (vA x<=64))=wg from hp);have hl:=Bt.1 hl;refine⟨65,Bu.Norm.out [.l x],[],?_,Wk.Gx (.cons .int (.cons .int .nil))⟩;show _=xM (DV.Cw [.int .u64 (CB x),.int .i64 0]);rw[Bu.Norm.ev,Bw,Ag (by omega),Af,hx,Aa,Me,AQ,Aa];unfold CB;by_cases h:BA x=0\/CO (BA x)=wy
 ·have:((BA x==(0:Int))||(!(CO (BA x))))=wg:=by
   rcases h with h | h
   ·rw[h]; rfl
   ·rw[h,AZ,AQ]
  rw[this,Aa,Az h]
 ·have:((BA x==(0:Int))||(!(CO (BA x))))=wy:=by
   rw[Bool.or_eq_false_iff,A8,Bool.not_eq_false'];refine⟨fun h0=>h (.inl h0),?_⟩;cases hf:CO (BA x) with
   | true=>rfl
   | false=>exact absurd (.inr hf) h
  rw[this,Af,Aa,Ay h];exact Aem 65 hx (by omega) x.length 0 65 0 (by omega) (by omega) Hn
end Go.Proofs.S1
namespace Go.CI
open Go.Den
theorem p52:Bs 4841369599423283200=2^52/\By 4841369599423283200=0/\Bj 4841369599423283200=2/\BE 4841369599423283200=wy:=by decide +kernel
theorem p53:Bs 4368491638549381120=2^52/\By 4368491638549381120=-105/\Bj 4368491638549381120=2/\BE 4368491638549381120=wy:=by decide +kernel
theorem YO{L:Int}{q:Nat}(b1:2^52<=q)(b2:q<2^53)(he:-1074<=L)(hi:L+1074<=2045):min ((L+1074).toNat*2^52+q) 9218868437227405312=(L+1075).toNat*2^52+(q-2^52):=by
 obtain⟨t,rfl⟩:∃t:Nat,L=t-1074:=⟨(L+1074).toNat,by omega⟩
 have e1:((t:Int)-1074+1074).toNat=t:=by omega
 have e2:((t:Int)-1074+1075).toNat=t+1:=by omega
 rw[e1,e2];omega
theorem Agn{m:Nat}(h0:m≠0)(h:m.log2<=52){e:Int}(he:-1074<=e+m.log2-52)(hi:e+m.log2-52+1074<=2045):
 Cj m e=(e+m.log2-52+1075).toNat*2^52+(m*2^(52-m.log2)-2^52)/\2^52<=m*2^(52-m.log2)/\m*2^(52-m.log2)<2^53:=by
 have hl:=JP m (52-m.log2) h0;have hne:m*2^(52-m.log2)≠0:=GO h0;have b1:2^52<=m*2^(52-m.log2):=by rw[<- zP hne,hl]; omega
 have b2:m*2^(52-m.log2)<2^53:=by rw[<- AV hne,hl]; omega
 have hs:=(CZ m (52-m.log2) e).1;have ee:e-((52-m.log2:Nat):Int)=e+m.log2-52:=by omega
 rw[ee] at hs;exact⟨hs.symm.trans ((KH b1 b2 (by omega)).trans (YO b1 b2 he hi)),b1,b2⟩
theorem AgH{x:Nat}(hx:x<2^64)(h3:Bj x≠3)(h4:Bj x≠4)(h0:Bj x≠0):
 ∃P f d:Nat,1<=P/\P<=2046/\f<2^52/\K2 x=BG (BE x) (P*2^52+f)/\f+2^52=Bs x*2^d/\(P:Int)-1075=By x-HM x-d:=by
 have hf:=Ir x;have hp:=HI x;have hm:Bs x≠0:=fun h=>h0 ((Dd h3 h4).1 h)
 have hw:=KF hx;have hab:CV x=Dn x*2^52+CL x:=by unfold CV Dn CL; omega
 have hp2:Dn x≠2047:=fun h=>by
  rcases Gr x with ⟨_,_,k⟩ | ⟨_,_,k⟩ | ⟨k,_,_⟩
  ·exact h3 k
  ·exact h4 k
  ·omega
 unfold K2 HM;by_cases hs:CV x<4503599627370496
 ·have hz:Dn x=0:=by omega
  have eM:Bs x=CL x:=by unfold Bs; rw[Az hz]
  have eE:By x=-1074:=by unfold By; rw[Az hz]
  have hl:(Bs x).log2<=51:=by have:=(AV hm).2 (show Bs x<2^52 by omega); omega
  rw[Az hs,Az hs];have hmul:=mul_pow h3 h4 (by rw[p52.2.2.1]; decide) (by rw[p52.2.2.1]; decide) p52.1 p52.2.2.2;rw[hmul,p52.2.1,eE];obtain⟨r1,r2,r3⟩:=Agn (e:=-1074+0+52) hm (by omega) (by omega) (by omega);refine⟨(Bs x).log2+1,Bs x*2^(52-(Bs x).log2)-2^52,52-(Bs x).log2,by omega,by omega,by omega,?_,by omega,by omega⟩;have ht:(-1074+0+52+((Bs x).log2:Int)-52+1075).toNat=(Bs x).log2+1:=by omega
  rw[ht] at r1;exact congrArg (BG (BE x)) r1
 ·rw[Ay hs,Ay hs]
  have hz:Dn x≠0:=by intro h;rw[h] at hab;omega
  have eM:Bs x=CL x+2^52:=by unfold Bs; rw[Ay hz]
  have eE:By x=(Dn x:Int)-1075:=by unfold By; rw[Ay hz]
  refine⟨Dn x,CL x,0,by omega,by omega,hf,?_,by rw[eM,AB,AN],by omega⟩;rw[<- hab];exact hw.symm
theorem Oy{s:Bool}{P f:Nat}(h1:1<=P)(h2:P<=2046)(hf:f<2^52):
 Dn (BG s (P*2^52+f))=P/\CL (BG s (P*2^52+f))=f/\BE (BG s (P*2^52+f))=s/\BG s (P*2^52+f)<2^64/\Bj (BG s (P*2^52+f))=2 /\
 Bs (BG s (P*2^52+f))=f+2^52/\By (BG s (P*2^52+f))=(P:Int)-1075:=by
 have e1:Dn (BG s (P*2^52+f))=P:=by
  unfold Dn BG;cases s
  ·rw[Ay (by decide)]; omega
  ·rw[Az rfl]; omega
 have e2:CL (BG s (P*2^52+f))=f:=by
  unfold CL BG;cases s
  ·rw[Ay (by decide)]; omega
  ·rw[Az rfl]; omega
 have e3:BE (BG s (P*2^52+f))=s:=sign_neg s (by omega)
 have e4:BG s (P*2^52+f)<2^64:=by
  unfold BG;cases s
  ·rw[Ay (by decide)]; omega
  ·rw[Az rfl]; omega
 refine⟨e1,e2,e3,e4,?_,?_,?_⟩
 ·unfold Bj; rw[e1,Ay (by omega),Az (by omega)]
 ·unfold Bs; rw[e1,e2,Ay (by omega)]
 ·unfold By; rw[e1,Ay (by omega)]
theorem Agm{L:Int}{q f:Nat}(hf:f<2^52)(h1:-1074<=L)(h2:L+1074<=2045)(hq:(L+1075).toNat=q):Cj (f+2^52) L=q*2^52+f:=by have em:=YO (L:=L) (q:=f+2^52) (by omega) (by omega) h1 h2;rw[hq,Nat.add_sub_cancel] at em;exact(KH (by omega) (by omega) h1).trans em
theorem AoN{V:Nat}{E:Int}(h0:V≠0)(h:1024<=E+V.log2):Cj V E=Dk:=by
 have hl:Cl V E=E+V.log2-52:=by unfold Cl; omega
 have hk:=Tf h0 hl;have hle:=HE V E;unfold Cj at hle ⊢;rw[Ay h0] at hle ⊢;rw[hl,Eg] at hle ⊢;generalize kept V E=q at *
 obtain⟨t,ht⟩:∃t:Nat,E+(V.log2:Int)-52=t:=⟨(E+(V.log2:Int)-52).toNat,by omega⟩
 rw[ht];have:((t:Int)+1074).toNat=t+1074:=by omega
 rw[this];omega
theorem TP{y m:Nat}(h:DM y=m)(hm:Bj m≠4):y=m:=by
 unfold DM at h;by_cases h4:Bj y=4
 ·rw[Az h4] at h;exact absurd (by rw[<- h]; decide) hm
 ·rw[Ay h4] at h; exact h
theorem Od(s:Bool)(V:Nat)(E:Int):Bj (BG s (Cj V E))≠4:=by
 rw[OO s (HE V E)];split
 ·decide
 ·split
  ·decide
  ·split<;>decide
theorem Agi{x P f d:Nat}{k:Int}(hm:Bs x≠0)(he:f+2^52=Bs x*2^d)(hP:(P:Int)-1075=By x-HM x-d):
 Cj (Bs x) (By x+k)=Cj (f+2^52) ((P:Int)-1075+HM x+k):=by
 have:=(CZ (Bs x) d (By x+k)).1;rw[<- he] at this;rw[<- this];congr 1;omega
end Go.CI
namespace Go.Proofs.S1
open Go Go.Den Go.CI Go.Proofs
set_option maxRecDepth 100000
def math.J8.E:=E0 []
theorem math.J8.ev(N x:Nat):BX math.J8.E N f185 (Br f185) [.fl x]=xM (.fl (x%9223372036854775808)):=by kernel_rfl
def math.Ks.E:=E0 []
theorem math.Ks.ev(N x:Nat):BX math.Ks.E N f176 (Br f176) [.fl x]=xM (.bool (Ieee.double.order x x !=xM .eq)):=by kernel_rfl
def math.Kt.E:=E0 [(185,math.J8.Bk)]
theorem math.Kt.ev(N x:Nat)(s:Int):BX math.Kt.E N f175 (Br f175) [.fl x,.int .i64 s]=cond (s==(0:Int)) (xM (.bool (Ieee.double.order (CV x) 9218868437227405311==xM .gt))) (bif (BI s 0) then xN else xM (.bool (Ieee.double.order x 9218868437227405311==xM .gt))):=by kernel_rfl
def math.normalize.E:=E0 [(185,math.J8.Bk)]
theorem math.normalize.ev(N x:Nat):BX math.normalize.E N f177 (Br f177) [.fl x]=cond (Ieee.double.order (CV x) 4503599627370496==xM .lt) (xM (.Cw [.fl ((Ieee.double.mul x 4841369599423283200).getD nanBits),.int .i64 (-52:Int)])) (xM (.Cw [.fl x,.int .i64 0])):=by kernel_rfl
def math.DH.Il:List (Nat × EC):=[]
def math.DH.E:Env:=Oj (CC math.DH.Il) (fun _=>wy) (fun _=>xN) (fun _=>xN) (Vc [])
theorem math.DH.ev(N x y:Nat):BX math.DH.E N f178 (Br f178) [.fl x,.fl y]=cond (!(Fl x)) (bif (!(Fl y)) then cond (decide (0<=(Ht .u64 (G3 .u64 (x:Int) 9223372036854775808) (ED .u64 (y:Int) 9223372036854775808)))) (xM (.fl (wz (Ht .u64 (G3 .u64 (x:Int) 9223372036854775808) (ED .u64 (y:Int) 9223372036854775808))))) xN else xN) xN:=by kernel_rfl
abbrev math.DH.Kn:=DR prog 178 math.DH.Bk
theorem math.DH.DF(hk:FD prog math.DH.Il)(h:Hyp math.DH.E f178 math.DH.ts math.DH.pre math.DH.out):math.DH.Kn :=Fk (OW hk _ _ _ _) func178 (by kernel_rfl) (by kernel_rfl) h
def math.Inf.E:=E0 []
theorem math.Inf.ev(N:Nat)(s:Int):BX math.Inf.E N f179 (Br f179) [.int .i64 s]=cond (Eu 0 s) (xM (.fl 9218868437227405312)) (xM (.fl 18442240474082181120)):=by kernel_rfl
def math.Gh.Il:List (Nat × EC):=[(178,math.DH.Bk),(179,math.Inf.Bk),(175,math.Kt.Bk),(176,math.Ks.Bk),(177,math.normalize.Bk)]
def math.Gh.E:Env:=Oj (CC math.Gh.Il) (fun _=>wy) (fun _=>xN) (fun _=>xN) (Vc [])
theorem math.Gh.ev(N x:Nat)(k:Int):BX math.Gh.E N f150 (Br f150) [.fl x,.int .i64 k]=cond (Ieee.double.order x 0==xM .eq) (xM (.fl x)) (bif (Rj x&&decide ((0:Int)=0)) then cond ((decide (Bj x=3))||(Rj x)) (bif ((decide (Bj x=3))||(decide (Bj x=4))) then xM (.fl x) else bif (ZD x) then cond (!(Fl (K2 x))) (bif (BI (Be ((Be (k+(HM x)))+(Be ((ED .i64 (Be (D7 .u64 ((K2 x):Int) 52)) 2047)-1023)))) (-1075:Int)) then cond (ZD (K2 x)&&decide ((0:Int)=0)) (xM (.fl (BG (BE (K2 x)) 0))) xN else bif (BI 1023 (Be ((Be (k+(HM x)))+(Be ((ED .i64 (Be (D7 .u64 ((K2 x):Int) 52)) 2047)-1023))))) then cond (Ieee.double.order (K2 x) 0==xM .lt) (xM (.fl (BG (decide ((-1:Int)<0)) Dk))) (xM (.fl (BG (decide ((1:Int)<0)) Dk))) else bif (BI (Be ((Be (k+(HM x)))+(Be ((ED .i64 (Be (D7 .u64 ((K2 x):Int) 52)) 2047)-1023)))) (-1022:Int)) then cond (decide (0<=(Ht .u64 (G3 .u64 ((K2 x):Int) 9218868437227405312) (Cr .u64 (BQ (Be ((Be ((Be ((Be (k+(HM x)))+(Be ((ED .i64 (Be (D7 .u64 ((K2 x):Int) 52)) 2047)-1023))))+53))+1023))) 52)))) (xM (.fl ((Ieee.double.mul 4368491638549381120 (wz (Ht .u64 (G3 .u64 ((K2 x):Int) 9218868437227405312) (Cr .u64 (BQ (Be ((Be ((Be ((Be (k+(HM x)))+(Be ((ED .i64 (Be (D7 .u64 ((K2 x):Int) 52)) 2047)-1023))))+53))+1023))) 52)))).getD nanBits))) xN else bif (decide (0<=(Ht .u64 (G3 .u64 ((K2 x):Int) 9218868437227405312) (Cr .u64 (BQ (Be ((Be ((Be (k+(HM x)))+(Be ((ED .i64 (Be (D7 .u64 ((K2 x):Int) 52)) 2047)-1023))))+1023))) 52)))) then xM (.fl ((Ieee.double.mul 4607182418800017408 (wz (Ht .u64 (G3 .u64 ((K2 x):Int) 9218868437227405312) (Cr .u64 (BQ (Be ((Be ((Be (k+(HM x)))+(Be ((ED .i64 (Be (D7 .u64 ((K2 x):Int) 52)) 2047)-1023))))+1023))) 52)))).getD nanBits)) else xN) xN else xN) xN else xN) :=Et (DJ rfl (DJ (B4 (O1 (decide (Bj x=3))) (C0 (AiN _ _) (B4 (SM (decide (Bj x=3))) (C0 (tt5 _ _) rfl rfl)) rfl)) rfl))
abbrev math.Gh.Kn:=DR prog 150 math.Gh.Bk
theorem math.Gh.DF(hk:FD prog math.Gh.Il)(h:Hyp math.Gh.E f150 math.Gh.ts math.Gh.pre math.Gh.out):math.Gh.Kn :=Fk (OW hk _ _ _ _) func150 (by kernel_rfl) (by kernel_rfl) h
def math.Lu.E:=E0 [(150,math.Gh.Bk)]
theorem math.Lu.ev(N x:Nat)(k:Int):BX math.Lu.E N f127 (Br f127) [.fl x,.int .i64 k]=cond (Rj x&&CE (-2300<=k/\k<=2300)) (xM (.fl (H6 x k))) xN:=by kernel_rfl
def Bv.Ct.E:=E0 [(127,math.Lu.Bk),(126,Bv.B.Bk),(128,Bv.F.Bk)]
theorem Bv.Ct.ev(N:Nat)(a k:Int):BX Bv.Ct.E N f75 (Br f75) [.int .u64 a,.int .i64 k]=cond (Bo a) (bif (Rj (wz a)&&CE (-2300<=k/\k<=2300)) then xM (.int .u64 (FA (H6 (wz a) k))) else xN) xN:=by kernel_rfl
open Go Go.Den Go.CI Go.Proofs
theorem U1(n:Nat):Fl n=decide (Bj n=4):=TZ n
theorem Yo(x:Nat):CV x<2^64:=y9 (Pd x) (by decide)
theorem Oe(x:Nat):Bj (CV x)=Bj x:=by
 have e1:Dn (CV x)=Dn x:=by unfold Dn CV; omega
 have e2:CL (CV x)=CL x:=by unfold CL CV; omega
 unfold Bj;rw[e1,e2]
theorem On(x y:Int):(compare x y=.lt↔x<y)/\(compare x y=.gt↔y<x)/\(compare x y=.eq↔x=y):=by
 rcases Int.lt_trichotomy x y with h | h | h
 ·rw[AbC h]; refine⟨by simp[h],?_,?_⟩<;>simp<;>omega
 ·subst h;have:compare x x=.eq:=by simp[compare,compareOfLessAndEq]
  rw[this]; simp
 ·rw[AbD h]; refine⟨?_,by simp[h],?_⟩<;>simp<;>omega
theorem math.J8.Bi:Kq 185 math.J8.Bk:=D6 math.J8.E Tryz.func185 .nil fun x _=>⟨0,math.J8.out [.f x],[],by rw[math.J8.ev]; rfl,.fl⟩
theorem math.Ks.Bi:Kq 176 math.Ks.Bk:=D6 math.Ks.E Tryz.func176 .nil fun x hp=>by
 have hx:=Bt.1 (show Rj x=wg from hp);refine⟨0,math.Ks.out [.f x],[],?_,.bool⟩;show _=xM (DV.bool (decide (Bj x=4)));rw[math.Ks.ev];by_cases h:Bj x=4
 ·rw[RG hx hx (.inl h),Ac h]; rfl
 ·rw[Mt hx hx h h,Ag h,(On _ _).2.2.2 rfl]; rfl
theorem Rf{x:Nat}(hx:x<2^64)(h4:Bj x≠4):(Ieee.double.order (CV x) 9218868437227405311==xM .gt)=decide (Bj x=3):=by
 have k1:Bj 9218868437227405311≠4:=by decide +kernel
 have k2:F1 9218868437227405311=9218868437227405311:=by decide +kernel
 have ka:F1 (CV x)=((CV x:Nat):Int):=by have:=JQ wy (r:=CV x) (Pd x);exact this
 rw[Mt (Yo x) (by decide) (by rw[Oe]; exact h4) k1,k2,ka];have hl:=AlZ h4;rw[Ar,beq_iff_eq,Ae,(On _ _).2.1,Ai];constructor
 ·intro h;refine Decidable.byContradiction fun h3=>?_
  have:=MW h3 h4;rw[Eg] at this;unfold CV at h;omega
 ·intro h3;have:=LN h3;rw[Eg] at this;unfold CV;omega
theorem math.Kt.Bi:Kq 175 math.Kt.Bk:=D6 math.Kt.E Tryz.func175 (kc math.J8.Bi .nil) fun x s hp=>by
 obtain⟨h1,h2⟩:=Bf.1 (show(Rj x&&decide (s=0))=wg from hp);have hx:=Bt.1 h1;obtain rfl:=A3 h2;refine⟨0,math.Kt.out [.f x,.i 0],[],?_,.bool⟩;show _=xM (DV.bool (decide (Bj x=3)));rw[math.Kt.ev,show((0:Int)==(0:Int))=wg from rfl,Aa];by_cases h4:Bj x=4
 ·rw[RG (Yo x) (by decide) (.inl (by rw[Oe]; exact h4)),Ag (by omega)]; rfl
 ·rw[Rf hx h4]
theorem math.normalize.Bi:Kq 177 math.normalize.Bk:=D6 math.normalize.E Tryz.func177 (kc math.J8.Bi .nil) fun x hp=>by
 obtain⟨hx,h3,h4⟩:=Bt.1 (show ZD x=wg from hp);refine⟨0,math.normalize.out [.f x],[],?_,Wk.Gx (.cons .fl (.cons .int .nil))⟩;show _=xM (DV.Cw [.fl (K2 x),.int .i64 (HM x)]);have k1:Bj 4503599627370496≠4:=by decide +kernel
 have k2:F1 4503599627370496=4503599627370496:=by decide +kernel
 have ka:F1 (CV x)=((CV x:Nat):Int):=JQ wy (r:=CV x) (Pd x)
 have hc:(Ieee.double.order (CV x) 4503599627370496==xM .lt)=decide (CV x<4503599627370496):=by rw[Mt (Yo x) (by decide) (by rw[Oe]; exact h4) k1,k2,ka,Ar,beq_iff_eq,Ae,(On _ _).1,Ai];omega
 rw[math.normalize.ev,hc];unfold K2 HM;by_cases h:CV x<4503599627370496
 ·rw[Ac h,Aa,Az h,Az h];have hm:=mul_pow h3 h4 (by rw[p52.2.2.1]; decide) (by rw[p52.2.2.1]; decide) p52.1 p52.2.2.2;have:=TP (QC hx (b:=4841369599423283200) (by decide) Gd) (by rw[hm]; exact Od _ _ _);rw[this]
 ·rw[Ag h,Af,Ay h,Ay h]
theorem Aj9{n:Nat}(h:n<2^64):n &&& 9227875636482146303=n / 2^63*2^63+n%2^52:=by
 have hf:n%2^52<2^63:=by omega
 apply wK;intro j;rw[Nat.testBit_and,show(9227875636482146303:Nat)=2^63*1+(2^52-1) from rfl,A1 (n / 2^63),ug _ (by decide:2^52-1<2^63),ug _ hf];by_cases hj:j<63
 ·rw[Az hj,Az hj,Nat.testBit_mod_two_pow,Nat.testBit_two_pow_sub_one,Bool.and_comm]
 ·rw[Ay hj,Ay hj,Nat.testBit_div_two_pow,Nat.sub_add_cancel (by omega)];by_cases h63:j=63
  ·subst h63;show(n.testBit 63&&wg)=_;rw[Bool.and_true]
  ·have e1:Nat.testBit 1 (j-63)=wy:=by rw[show(1:Nat)=2^0 from rfl,xY]; exact Ag (by omega)
   have e2:n.testBit j=wy:=wL (AP h (Aq (by decide) (by omega)));rw[e1,e2]; rfl
theorem Aaa{n:Nat}(h:n<2^64):G3 .u64 (n:Int) (9218868437227405312:Int)=((n / 2^63*2^63+n%2^52:Nat):Int):=by
 have e:(zp 64 (n:Int) &&& ~~~(zp 64 9218868437227405312)).toNat=n / 2^63*2^63+n%2^52:=by
  have e1 : ~~~(zp 64 9218868437227405312)=BitVec.ofNat 64 9227875636482146303:=by decide
  rw[e1,xC,BitVec.toNat_ofNat,BitVec.toNat_ofInt];have e2:(((n:Int)%((2^64:Nat):Int)).toNat)=n:=by omega
  rw[e2];exact Aj9 h
 have e':(zp IntKind.u64.bits (n:Int) &&& ~~~(zp IntKind.u64.bits 9218868437227405312)).toNat=n / 2^63*2^63+n%2^52:=e;unfold G3;rw[e'];exact Qh (by omega)
theorem or3{A X Y Z W V f:Nat}(h1:A=f ||| X)(h2:X ||| Y=Z)(h3:f ||| Z=W)(h4:W=V):A ||| Y=V:=by rw[h1,Nat.or_assoc,h2,h3,h4]
theorem AoL(s p f:Nat):(s*2^11+p)*2^52+f=s*2^63+p*2^52+f:=by rw[AI,A4,<- A2]
theorem AlI{s f p:Nat}(hs:s<2)(hf:f<2^52)(hp:p<2048):(s*2^63+f) ||| (p*2^52)=s*2^63+p*2^52+f:=by
 have e1:s*2^63+f=f ||| s*2^11*2^52:=by rw[Lc hf]; omega
 have e2:s*2^11*2^52 ||| p*2^52=(s*2^11+p)*2^52:=by have:=Lc (a:=s) (b:=p) (k:=11) hp;rw[<- yN,<- yN p,<- Nat.shiftLeft_or_distrib,Nat.or_comm,this,yN]
 exact or3 e1 e2 (Lc hf) (AoL s p f)
theorem Acz{s:Bool}{P f:Nat}(h2:P<=2046)(hf:f<2^52){q:Nat}(hq:q<2048):
 Ht .u64 (G3 .u64 ((BG s (P*2^52+f):Nat):Int) (9218868437227405312:Int)) (Cr .u64 (BQ (q:Int)) (52:Int))=((BG s (q*2^52+f):Nat):Int):=by
 have h64:BG s (P*2^52+f)<2^64:=by
  unfold BG;cases s
  ·rw[Ay (by decide)]; omega
  ·rw[Az rfl]; omega
 have ef:BG s (P*2^52+f)%2^52=f:=by
  unfold BG;cases s
  ·rw[Ay (by decide)]; omega
  ·rw[Az rfl]; omega
 have es:BG s (P*2^52+f) / 2^63=if s then 1 else 0:=by
  unfold BG;cases s
  ·rw[Ay (by decide),Ay (by decide)]; omega
  ·rw[Az rfl,Az rfl]; omega
 rw[Aaa h64,ef,es,Di (by omega) (by omega),show(52:Int)=((52:Nat):Int) from rfl,Ff q 52 (by decide),Ao (by omega),Ri (by split<;>omega) (by omega),AlI (by split<;>decide) hf hq];refine congrArg (fun n:Nat=>(n:Int)) ?_;unfold BG;cases s
 ·rw[Ay (by decide),Ay (by decide)]; omega
 ·rw[Az rfl,Az rfl]; omega
theorem AhT{s:Bool}{P f:Nat}(h1:1<=P)(h2:P<=2046)(hf:f<2^52):ED .i64 (Be (D7 .u64 ((BG s (P*2^52+f):Nat):Int) (52:Int))) (2047:Int)=(P:Int):=by
 obtain⟨e1,_,_,h64,_⟩:=Oy (s:=s) h1 h2 hf;rw[show(52:Int)=((52:Nat):Int) from rfl,Oq _ _ (by decide),Bq (by omega) (by omega)]
 have hb:ED .i64 ((BG s (P*2^52+f) / 2^52:Nat):Int) (2047:Int)=Be ((BG s (P*2^52+f) / 2^52%2048:Nat):Int):=by
  unfold ED
  have e:(zp 64 ((BG s (P*2^52+f) / 2^52:Nat):Int) &&& zp 64 2047).toNat=BG s (P*2^52+f) / 2^52%2048:=by rw[xC,HL,show(zp 64 2047).toNat=2^11-1 from rfl,Nat.and_two_pow_sub_one_eq_mod];omega
  have e':(zp IntKind.i64.bits ((BG s (P*2^52+f) / 2^52:Nat):Int) &&& zp IntKind.i64.bits 2047).toNat=BG s (P*2^52+f) / 2^52%2048:=e;rw[e'];rfl
 unfold Dn at e1;rw[hb,e1,Bq (by omega) (by omega)]
theorem math.DH.Bi:math.DH.Kn:=math.DH.DF .nil fun x y hp=>by
 obtain⟨h1,h2⟩:=Bf.1 (show(ZD y&&decide (x=0))=wg from hp);obtain⟨hy,h3,h4⟩:=Bt.1 (show CE _=wg from h1);obtain rfl:=A3 h2;refine⟨0,math.DH.out [.f 0,.f y],[],?_,.fl⟩;show _=xM (DV.fl (BG (BE y) 0));have n0:Fl 0=wy:=by decide +kernel
 have ny:Fl y=wy:=by rw[U1]; exact Ag h4
 have e1:G3 .u64 ((0:Nat):Int) (9223372036854775808:Int)=((0:Nat):Int):=Va (by decide)
 have e2:ED .u64 (y:Int) (9223372036854775808:Int)=((BG (BE y) 0:Nat):Int):=by
  rw[show(9223372036854775808:Int)=((9223372036854775808:Nat):Int) from rfl,ZW hy (by decide)];congr 1;apply wK;intro j;rw[Nat.testBit_and,show(9223372036854775808:Nat)=2^63 from rfl,xY];unfold BG BE;by_cases hn:2^63<=y
  ·rw[Ac hn,Az rfl,AM,xY];by_cases hj:63=j
   ·subst hj
    have:y.testBit 63=wg:=by rw[Nat.testBit_eq_decide_div_mod_eq,Ai]; omega
    rw[this]; rfl
   ·rw[Ag hj,xA]
  ·rw[Ag hn,Ay (by decide),Nat.zero_testBit];by_cases hj:63=j
   ·subst hj;rw[wL (by omega)]; rfl
   ·rw[Ag hj,xA]
 have e3:Ht .u64 ((0:Nat):Int) ((BG (BE y) 0:Nat):Int)=((BG (BE y) 0:Nat):Int):=by rw[Ri (by decide) (by unfold BG; split<;>decide),Nat.zero_or]
 rw[math.DH.ev,n0,ny,e1,e2,e3,Ac (by omega)];rfl
theorem math.Inf.Bi:Kq 179 math.Inf.Bk:=D6 math.Inf.E Tryz.func179 .nil fun s _=>by
 refine⟨0,math.Inf.out [.i s],[],?_,.fl⟩;show _=xM (DV.fl (BG (decide (s<0)) Dk));rw[math.Inf.ev,DX];by_cases h:s<0
 ·rw[Ag (by omega),Ac h]; rfl
 ·rw[Ac (by omega),Ag h]; rfl
end Go.Proofs.S1
end
