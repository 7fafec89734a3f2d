/- A verified evaluator of the program's form and its use for this seat: S1EqBits6, S1EqTimes, S1PTimes, S1EqRefD, S1PRefD, S1PTimesA, S1EqVec, S1PVec, S1EqMat, S1PMat, S1EqOf, S1POf, S1PMatA, S1EqRef10, S1PRef10, S1PFill, S1EqRefA, S1PRefA, S1PRefAa, S1EqRefB. -/
import Derived.Test.YthajngaadbanfaaGreatTE
import Derived.Test.YthajngaadbanfaaGreatTF
import Derived.Test.YthajngaadbanfaaGreatTH
import Derived.Test.YthajngaadbanfaaGreatTG
set_option linter.unusedVariables false
set_option linter.unusedSimpArgs false
open Option renaming some->wM,none->wN
open Bool renaming true->wc,false->wh
open Int renaming toNat->wi
open List renaming length->wj,getD->vC
open Int renaming tdiv->zq,tmod->zw,natCast_add->zI
open Nat renaming pow_succ->zD,mul_add->z7,mul_mul_mul_comm->y6,mul_right_comm->wQ,div_lt_iff_lt_mul->yw,div_eq_of_lt->yd,mul_zero->yk,mul_left_comm->yM,le_div_iff_mul_le->yZ,div_one->yE,div_le_div_right->wH
open Bool renaming and_false->xZ,false_and->zV,or_eq_true->zH
open List renaming drop->zL,take->zG,mem_singleton->ze,length_drop->zO,length_take->zN,range_succ->xn,map_append->yu,range->zg,append_assoc->yL,range_zero->xC,map_nil->yW,append_nil->yz,mem_cons->zB
noncomputable section
open Go.Proofs.Tryz
namespace Go.Proofs.S1
open Go Go.Den Go.Cn Go.Proofs
set_option maxRecDepth 100000
def D8.CV.E:=E0 [(167,D8.I4.Bu)]
theorem D8.CV.ev(N:Nat)(x:Int):Cz D8.CV.E N f210 (Bw f210) [.int .u64 x]=cond (Br x) (wM (.int .i64 (Bh ((64:Int)-(EA x))))) wN:=by kernel_rfl
def D8.J3.E:=E0 []
theorem D8.J3.ev(N:Nat)(x y:Int):Cz D8.J3.E N f209 (Bw f209) [.int .u64 x,.int .u64 y]=wM (.CJ [.int .u64 (BU ((BU ((BU ((DL .u64 x 32)*(DL .u64 y 32)))+(DL .u64 (BU ((BU ((DL .u64 x 32)*(F9 .u64 y 4294967295)))+(DL .u64 (BU ((F9 .u64 x 4294967295)*(F9 .u64 y 4294967295))) 32))) 32)))+(DL .u64 (BU ((F9 .u64 (BU ((BU ((DL .u64 x 32)*(F9 .u64 y 4294967295)))+(DL .u64 (BU ((F9 .u64 x 4294967295)*(F9 .u64 y 4294967295))) 32))) 4294967295)+(BU ((F9 .u64 x 4294967295)*(DL .u64 y 32))))) 32))),.int .u64 (BU (x*y))]):=by kernel_rfl
abbrev D8.I4.Kn:Prop:=Ev prog 167 D8.I4.Bu
theorem D8.I4.call:∀(args:Array Value) (w:World),(callFunc 167 args).run prog w=.ok (.enter 167 args) w:=HP func167 (by kernel_rfl) (show f167.body=wM (Bw f167) by kernel_rfl)
theorem D8.I4.run(x:Int)(w:World)(h0:0<=x)(h1:x<=18446744073709551615):Calls prog 167 #[.int .u64 x] w fun e w'=>e=.returned (.int .i64 (Lib.bitLen x.toNat))/\w'=w:=Tryz.Aag x w h0 h1
open Go Go.Den Go.Cn Go.Proofs
set_option maxRecDepth 100000
def times.signed.E:=E0 [(81,soft.EK.Bu)]
theorem times.signed.ev(N:Nat)(b:Int)(n:Bool):Cz times.signed.E N f183 (Bw f183) [.int .u64 b,.bool n]=cond n (bif (Br b) then wM (.int .u64 (Cy b)) else wN) (wM (.int .u64 b)):=by kernel_rfl
def times.nan.E:=E0 [(165,soft.Kind.Bu)]
theorem times.nan.ev(N:Nat)(a b:Int):Cz times.nan.E N f182 (Bw f182) [.int .u64 a,.int .u64 b]=cond (Br a) (bif ((BF a)==(4:Int)) then wM (.bool wc) else bif (Br b) then cond ((BF b)==(4:Int)) (wM (.bool wc)) (wM (.bool wh)) else wN) wN:=by kernel_rfl
def times.norm.E:=E0 [(210,D8.CV.Bu),(166,soft.EX.Bu)]
theorem times.norm.ev(N:Nat)(b:Int):Cz times.norm.E N f184 (Bw f184) [.int .u64 b]=cond (Br b) (bif (Br (Cf b)) then cond (decide (0<=(Bh ((64-EA (Cf b))-11)))) (wM (.CJ [.int .u64 (Cr .u64 (Cf b) (Bh ((64-EA (Cf b))-11))),.int .i64 (Bh ((BR b)-(Bh ((64-EA (Cf b))-11))))])) wN else wN) wN:=by kernel_rfl
def times.wide.hint:Nat->Option BK
 | 0=>wM { Da:=[0,1,2,3],Cg:=[],Cv:=[] }
 | _=>wN
def times.wide.E:=Dr (CW [(180,soft.DA.Bu)]) (fun _=>wh) times.wide.hint (fun _=>wN)
section
variable(N M:Nat)(n:Bool)(m e:Int)(r:Bool)(p1 p2:Int)(p3:Bool)
def times.wide.L0:Option DV:=C6 times.wide.E N f185 (Bw f185) [1,0,0] [] M ⟨Fp 39 [(0,.bool n),(1,.int .u64 p1),(2,.int .i64 p2),(3,.bool p3)],[]⟩
theorem times.wide.B7:times.wide.L0 N (M+1) n p1 p2 p3=cond ((BH p2 (-1130:Int))&&(BH 1 p1)) (times.wide.L0 N M n (DL .u64 p1 1) (Bh (p2+1)) (cond p3 wc ((F9 .u64 p1 1)==(1:Int)))) (bif (BH p2 (-1130:Int)) then cond (El 0 (-1074:Int) wc) (wM (.CJ [.int .u64 (E9 n 0 (-1074:Int) wc),.int .u8 (E8 n 0 (-1074:Int) wc)])) wN else bif (El p1 p2 p3) then wM (.CJ [.int .u64 (E9 n p1 p2 p3),.int .u8 (E8 n p1 p2 p3)]) else wN) :=Et (B4 (M3 (BH p2 (-1130:Int))) (B4 (J7 (BH p2 (-1130:Int))) (B4 (Qk (BH p2 (-1130:Int))) (CQ (tt1 _ _) (B4 (TO p3) (B4 (Rw p3) (B4 (Rw p3) (B4 (Xb p3) rfl)))) rfl))))
theorem times.wide.ev:Cz times.wide.E N f185 (Bw f185) [.bool n,.int .u64 m,.int .i64 e,.bool r]=
 times.wide.L0 N N n m e r:=by kernel_rfl
end
def times.Mul.E:=E0 [(209,D8.J3.Bu),(165,soft.Kind.Bu),(181,soft.Sign.Bu),(182,times.nan.Bu),(184,times.norm.Bu),(183,times.signed.Bu),(185,times.wide.Bu)]
theorem times.Mul.ev(N:Nat)(a b:Int):Cz times.Mul.E N f175 (Bw f175) [.int .u64 a,.int .u64 b]=cond (Br a) (bif (Br b) then cond (Br a) (bif (Br b) then cond (Br a&&Br b) (bif (AeW a b) then wM (.CJ [.int .u64 9221120237041090560,.int .u8 0]) else bif ((((BF a)==(3:Int))&&((BF b)==(0:Int)))||(((BF a)==(0:Int))&&((BF b)==(3:Int)))) then wM (.CJ [.int .u64 9221120237041090560,.int .u8 16]) else bif (((BF a)==(3:Int))||((BF b)==(3:Int))) then cond (Br 9218868437227405312) (wM (.CJ [.int .u64 (Oo (!((DN a)==(DN b))) 9218868437227405312),.int .u8 0])) wN else bif (((BF a)==(0:Int))||((BF b)==(0:Int))) then cond (Br 0) (wM (.CJ [.int .u64 (Oo (!((DN a)==(DN b))) 0),.int .u8 0])) wN else bif (Br a&&JG a) then cond (Br b&&JG b) (bif (Br (Di a)&&Br (Di b)) then cond (L9 (Hw .u64 (Cr .u64 (Ou (Di a) (Di b)) 20) (DL .u64 (KG (Di a) (Di b)) 44)) (Bh ((Bh ((Gn a)+(Gn b)))+44))) (wM (.CJ [.int .u64 (E9 (!((DN a)==(DN b))) (Hw .u64 (Cr .u64 (Ou (Di a) (Di b)) 20) (DL .u64 (KG (Di a) (Di b)) 44)) (Bh ((Bh ((Gn a)+(Gn b)))+44)) ((Cr .u64 (KG (Di a) (Di b)) 20) !=(0:Int))),.int .u8 (E8 (!((DN a)==(DN b))) (Hw .u64 (Cr .u64 (Ou (Di a) (Di b)) 20) (DL .u64 (KG (Di a) (Di b)) 44)) (Bh ((Bh ((Gn a)+(Gn b)))+44)) ((Cr .u64 (KG (Di a) (Di b)) 20) !=(0:Int)))])) wN else wN) wN else wN) wN else wN) wN else wN) wN :=Et (ET (ET (ET (ET (ET (ET rfl (B4 (M3 ((BF a)==(3:Int))) (B4 (J7 ((BF a)==(3:Int))) (B4 (Qk ((BF a)==(3:Int))) (B4 (AkM ((BF a)==(3:Int)) ((BF b)==(0:Int))) (B4 (AgO ((BF a)==(3:Int)) ((BF b)==(0:Int))) (B4 (AgO ((BF a)==(3:Int)) ((BF b)==(0:Int))) (B4 (AkN ((BF a)==(3:Int)) ((BF b)==(0:Int)) ((BF a)==(0:Int))) (B4 (AkO ((BF a)==(3:Int)) ((BF b)==(0:Int)) ((BF a)==(0:Int))) (B4 (AkP ((BF a)==(3:Int)) ((BF b)==(0:Int)) ((BF a)==(0:Int))) (B4 (AkQ ((BF a)==(3:Int)) ((BF b)==(0:Int))) (CQ (AkR _ _ _ _) rfl (B4 (TO ((BF a)==(3:Int))) (B4 (Rw ((BF a)==(3:Int))) (B4 (Xb ((BF a)==(3:Int))) (CQ (tt5 _ _) rfl (B4 (TO ((BF a)==(0:Int))) (B4 (Rw ((BF a)==(0:Int))) (B4 (Xb ((BF a)==(0:Int))) (CQ (tt5 _ _) rfl rfl)))))))))))))))))))) rfl) rfl) rfl) rfl) rfl)
def times.Div.hint:Nat->Option BK
 | 1=>wM { Da:=[6,10,11,12,13,14,78],Cg:=[],Cv:=[] }
 | _=>wN
def times.Div.E:=Dr (CW [(165,soft.Kind.Bu),(181,soft.Sign.Bu),(182,times.nan.Bu),(184,times.norm.Bu),(183,times.signed.Bu),(185,times.wide.Bu)]) (fun _=>wh) times.Div.hint (fun _=>wN)
section
variable(N M:Nat)(a b p13 p14 p78:Int)
def times.Div.L0:Option DV:=C6 times.Div.E N f144 (Bw f144) [1,1,1,1,1,1,1,0,1,0] [] M ⟨Fp 104 [(6,.bool (!((DN a)==(DN b)))),(10,.int .i64 (Gn a)),(11,.int .u64 (Di b)),(12,.int .i64 (Gn b)),(13,.int .u64 p13),(14,.int .u64 p14),(78,.int .i64 p78)],[]⟩
theorem times.Div.B7:times.Div.L0 N (M+1) a b p13 p14 p78=cond (BH p78 61) (bif (DT (Di b) (Cr .u64 p14 1)) then times.Div.L0 N M a b (Hw .u64 (Cr .u64 p13 1) 1) (BU ((Cr .u64 p14 1)-(Di b))) (Bh (p78+1)) else times.Div.L0 N M a b (Cr .u64 p13 1) (Cr .u64 p14 1) (Bh (p78+1))) (bif (L9 p13 (Bh ((Bh ((Gn a)-(Gn b)))-61))) then wM (.CJ [.int .u64 (E9 (!((DN a)==(DN b))) p13 (Bh ((Bh ((Gn a)-(Gn b)))-61)) (p14 !=(0:Int))),.int .u8 (E8 (!((DN a)==(DN b))) p13 (Bh ((Bh ((Gn a)-(Gn b)))-61)) (p14 !=(0:Int)))]) else wN):=by kernel_rfl
theorem times.Div.ev:Cz times.Div.E N f144 (Bw f144) [.int .u64 a,.int .u64 b]=cond (Br a) (bif (Br b) then cond (Br a) (bif (Br b) then cond (Br a&&Br b) (bif (AeW a b) then wM (.CJ [.int .u64 9221120237041090560,.int .u8 0]) else bif ((((BF a)==(3:Int))&&((BF b)==(3:Int)))||(((BF a)==(0:Int))&&((BF b)==(0:Int)))) then wM (.CJ [.int .u64 9221120237041090560,.int .u8 16]) else bif ((BF a)==(3:Int)) then cond (Br 9218868437227405312) (wM (.CJ [.int .u64 (Oo (!((DN a)==(DN b))) 9218868437227405312),.int .u8 0])) wN else bif (((BF b)==(3:Int))||((BF a)==(0:Int))) then cond (Br 0) (wM (.CJ [.int .u64 (Oo (!((DN a)==(DN b))) 0),.int .u8 0])) wN else bif ((BF b)==(0:Int)) then cond (Br 9218868437227405312) (wM (.CJ [.int .u64 (Oo (!((DN a)==(DN b))) 9218868437227405312),.int .u8 8])) wN else bif (Br a&&JG a) then cond (Br b&&JG b) (bif ((Di b) !=0) then cond ((Di b) !=0) (times.Div.L0 N N a b (BU (zq (Di a) (Di b))) (zw (Di a) (Di b)) (0:Int)) wN else wN) wN else wN) wN else wN) wN else wN) wN :=Et (ET (ET (ET (ET (ET (ET rfl (B4 (M3 ((BF a)==(3:Int))) (B4 (J7 ((BF a)==(3:Int))) (B4 (Qk ((BF a)==(3:Int))) (B4 (AkM ((BF a)==(3:Int)) ((BF b)==(3:Int))) (B4 (AgO ((BF a)==(3:Int)) ((BF b)==(3:Int))) (B4 (AgO ((BF a)==(3:Int)) ((BF b)==(3:Int))) (B4 (AkN ((BF a)==(3:Int)) ((BF b)==(3:Int)) ((BF a)==(0:Int))) (B4 (AkO ((BF a)==(3:Int)) ((BF b)==(3:Int)) ((BF a)==(0:Int))) (B4 (AkP ((BF a)==(3:Int)) ((BF b)==(3:Int)) ((BF a)==(0:Int))) (B4 (AkQ ((BF a)==(3:Int)) ((BF b)==(3:Int))) (CQ (AkR _ _ _ _) rfl (ET rfl (B4 (TO ((BF b)==(3:Int))) (B4 (Rw ((BF b)==(3:Int))) (B4 (Xb ((BF b)==(3:Int))) (CQ (tt5 _ _) rfl (ET rfl (ET (ET (CQ (CD _) (CQ (CD _) rfl rfl) rfl) rfl) rfl))))))))))))))))))) rfl) rfl) rfl) rfl) rfl)
end
theorem Yz{n:Nat}(h0:n≠0)(h:n<2^64):Go.Lib.bitLen n=n.log2+1:=by
 have h1:=Nat.log2_self_le h0;have h2:=Nat.lt_log2_self (n:=n);have hp:=Cs n.log2
 have e:n / 2^n.log2=1:=by rw[zD] at h2;exact Nat.div_eq_of_lt_le (by omega) (by omega)
 have e1:Go.Lib.bitLen 1=1:=by decide
 rw[Go.Lib.bitLen_shift n.log2 n h1 h,e,e1]
theorem D8.I4.Bp:D8.I4.Kn:=by
 refine⟨?_,D8.I4.call⟩;intro args ha;simp only[D8.I4.Bu,BP] at ha ⊢;cases hd:Jo [.i .u64] args with
 | none=>rw[hd] at ha; cases ha
 | some ats =>
   rw[hd] at ha;simp only at ha ⊢;obtain⟨ds,h1,h2⟩:=JL hd;obtain⟨x,_,_,rfl,rfl,he⟩:=h1.UT;obtain⟨rfl,rfl⟩:=he.HE;obtain⟨n,rfl,hn⟩:=C3 (x:=x) ha;refine Mh.args ?_ h2;intro w vals I hI hv;obtain⟨u,us,e1,e2,e3⟩:=hv;simp only[By] at e2;have e3:us=[]:=e3;subst e2 e3;have e4:vals=#[.int .u64 (n:Int)]:=Array.ext' e1;subst e4;refine(D8.I4.run n w (by omega) (by omega)).mono ?_
   rintro e w' ⟨rfl,rfl⟩
   refine⟨_,fun _=>wN,rfl,Go.RowKit.Below.refl _ _,⟨fun i b h=>(by cases h),fun i j b h=>(by cases h)⟩,?_⟩;show By _ _ (DV.int .i64 (EA n)) _;simp only[By];congr 1;unfold EA;rw[Ad];by_cases h0:n=0
   ·subst h0; rfl
   ·rw[Yz h0 hn,Ay (by omega)]; rfl
theorem Afq{n:Nat}(hn:n<2^64):0<=EA n/\EA n<=64:=by
 unfold EA;rw[Ad];by_cases h0:n=0
 ·subst h0; decide
 ·have:=(AZ h0).2 hn;rw[Ay (by omega)]; omega
theorem D8.CV.Bp:Kq 210 D8.CV.Bu:=E1 D8.CV.E Tryz.func210 (kc D8.I4.Bp .nil) fun x hp=>by obtain⟨n,rfl,hn⟩:=C3 (x:=x) hp;have:=Afq hn;refine⟨0,D8.CV.out [.i n],[],?_,.int⟩;rw[D8.CV.ev,CI hn,Aa,Bz (by omega) (by omega)];rfl
theorem HY{a b:Nat}(ha:a<4294967296)(hb:b<4294967296):a*b<=18446744065119617025 :=AP (AE (show a<=4294967295 by omega) (show b<=4294967295 by omega)) (by decide)
theorem Afa(x y:Nat)(hx:x<2^64)(hy:y<2^64):
 x*y / 18446744073709551616=(x / 2^32)*(y / 2^32)+((x / 2^32)*(y%2^32)+(x%2^32)*(y%2^32) / 2^32) / 2^32 +
  (((x / 2^32)*(y%2^32)+(x%2^32)*(y%2^32) / 2^32)%2^32+(x%2^32)*(y / 2^32)) / 2^32:=by
 have ex:x=x / 2^32*4294967296+x%2^32:=by omega
 have ey:y=y / 2^32*4294967296+y%2^32:=by omega
 have ha:x / 2^32<4294967296:=by omega
 have hc:y / 2^32<4294967296:=by omega
 have hb:x%2^32<4294967296:=by omega
 have hd:y%2^32<4294967296:=by omega
 generalize x / 2^32=a at *
 generalize x%2^32=b at *
 generalize y / 2^32=c at *
 generalize y%2^32=d at *
 have e:x*y=a*c*18446744073709551616+(a*d+b*c)*4294967296+b*d:=by
  rw[ex,ey,AM,z7,z7]
  have e1:a*4294967296*(c*4294967296)=a*c*18446744073709551616:=by rw[y6]
  have e2:a*4294967296*d=a*d*4294967296:=wQ _ _ _;have e3:b*(c*4294967296)=b*c*4294967296:=(A7 _ _ _).symm;rw[e1,e2,e3];omega
 have b1:=HY ha hc;have b2:=HY ha hd;have b3:=HY hb hc;have b4:=HY hb hd;rw[e];clear e ex ey;generalize a*c=p at *
 generalize a*d=q at *
 generalize b*c=r at *
 generalize b*d=s at *
 omega
theorem D8.J3.Bp:Kq 209 D8.J3.Bu:=E1 D8.J3.E Tryz.func209 .nil fun x y hp=>by
 obtain⟨h1,h2⟩:=Bi.1 hp;obtain⟨x,rfl,hx⟩:=C3 h1;obtain⟨y,rfl,hy⟩:=C3 h2;refine⟨0,D8.J3.out [.i x,.i y],[],?_,Wk.FQ (.cons .int (.cons .int .nil))⟩;show _=wM (DV.CJ [.int .u64 (Ou x y),.int .u64 (KG x y)]);have s32:∀n:Nat,DL .u64 (n:Int) (32:Int)=((n / 2^32:Nat):Int):=fun n=>G3 .u64 n 32 (by decide)
 have m32:∀n:Nat,n<2^64->F9 .u64 (n:Int) (4294967295:Int)=((n%2^32:Nat):Int):=fun n hn=>Hh 32 hn (by decide)
 have ha:x / 2^32<4294967296:=by omega
 have hc:y / 2^32<4294967296:=by omega
 have hb:x%2^32<4294967296:=by omega
 have hd:y%2^32<4294967296:=by omega
 have b1:=HY ha hc;have b2:=HY ha hd;have b3:=HY hb hc;have b4:=HY hb hd;have hhi:=Afa x y hx hy;have wn:∀n:Nat,n<2^64->BU (n:Int)=n:=fun n hn=>Dk (by omega) (by omega)
 have hlt:x*y / 18446744073709551616<2^64:=by rw[yw (by decide)];have:=AE (show x<=18446744073709551615 by omega) (show y<=18446744073709551615 by omega);omega
 rw[D8.J3.ev];simp only[s32,m32 x hx,m32 y hy];generalize hA:x / 2^32=a at *
 generalize hB:x%2^32=b at *
 generalize hC:y / 2^32=c at *
 generalize hD:y%2^32=d at *
 simp only[<- Ax];rw[wn (a*c) (by omega),wn (a*d) (by omega),wn (b*c) (by omega),wn (b*d) (by omega),s32];simp only[<- zI];rw[wn (a*d+b*d / 2^32) (by omega),s32,m32 _ (by omega)];simp only[<- zI];rw[wn (a*c+(a*d+b*d / 2^32) / 2^32) (by omega),wn _ (by omega),s32];simp only[<- zI];rw[<- hhi,wn _ hlt];unfold Ou KG;rw[Ad,Ad,Pg];congr 3
theorem times.signed.Bp:Kq 183 times.signed.Bu:=E1 times.signed.E Tryz.func183 (kc soft.EK.Bp .nil) fun b n hp=>by have hp:Br b=wc:=hp;refine⟨0,times.signed.out [.i b,.b n],[],?_,.int⟩;rw[times.signed.ev,hp];cases n<;>rfl
theorem times.nan.Bp:Kq 182 times.nan.Bu:=E1 times.nan.E Tryz.func182 (kc soft.Kind.Bp .nil) fun a b hp=>by
 obtain⟨ha,hb⟩:=Bi.1 hp;refine⟨0,times.nan.out [.i a,.i b],[],?_,.bool⟩;rw[times.nan.ev,ha,hb,Aa,Aa];show _=wM (DV.bool (decide (BF a=4)||decide (BF b=4)));by_cases h1:BF a=4
 ·rw[h1]; rfl
 ·have e1:(BF a==(4:Int))=wh:=by simp; exact h1
  rw[e1,Ag h1,Af];by_cases h2:BF b=4
  ·rw[h2]; rfl
  ·have e2:(BF b==(4:Int))=wh:=by simp; exact h2
   rw[e2,Ag h2]; rfl
theorem Ls{n:Nat}(h:Bx n≠0):(Bx n).log2<=52/\2^52<=Bx n*2^C9 n/\Bx n*2^C9 n<2^53/\C9 n<=52:=by
 have h1:=EJ n;have h2:(Bx n).log2<53:=(AZ h).2 (by omega);have hz:=Kk (Bx n) (C9 n) h;have hne:Bx n*2^C9 n≠0:=HL h;have hl:(Bx n*2^C9 n).log2=52:=by rw[hz]; unfold C9; omega
 refine⟨by omega,?_,?_,by unfold C9; omega⟩
 ·rw[<- Nat.le_log2 hne]; omega
 ·rw[<- AZ hne]; omega
theorem times.norm.Bp:Kq 184 times.norm.Bu:=E1 times.norm.E Tryz.func184 (kc D8.CV.Bp (kc soft.EX.Bp .nil)) fun b hp=>by
 obtain⟨h1,h2⟩:=Bi.1 hp;obtain⟨n,rfl,hn⟩:=C3 h1;have h2:Bx n≠0:=Bv.1 h2;obtain⟨l1,l2,l3,l4⟩:=Ls h2;have hM:=EJ n;have hE:=CH n;refine⟨0,times.norm.out [.i n],[],?_,Wk.FQ (.cons .int (.cons .int .nil))⟩;show _=wM (DV.CJ [.int .u64 (Di n),.int .i64 (Gn n)]);have e1:Cf (n:Int)=(Bx n:Int):=rfl;have e2:BR (n:Int)=B6 n:=rfl
 have e3:EA (Bx n:Int)=((Bx n).log2:Int)+1:=by unfold EA;rw[Ay (by omega),Ad]
 have e4:Bh ((64-(((Bx n).log2:Int)+1))-(11:Int))=((C9 n:Nat):Int):=by rw[Bz (by omega) (by omega)]; unfold C9; omega
 rw[times.norm.ev,CI hn,e1,e2,CI (n:=Bx n) (by omega),e3,e4,Fj _ _ (by omega),Ao (by omega),Bz (by omega) (by omega),Ac (by omega)];rfl
theorem Aed{V t:Nat}{E:Int}(h0:V≠0)(h:V<2^t)(hE:E+t<=-1075):Cu V E=0/\flagsOf V E=3:=by
 have hl:V.log2<t:=(AZ h0).2 h;have hL:Cp V E=-1074:=by unfold Cp; omega
 obtain⟨k,hk⟩:∃k:Nat,(-1074-E).toNat=t+1+k:=⟨(-1074-E).toNat-t-1,by omega⟩
 have hp:2^(t+1)<=2^(t+1+k):=Aq (by decide) (by omega);have ht:2^(t+1)=2*2^t:=by rw[zD]; omega
 have e2:(-(-1074-E)).toNat=0:=by omega
 have hr:H4 V (-1074-E)=0:=by unfold H4 H5;rw[e2,hk,AG,AR,yd (by omega),Ao (by omega),Ay (by omega)]
 have hru:Cu V E=0:=by unfold Cu kept;rw[Ay h0,hL,hr];simp
 refine⟨hru,?_⟩;unfold flagsOf exact JV;rw[Ay h0,hru,hL,e2,hk,AG,AR,Ao (by omega),Ag h0];decide
theorem Ac4(n:Bool){m:Nat}{e:Int}(r:Bool)(hm:1<m)(he:e < -1130):FA n (m / 2) (e+1) (r||decide (m%2=1))=FA n m e r:=by
 have e1:(4*m+r.toNat) / 2^3=m / 2:=by cases r<;>simp<;>omega
 have e2:(r||decide (m%2=1))=decide ((4*m+r.toNat)%2^3≠0):=by
  rw[Ar];cases r
  ·simp; omega
  ·simp; omega
 have:=P6 n (V:=4*m+r.toNat) (k:=3) (E:=e-2) (e:=e+1) (s:=r||decide (m%2=1)) (by omega) e2 (by omega) (.inr (by omega));rw[e1] at this;exact this
theorem P5(n:Bool){e:Int}(r:Bool)(he:e < -1130):FA n 1 e r=FA n 0 (-1074) wc:=by
 have h1:r.toNat<=1:=by cases r<;>decide
 obtain⟨a1,a2⟩:=Aed (V:=4*1+r.toNat) (t:=3) (E:=e-2) (by omega) (by omega) (by omega);obtain⟨b1,b2⟩:=Aed (V:=4*0+true.toNat) (t:=1) (E:=-1074-2) (by decide) (by decide) (by decide);unfold FA;rw[a1,a2,b1,b2]
theorem Ab6(N:Nat)(n:Bool):∀(k m:Nat) (e:Int) (r:Bool),1<=m->m<2^62->m<=2^k->-7000<=e->e<=6000->(2^60<=m\/e<=-1130) ->
 times.wide.L0 N (k+1) n (m:Int) e r=wM (.CJ [.int .u64 (((FA n m e r).1:Nat):Int),.int .u8 (((FA n m e r).2:Nat):Int)]):=by
 intro k
 induction k with
 | zero =>
   intro m e r h1 h2 h3 h4 h5 h6;have hm:m=1:=by simp at h3; omega
   subst hm;rw[times.wide.B7,B8,B8];have c1:decide ((1:Int)<((1:Nat):Int))=wh:=by decide
   rw[c1,xZ,Af];by_cases he:e < -1130
   ·have hp:El (0:Int) (-1074:Int) wc=wc:=Bv.2 (by omega);rw[Ac he,Aa,hp,Aa,P5 n r he];rfl
   ·have he:e=-1130:=by omega
    subst he;have hp:El ((1:Nat):Int) (-1130:Int) r=wc:=Bv.2 (by omega);rw[Ag (by omega),Af,hp,Aa];rfl
 | succ k ih =>
   intro m e r h1 h2 h3 h4 h5 h6;rw[times.wide.B7,B8,B8];by_cases he:e < -1130
   ·by_cases hm:1<m
    ·have c1:decide ((1:Int)<(m:Int))=wc:=Ac (by omega);have e1:DL .u64 (m:Int) (1:Int)=((m / 2:Nat):Int):=G3 .u64 m 1 (by decide);have e2:F9 .u64 (m:Int) (1:Int)=((m%2:Nat):Int):=Hh (a:=m) 1 (by omega) (by decide)
     have e3:(cond r wc ((F9 .u64 (m:Int) (1:Int))==(1:Int)))=(r||decide (m%2=1)):=by
      rw[e2];cases r
      ·rw[Ar]; simp; omega
      ·rfl
     rw[Ac he,c1,Ah,Aa,e1,e3,Bz (by omega) (by omega)];have hk:m / 2<=2^k:=by rw[zD] at h3; omega
     rw[ih (m / 2) (e+1) _ (by omega) (by omega) hk (by omega) (by omega) (.inr (by omega)),Ac4 n r hm he]
    ·have hm:m=1:=by omega
     subst hm;have c1:decide ((1:Int)<((1:Nat):Int))=wh:=by decide
     have hp:El (0:Int) (-1074:Int) wc=wc:=Bv.2 (by omega);rw[c1,xZ,Af,Ac he,Aa,hp,Aa,P5 n r he];rfl
   ·have hp:El (m:Int) e r=wc:=Bv.2 ⟨by omega,by omega,by omega,.inl (by omega),fun _=>by omega⟩;rw[Ag he,zV,Af,Af,hp,Aa];rfl
theorem times.wide.Bp:Kq 185 times.wide.Bu:=E1 times.wide.E Tryz.func185 (kc soft.DA.Bp .nil) fun n m e r hp=>by
 obtain⟨h1,h2,h3,h4⟩:=Bv.1 (show L9 m e=wc from hp);obtain⟨m,rfl⟩:∃k:Nat,m=k:=⟨m.toNat,by omega⟩
 refine⟨63,times.wide.out [.b n,.i m,.i e,.b r],[],?_,Wk.FQ (.cons .int (.cons .int .nil))⟩;rw[times.wide.ev,Ab6 63 n 62 m e r (by omega) (by omega) (by omega) (by omega) (by omega) (.inl (by omega))];rfl
def Cc.Neg.E:=E0 []
theorem Cc.Neg.ev(N:Nat)(x:Int):Cz Cc.Neg.E N f102 (Bw f102) [.int .u64 x]=wM (.bool ((BU (zq x 9223372036854775808))==(1:Int))):=by kernel_rfl
def Cc.Power.E:=E0 []
theorem Cc.Power.ev(N:Nat)(x:Int):Cz Cc.Power.E N f101 (Bw f101) [.int .u64 x]=wM (.int .i64 (Bh (BU (zq (zw x 9223372036854775808) 4503599627370496)))):=by kernel_rfl
def Cc.Mz.E:=E0 []
theorem Cc.Mz.ev(N:Nat)(x:Int):Cz Cc.Mz.E N f100 (Bw f100) [.int .u64 x]=wM (.int .u64 (zw x 4503599627370496)):=by kernel_rfl
def Cc.Kind.E:=E0 [(100,Cc.Mz.Bu),(101,Cc.Power.Bu)]
theorem Cc.Kind.ev(N:Nat)(x:Int):Cz Cc.Kind.E N f58 (Bw f58) [.int .u64 x]=cond (MW x) (bif ((JC x)==(2047:Int)) then cond (MW x) (bif ((Db x)==(0:Int)) then wM (.int .i64 3) else wM (.int .i64 4)) wN else bif (MW x) then cond (BH 0 (JC x)) (wM (.int .i64 2)) (bif (MW x) then cond (BH 0 (Db x)) (wM (.int .i64 1)) (wM (.int .i64 0)) else wN) else wN) wN:=by kernel_rfl
def Cc.Finite.E:=E0 [(101,Cc.Power.Bu)]
theorem Cc.Finite.ev(N:Nat)(x:Int):Cz Cc.Finite.E N f114 (Bw f114) [.int .u64 x]=cond (MW x) (wM (.bool (BH (JC x) 2047))) wN:=by kernel_rfl
theorem H2(n m:Nat):zq (n:Int) (m:Int)=((n / m:Nat):Int):=rfl
theorem H0(n m:Nat):zw (n:Int) (m:Int)=((n%m:Nat):Int):=rfl
theorem Ai0:(9223372036854775808:Int)=((2^63:Nat):Int):=rfl
theorem Ai1:(4503599627370496:Int)=((2^52:Nat):Int):=rfl
theorem Cc.Neg.Bp:Kq 102 Cc.Neg.Bu:=E1 Cc.Neg.E Tryz.func102 .nil fun x hp=>by obtain⟨n,rfl,hn⟩:=C3 (x:=x) hp;refine⟨0,Cc.Neg.out [.i n],[],?_,.bool⟩;rw[Cc.Neg.ev,Ai0,H2,Dk (by omega) (by omega)];show _=wM (DV.bool (DN n));unfold DN Ce;rw[Ad];congr 2;rw[Ar];simp only[beq_iff_eq,Ai];omega
theorem Cc.Power.Bp:Kq 101 Cc.Power.Bu:=E1 Cc.Power.E Tryz.func101 .nil fun x hp=>by
 obtain⟨n,rfl⟩:=SS (x:=x) hp;refine⟨0,Cc.Power.out [.i n],[],?_,.int⟩;rw[Cc.Power.ev,Ai0,Ai1,H0,H2,Dk (by omega) (by omega),Bz (by omega) (by omega)];show _=wM (DV.int .i64 (JC n));unfold JC DH;rw[Ad];congr 2;have:n%2^63 / 2^52=n / 2^52%2048:=by omega
 rw[this]
theorem Cc.Mz.Bp:Kq 100 Cc.Mz.Bu:=E1 Cc.Mz.E Tryz.func100 .nil fun x hp=>by obtain⟨n,rfl⟩:=SS (x:=x) hp;refine⟨0,Cc.Mz.out [.i n],[],?_,.int⟩;rw[Cc.Mz.ev,Ai1,H0];rfl
theorem Cc.Kind.Bp:Kq 58 Cc.Kind.Bu:=E1 Cc.Kind.E Tryz.func58 (kc Cc.Mz.Bp (kc Cc.Power.Bp .nil)) fun x hp=>by
 obtain⟨n,rfl⟩:=SS (x:=x) hp;refine⟨0,Cc.Kind.out [.i n],[],?_,.int⟩;rw[Cc.Kind.ev,MV];show _=wM (DV.int .i64 (BF n));unfold BF Bn JC Db;simp only[Ad,Aa,B8];have:=Il n;by_cases h1:DH n=2047
 ·by_cases h2:Df n=0
  ·simp[h1,h2]
  ·have:((Df n:Int)==0)=wh:=by simp; exact h2
   simp[h1,this,h2]
 ·have h1':((DH n:Int)==2047)=wh:=by simp; omega
  rw[h1'];by_cases h3:0<DH n
  ·simp[h1,h3]
  ·by_cases h4:0<Df n
   ·simp[h1,h3,h4]
   ·simp[h1,h3,h4]
theorem Cc.Finite.Bp:Kq 114 Cc.Finite.Bu:=E1 Cc.Finite.E Tryz.func114 (kc Cc.Power.Bp .nil) fun x hp=>by obtain⟨n,rfl,hn⟩:=C3 (x:=x) hp;refine⟨0,Cc.Finite.out [.i n],[],?_,.bool⟩;rw[Cc.Finite.ev,MV,Aa,B8];show _=wM (DV.bool (Du n));unfold Du GJ JC;rw[Ad];have:decide ((DH n:Int)<2047)=decide (DH n<2047):=decide_eq_decide.2 (by omega);rw[this]
theorem NL{b:Nat}(h0:Bn b≠0)(h3:Bn b≠3)(h4:Bn b≠4):Bx b≠0:=by
 have:=Il b;unfold Bn at h0 h3 h4;unfold Bx;by_cases h1:DH b=2047
 ·rw[Az h1] at h3 h4;by_cases h2:Df b=0
  ·rw[Az h2] at h3; exact absurd rfl h3
  ·rw[Ay h2] at h4; exact absurd rfl h4
 ·rw[Ay h1] at h0;by_cases h2:0<DH b
  ·rw[Ay (by omega)]; omega
  ·rw[Ay h2] at h0;by_cases h5:0<Df b
   ·rw[Az (by omega)]; omega
   ·rw[Ay h5] at h0; exact absurd rfl h0
theorem UE{b:Nat}(h0:Bn b=0):Bx b=0:=by
 unfold Bn at h0;unfold Bx;by_cases h1:DH b=2047
 ·rw[Az h1] at h0; split at h0<;>omega
 ·rw[Ay h1] at h0;by_cases h2:0<DH b
  ·rw[Az h2] at h0; omega
  ·rw[Ay h2] at h0;by_cases h5:0<Df b
   ·rw[Az h5] at h0; omega
   ·rw[Az (by omega)]; omega
theorem Zz{x y:Nat}(hx1:2^52<=x)(hx2:x<2^53)(hy1:2^52<=y)(hy2:y<2^53):2^104<=x*y/\x*y<2^106:=by have h1:=AE hx1 hy1;have h2:x*y<2^53*2^53:=Nat.mul_lt_mul'' hx2 hy2;exact⟨AP (by decide) h1,AU h2 (by decide)⟩
theorem Ahn{V:Nat}(h:V<2^106):Hw .u64 (Cr .u64 ((V / 18446744073709551616:Nat):Int) (20:Int)) (DL .u64 ((V%18446744073709551616:Nat):Int) (44:Int))=((V / 2^44:Nat):Int):=by have e1:Cr .u64 ((V / 18446744073709551616:Nat):Int) (20:Int)=((V / 18446744073709551616*2^20%2^64:Nat):Int):=Fj _ 20 (by decide);have e2:DL .u64 ((V%18446744073709551616:Nat):Int) (44:Int)=((V%18446744073709551616 / 2^44:Nat):Int):=G3 .u64 _ 44 (by decide);rw[e1,e2,Ao (by omega),Kt (k:=20) (by omega) (by omega)];congr 1;omega
theorem Ahm{V:Nat}:((Cr .u64 ((V%18446744073709551616:Nat):Int) (20:Int)) !=(0:Int))=decide (V%2^44≠0):=by have e1:Cr .u64 ((V%18446744073709551616:Nat):Int) (20:Int)=((V%18446744073709551616*2^20%2^64:Nat):Int):=Fj _ 20 (by decide);rw[e1,Ar];simp only[bne_iff_ne,ne_eq,Ai];omega
theorem VZ(s t:Bool):(!(s==t))=(s !=t):=rfl
theorem w53{x:Nat}(h:x<2^53):Br (x:Int)=wc:=CI (by omega)
theorem Ahx(n:Bool){a b:Nat}(ha:Bx a≠0)(hb:Bx b≠0):
 (bif (Br (Di a)&&Br (Di b)) then
  bif (L9 (Hw .u64 (Cr .u64 (Ou (Di a) (Di b)) (20:Int)) (DL .u64 (KG (Di a) (Di b)) (44:Int))) (Bh ((Bh ((Gn a)+(Gn b)))+(44:Int)))) then
   wM (DV.CJ [.int .u64 (E9 n (Hw .u64 (Cr .u64 (Ou (Di a) (Di b)) (20:Int)) (DL .u64 (KG (Di a) (Di b)) (44:Int))) (Bh ((Bh ((Gn a)+(Gn b)))+(44:Int))) ((Cr .u64 (KG (Di a) (Di b)) (20:Int)) !=(0:Int))),.int .u8 (E8 n (Hw .u64 (Cr .u64 (Ou (Di a) (Di b)) (20:Int)) (DL .u64 (KG (Di a) (Di b)) (44:Int))) (Bh ((Bh ((Gn a)+(Gn b)))+(44:Int))) ((Cr .u64 (KG (Di a) (Di b)) (20:Int)) !=(0:Int)))])
  else wN
 else wN)=wM (.CJ [.int .u64 ((Cq n (Cu (Bx a*Bx b) (B6 a+B6 b)):Nat):Int),.int .u8 ((flagsOf (Bx a*Bx b) (B6 a+B6 b):Nat):Int)]):=by
 obtain⟨a1,a2,a3,a4⟩:=Ls ha;obtain⟨b1,b2,b3,b4⟩:=Ls hb;have ea:=CH a;have eb:=CH b;have ma:Di (a:Int)=((Bx a*2^C9 a:Nat):Int):=rfl;have mb:Di (b:Int)=((Bx b*2^C9 b:Nat):Int):=rfl;have na:Gn (a:Int)=B6 a-C9 a:=rfl;have nb:Gn (b:Int)=B6 b-C9 b:=rfl;have hi:Ou (Di a) (Di b)=((Bx a*2^C9 a*(Bx b*2^C9 b) / 18446744073709551616:Nat):Int):=rfl;have lo:KG (Di a) (Di b)=((Bx a*2^C9 a*(Bx b*2^C9 b)%18446744073709551616:Nat):Int):=rfl;rw[hi,lo,ma,mb,na,nb,w53 a3,w53 b3,Ah,Aa];obtain⟨v1,v2⟩:=Zz a2 a3 b2 b3
 have ev:Bx a*2^C9 a*(Bx b*2^C9 b)=Bx a*Bx b*2^(C9 a+C9 b):=by rw[y6,<- A5]
 obtain⟨s1,s2⟩:=D2 (Bx a*Bx b) (C9 a+C9 b) (B6 a+B6 b);rw[<- ev] at s1 s2;generalize Bx a*2^C9 a*(Bx b*2^C9 b)=V at *
 rw[Ahn v2,Ahm,Bz (x:=_+_) (by rw[Bz (by omega) (by omega)]; omega) (by rw[Bz (by omega) (by omega)]; omega),Bz (by omega) (by omega)];have hw:L9 ((V / 2^44:Nat):Int) (B6 a-C9 a+(B6 b-C9 b)+44)=wc:=Bv.2 ⟨by omega,by omega,by omega,by omega⟩;rw[hw,Aa];unfold E9 E8;rw[Ad,P6 n (V:=V) (k:=44) (E:=B6 a+B6 b-((C9 a+C9 b:Nat):Int)) (e:=B6 a-C9 a+(B6 b-C9 b)+44) (s:=decide (V%2^44≠0)) (by omega) rfl (by omega) (.inl (by omega)),s1,s2]
theorem kq(b k:Nat):(((Bn b:Nat):Int)==((k:Nat):Int))=decide (Bn b=k):=by rw[Ar]; simp only[beq_iff_eq,Ai]; omega
theorem Uy(n:Bool){r:Nat}(h:r<2^63):Oo n (r:Int)=((Cq n r:Nat):Int):=by
 unfold Oo Cq Cy;cases n
 ·rfl
 ·simp only[if_true];rw[Ad,OO h]
theorem Yb(n:Bool):Oo n (9218868437227405312:Int)=((Cq n Er:Nat):Int):=Uy n (r:=Er) (by decide)
theorem Ug(n:Bool):Oo n (0:Int)=((Cq n 0:Nat):Int):=Uy n (r:=0) (by decide)
theorem NT(b:Nat):BF (b:Int)=((Bn b:Nat):Int):=rfl
theorem AaY(a b:Nat):AeW (a:Int) (b:Int)=(decide (Bn a=4)||decide (Bn b=4)):=by unfold AeW BF;simp only[Ad];rw[Ar];simp only[zH,Ai];omega
theorem k3(b:Nat):(((Bn b:Nat):Int)==(3:Int))=decide (Bn b=3):=kq b 3
theorem k0(b:Nat):(((Bn b:Nat):Int)==(0:Int))=decide (Bn b=0):=kq b 0
theorem times.Mul.Bp:Kq 175 times.Mul.Bu:=E1 times.Mul.E Tryz.func175 (kc D8.J3.Bp (kc soft.Kind.Bp (kc soft.Sign.Bp (kc times.nan.Bp (kc times.norm.Bp (kc times.signed.Bp (kc times.wide.Bp .nil))))))) fun a b hp=>by
 obtain⟨ha,hb⟩:=Bi.1 hp;obtain⟨a,rfl,hn⟩:=C3 ha;obtain⟨b,rfl,hm⟩:=C3 hb;refine⟨0,times.Mul.out [.i a,.i b],[],?_,Wk.FQ (.cons .int (.cons .int .nil))⟩;have i1:Br (9218868437227405312:Int)=wc:=CI (n:=9218868437227405312) (by decide);have i2:Br (0:Int)=wc:=CI (n:=0) (by decide);rw[times.Mul.ev,ha,hb,AaY,NT,NT,k3,k3,k0,k0,i1,i2,Yb,Ug,VZ];show _=wM (DV.CJ [.int .u64 (((Ee a b).1:Nat):Int),.int .u8 (((Ee a b).2:Nat):Int)]);have ea:DN (a:Int)=Ce a:=rfl;have eb:DN (b:Int)=Ce b:=rfl;rw[ea,eb];unfold Ee;simp only[Ah,Aa];by_cases h4:Bn a=4\/Bn b=4
 ·have c4:(decide (Bn a=4)||decide (Bn b=4))=wc:=by simp; exact h4
  rw[Az h4,c4,Aa]; rfl
 ·have c4:(decide (Bn a=4)||decide (Bn b=4))=wh:=by simp; omega
  rw[Ay h4,c4,Af];by_cases h3:Bn a=3\/Bn b=3
  ·rw[Az h3];by_cases h0:Bn a=0\/Bn b=0
   ·have c0:(decide (Bn a=3)&&decide (Bn b=0)||decide (Bn a=0)&&decide (Bn b=3))=wc:=by simp; omega
    rw[Az h0,c0,Aa]; rfl
   ·have c0:(decide (Bn a=3)&&decide (Bn b=0)||decide (Bn a=0)&&decide (Bn b=3))=wh:=by simp; omega
    have c3:(decide (Bn a=3)||decide (Bn b=3))=wc:=by simp; omega
    rw[Ay h0,c0,Af,c3,Aa]; rfl
  ·have c0:(decide (Bn a=3)&&decide (Bn b=0)||decide (Bn a=0)&&decide (Bn b=3))=wh:=by simp; omega
   have c3:(decide (Bn a=3)||decide (Bn b=3))=wh:=by simp; omega
   rw[Ay h3,c0,Af,c3,Af];by_cases h0:Bn a=0\/Bn b=0
   ·have c5:(decide (Bn a=0)||decide (Bn b=0))=wc:=by simp; exact h0
    have hz:Bx a*Bx b=0:=by
     rcases h0 with h | h
     ·rw[UE h,Nat.zero_mul]
     ·rw[UE h,yk]
    rw[c5,Aa,hz,U4,PQ]; rfl
   ·have c5:(decide (Bn a=0)||decide (Bn b=0))=wh:=by simp; omega
    have pa:=NL (b:=a) (by omega) (by omega) (by omega);have pb:=NL (b:=b) (by omega) (by omega) (by omega);have na:JG (a:Int)=wc:=Bv.2 pa;have nb:JG (b:Int)=wc:=Bv.2 pb;rw[c5,Af,na,nb,Ah,Aa,Aa];exact Ahx _ pa pb
theorem AfV(N:Nat){a b:Nat}{X Y:Nat}(hY:0<Y)(hY2:Y<2^53)(hX:X<2*Y)(em:Di (b:Int)=(Y:Int)):∀(k i:Nat),k+i=61 ->
 times.Div.L0 N (k+1) a b ((X*2^i / Y:Nat):Int) ((X*2^i%Y:Nat):Int) (i:Int)=
  times.Div.L0 N 1 a b ((X*2^61 / Y:Nat):Int) ((X*2^61%Y:Nat):Int) (61:Int):=by
 intro k
 induction k with
 | zero =>
   intro i hi;have:i=61:=by omega
   subst this;rfl
 | succ k ih =>
   intro i hi
   have hq:X*2^i / Y<2^62:=by
    rw[yw hY];have h1:X*2^i<2*Y*2^i:=(Nat.mul_lt_mul_right (Cs i)).2 hX
    have h2:2*2^i<=2^62:=by rw[A0,<- zD]; exact Aq (by decide) (by omega)
    have h3:2*2^i*Y<=2^62*Y:=An _ h2;rw[wQ] at h1;omega
   have hr:X*2^i%Y<Y:=Nat.mod_lt _ hY;have hd:=Nat.div_add_mod (X*2^i) Y;have e2:X*2^(i+1)=X*2^i*2:=by rw[zD,A7]
   rw[times.Div.B7,B8,Ei,em,Ac (by omega),Aa]
   have s1:Cr .u64 ((X*2^i%Y:Nat):Int) (1:Int)=((X*2^i%Y*2:Nat):Int):=by have:=Fj (X*2^i%Y) 1 (by decide);rw[Ao (a:=X*2^i%Y*2^1) (by omega)] at this;exact this
   have s2:Cr .u64 ((X*2^i / Y:Nat):Int) (1:Int)=((X*2^i / Y*2^1:Nat):Int):=by have:=Fj (X*2^i / Y) 1 (by decide);rw[Ao (a:=X*2^i / Y*2^1) (by omega)] at this;exact this
   have s3:Hw .u64 ((X*2^i / Y*2^1:Nat):Int) (1:Int)=((X*2^i / Y*2^1+1:Nat):Int):=Kt (k:=1) (b:=1) (by decide) (by omega);have ei:Bh ((i:Int)+1)=((i+1:Nat):Int):=by rw[Bz (by omega) (by omega)]; rfl
   rw[s1,s2,s3,ei];generalize hq':X*2^i / Y=q at *
   generalize hr':X*2^i%Y=r at *
   have step:∀c,X*2^i*2=Y*(2*q+c)+(2*r-c*Y)->c*Y<=2*r->2*r<c*Y+Y->X*2^(i+1) / Y=2*q+c/\X*2^(i+1)%Y=2*r-c*Y:=fun c h1 h2 h3=>by
    rw[e2,h1];constructor
    ·rw[Nat.mul_add_div hY,yd (by omega)]; omega
    ·rw[Nat.mul_add_mod,Ao (by omega)]
   by_cases hc:Y<=r*2
   ·obtain⟨t1,t2⟩:=step 1 (by rw[z7,AR,yM]; omega) (by omega) (by omega);have:=ih (i+1) (by omega);rw[t1,t2] at this;rw[Ac (by omega),Aa,Dk (by omega) (by omega)];have e3:((r*2:Nat):Int)-(Y:Int)=((2*r-1*Y:Nat):Int):=by omega
    have e4:q*2^1+1=2*q+1:=by omega
    rw[e3,e4];exact this
   ·obtain⟨t1,t2⟩:=step 0 (by rw[AQ,yM]; omega) (by omega) (by omega);have:=ih (i+1) (by omega);rw[t1,t2] at this;rw[Ag (by omega),Af];have e3:r*2=2*r-0*Y:=by omega
    have e4:q*2^1=2*q+0:=by omega
    rw[e3,e4];exact this
theorem AhR{a b:Nat}(ha:Bx a≠0)(hb:Bx b≠0):
 times.Div.L0 62 62 a b (BU (zq (Di a) (Di b))) (zw (Di a) (Di b)) (0:Int)=
  wM (.CJ [.int .u64 ((Cq (Ce a !=Ce b) (Cu (EI (Bx a) (Bx b) 120) (B6 a-B6 b-121)):Nat):Int),.int .u8 ((flagsOf (EI (Bx a) (Bx b) 120) (B6 a-B6 b-121):Nat):Int)]):=by
 obtain⟨a1,a2,a3,a4⟩:=Ls ha;obtain⟨b1,b2,b3,b4⟩:=Ls hb;have ea:=CH a;have eb:=CH b;have ma:Di (a:Int)=((Bx a*2^C9 a:Nat):Int):=rfl;have mb:Di (b:Int)=((Bx b*2^C9 b:Nat):Int):=rfl;have na:Gn (a:Int)=B6 a-C9 a:=rfl;have nb:Gn (b:Int)=B6 b-C9 b:=rfl;have sL:=YQ (Bx a) (Bx b*2^C9 b) (C9 a) 61;have hpos:0<Bx b*2^C9 b:=by omega
 have hq1:2^53<=Bx a*2^C9 a*2^61 / (Bx b*2^C9 b):=by rw[yZ hpos]; omega
 have hqq:2^60<=Bx a*2^C9 a*2^61 / (Bx b*2^C9 b):=by rw[yZ hpos]; omega
 have hq2:Bx a*2^C9 a*2^61 / (Bx b*2^C9 b)<2^62:=by rw[yw hpos]; omega
 have hstick:EI (Bx a*2^C9 a) (Bx b*2^C9 b) 61=EI (Bx a) (Bx b) (61+C9 a-C9 b):=by
  rw[sL];have:61+C9 a=61+C9 a-C9 b+C9 b:=by omega
  conv=>lhs; rw[this]
  rw[Xg]
 have hge1:2^53<=Bx a*2^(61+C9 a-C9 b) / Bx b:=by
  have e1:Bx a*2^C9 a*2^61=Bx a*2^(61+C9 a-C9 b)*2^C9 b:=by rw[A7,<- A5,A7,<- A5];congr 2;omega
  rw[e1,Nat.mul_div_mul_right _ _ (Cs _)] at hq1;exact hq1
 have hge2:2^53<=Bx a*2^120 / Bx b:=Aje (t:=53) (by omega) (by omega) (by have:=EJ b; omega) (by omega);obtain⟨s1,s2⟩:=YP (X:=Bx a) (Y:=Bx b) (K:=61+C9 a-C9 b) (L:=120) (E:=B6 a-C9 a-(B6 b-C9 b)-61-1) (F:=B6 a-B6 b-121) (by omega) hge1 hge2 (by omega)
 have d1:BU (zq (Di a) (Di b))=((Bx a*2^C9 a*2^0 / (Bx b*2^C9 b):Nat):Int):=by rw[ma,mb,H2,AG,AR];have h1:=Nat.div_le_self (Bx a*2^C9 a) (Bx b*2^C9 b);have h2:Bx a*2^C9 a / (Bx b*2^C9 b)<2^64:=AK h1 (Nat.lt_trans a3 (by decide));generalize Bx a*2^C9 a / (Bx b*2^C9 b)=q at h2 ⊢;exact Dk (Int.natCast_nonneg q) (by omega)
 have d2:zw (Di a) (Di b)=((Bx a*2^C9 a*2^0%(Bx b*2^C9 b):Nat):Int):=by rw[ma,mb,H0,AG,AR]
 rw[d1,d2];have lp:=AfV 62 (a:=a) (b:=b) hpos b3 (X:=Bx a*2^C9 a) (by omega) mb 61 0 (by omega);refine lp.trans ?_;rw[times.Div.B7,B8,na,nb,Ag (by omega),Af]
 have we:Bh (Bh (B6 a-C9 a-(B6 b-C9 b))-61)=B6 a-C9 a-(B6 b-C9 b)-61:=by rw[Bz (x:=B6 a-C9 a-(B6 b-C9 b)) (by omega) (by omega),Bz (by omega) (by omega)]
 have hne:(((Bx a*2^C9 a*2^61%(Bx b*2^C9 b):Nat):Int) !=(0:Int))=decide (Bx a*2^C9 a*2^61%(Bx b*2^C9 b)≠0):=by rw[Ar]; simp only[bne_iff_ne,ne_eq,Ai]; omega
 rw[we,hne];have hw:L9 ((Bx a*2^C9 a*2^61 / (Bx b*2^C9 b):Nat):Int) (B6 a-C9 a-(B6 b-C9 b)-61)=wc:=Bv.2 ⟨by omega,by omega,by omega,by omega⟩;have hn:DN (a:Int)=Ce a:=rfl;have hn':DN (b:Int)=Ce b:=rfl;rw[hw,Aa,VZ,hn,hn'];unfold E9 E8;rw[Ad,Ac6 _ rfl rfl hq1,hstick,s1,s2]
theorem times.Div.Bp:Kq 144 times.Div.Bu:=E1 times.Div.E Tryz.func144 (kc soft.Kind.Bp (kc soft.Sign.Bp (kc times.nan.Bp (kc times.norm.Bp (kc times.signed.Bp (kc times.wide.Bp .nil)))))) fun a b hp=>by
 obtain⟨ha,hb⟩:=Bi.1 hp;obtain⟨a,rfl,hn⟩:=C3 ha;obtain⟨b,rfl,hm⟩:=C3 hb;refine⟨62,times.Div.out [.i a,.i b],[],?_,Wk.FQ (.cons .int (.cons .int .nil))⟩;have i1:Br (9218868437227405312:Int)=wc:=CI (n:=9218868437227405312) (by decide);have i2:Br (0:Int)=wc:=CI (n:=0) (by decide);rw[times.Div.ev,ha,hb,AaY,NT,NT,k3,k3,k0,k0,i1,i2,Yb,Ug,VZ];show _=wM (DV.CJ [.int .u64 (((K5 a b).1:Nat):Int),.int .u8 (((K5 a b).2:Nat):Int)]);have ea:DN (a:Int)=Ce a:=rfl;have eb:DN (b:Int)=Ce b:=rfl;rw[ea,eb];unfold K5;rw[Ah,Aa,Aa,Aa,Aa,Aa];by_cases h4:Bn a=4\/Bn b=4
 ·have c4:(decide (Bn a=4)||decide (Bn b=4))=wc:=by simp; exact h4
  rw[Az h4,c4,Aa]; rfl
 ·have c4:(decide (Bn a=4)||decide (Bn b=4))=wh:=by simp; omega
  rw[Ay h4,c4,Af];by_cases h1:Bn a=Bn b/\(Bn a=3\/Bn a=0)
  ·have c1:(decide (Bn a=3)&&decide (Bn b=3)||decide (Bn a=0)&&decide (Bn b=0))=wc:=by simp; omega
   rw[Az h1,c1,Aa]; rfl
  ·have c1:(decide (Bn a=3)&&decide (Bn b=3)||decide (Bn a=0)&&decide (Bn b=0))=wh:=by simp; omega
   rw[Ay h1,c1,Af];by_cases h2:Bn a=3
   ·rw[Az h2,Ac h2,Aa]; rfl
   ·rw[Ay h2,Ag h2,Af];by_cases h3:Bn b=3\/Bn a=0
    ·have c3:(decide (Bn b=3)||decide (Bn a=0))=wc:=by simp; exact h3
     rw[Az h3,c3,Aa]; rfl
    ·have c3:(decide (Bn b=3)||decide (Bn a=0))=wh:=by simp; omega
     rw[Ay h3,c3,Af];by_cases h5:Bn b=0
     ·rw[Az h5,Ac h5,Aa]; rfl
     ·rw[Ay h5,Ag h5,Af];have pa:=NL (b:=a) (by omega) (by omega) (by omega);have pb:=NL (b:=b) (by omega) (by omega) (by omega);have na:JG (a:Int)=wc:=Bv.2 pa;have nb:JG (b:Int)=wc:=Bv.2 pb
      have hnb:(Di (b:Int) !=0)=wc:=by obtain⟨_,l2,_,_⟩:=Ls pb;have mb:Di (b:Int)=((Bx b*2^C9 b:Nat):Int):=rfl;rw[mb];simp only[bne_iff_ne,ne_eq];omega
      rw[na,nb,hnb,Ah,Aa,Aa,Aa,Aa,AhR pa pb]
def Bs.Add.E:=E0 [(174,sum.Add.Bu)]
theorem Bs.Add.ev(N:Nat)(a b:Int):Cz Bs.Add.E N f137 (Bw f137) [.int .u64 a,.int .u64 b]=cond (Br a&&Br b) (wM (.int .u64 (DD a b))) wN:=by kernel_rfl
def Bs.Sub.E:=E0 [(231,sum.Sub.Bu)]
theorem Bs.Sub.ev(N:Nat)(a b:Int):Cz Bs.Sub.E N f201 (Bw f201) [.int .u64 a,.int .u64 b]=cond (Br a&&Br b) (wM (.int .u64 (DW a b))) wN:=by kernel_rfl
def Bs.Mul.E:=E0 [(175,times.Mul.Bu)]
theorem Bs.Mul.ev(N:Nat)(a b:Int):Cz Bs.Mul.E N f138 (Bw f138) [.int .u64 a,.int .u64 b]=cond (Br a&&Br b) (wM (.int .u64 (Cx a b))) wN:=by kernel_rfl
def Bs.fit.E:=E0 []
theorem Bs.fit.ev(N:Nat)(x y:Bf):Cz Bs.fit.E N f173 (Bw f173) [.Bj .arg .u64 x,.Bj .arg .u64 y]=wM (.bool (cond ((wj x:Int)==(wj y:Int)) (DT (wj x:Int) 64) wh)) :=Et (B4 (M3 ((wj x:Int)==(wj y:Int))) (B4 (J7 ((wj x:Int)==(wj y:Int))) (B4 (J7 ((wj x:Int)==(wj y:Int))) (B4 (Qk ((wj x:Int)==(wj y:Int))) rfl))))
def Bs.GY.hint:Nat->Option BK
 | 0=>wM { Da:=[0,1,6,13,14],Cg:=[],Cv:=[] }
 | _=>wN
def Bs.GY.E:=Dr (CW [(137,Bs.Add.Bu),(138,Bs.Mul.Bu),(173,Bs.fit.Bu)]) (fun _=>wh) Bs.GY.hint (fun _=>wN)
section
variable(N M:Nat)(x y:Bf)(p6 p14:Int)
def Bs.GY.L0:Option DV:=C6 Bs.GY.E N f134 (Bw f134) [1,1,1,0,1,0] [] M ⟨Fp 30 [(0,.Bj .arg .u64 x),(1,.Bj .arg .u64 y),(6,.int .u64 p6),(13,.int .i64 (wj x:Int)),(14,.int .i64 p14)],[]⟩
theorem Bs.GY.B7:Bs.GY.L0 N (M+1) x y p6 p14=cond (BH p14 (wj x:Int)) (bif ((decide (0<=p14))&&(decide (p14<(wj x:Int)))) then cond ((decide (0<=p14))&&(decide (p14<(wj y:Int)))) (bif (Br (vC x (wi p14) 0)&&Br (vC y (wi p14) 0)) then cond (Br p6&&Br (Cx (vC x (wi p14) 0) (vC y (wi p14) 0))) (Bs.GY.L0 N M x y (DD p6 (Cx (vC x (wi p14) 0) (vC y (wi p14) 0))) (Bh (p14+1))) wN else wN) wN else wN) (wM (.CJ [.int .u64 p6,.int .i64 0])) :=Et (ET (CQ (JZ _ _) (CQ (JZ _ _) (CQ (CD _) (CQ (CD _) rfl rfl) rfl) rfl) rfl) rfl)
theorem Bs.GY.ev:Cz Bs.GY.E N f134 (Bw f134) [.Bj .arg .u64 x,.Bj .arg .u64 y]=cond (!(Nl x y)) (wM (.CJ [.int .u64 0,.int .i64 3])) (Bs.GY.L0 N N x y 0 0):=by kernel_rfl
end
open Go Go.Den Go.Cn Go.Proofs Ieee
theorem Bs.Add.Bp:Kq 137 Bs.Add.Bu:=E1 Bs.Add.E Tryz.func137 (kc sum.Add.Bp .nil) fun a b hp=>by have hp:(Br a&&Br b)=wc:=hp;refine⟨0,Bs.Add.out [.i a,.i b],[],?_,.int⟩;rw[Bs.Add.ev,hp]; rfl
theorem Bs.Sub.Bp:Kq 201 Bs.Sub.Bu:=E1 Bs.Sub.E Tryz.func201 (kc sum.Sub.Bp .nil) fun a b hp=>by have hp:(Br a&&Br b)=wc:=hp;refine⟨0,Bs.Sub.out [.i a,.i b],[],?_,.int⟩;rw[Bs.Sub.ev,hp]; rfl
theorem Bs.Mul.Bp:Kq 138 Bs.Mul.Bu:=E1 Bs.Mul.E Tryz.func138 (kc times.Mul.Bp .nil) fun a b hp=>by have hp:(Br a&&Br b)=wc:=hp;refine⟨0,Bs.Mul.out [.i a,.i b],[],?_,.int⟩;rw[Bs.Mul.ev,hp]; rfl
theorem Af9(x y:Bf):(cond ((wj x:Int)==(wj y:Int)) (DT (wj x:Int) (64:Int)) wh)=Nl x y:=by
 unfold Nl;rw[Ei,Ar];by_cases h:x.length=y.length
 ·have:((x.length:Int)==(y.length:Int))=wc:=by rw[beq_iff_eq]; omega
  rw[this,Aa,Ac h,AW,Ai,Ai]; omega
 ·have:((x.length:Int)==(y.length:Int))=wh:=by rw[AD]; omega
  rw[this,Af,Ag h,zV]
theorem Bs.fit.Bp:Kq 173 Bs.fit.Bu:=E1 Bs.fit.E Tryz.func173 .nil fun x y _=>by refine⟨0,Bs.fit.out [.l x,.l y],[],?_,.bool⟩;rw[Bs.fit.ev,Af9]; rfl
theorem Wp{x y:Bf}:Nl x y=wc↔x.length=y.length/\x.length<=64:=by unfold Nl; simp
theorem Ys{l:Bf}{i:Nat}(h:i<l.length):l.drop i=l.getD i 0::l.drop (i+1):=by rw[List.drop_eq_getElem_cons h,Al,As h]; rfl
theorem T3{x y:Bf}{i:Nat}(s:Nat)(hx:i<x.length)(hy:i<y.length):
 PT s (x.drop i) (y.drop i)=PT (DS s (Ee (x.getD i 0).toNat (y.getD i 0).toNat).1).1 (x.drop (i+1)) (y.drop (i+1)):=by
 rw[Ys hx,Ys hy]; rfl
theorem AfT(N:Nat){x y:Bf}(hf:Nl x y=wc)(hx:Bq x=wc)(hy:Bq y=wc):∀(k i F s:Nat),i+k=x.length->k<F->s<2^64 ->
 Bs.GY.L0 N F x y (s:Int) (i:Int)=wM (.CJ [.int .u64 ((PT s (x.drop i) (y.drop i):Nat):Int),.int .i64 (0:Int)]):=by
 obtain⟨h1,h2⟩:=Wp.1 hf;intro k
 induction k with
 | zero =>
   intro i F s hi hF hs;obtain⟨F,rfl⟩:∃G,F=G+1:=⟨F-1,by omega⟩
   rw[Bs.GY.B7,B8,Ag (by omega),Af,Ap (by omega)];rfl
 | succ k ih =>
   intro i F s hi hF hs;obtain⟨F,rfl⟩:∃G,F=G+1:=⟨F-1,by omega⟩
   have c1:decide ((i:Int)<(x.length:Int))=wc:=Ac (by omega);have c2:decide ((i:Int)<(y.length:Int))=wc:=Ac (by omega);have c3:decide ((0:Int)<=(i:Int))=wc:=Ac (by omega);have g1:=KQ hx (show i<x.length by omega);have g2:=KQ hy (show i<y.length by omega);have em:Cx (x.getD i 0) (y.getD i 0)=(((Ee (x.getD i 0).toNat (y.getD i 0).toNat).1:Nat):Int):=rfl;have ea:∀t:Nat,DD (s:Int) (t:Int)=(((DS s t).1:Nat):Int):=fun t=>rfl
   rw[Bs.GY.B7,B8,c1,c2,c3,Ad,g1,g2,em,ea,CI hs,CI LN,Ah,Aa,Aa,Aa,Aa,Aa,Bz (by omega) (by omega),T3 s (by omega) (by omega)];exact ih (i+1) F _ (by omega) (by omega) (Qc hs LN).1
theorem Bs.GY.Bp:Kq 134 Bs.GY.Bu:=E1 Bs.GY.E Tryz.func134 (kc Bs.Add.Bp (kc Bs.Mul.Bp (kc Bs.fit.Bp .nil))) fun x y hp=>by obtain⟨h1,hy⟩:=Bi.1 hp;obtain⟨hf,hx⟩:=Bi.1 h1;refine⟨x.length+1,Bs.GY.out [.l x,.l y],[],?_,Wk.FQ (.cons .int (.cons .int .nil))⟩;rw[Bs.GY.ev,hf,AH,Af];exact AfT _ hf hx hy x.length 0 _ 0 (by omega) (by omega) (by decide)
def Bg.size.E:=E0 []
theorem Bg.size.ev(N:Nat)(n:Int):Cz Bg.size.E N f164 (Bw f164) [.int .i64 n]=wM (.bool (cond (DT 0 n) (DT n 6) wh)) :=Et (B4 (M3 (DT 0 n)) (B4 (J7 (DT 0 n)) (B4 (Qk (DT 0 n)) rfl)))
def Bg.Check.E:=E0 [(164,Bg.size.Bu)]
theorem Bg.Check.ev(N:Nat)(r c:Int)(l:Bf):Cz Bg.Check.E N f121 (Bw f121) [.agg [.int .i64 r,.int .i64 c,.Bj .arg .u64 l]]=cond (((!(CN r))||(!(CN c)))||((wj l:Int) !=(Bh (r*c)))) (wM (.int .i64 1)) (wM (.int .i64 0)) :=Et (B4 (Sn (CN r)) (B4 (O6 (CN r)) (B4 (O6 (CN r)) (B4 (O6 (CN r)) (B4 (TQ (CN r)) (B4 (AdW (CN r) (CN c)) (B4 (AdX (CN r) (CN c)) (B4 (AdX (CN r) (CN c)) (B4 (AdW (CN r) (CN c)) (B4 (AdX (CN r) (CN c)) (B4 (AdW (CN r) (CN c)) (B4 (AdX (CN r) (CN c)) (B4 (AkK (CN r) (CN c)) (B4 (AkK (CN r) (CN c)) (B4 (AkL (CN r) (CN c)) (CQ (Am3 _ _ _) rfl rfl))))))))))))))))
def Bg.get.E:=E0 []
theorem Bg.get.ev(N:Nat)(r c:Int)(l:Bf)(i k:Int):Cz Bg.get.E N f119 (Bw f119) [.agg [.int .i64 r,.int .i64 c,.Bj .arg .u64 l],.int .i64 i,.int .i64 k]=cond ((decide (0<=(Bh ((Bh (i*c))+k))))&&(decide ((Bh ((Bh (i*c))+k))<(wj l:Int)))) (wM (.int .u64 (vC l (wi (Bh ((Bh (i*c))+k))) 0))) wN:=by kernel_rfl
def Bg.two.E:=E0 [(121,Bg.Check.Bu)]
theorem Bg.two.ev(N:Nat)(r c:Int)(l:Bf)(p q:Int)(m:Bf):Cz Bg.two.E N f116 (Bw f116) [.agg [.int .i64 r,.int .i64 c,.Bj .arg .u64 l],.agg [.int .i64 p,.int .i64 q,.Bj .arg .u64 m]]=cond (((Iy r c l) !=(0:Int))||((Iy p q m) !=(0:Int))) (wM (.int .i64 1)) (wM (.int .i64 0)) :=Et (B4 (TO ((Iy r c l) !=(0:Int))) (B4 (Rw ((Iy r c l) !=(0:Int))) (B4 (Rw ((Iy r c l) !=(0:Int))) (B4 (Xb ((Iy r c l) !=(0:Int))) (CQ (tt5 _ _) rfl rfl)))))
def Bg.Row.E:=E0 []
theorem Bg.Row.ev(N:Nat)(r c:Int)(l:Bf)(i f:Int):Cz Bg.Row.E N f135 (Bw f135) [.agg [.int .i64 r,.int .i64 c,.Bj .arg .u64 l],.int .i64 i,.int .i64 f]=cond (((decide ((0:Int)<=(Bh ((Bh (i*c))+f))))&&(decide ((Bh ((Bh (i*c))+f))<=(Bh ((Bh (i+1))*c)))))&&((decide ((0:Int)<=(Bh ((Bh (i+1))*c))))&&(decide ((Bh ((Bh (i+1))*c))<=(wj l:Int))))) (bif (decide (0+(wj (zL (wi (Bh ((Bh (i*c))+f))) (zG (wi (Bh ((Bh (i+1))*c))) l)))<=GK)) then wM (.Bj (.own 22 43) .u64 ([]++(zL (wi (Bh ((Bh (i*c))+f))) (zG (wi (Bh ((Bh (i+1))*c))) l)))) else wN) wN :=Et (CQ (Am2 _ _ _ _) rfl rfl)
def Bg.DU.hint:Nat->Option BK
 | 0=>wM { Da:=[1,3,7,8],Cg:=[(0,7,100007,.Bj 43 .u64 [])],Cv:=[3] }
 | _=>wN
def Bg.DU.E:=Dr (CW [(119,Bg.get.Bu)]) (fun _=>wh) Bg.DU.hint (fun _=>wN)
section
variable(N M:Nat)(r c:Int)(l:Bf)(k f p8:Int)(p7:Bf)
def Bg.DU.L0:Option DV:=C6 Bg.DU.E N f68 (Bw f68) [1,1,0,1,0] [] M ⟨Fp 24 [(1,.int .i64 k),(3,.ptr 3 0 0),(7,.Dh 100007),(8,.int .i64 p8)],[(3,wh,.box [.int .i64 r,.int .i64 c,.Bj .arg .u64 l]),(100007,wh,.Bj 43 .u64 p7)]⟩
theorem Bg.DU.B7:Bg.DU.L0 N (M+1) r c l k p8 p7=cond (BH p8 r) (bif (Gi r c l p8 k) then cond (decide ((wj p7)+1<=GK)) (Bg.DU.L0 N M r c l k (Bh (p8+1)) (p7++[(Dy c l p8 k)])) wN else wN) (wM (.Bj (.own 100007 43) .u64 p7)):=by kernel_rfl
theorem Bg.DU.ev:Cz Bg.DU.E N f68 (Bw f68) [.agg [.int .i64 r,.int .i64 c,.Bj .arg .u64 l],.int .i64 k,.int .i64 f]=
 Bg.DU.L0 N N r c l k f []:=by kernel_rfl
end
def Bg.J4.E:=E0 []
theorem Bg.J4.ev(N:Nat)(i k:Int):Cz Bg.J4.E N f168 (Bw f168) [.int .i64 i,.int .i64 k]=cond (i==k) (wM (.int .u64 4607182418800017408)) (wM (.int .u64 0)):=by kernel_rfl
def Bg.Hq.E:=E0 [(119,Bg.get.Bu)]
theorem Bg.Hq.ev(N:Nat)(i k:Int)(r c:Int)(l:Bf):Cz Bg.Hq.E N f232 (Bw f232) [.int .i64 i,.int .i64 k,.CL [.int .i64 r,.int .i64 c,.Bj .arg .u64 l]]=cond (Gi r c l k i) (wM (.int .u64 (Dy c l k i))) wN:=by kernel_rfl
def Bg.Hr.E:=E0 [(119,Bg.get.Bu)]
theorem Bg.Hr.ev(N:Nat)(i k:Int)(r c:Int)(l:Bf)(x y:Int):Cz Bg.Hr.E N f122 (Bw f122) [.int .i64 i,.int .i64 k,.CL [.int .i64 r,.int .i64 c,.Bj .arg .u64 l],.CL [.int .i64 x],.CL [.int .i64 y]]=cond (Gi r c l (Bh (x+i)) (Bh (y+k))) (wM (.int .u64 (Dy c l (Bh (x+i)) (Bh (y+k))))) wN:=by kernel_rfl
def Bg.FW.E:=E0 [(119,Bg.get.Bu)]
theorem Bg.FW.ev(N:Nat)(i k:Int)(r c:Int)(l:Bf)(p q:Int)(m:Bf):Cz Bg.FW.E N f118 (Bw f118) [.int .i64 i,.int .i64 k,.CL [.int .i64 r,.int .i64 c,.Bj .arg .u64 l],.CL [.int .i64 p,.int .i64 q,.Bj .arg .u64 m]]=cond (BH i r) (bif (Gi r c l i k) then wM (.int .u64 (Dy c l i k)) else wN) (bif (Gi p q m (Bh (i-r)) k) then wM (.int .u64 (Dy q m (Bh (i-r)) k)) else wN):=by kernel_rfl
def Bg.J2.E:=E0 [(68,Bg.DU.Bu),(135,Bg.Row.Bu),(134,Bs.GY.Bu)]
theorem Bg.J2.ev(N:Nat)(i k:Int)(r c:Int)(l:Bf)(p q:Int)(m:Bf):Cz Bg.J2.E N f133 (Bw f133) [.int .i64 i,.int .i64 k,.CL [.int .i64 r,.int .i64 c,.Bj .arg .u64 l],.CL [.int .i64 p,.int .i64 q,.Bj .arg .u64 m]]=cond (VL r c l i&&decide ((0:Int)=0)) (bif (EG p q m k&&Ci (0<=(0:Int)/\(0:Int)<=p)) then cond ((Nl (JB c l i) (BQ q m k 0 (wi (p-0)))&&Bq (JB c l i))&&Bq (BQ q m k 0 (wi (p-0)))) (wM (.int .u64 (EU (JB c l i) (BQ q m k 0 (wi (p-0)))))) wN else wN) wN :=Et (CQ (CD _) (CQ (CD _) (CQ (CD _) rfl rfl) rfl) rfl)
theorem Lh{a b:Int}(h1:0<=a)(h2:a<20)(h3:0<=b)(h4:b<20):0<=a*b/\a*b<400:=by have:=Int.mul_nonneg h1 h3;have h5:a*b<=19*19:=Int.mul_le_mul (by omega) (by omega) h3 (by omega);omega
theorem Bg.size.Bp:Kq 164 Bg.size.Bu:=E1 Bg.size.E Tryz.func164 .nil fun n _=>by
 refine⟨0,Bg.size.out [.i n],[],?_,.bool⟩
 have e:(cond (DT (0:Int) n) (DT n (6:Int)) wh)=CN n:=by unfold CN;rw[Ei,Ei];cases decide (0<=n)<;>rfl
 rw[Bg.size.ev,e]; rfl
theorem Yx(r c:Int)(l:Bf):(((!(CN r))||(!(CN c)))||((wj l:Int) !=(Bh (r*c))))=!(BD r c l):=by
 unfold BD;cases h1:CN r with
 | false=>rfl
 | true =>
   cases h2:CN c with
   | false=>rfl
   | true =>obtain⟨r1,r2⟩:=GO.1 h1;obtain⟨c1,c2⟩:=GO.1 h2;have:=Lh (a:=r) (b:=c) r1 (by omega) c1 (by omega);rw[Bz (by omega) (by omega),Ar];simp
theorem Bg.Check.Bp:Kq 121 Bg.Check.Bu:=E1 Bg.Check.E Tryz.func121 (kc Bg.size.Bp .nil) fun r c l _=>by refine⟨0,Bg.Check.out [.i r,.i c,.l l],[],?_,.int⟩;rw[Bg.Check.ev,Yx];show _=wM (DV.int .i64 (Iy r c l));unfold Iy;cases BD r c l<;>rfl
theorem Ab2{c i k:Int}{l:Bf}{R:Int}(h:Gi R c l i k=wc):Bh (Bh (i*c)+k)=i*c+k/\0<=i*c+k/\i*c+k<l.length:=by obtain⟨h1,h2,h3,h4,h5,h6,h7,_⟩:=Bv.1 h;have:=Lh h1 (by omega) h5 (by omega);rw[Bz (x:=i*c) (by omega) (by omega),Bz (by omega) (by omega)];omega
theorem Bg.get.Bp:Kq 119 Bg.get.Bu:=E1 Bg.get.E Tryz.func119 .nil fun r c l i k hp=>by obtain⟨e,h1,h2⟩:=Ab2 (R:=r) (show Gi r c l i k=wc from hp);refine⟨0,Bg.get.out [.i r,.i c,.l l,.i i,.i k],[],?_,.int⟩;rw[Bg.get.ev,e,Ac h1,Ac h2];rfl
theorem OW(r c:Int)(l:Bf):((Iy r c l) !=(0:Int))=!(BD r c l):=by unfold Iy;cases BD r c l<;>rfl
theorem Bg.two.Bp:Kq 116 Bg.two.Bu:=E1 Bg.two.E Tryz.func116 (kc Bg.Check.Bp .nil) fun r c l p q m _=>by refine⟨0,Bg.two.out [.i r,.i c,.l l,.i p,.i q,.l m],[],?_,.int⟩;rw[Bg.two.ev,OW,OW];show _=wM (DV.int .i64 (Sk r c l p q m));unfold Sk;cases BD r c l<;>cases BD p q m<;>rfl
theorem Bg.Row.Bp:Kq 135 Bg.Row.Bu:=E1 Bg.Row.E Tryz.func135 .nil fun r c l i f hp=>by
 obtain⟨h0,hf⟩:=Bi.1 hp;obtain rfl:=A6 hf;obtain⟨hr,hi⟩:=Bi.1 h0;have hi:=Bv.1 hi;obtain⟨R,C,rfl,rfl,r6,c6,hl⟩:=DF hr;obtain⟨I,rfl⟩:∃k:Nat,i=k:=⟨i.toNat,by omega⟩
 have hm:=Lh (a:=(I:Int)) (b:=(C:Int)) (by omega) (by omega) (by omega) (by omega);have hm2:=Lh (a:=(I:Int)+1) (b:=(C:Int)) (by omega) (by omega) (by omega) (by omega);have hle:(I+1)*C<=R*C:=An C (by omega);have hle2:I*C<=(I+1)*C:=An C (by omega);have e1:(I:Int)*(C:Int)=((I*C:Nat):Int):=(Ax _ _).symm;have e2:((I:Int)+1)*(C:Int)=(((I+1)*C:Nat):Int):=by rw[Ax]; rfl
 refine⟨0,.Bj (.own 22 tB) .u64 (JB (C:Int) l (I:Int)),[22],?_,.drop _ _ _ _ (ze.2 rfl)⟩;rw[Bg.Row.ev,Bz (x:=(I:Int)+1) (by omega) (by omega),Bz (x:=(I:Int)*(C:Int)) (by omega) (by omega),Int.add_zero,Bz (x:=(I:Int)*(C:Int)) (by omega) (by omega),Bz (x:=((I:Int)+1)*(C:Int)) (by omega) (by omega)];unfold JB;have d1:decide ((0:Int)<=(I:Int)*(C:Int))=wc:=Ac (by omega);have d2:decide ((I:Int)*(C:Int)<=((I:Int)+1)*(C:Int))=wc:=Ac (by rw[e1,e2]; omega);have d3:decide ((0:Int)<=((I:Int)+1)*(C:Int))=wc:=Ac (by omega);have d4:decide (((I:Int)+1)*(C:Int)<=(l.length:Int))=wc:=Ac (by rw[e2]; omega)
 have d5:decide (0+(zL ((I:Int)*(C:Int)).toNat (zG (((I:Int)+1)*(C:Int)).toNat l)).length<=GK)=wc:=by refine Ac ?_;rw[zO,zN];unfold GK;omega
 rw[d1,d2,d3,d4,d5];rfl
theorem HI(c b i:Int)(n:Nat)(l:Bf):(BQ c l b i n).length=n:=by unfold BQ; rw[AO,AL]
theorem AhS(r c:Int)(l:Bf)(k:Int):BQ c l k 0 (wi (r-0))=Mv r c l k:=by
 unfold BQ Mv;rw[Int.sub_zero];refine List.map_congr_left fun j _=>?_
 rw[Int.zero_add]
theorem Y9{r:Int}(h:0<=r):Ci (0<=(0:Int)/\0<=r)=wc:=Bv.2 ⟨Int.le_refl _,h⟩
theorem Agb(N:Nat){R C K f:Nat}{l:Bf}(r6:R<=6)(c6:C<=6)(hl:l.length=R*C)(hk:K<C):∀(k i F:Nat),f+i+k=R->k<F ->
 Bg.DU.L0 N F (R:Int) (C:Int) l (K:Int) ((f+i:Nat):Int) (BQ (C:Int) l (K:Int) (f:Int) i)=wM (.Bj (.own 100007 tB) .u64 (BQ (C:Int) l (K:Int) (f:Int) (R-f))):=by
 intro k
 induction k with
 | zero =>
   intro i F hi hF;obtain⟨F,rfl⟩:∃G,F=G+1:=⟨F-1,by omega⟩
   rw[Bg.DU.B7,B8,Ag (by omega),Af,show R-f=i by omega]
 | succ k ih =>
   intro i F hi hF;obtain⟨F,rfl⟩:∃G,F=G+1:=⟨F-1,by omega⟩
   have d:decide ((BQ (C:Int) l (K:Int) (f:Int) i).length+1<=GK)=wc:=Ac (by rw[HI]; unfold GK; omega);rw[Bg.DU.B7,B8,Ac (by omega),Aa,TF r6 c6 hl (show f+i<R by omega) hk,Aa,d,Aa,Bz (by omega) (by omega)];have:=ih (i+1) F (by omega) (by omega);unfold BQ at this ⊢;rw[xn,yu] at this;exact this
theorem Bg.DU.Bp:Kq 68 Bg.DU.Bu:=E1 Bg.DU.E Tryz.func68 (kc Bg.get.Bp .nil) fun r c l k f hp=>by
 obtain⟨h0,hf⟩:=Bi.1 (show(EG r c l k&&Ci (0<=f/\f<=r))=wc from hp);have hf:=Bv.1 hf;obtain⟨hr,hi⟩:=Bi.1 h0;have hi:=Bv.1 hi;obtain⟨R,C,rfl,rfl,r6,c6,hl⟩:=DF hr;obtain⟨K,rfl⟩:∃j:Nat,k=j:=⟨k.toNat,by omega⟩
 obtain⟨f,rfl⟩:∃j:Nat,f=j:=⟨f.toNat,by omega⟩
 refine⟨8,.Bj (.own 100007 tB) .u64 (BQ (C:Int) l (K:Int) (f:Int) (R-f)),[100007],?_,?_⟩
 ·rw[Bg.DU.ev];exact Agb 8 r6 c6 hl (by omega) (R-f) 0 8 (by omega) (by omega)
 ·show Wk _ _ (DV.Bj .BE .u64 (BQ (C:Int) l (K:Int) (f:Int) (wi ((R:Int)-(f:Int)))));rw[show wi ((R:Int)-(f:Int))=R-f by omega];exact .drop _ _ _ _ (ze.2 rfl)
theorem KO{r c i k:Int}{l:Bf}(h:BD r c l=wc)(h1:0<=i)(h2:i<r)(h3:0<=k)(h4:k<c)(R:Int):Gi R c l i k=wc:=by
 obtain⟨R',C,rfl,rfl,r6,c6,hl⟩:=DF h;obtain⟨I,rfl⟩:∃j:Nat,i=j:=⟨i.toNat,by omega⟩
 obtain⟨K,rfl⟩:∃j:Nat,k=j:=⟨k.toNat,by omega⟩
 exact TF r6 c6 hl (by omega) (by omega)
theorem Bg.J4.Bp:Kq 168 Bg.J4.Bu:=E1 Bg.J4.E Tryz.func168 .nil fun i k _=>by
 refine⟨0,Bg.J4.out [.i i,.i k],[],?_,.int⟩;rw[Bg.J4.ev];show _=wM (DV.int .u64 (LS i k));unfold LS;by_cases h:i=k
 ·have:(i==k)=wc:=by rw[h]; simp
  rw[this,Az h]; rfl
 ·have:(i==k)=wh:=by simpa using h
  rw[this,Ay h]; rfl
theorem Bg.Hq.Bp:Kq 232 Bg.Hq.Bu:=E1 Bg.Hq.E Tryz.func232 (kc Bg.get.Bp .nil) fun i k r c l hp=>by have hp:Gi r c l k i=wc:=hp;refine⟨0,Bg.Hq.out [.i i,.i k,.i r,.i c,.l l],[],?_,.int⟩;rw[Bg.Hq.ev,hp]; rfl
theorem Bg.Hr.Bp:Kq 122 Bg.Hr.Bu:=E1 Bg.Hr.E Tryz.func122 (kc Bg.get.Bp .nil) fun i k r c l x y hp=>by obtain⟨h1,h2⟩:=Bi.1 hp;have h2:=Bv.1 h2;refine⟨0,Bg.Hr.out [.i i,.i k,.i r,.i c,.l l,.i x,.i y],[],?_,.int⟩;rw[Bg.Hr.ev,Bz (x:=x+i) (by omega) (by omega),Bz (x:=y+k) (by omega) (by omega),h1]; rfl
theorem Bg.FW.Bp:Kq 118 Bg.FW.Bu:=E1 Bg.FW.E Tryz.func118 (kc Bg.get.Bp .nil) fun i k r c l p q m hp=>by
 obtain⟨h1,h2,h3,h4,h5⟩:=Bv.1 (show Le r c l p q m i k=wc from hp);refine⟨0,Bg.FW.out [.i i,.i k,.i r,.i c,.l l,.i p,.i q,.l m],[],?_,.int⟩;show _=wM (DV.int .u64 (IE r c l q m i k));rw[Bg.FW.ev,B8,Bz (x:=i-r) (by omega) (by omega)];unfold IE;by_cases h:i<r
 ·rw[Az h] at h5;rw[Ac h,Aa,h5,Aa,Az h]
 ·rw[Ay h] at h5;rw[Ag h,Af,h5,Aa,Ay h]
theorem OE{R C:Nat}{l:Bf}(hl:l.length=R*C){I:Nat}(hi:I<R):(JB (C:Int) l (I:Int)).length=C:=by
 have hle:(I+1)*C<=R*C:=An C (by omega);have e1:((I:Int)*(C:Int)).toNat=I*C:=by rw[<- Ax,Ad]
 have e2:(((I:Int)+1)*(C:Int)).toNat=(I+1)*C:=by
  have:((I:Int)+1)*(C:Int)=(((I+1)*C:Nat):Int):=by rw[Ax]; rfl
  rw[this,Ad]
 unfold JB;rw[zO,zN,e1,e2];rw[AM,Nat.one_mul] at hle ⊢;omega
theorem ZY(R:Nat)(C:Int)(l:Bf)(K:Int):(Mv (R:Int) C l K).length=R:=by unfold Mv;rw[AO,AL,Ad]
theorem Ahd{c i:Int}{l:Bf}(h:Bq l=wc):Bq (JB c l i)=wc:=by have h:=Bv.1 h;exact Bv.2 fun x hx=>h x (List.mem_of_mem_take (List.mem_of_mem_drop hx))
theorem Agn{c i k:Int}{l:Bf}(h:Bq l=wc):Br (Dy c l i k)=wc:=by
 unfold Dy;by_cases hj:(i*c+k).toNat<l.length
 ·exact KQ h hj
 ·rw[Al,Bb (by omega)];exact CI (n:=0) (by decide)
theorem AhT{r c k:Int}{l:Bf}(h:Bq l=wc):Bq (Mv r c l k)=wc:=by
 refine Bv.2 fun x hx=>?_
 obtain⟨j,_,rfl⟩:=List.mem_map.1 hx;exact Agn h
theorem Bg.J2.Bp:Kq 133 Bg.J2.Bu:=E1 Bg.J2.E Tryz.func133 (kc Bg.DU.Bp (kc Bg.Row.Bp (kc Bs.GY.Bp .nil))) fun i k r c l p q m hp=>by
 obtain⟨h1,h2⟩:=Bi.1 (show Q8 r c l p q m i k=wc from hp);obtain⟨h3,h4⟩:=Bi.1 h1;obtain⟨h5,h6⟩:=Bi.1 h2;obtain⟨hl,hm⟩:=Bi.1 h5;obtain rfl:=Bv.1 h6;obtain⟨hr,hi⟩:=Bi.1 h3;have hi:=Bv.1 hi;obtain⟨R,C,rfl,rfl,r6,c6,ll⟩:=DF hr;obtain⟨I,rfl⟩:∃j:Nat,i=j:=⟨i.toNat,by omega⟩
 refine⟨0,Bg.J2.out [.i I,.i k,.i R,.i C,.l l,.i C,.i q,.l m],[],?_,.int⟩;have hf:Nl (JB (C:Int) l (I:Int)) (Mv (C:Int) q m k)=wc:=Wp.2 ⟨by rw[OE ll (by omega),ZY],by rw[OE ll (by omega)]; omega⟩;rw[Bg.J2.ev,AhS,h3,h4,hf,Ahd hl,AhT hm,Y9 (by omega)];rfl
def Bg.of.Anj.hint:Nat->Option BK
 | 0=>wM { Da:=[1,2,6,7,13,14],Cg:=[(8,2,108002,.Bj 43 .u64 [])],Cv:=[6,7] }
 | 2=>wM { Da:=[1,2,6,7,8,13,14,17,18],Cg:=[(8,2,108002,.Bj 43 .u64 [])],Cv:=[6,7] }
 | _=>wN
def Bg.of.Ii.hint:Nat->Option BK
 | 0=>wM { Da:=[1,2,6,7,13,14],Cg:=[(8,2,108002,.Bj 43 .u64 [])],Cv:=[6,7] }
 | 2=>wM { Da:=[1,2,6,7,8,13,14,17,18],Cg:=[(8,2,108002,.Bj 43 .u64 [])],Cv:=[6,7] }
 | _=>wN
def Bg.of.Ii.E:=Dr (CW [(168,Bg.J4.Bu)]) (fun _=>wh) Bg.of.Ii.hint (fun _=>wN)
section
variable(N M0 M:Nat)(a b p8 p14_1 p18:Int)(p2:Bf)(p14:Int)(p2_1:Bf)
def Bg.of.Ii.L0:Option DV:=C6 Bg.of.Ii.E N f117 (Bw f117) [1,1,0,1,0] [] M ⟨Fp 33 [(1,.int .i64 b),(2,.fn 168 [] []),(6,.ptr 6 0 0),(7,.ptr 7 0 0),(13,.int .i64 a),(14,.int .i64 p14)],[(6,wh,.box [.int .i64 0,.int .i64 0,.nil]),(7,wh,.box [.int .i64 a,.int .i64 b,.Dh 108002]),(108002,wh,.Bj 43 .u64 p2_1)]⟩
def Bg.of.Ii.L1:Option DV:=C6 Bg.of.Ii.E N f117 (Bw f117) [1,1,0,1,0,0,1,1,0,0,1,1,0] [M0] M ⟨Fp 33 [(1,.int .i64 b),(2,.fn 168 [] []),(6,.ptr 6 0 0),(7,.ptr 7 0 0),(8,.int .i64 p8),(13,.int .i64 a),(14,.int .i64 p14_1),(17,.int .i64 b),(18,.int .i64 p18)],[(6,wh,.box [.int .i64 0,.int .i64 0,.nil]),(7,wh,.box [.int .i64 a,.int .i64 b,.Dh 108002]),(108002,wh,.Bj 43 .u64 p2)]⟩
theorem Bg.of.Ii.B7:Bg.of.Ii.L0 N (M+1) a b p14 p2_1=cond (BH p14 a) (Bg.of.Ii.L1 N M N a b p14 p14 0 p2_1) (wM (.agg [.int .i64 a,.int .i64 b,.Bj (.own 108002 43) .u64 p2_1])):=by kernel_rfl
theorem Bg.of.Ii.CU:Bg.of.Ii.L1 N M0 (M+1) a b p8 p14_1 p18 p2=cond (BH p18 b) (bif (decide ((wj p2)+1<=GK)) then Bg.of.Ii.L1 N M0 M a b p8 p14_1 (Bh (p18+1)) (p2++[(LS p8 p18)]) else wN) (Bg.of.Ii.L0 N M0 a b (Bh (p14_1+1)) p2) :=Et (ET (CQ (CD _) rfl rfl) rfl)
theorem Bg.of.Ii.ev:Cz Bg.of.Ii.E N f117 (Bw f117) [.int .i64 a,.int .i64 b,.fn 168 [] []]=
 Bg.of.Ii.L0 N N a b 0 []:=by kernel_rfl
end
def Bg.of.EH.hint:Nat->Option BK
 | 0=>wM { Da:=[1,2,6,7,13,14],Cg:=[(8,2,108002,.Bj 43 .u64 [])],Cv:=[6,7] }
 | 2=>wM { Da:=[1,2,6,7,8,13,14,17,18],Cg:=[(8,2,108002,.Bj 43 .u64 [])],Cv:=[6,7] }
 | _=>wN
def Bg.of.EH.E:=Dr (CW [(232,Bg.Hq.Bu)]) (fun _=>wh) Bg.of.EH.hint (fun _=>wN)
section
variable(N M0 M:Nat)(a b r c:Int)(l:Bf)(p8 p14_1 p18:Int)(p2:Bf)(p14:Int)(p2_1:Bf)
def Bg.of.EH.L0:Option DV:=C6 Bg.of.EH.E N f117 (Bw f117) [1,1,0,1,0] [] M ⟨Fp 33 [(1,.int .i64 b),(2,.fn 232 [] [.CL [.int .i64 r,.int .i64 c,.Bj .arg .u64 l]]),(6,.ptr 6 0 0),(7,.ptr 7 0 0),(13,.int .i64 a),(14,.int .i64 p14)],[(6,wh,.box [.int .i64 0,.int .i64 0,.nil]),(7,wh,.box [.int .i64 a,.int .i64 b,.Dh 108002]),(108002,wh,.Bj 43 .u64 p2_1)]⟩
def Bg.of.EH.L1:Option DV:=C6 Bg.of.EH.E N f117 (Bw f117) [1,1,0,1,0,0,1,1,0,0,1,1,0] [M0] M ⟨Fp 33 [(1,.int .i64 b),(2,.fn 232 [] [.CL [.int .i64 r,.int .i64 c,.Bj .arg .u64 l]]),(6,.ptr 6 0 0),(7,.ptr 7 0 0),(8,.int .i64 p8),(13,.int .i64 a),(14,.int .i64 p14_1),(17,.int .i64 b),(18,.int .i64 p18)],[(6,wh,.box [.int .i64 0,.int .i64 0,.nil]),(7,wh,.box [.int .i64 a,.int .i64 b,.Dh 108002]),(108002,wh,.Bj 43 .u64 p2)]⟩
theorem Bg.of.EH.B7:Bg.of.EH.L0 N (M+1) a b r c l p14 p2_1=cond (BH p14 a) (Bg.of.EH.L1 N M N a b r c l p14 p14 0 p2_1) (wM (.agg [.int .i64 a,.int .i64 b,.Bj (.own 108002 43) .u64 p2_1])):=by kernel_rfl
theorem Bg.of.EH.CU:Bg.of.EH.L1 N M0 (M+1) a b r c l p8 p14_1 p18 p2=cond (BH p18 b) (bif (Gi r c l p18 p8) then cond (decide ((wj p2)+1<=GK)) (Bg.of.EH.L1 N M0 M a b r c l p8 p14_1 (Bh (p18+1)) (p2++[(Dy c l p18 p8)])) wN else wN) (Bg.of.EH.L0 N M0 a b r c l (Bh (p14_1+1)) p2) :=Et (ET (CQ (CD _) (CQ (CD _) rfl rfl) rfl) rfl)
theorem Bg.of.EH.ev:Cz Bg.of.EH.E N f117 (Bw f117) [.int .i64 a,.int .i64 b,.fn 232 [] [.CL [.int .i64 r,.int .i64 c,.Bj .arg .u64 l]]]=
 Bg.of.EH.L0 N N a b r c l 0 []:=by kernel_rfl
end
def Bg.of.Part.hint:Nat->Option BK
 | 0=>wM { Da:=[1,2,6,7,13,14],Cg:=[(8,2,108002,.Bj 43 .u64 [])],Cv:=[6,7] }
 | 2=>wM { Da:=[1,2,6,7,8,13,14,17,18],Cg:=[(8,2,108002,.Bj 43 .u64 [])],Cv:=[6,7] }
 | _=>wN
def Bg.of.Part.E:=Dr (CW [(122,Bg.Hr.Bu)]) (fun _=>wh) Bg.of.Part.hint (fun _=>wN)
section
variable(N M0 M:Nat)(a b r c:Int)(l:Bf)(x y p8 p14_1 p18:Int)(p2:Bf)(p14:Int)(p2_1:Bf)
def Bg.of.Part.L0:Option DV:=C6 Bg.of.Part.E N f117 (Bw f117) [1,1,0,1,0] [] M ⟨Fp 33 [(1,.int .i64 b),(2,.fn 122 [] [.CL [.int .i64 r,.int .i64 c,.Bj .arg .u64 l],.CL [.int .i64 x],.CL [.int .i64 y]]),(6,.ptr 6 0 0),(7,.ptr 7 0 0),(13,.int .i64 a),(14,.int .i64 p14)],[(6,wh,.box [.int .i64 0,.int .i64 0,.nil]),(7,wh,.box [.int .i64 a,.int .i64 b,.Dh 108002]),(108002,wh,.Bj 43 .u64 p2_1)]⟩
def Bg.of.Part.L1:Option DV:=C6 Bg.of.Part.E N f117 (Bw f117) [1,1,0,1,0,0,1,1,0,0,1,1,0] [M0] M ⟨Fp 33 [(1,.int .i64 b),(2,.fn 122 [] [.CL [.int .i64 r,.int .i64 c,.Bj .arg .u64 l],.CL [.int .i64 x],.CL [.int .i64 y]]),(6,.ptr 6 0 0),(7,.ptr 7 0 0),(8,.int .i64 p8),(13,.int .i64 a),(14,.int .i64 p14_1),(17,.int .i64 b),(18,.int .i64 p18)],[(6,wh,.box [.int .i64 0,.int .i64 0,.nil]),(7,wh,.box [.int .i64 a,.int .i64 b,.Dh 108002]),(108002,wh,.Bj 43 .u64 p2)]⟩
theorem Bg.of.Part.B7:Bg.of.Part.L0 N (M+1) a b r c l x y p14 p2_1=cond (BH p14 a) (Bg.of.Part.L1 N M N a b r c l x y p14 p14 0 p2_1) (wM (.agg [.int .i64 a,.int .i64 b,.Bj (.own 108002 43) .u64 p2_1])):=by kernel_rfl
theorem Bg.of.Part.CU:Bg.of.Part.L1 N M0 (M+1) a b r c l x y p8 p14_1 p18 p2=cond (BH p18 b) (bif (Gi r c l (x+p8) (y+p18)&&Sw x y p8 p18) then cond (decide ((wj p2)+1<=GK)) (Bg.of.Part.L1 N M0 M a b r c l x y p8 p14_1 (Bh (p18+1)) (p2++[(Dy c l (x+p8) (y+p18))])) wN else wN) (Bg.of.Part.L0 N M0 a b r c l x y (Bh (p14_1+1)) p2) :=Et (ET (CQ (CD _) (CQ (CD _) rfl rfl) rfl) rfl)
theorem Bg.of.Part.ev:Cz Bg.of.Part.E N f117 (Bw f117) [.int .i64 a,.int .i64 b,.fn 122 [] [.CL [.int .i64 r,.int .i64 c,.Bj .arg .u64 l],.CL [.int .i64 x],.CL [.int .i64 y]]]=
 Bg.of.Part.L0 N N a b r c l x y 0 []:=by kernel_rfl
end
def Bg.of.Stack.hint:Nat->Option BK
 | 0=>wM { Da:=[1,2,6,7,13,14],Cg:=[(8,2,108002,.Bj 43 .u64 [])],Cv:=[6,7] }
 | 2=>wM { Da:=[1,2,6,7,8,13,14,17,18],Cg:=[(8,2,108002,.Bj 43 .u64 [])],Cv:=[6,7] }
 | _=>wN
def Bg.of.Stack.E:=Dr (CW [(118,Bg.FW.Bu)]) (fun _=>wh) Bg.of.Stack.hint (fun _=>wN)
section
variable(N M0 M:Nat)(a b r c:Int)(l:Bf)(p q:Int)(m:Bf)(p8 p14_1 p18:Int)(p2:Bf)(p14:Int)(p2_1:Bf)
def Bg.of.Stack.L0:Option DV:=C6 Bg.of.Stack.E N f117 (Bw f117) [1,1,0,1,0] [] M ⟨Fp 33 [(1,.int .i64 b),(2,.fn 118 [] [.CL [.int .i64 r,.int .i64 c,.Bj .arg .u64 l],.CL [.int .i64 p,.int .i64 q,.Bj .arg .u64 m]]),(6,.ptr 6 0 0),(7,.ptr 7 0 0),(13,.int .i64 a),(14,.int .i64 p14)],[(6,wh,.box [.int .i64 0,.int .i64 0,.nil]),(7,wh,.box [.int .i64 a,.int .i64 b,.Dh 108002]),(108002,wh,.Bj 43 .u64 p2_1)]⟩
def Bg.of.Stack.L1:Option DV:=C6 Bg.of.Stack.E N f117 (Bw f117) [1,1,0,1,0,0,1,1,0,0,1,1,0] [M0] M ⟨Fp 33 [(1,.int .i64 b),(2,.fn 118 [] [.CL [.int .i64 r,.int .i64 c,.Bj .arg .u64 l],.CL [.int .i64 p,.int .i64 q,.Bj .arg .u64 m]]),(6,.ptr 6 0 0),(7,.ptr 7 0 0),(8,.int .i64 p8),(13,.int .i64 a),(14,.int .i64 p14_1),(17,.int .i64 b),(18,.int .i64 p18)],[(6,wh,.box [.int .i64 0,.int .i64 0,.nil]),(7,wh,.box [.int .i64 a,.int .i64 b,.Dh 108002]),(108002,wh,.Bj 43 .u64 p2)]⟩
theorem Bg.of.Stack.B7:Bg.of.Stack.L0 N (M+1) a b r c l p q m p14 p2_1=cond (BH p14 a) (Bg.of.Stack.L1 N M N a b r c l p q m p14 p14 0 p2_1) (wM (.agg [.int .i64 a,.int .i64 b,.Bj (.own 108002 43) .u64 p2_1])):=by kernel_rfl
theorem Bg.of.Stack.CU:Bg.of.Stack.L1 N M0 (M+1) a b r c l p q m p8 p14_1 p18 p2=cond (BH p18 b) (bif (Le r c l p q m p8 p18) then cond (decide ((wj p2)+1<=GK)) (Bg.of.Stack.L1 N M0 M a b r c l p q m p8 p14_1 (Bh (p18+1)) (p2++[(IE r c l q m p8 p18)])) wN else wN) (Bg.of.Stack.L0 N M0 a b r c l p q m (Bh (p14_1+1)) p2) :=Et (ET (CQ (CD _) (CQ (CD _) rfl rfl) rfl) rfl)
theorem Bg.of.Stack.ev:Cz Bg.of.Stack.E N f117 (Bw f117) [.int .i64 a,.int .i64 b,.fn 118 [] [.CL [.int .i64 r,.int .i64 c,.Bj .arg .u64 l],.CL [.int .i64 p,.int .i64 q,.Bj .arg .u64 m]]]=
 Bg.of.Stack.L0 N N a b r c l p q m 0 []:=by kernel_rfl
end
def Bg.of.Mul.hint:Nat->Option BK
 | 0=>wM { Da:=[1,2,6,7,13,14],Cg:=[(8,2,108002,.Bj 43 .u64 [])],Cv:=[6,7] }
 | 2=>wM { Da:=[1,2,6,7,8,13,14,17,18],Cg:=[(8,2,108002,.Bj 43 .u64 [])],Cv:=[6,7] }
 | _=>wN
def Bg.of.Mul.E:=Dr (CW [(133,Bg.J2.Bu)]) (fun _=>wh) Bg.of.Mul.hint (fun _=>wN)
section
variable(N M0 M:Nat)(a b r c:Int)(l:Bf)(p q:Int)(m:Bf)(p8 p14_1 p18:Int)(p2:Bf)(p14:Int)(p2_1:Bf)
def Bg.of.Mul.L0:Option DV:=C6 Bg.of.Mul.E N f117 (Bw f117) [1,1,0,1,0] [] M ⟨Fp 33 [(1,.int .i64 b),(2,.fn 133 [] [.CL [.int .i64 r,.int .i64 c,.Bj .arg .u64 l],.CL [.int .i64 p,.int .i64 q,.Bj .arg .u64 m]]),(6,.ptr 6 0 0),(7,.ptr 7 0 0),(13,.int .i64 a),(14,.int .i64 p14)],[(6,wh,.box [.int .i64 0,.int .i64 0,.nil]),(7,wh,.box [.int .i64 a,.int .i64 b,.Dh 108002]),(108002,wh,.Bj 43 .u64 p2_1)]⟩
def Bg.of.Mul.L1:Option DV:=C6 Bg.of.Mul.E N f117 (Bw f117) [1,1,0,1,0,0,1,1,0,0,1,1,0] [M0] M ⟨Fp 33 [(1,.int .i64 b),(2,.fn 133 [] [.CL [.int .i64 r,.int .i64 c,.Bj .arg .u64 l],.CL [.int .i64 p,.int .i64 q,.Bj .arg .u64 m]]),(6,.ptr 6 0 0),(7,.ptr 7 0 0),(8,.int .i64 p8),(13,.int .i64 a),(14,.int .i64 p14_1),(17,.int .i64 b),(18,.int .i64 p18)],[(6,wh,.box [.int .i64 0,.int .i64 0,.nil]),(7,wh,.box [.int .i64 a,.int .i64 b,.Dh 108002]),(108002,wh,.Bj 43 .u64 p2)]⟩
theorem Bg.of.Mul.B7:Bg.of.Mul.L0 N (M+1) a b r c l p q m p14 p2_1=cond (BH p14 a) (Bg.of.Mul.L1 N M N a b r c l p q m p14 p14 0 p2_1) (wM (.agg [.int .i64 a,.int .i64 b,.Bj (.own 108002 43) .u64 p2_1])):=by kernel_rfl
theorem Bg.of.Mul.CU:Bg.of.Mul.L1 N M0 (M+1) a b r c l p q m p8 p14_1 p18 p2=cond (BH p18 b) (bif (Q8 r c l p q m p8 p18) then cond (decide ((wj p2)+1<=GK)) (Bg.of.Mul.L1 N M0 M a b r c l p q m p8 p14_1 (Bh (p18+1)) (p2++[(EU (JB c l p8) (Mv p q m p18))])) wN else wN) (Bg.of.Mul.L0 N M0 a b r c l p q m (Bh (p14_1+1)) p2) :=Et (ET (CQ (CD _) (CQ (CD _) rfl rfl) rfl) rfl)
theorem Bg.of.Mul.ev:Cz Bg.of.Mul.E N f117 (Bw f117) [.int .i64 a,.int .i64 b,.fn 133 [] [.CL [.int .i64 r,.int .i64 c,.Bj .arg .u64 l],.CL [.int .i64 p,.int .i64 q,.Bj .arg .u64 m]]]=
 Bg.of.Mul.L0 N N a b r c l p q m 0 []:=by kernel_rfl
end
def Bg.Ii.E:=E0 [(117,Bg.of.Ii.Bu),(164,Bg.size.Bu)]
theorem Bg.Ii.ev(N:Nat)(n:Int):Cz Bg.Ii.E N f126 (Bw f126) [.int .i64 n]=cond (!(CN n)) (wM (.CJ [.agg [.int .i64 0,.int .i64 0,.nil],.int .i64 3])) (bif ((CN n&&CN n)) then wM (.CJ [.agg [.int .i64 n,.int .i64 n,.Bj .BE .u64 (Dj (wi n) (wi n) (fun j1 j2=>LS j1 j2))],.int .i64 0]) else wN):=by kernel_rfl
def Bg.EH.E:=E0 [(121,Bg.Check.Bu),(117,Bg.of.EH.Bu)]
theorem Bg.EH.ev(N:Nat)(r c:Int)(l:Bf):Cz Bg.EH.E N f203 (Bw f203) [.agg [.int .i64 r,.int .i64 c,.Bj .arg .u64 l]]=cond ((Iy r c l) !=(0:Int)) (wM (.CJ [.agg [.int .i64 0,.int .i64 0,.nil],.int .i64 (Iy r c l)])) (bif ((CN c&&CN r)&&BD r c l&&decide (c=c/\r=r)) then wM (.CJ [.agg [.int .i64 c,.int .i64 r,.Bj .BE .u64 (Dj (wi c) (wi r) (fun j1 j2=>Dy c l j2 j1))],.int .i64 0]) else wN):=by kernel_rfl
def Bg.Part.E:=E0 [(121,Bg.Check.Bu),(117,Bg.of.Part.Bu)]
theorem Bg.Part.ev(N:Nat)(r c:Int)(l:Bf)(x y:Int)(a b:Int):Cz Bg.Part.E N f63 (Bw f63) [.agg [.int .i64 r,.int .i64 c,.Bj .arg .u64 l],.int .i64 x,.int .i64 y,.int .i64 a,.int .i64 b]=cond ((Iy r c l) !=(0:Int)) (wM (.CJ [.agg [.int .i64 0,.int .i64 0,.nil],.int .i64 (Iy r c l)])) (bif ((((((((BH x 0)||(BH y 0))||(BH a 0))||(BH b 0))||(BH r x))||(BH c y))||(BH (Bh (r-x)) a))||(BH (Bh (c-y)) b)) then some (.CJ [.agg [.int .i64 0,.int .i64 0,.nil],.int .i64 3]) else bif ((CN a&&CN b)&&BD r c l&&Kg r c x y a b) then some (.CJ [.agg [.int .i64 a,.int .i64 b,.Bj .BE .u64 (Dj (wi a) (wi b) (fun j1 j2=>Dy c l (x+j1) (y+j2)))],.int .i64 0]) else wN) :=Et (ET rfl (B4 (TO (BH x 0)) (B4 (Rw (BH x 0)) (B4 (Xb (BH x 0)) (B4 (Xa (BH x 0) (BH y 0)) (B4 (YN (BH x 0) (BH y 0)) (B4 (AgM (BH x 0) (BH y 0)) (B4 (AbG (BH x 0) (BH y 0) (BH a 0)) (B4 (AbH (BH x 0) (BH y 0) (BH a 0)) (B4 (AgN (BH x 0) (BH y 0) (BH a 0)) (B4 (AbI (BH x 0) (BH y 0) (BH a 0) (BH b 0)) (B4 (AbI (BH x 0) (BH y 0) (BH a 0) (BH b 0)) (B4 (AkG (BH x 0) (BH y 0) (BH a 0) (BH b 0)) (B4 (AiM (BH x 0) (BH y 0) (BH a 0) (BH b 0)) (B4 (AiN (BH x 0) (BH y 0) (BH a 0) (BH b 0)) (B4 (AkH (BH x 0) (BH y 0) (BH a 0) (BH b 0) (BH r x)) (B4 (AkH (BH x 0) (BH y 0) (BH a 0) (BH b 0) (BH r x)) (B4 (Amu (BH x 0) (BH y 0) (BH a 0) (BH b 0) (BH r x)) (B4 (Amv (BH x 0) (BH y 0) (BH a 0) (BH b 0) (BH r x)) (B4 (Amw (BH x 0) (BH y 0) (BH a 0) (BH b 0) (BH r x)) (B4 (AiO (BH x 0) (BH y 0) (BH a 0) (BH b 0) (BH r x) (BH c y)) (B4 (AiO (BH x 0) (BH y 0) (BH a 0) (BH b 0) (BH r x) (BH c y)) (B4 (Amx (BH x 0) (BH y 0) (BH a 0) (BH b 0) (BH r x) (BH c y)) (B4 (AiO (BH x 0) (BH y 0) (BH a 0) (BH b 0) (BH r x) (BH c y)) (B4 (AkI (BH x 0) (BH y 0) (BH a 0) (BH b 0) (BH r x) (BH c y)) (B4 (AkI (BH x 0) (BH y 0) (BH a 0) (BH b 0) (BH r x) (BH c y)) (B4 (Amy (BH x 0) (BH y 0) (BH a 0) (BH b 0) (BH r x) (BH c y)) (B4 (AiP (BH x 0) (BH y 0) (BH a 0) (BH b 0) (BH r x) (BH c y) (BH (Bh (r-x)) a)) (B4 (AiP (BH x 0) (BH y 0) (BH a 0) (BH b 0) (BH r x) (BH c y) (BH (Bh (r-x)) a)) (B4 (Amz (BH x 0) (BH y 0) (BH a 0) (BH b 0) (BH r x) (BH c y) (BH (Bh (r-x)) a)) (B4 (AiP (BH x 0) (BH y 0) (BH a 0) (BH b 0) (BH r x) (BH c y) (BH (Bh (r-x)) a)) (B4 (AkJ (BH x 0) (BH y 0) (BH a 0) (BH b 0) (BH r x) (BH c y) (BH (Bh (r-x)) a)) (B4 (AkJ (BH x 0) (BH y 0) (BH a 0) (BH b 0) (BH r x) (BH c y) (BH (Bh (r-x)) a)) (B4 (Am0 (BH x 0) (BH y 0) (BH a 0) (BH b 0) (BH r x) (BH c y) (BH (Bh (r-x)) a)) (CQ (Am1 _ _ _ _ _ _ _ _) rfl rfl)))))))))))))))))))))))))))))))))))
def Bg.Stack.E:=E0 [(117,Bg.of.Stack.Bu),(116,Bg.two.Bu)]
theorem Bg.Stack.ev(N:Nat)(r c:Int)(l:Bf)(p q:Int)(m:Bf):Cz Bg.Stack.E N f61 (Bw f61) [.agg [.int .i64 r,.int .i64 c,.Bj .arg .u64 l],.agg [.int .i64 p,.int .i64 q,.Bj .arg .u64 m]]=cond ((Sk r c l p q m) !=(0:Int)) (wM (.CJ [.agg [.int .i64 0,.int .i64 0,.nil],.int .i64 (Sk r c l p q m)])) (bif ((c !=q)||(BH 6 (Bh (r+p)))) then wM (.CJ [.agg [.int .i64 0,.int .i64 0,.nil],.int .i64 3]) else bif ((CN (Bh (r+p))&&CN c)&&(BD r c l&&BD p q m)&&decide ((Bh (r+p))=r+p/\c=c/\q=c)) then wM (.CJ [.agg [.int .i64 (Bh (r+p)),.int .i64 c,.Bj .BE .u64 (Dj (wi (Bh (r+p))) (wi c) (fun j1 j2=>IE r c l q m j1 j2))],.int .i64 0]) else wN) :=Et (ET rfl (B4 (TO (c !=q)) (B4 (Rw (c !=q)) (B4 (TO (c !=q)) (B4 (Rw (c !=q)) (B4 (tt8 (c !=q)) (B4 (Rw (c !=q)) (B4 (Xb (c !=q)) (CQ (tt5 _ _) rfl rfl)))))))))
def Bg.Mul.E:=E0 [(117,Bg.of.Mul.Bu),(116,Bg.two.Bu)]
theorem Bg.Mul.ev(N:Nat)(r c:Int)(l:Bf)(p q:Int)(m:Bf):Cz Bg.Mul.E N f65 (Bw f65) [.agg [.int .i64 r,.int .i64 c,.Bj .arg .u64 l],.agg [.int .i64 p,.int .i64 q,.Bj .arg .u64 m]]=cond ((Sk r c l p q m) !=(0:Int)) (wM (.CJ [.agg [.int .i64 0,.int .i64 0,.nil],.int .i64 (Sk r c l p q m)])) (bif (c !=p) then wM (.CJ [.agg [.int .i64 0,.int .i64 0,.nil],.int .i64 3]) else bif ((CN r&&CN q)&&((BD r c l&&BD p q m)&&(Bq l&&Bq m))&&decide (r=r/\q=q/\c=p)) then wM (.CJ [.agg [.int .i64 r,.int .i64 q,.Bj .BE .u64 (Dj (wi r) (wi q) (fun j1 j2=>EU (JB c l j1) (Mv p q m j2)))],.int .i64 0]) else wN):=by kernel_rfl
theorem of.Ii.inner(N:Nat)  {A B:Nat} (hA:A<=6) (hB:B<=6) {F:Nat->Nat->Int} (hF:∀i j:Nat,F i j=LS (i:Int) (j:Int)) {i:Nat} (hi:i<A):∀(k j M0 M:Nat),j+k=B->k<M ->
 Bg.of.Ii.L1 N M0 M (A:Int) (B:Int) (i:Int) (i:Int) (j:Int) (Dj i B F++(zg j).map (F i))=Bg.of.Ii.L0 N M0 (A:Int) (B:Int) ((i+1:Nat):Int) (Dj (i+1) B F):=by
 intro k
 induction k with
 | zero =>
   intro j M0 M hj hM;obtain⟨M,rfl⟩:∃G,M=G+1:=⟨M-1,by omega⟩
   obtain rfl:j=B:=by omega
   rw[Bg.of.Ii.CU,B8,Ag (by omega),Af,Bz (by omega) (by omega),<- Lx];rfl
 | succ k ih =>
   intro j M0 M hj hM;obtain⟨M,rfl⟩:∃G,M=G+1:=⟨M-1,by omega⟩
   have d:decide ((Dj i B F++(zg j).map (F i)).length+1<=GK)=wc:=by refine Ac ?_;have:=AE (show i<=6 by omega) hB;rw[A8,Ch,AO,AL]; unfold GK; omega
   rw[Bg.of.Ii.CU,B8,Ac (by omega),Aa,d,Aa,Bz (by omega) (by omega),<- hF i j];have:=ih (j+1) M0 M (by omega) (by omega);rw[Kd,<- yL] at this;exact this
theorem of.Ii.outer(N:Nat)  {A B:Nat} (hA:A<=6) (hB:B<=6) (hN:6<N) {F:Nat->Nat->Int} (hF:∀i j:Nat,F i j=LS (i:Int) (j:Int)):∀(k i M:Nat),i+k=A->k<M ->
 Bg.of.Ii.L0 N M (A:Int) (B:Int) (i:Int) (Dj i B F)=wM (.agg [.int .i64 (A:Int),.int .i64 (B:Int),.Bj (.own 108002 tB) .u64 (Dj A B F)]):=by
 intro k
 induction k with
 | zero =>
   intro i M hi hM;obtain⟨M,rfl⟩:∃G,M=G+1:=⟨M-1,by omega⟩
   obtain rfl:i=A:=by omega
   rw[Bg.of.Ii.B7,B8,Ag (by omega),Af]
 | succ k ih =>
   intro i M hi hM;obtain⟨M,rfl⟩:∃G,M=G+1:=⟨M-1,by omega⟩
   have n:=of.Ii.inner N hA hB hF (show i<A by omega) B 0 M N (by omega) (by omega);rw[xC,yW,yz] at n;rw[Bg.of.Ii.B7,B8,Ac (by omega),Aa];exact n.trans (ih (i+1) M (by omega) (by omega))
theorem Bg.of.Ii.Bp:Kq 117 Bg.of.Ii.Bu:=E1 Bg.of.Ii.E Tryz.func117 (kc Bg.J4.Bp .nil) fun a b hp=>by have h1:(CN a&&CN b)=wc:=hp;obtain⟨ha,hb⟩:=Bi.1 h1;obtain⟨A,rfl,hA⟩:=H3 ha;obtain⟨B,rfl,hB⟩:=H3 hb;refine⟨8,.agg [.int .i64 (A:Int),.int .i64 (B:Int),.Bj (.own 108002 tB) .u64 (Dj A B fun(i j:Nat)=>LS (i:Int) (j:Int))],[108002],?_,Wk.GA (.cons .int (.cons .int (.cons (.drop _ _ _ _ (ze.2 rfl)) .nil)))⟩;rw[Bg.of.Ii.ev];have n:=of.Ii.outer 8 hA hB (by omega) (F:=fun(i j:Nat)=>LS (i:Int) (j:Int)) (fun _ _=>rfl) A 0 8 (by omega) (by omega);rw[Lw] at n;exact n
theorem of.EH.inner(N:Nat)(r c:Int)(l:Bf){A B:Nat}(hA:A<=6)(hB:B<=6){F:Nat->Nat->Int}(hF:∀i j:Nat,F i j=Dy c l (j:Int) (i:Int)){i:Nat}(hi:i<A)(hp:∀j:Nat,j<B->Gi r c l (j:Int) (i:Int)=wc):∀(k j M0 M:Nat),j+k=B->k<M ->
 Bg.of.EH.L1 N M0 M (A:Int) (B:Int) r c l (i:Int) (i:Int) (j:Int) (Dj i B F++(zg j).map (F i))=Bg.of.EH.L0 N M0 (A:Int) (B:Int) r c l ((i+1:Nat):Int) (Dj (i+1) B F):=by
 intro k
 induction k with
 | zero =>
   intro j M0 M hj hM;obtain⟨M,rfl⟩:∃G,M=G+1:=⟨M-1,by omega⟩
   obtain rfl:j=B:=by omega
   rw[Bg.of.EH.CU,B8,Ag (by omega),Af,Bz (by omega) (by omega),<- Lx];rfl
 | succ k ih =>
   intro j M0 M hj hM;obtain⟨M,rfl⟩:∃G,M=G+1:=⟨M-1,by omega⟩
   have d:decide ((Dj i B F++(zg j).map (F i)).length+1<=GK)=wc:=by refine Ac ?_;have:=AE (show i<=6 by omega) hB;rw[A8,Ch,AO,AL]; unfold GK; omega
   rw[Bg.of.EH.CU,B8,Ac (by omega),Aa,hp j (by omega),Aa,d,Aa,Bz (by omega) (by omega),<- hF i j];have:=ih (j+1) M0 M (by omega) (by omega);rw[Kd,<- yL] at this;exact this
theorem of.EH.outer(N:Nat)(r c:Int)(l:Bf){A B:Nat}(hA:A<=6)(hB:B<=6)(hN:6<N){F:Nat->Nat->Int}(hF:∀i j:Nat,F i j=Dy c l (j:Int) (i:Int))(hp:∀i j:Nat,i<A->j<B->Gi r c l (j:Int) (i:Int)=wc):∀(k i M:Nat),i+k=A->k<M ->
 Bg.of.EH.L0 N M (A:Int) (B:Int) r c l (i:Int) (Dj i B F)=wM (.agg [.int .i64 (A:Int),.int .i64 (B:Int),.Bj (.own 108002 tB) .u64 (Dj A B F)]):=by
 intro k
 induction k with
 | zero =>
   intro i M hi hM;obtain⟨M,rfl⟩:∃G,M=G+1:=⟨M-1,by omega⟩
   obtain rfl:i=A:=by omega
   rw[Bg.of.EH.B7,B8,Ag (by omega),Af]
 | succ k ih =>
   intro i M hi hM;obtain⟨M,rfl⟩:∃G,M=G+1:=⟨M-1,by omega⟩
   have n:=of.EH.inner N r c l hA hB hF (show i<A by omega) (fun j hj=>hp i j (by omega) hj) B 0 M N (by omega) (by omega);rw[xC,yW,yz] at n;rw[Bg.of.EH.B7,B8,Ac (by omega),Aa];exact n.trans (ih (i+1) M (by omega) (by omega))
theorem Bg.of.EH.Bp:Kq 117 Bg.of.EH.Bu:=E1 Bg.of.EH.E Tryz.func117 (kc Bg.Hq.Bp .nil) fun a b r c l hp=>by
 obtain⟨h12,hy⟩:=Bi.1 (show(((CN a&&CN b)&&BD r c l)&&decide (a=c/\b=r))=wc from hp);obtain⟨h1,hx⟩:=Bi.1 h12;have h2:=Bi.2 ⟨hx,hy⟩;obtain⟨ha,hb⟩:=Bi.1 h1;obtain⟨A,rfl,hA⟩:=H3 ha;obtain⟨B,rfl,hB⟩:=H3 hb;obtain⟨hr,he⟩:=Bi.1 h2;obtain⟨e1,e2⟩:=A6 he;have hp:∀i j:Nat,i<A->j<B->Gi r c l (j:Int) (i:Int)=wc:=fun i j hi hj=>KO hr (by omega) (by omega) (by omega) (by omega) r
 refine⟨8,.agg [.int .i64 (A:Int),.int .i64 (B:Int),.Bj (.own 108002 tB) .u64 (Dj A B fun(i j:Nat)=>Dy c l (j:Int) (i:Int))],[108002],?_,Wk.GA (.cons .int (.cons .int (.cons (.drop _ _ _ _ (ze.2 rfl)) .nil)))⟩;rw[Bg.of.EH.ev];have n:=of.EH.outer 8 r c l hA hB (by omega) (F:=fun(i j:Nat)=>Dy c l (j:Int) (i:Int)) (fun _ _=>rfl) hp A 0 8 (by omega) (by omega);rw[Lw] at n;exact n
theorem of.Part.inner(N:Nat)(r c:Int)(l:Bf)(x y:Int){A B:Nat}(hA:A<=6)(hB:B<=6){F:Nat->Nat->Int}(hF:∀i j:Nat,F i j=Dy c l (x+(i:Int)) (y+(j:Int))){i:Nat}(hi:i<A)(hp:∀j:Nat,j<B->(Gi r c l (x+(i:Int)) (y+(j:Int))&&Sw x y (i:Int) (j:Int))=wc):∀(k j M0 M:Nat),j+k=B->k<M ->
 Bg.of.Part.L1 N M0 M (A:Int) (B:Int) r c l x y (i:Int) (i:Int) (j:Int) (Dj i B F++(zg j).map (F i))=Bg.of.Part.L0 N M0 (A:Int) (B:Int) r c l x y ((i+1:Nat):Int) (Dj (i+1) B F):=by
 intro k
 induction k with
 | zero =>
   intro j M0 M hj hM;obtain⟨M,rfl⟩:∃G,M=G+1:=⟨M-1,by omega⟩
   obtain rfl:j=B:=by omega
   rw[Bg.of.Part.CU,B8,Ag (by omega),Af,Bz (by omega) (by omega),<- Lx];rfl
 | succ k ih =>
   intro j M0 M hj hM;obtain⟨M,rfl⟩:∃G,M=G+1:=⟨M-1,by omega⟩
   have d:decide ((Dj i B F++(zg j).map (F i)).length+1<=GK)=wc:=by refine Ac ?_;have:=AE (show i<=6 by omega) hB;rw[A8,Ch,AO,AL]; unfold GK; omega
   rw[Bg.of.Part.CU,B8,Ac (by omega),Aa,hp j (by omega),Aa,d,Aa,Bz (by omega) (by omega),<- hF i j];have:=ih (j+1) M0 M (by omega) (by omega);rw[Kd,<- yL] at this;exact this
theorem of.Part.outer(N:Nat)(r c:Int)(l:Bf)(x y:Int){A B:Nat}(hA:A<=6)(hB:B<=6)(hN:6<N){F:Nat->Nat->Int}(hF:∀i j:Nat,F i j=Dy c l (x+(i:Int)) (y+(j:Int)))(hp:∀i j:Nat,i<A->j<B->(Gi r c l (x+(i:Int)) (y+(j:Int))&&Sw x y (i:Int) (j:Int))=wc):∀(k i M:Nat),i+k=A->k<M ->
 Bg.of.Part.L0 N M (A:Int) (B:Int) r c l x y (i:Int) (Dj i B F)=wM (.agg [.int .i64 (A:Int),.int .i64 (B:Int),.Bj (.own 108002 tB) .u64 (Dj A B F)]):=by
 intro k
 induction k with
 | zero =>
   intro i M hi hM;obtain⟨M,rfl⟩:∃G,M=G+1:=⟨M-1,by omega⟩
   obtain rfl:i=A:=by omega
   rw[Bg.of.Part.B7,B8,Ag (by omega),Af]
 | succ k ih =>
   intro i M hi hM;obtain⟨M,rfl⟩:∃G,M=G+1:=⟨M-1,by omega⟩
   have n:=of.Part.inner N r c l x y hA hB hF (show i<A by omega) (fun j hj=>hp i j (by omega) hj) B 0 M N (by omega) (by omega);rw[xC,yW,yz] at n;rw[Bg.of.Part.B7,B8,Ac (by omega),Aa];exact n.trans (ih (i+1) M (by omega) (by omega))
theorem Bg.of.Part.Bp:Kq 117 Bg.of.Part.Bu:=E1 Bg.of.Part.E Tryz.func117 (kc Bg.Hr.Bp .nil) fun a b r c l x y hp=>by
 obtain⟨h12,hy⟩:=Bi.1 (show(((CN a&&CN b)&&BD r c l)&&Kg r c x y a b)=wc from hp);obtain⟨h1,hx⟩:=Bi.1 h12;have h2:=Bi.2 ⟨hx,hy⟩;obtain⟨ha,hb⟩:=Bi.1 h1;obtain⟨A,rfl,hA⟩:=H3 ha;obtain⟨B,rfl,hB⟩:=H3 hb;obtain⟨hr,he⟩:=Bi.1 h2;have he:=A6 he;have hs:=G5.1 hr
 have hp:∀i j:Nat,i<A->j<B->(Gi r c l (x+(i:Int)) (y+(j:Int))&&Sw x y (i:Int) (j:Int))=wc:=fun i j hi hj =>
  Bi.2 ⟨KO hr (by omega) (by omega) (by omega) (by omega) r,Bv.2 (by omega)⟩
 refine⟨8,.agg [.int .i64 (A:Int),.int .i64 (B:Int),.Bj (.own 108002 tB) .u64 (Dj A B fun(i j:Nat)=>Dy c l (x+(i:Int)) (y+(j:Int)))],[108002],?_,Wk.GA (.cons .int (.cons .int (.cons (.drop _ _ _ _ (ze.2 rfl)) .nil)))⟩;rw[Bg.of.Part.ev];have n:=of.Part.outer 8 r c l x y hA hB (by omega) (F:=fun(i j:Nat)=>Dy c l (x+(i:Int)) (y+(j:Int))) (fun _ _=>rfl) hp A 0 8 (by omega) (by omega);rw[Lw] at n;exact n
theorem of.Stack.inner(N:Nat)(r c:Int)(l:Bf)(p q:Int)(m:Bf){A B:Nat}(hA:A<=6)(hB:B<=6){F:Nat->Nat->Int}(hF:∀i j:Nat,F i j=IE r c l q m (i:Int) (j:Int)){i:Nat}(hi:i<A)(hp:∀j:Nat,j<B->Le r c l p q m (i:Int) (j:Int)=wc):∀(k j M0 M:Nat),j+k=B->k<M ->
 Bg.of.Stack.L1 N M0 M (A:Int) (B:Int) r c l p q m (i:Int) (i:Int) (j:Int) (Dj i B F++(zg j).map (F i))=Bg.of.Stack.L0 N M0 (A:Int) (B:Int) r c l p q m ((i+1:Nat):Int) (Dj (i+1) B F):=by
 intro k
 induction k with
 | zero =>
   intro j M0 M hj hM;obtain⟨M,rfl⟩:∃G,M=G+1:=⟨M-1,by omega⟩
   obtain rfl:j=B:=by omega
   rw[Bg.of.Stack.CU,B8,Ag (by omega),Af,Bz (by omega) (by omega),<- Lx];rfl
 | succ k ih =>
   intro j M0 M hj hM;obtain⟨M,rfl⟩:∃G,M=G+1:=⟨M-1,by omega⟩
   have d:decide ((Dj i B F++(zg j).map (F i)).length+1<=GK)=wc:=by refine Ac ?_;have:=AE (show i<=6 by omega) hB;rw[A8,Ch,AO,AL]; unfold GK; omega
   rw[Bg.of.Stack.CU,B8,Ac (by omega),Aa,hp j (by omega),Aa,d,Aa,Bz (by omega) (by omega),<- hF i j];have:=ih (j+1) M0 M (by omega) (by omega);rw[Kd,<- yL] at this;exact this
theorem of.Stack.outer(N:Nat)(r c:Int)(l:Bf)(p q:Int)(m:Bf){A B:Nat}(hA:A<=6)(hB:B<=6)(hN:6<N){F:Nat->Nat->Int}(hF:∀i j:Nat,F i j=IE r c l q m (i:Int) (j:Int))(hp:∀i j:Nat,i<A->j<B->Le r c l p q m (i:Int) (j:Int)=wc):∀(k i M:Nat),i+k=A->k<M ->
 Bg.of.Stack.L0 N M (A:Int) (B:Int) r c l p q m (i:Int) (Dj i B F)=wM (.agg [.int .i64 (A:Int),.int .i64 (B:Int),.Bj (.own 108002 tB) .u64 (Dj A B F)]):=by
 intro k
 induction k with
 | zero =>
   intro i M hi hM;obtain⟨M,rfl⟩:∃G,M=G+1:=⟨M-1,by omega⟩
   obtain rfl:i=A:=by omega
   rw[Bg.of.Stack.B7,B8,Ag (by omega),Af]
 | succ k ih =>
   intro i M hi hM;obtain⟨M,rfl⟩:∃G,M=G+1:=⟨M-1,by omega⟩
   have n:=of.Stack.inner N r c l p q m hA hB hF (show i<A by omega) (fun j hj=>hp i j (by omega) hj) B 0 M N (by omega) (by omega);rw[xC,yW,yz] at n;rw[Bg.of.Stack.B7,B8,Ac (by omega),Aa];exact n.trans (ih (i+1) M (by omega) (by omega))
theorem Bg.of.Stack.Bp:Kq 117 Bg.of.Stack.Bu:=E1 Bg.of.Stack.E Tryz.func117 (kc Bg.FW.Bp .nil) fun a b r c l p q m hp=>by
 obtain⟨h12,hy⟩:=Bi.1 (show(((CN a&&CN b)&&(BD r c l&&BD p q m))&&decide (a=r+p/\b=c/\q=c))=wc from hp);obtain⟨h1,hx⟩:=Bi.1 h12;have h2:=Bi.2 ⟨hx,hy⟩;obtain⟨ha,hb⟩:=Bi.1 h1;obtain⟨A,rfl,hA⟩:=H3 ha;obtain⟨B,rfl,hB⟩:=H3 hb;obtain⟨h3,he⟩:=Bi.1 h2;obtain⟨hr,hm⟩:=Bi.1 h3;obtain⟨e1,e2,e3⟩:=A6 he;have hs:=G5.1 hr
 have hp:∀i j:Nat,i<A->j<B->Le r c l p q m (i:Int) (j:Int)=wc:=fun i j hi hj=>by
  refine Bv.2 ⟨by omega,by omega,by omega,by omega,?_⟩;by_cases h:(i:Int)<r
  ·rw[Az h]; exact KO hr (by omega) (by omega) (by omega) (by omega) r
  ·rw[Ay h]; exact KO hm (by omega) (by omega) (by omega) (by omega) p
 refine⟨8,.agg [.int .i64 (A:Int),.int .i64 (B:Int),.Bj (.own 108002 tB) .u64 (Dj A B fun(i j:Nat)=>IE r c l q m (i:Int) (j:Int))],[108002],?_,Wk.GA (.cons .int (.cons .int (.cons (.drop _ _ _ _ (ze.2 rfl)) .nil)))⟩;rw[Bg.of.Stack.ev];have n:=of.Stack.outer 8 r c l p q m hA hB (by omega) (F:=fun(i j:Nat)=>IE r c l q m (i:Int) (j:Int)) (fun _ _=>rfl) hp A 0 8 (by omega) (by omega);rw[Lw] at n;exact n
theorem of.Mul.inner(N:Nat)(r c:Int)(l:Bf)(p q:Int)(m:Bf){A B:Nat}(hA:A<=6)(hB:B<=6){F:Nat->Nat->Int}(hF:∀i j:Nat,F i j=EU (JB c l (i:Int)) (Mv p q m (j:Int))){i:Nat}(hi:i<A)(hp:∀j:Nat,j<B->Q8 r c l p q m (i:Int) (j:Int)=wc):∀(k j M0 M:Nat),j+k=B->k<M ->
 Bg.of.Mul.L1 N M0 M (A:Int) (B:Int) r c l p q m (i:Int) (i:Int) (j:Int) (Dj i B F++(zg j).map (F i))=Bg.of.Mul.L0 N M0 (A:Int) (B:Int) r c l p q m ((i+1:Nat):Int) (Dj (i+1) B F):=by
 intro k
 induction k with
 | zero =>
   intro j M0 M hj hM;obtain⟨M,rfl⟩:∃G,M=G+1:=⟨M-1,by omega⟩
   obtain rfl:j=B:=by omega
   rw[Bg.of.Mul.CU,B8,Ag (by omega),Af,Bz (by omega) (by omega),<- Lx];rfl
 | succ k ih =>
   intro j M0 M hj hM;obtain⟨M,rfl⟩:∃G,M=G+1:=⟨M-1,by omega⟩
   have d:decide ((Dj i B F++(zg j).map (F i)).length+1<=GK)=wc:=by refine Ac ?_;have:=AE (show i<=6 by omega) hB;rw[A8,Ch,AO,AL]; unfold GK; omega
   rw[Bg.of.Mul.CU,B8,Ac (by omega),Aa,hp j (by omega),Aa,d,Aa,Bz (by omega) (by omega),<- hF i j];have:=ih (j+1) M0 M (by omega) (by omega);rw[Kd,<- yL] at this;exact this
theorem of.Mul.outer(N:Nat)(r c:Int)(l:Bf)(p q:Int)(m:Bf){A B:Nat}(hA:A<=6)(hB:B<=6)(hN:6<N){F:Nat->Nat->Int}(hF:∀i j:Nat,F i j=EU (JB c l (i:Int)) (Mv p q m (j:Int)))(hp:∀i j:Nat,i<A->j<B->Q8 r c l p q m (i:Int) (j:Int)=wc):∀(k i M:Nat),i+k=A->k<M ->
 Bg.of.Mul.L0 N M (A:Int) (B:Int) r c l p q m (i:Int) (Dj i B F)=wM (.agg [.int .i64 (A:Int),.int .i64 (B:Int),.Bj (.own 108002 tB) .u64 (Dj A B F)]):=by
 intro k
 induction k with
 | zero =>
   intro i M hi hM;obtain⟨M,rfl⟩:∃G,M=G+1:=⟨M-1,by omega⟩
   obtain rfl:i=A:=by omega
   rw[Bg.of.Mul.B7,B8,Ag (by omega),Af]
 | succ k ih =>
   intro i M hi hM;obtain⟨M,rfl⟩:∃G,M=G+1:=⟨M-1,by omega⟩
   have n:=of.Mul.inner N r c l p q m hA hB hF (show i<A by omega) (fun j hj=>hp i j (by omega) hj) B 0 M N (by omega) (by omega);rw[xC,yW,yz] at n;rw[Bg.of.Mul.B7,B8,Ac (by omega),Aa];exact n.trans (ih (i+1) M (by omega) (by omega))
theorem Bg.of.Mul.Bp:Kq 117 Bg.of.Mul.Bu:=E1 Bg.of.Mul.E Tryz.func117 (kc Bg.J2.Bp .nil) fun a b r c l p q m hp=>by
 obtain⟨h12,hy⟩:=Bi.1 (show(((CN a&&CN b)&&((BD r c l&&BD p q m)&&(Bq l&&Bq m)))&&decide (a=r/\b=q/\c=p))=wc from hp);obtain⟨h1,hx⟩:=Bi.1 h12;have h2:=Bi.2 ⟨hx,hy⟩;obtain⟨ha,hb⟩:=Bi.1 h1;obtain⟨A,rfl,hA⟩:=H3 ha;obtain⟨B,rfl,hB⟩:=H3 hb;obtain⟨h3,he⟩:=Bi.1 h2;obtain⟨h4,h5⟩:=Bi.1 h3;obtain⟨hr,hm⟩:=Bi.1 h4;obtain⟨e1,e2,e3⟩:=A6 he
 have hp:∀i j:Nat,i<A->j<B->Q8 r c l p q m (i:Int) (j:Int)=wc:=fun i j hi hj =>
  Bi.2 ⟨Bi.2 ⟨Bi.2 ⟨hr,Bv.2 (by omega)⟩,Bi.2 ⟨hm,Bv.2 (by omega)⟩⟩,Bi.2 ⟨h5,Bv.2 e3⟩⟩
 refine⟨8,.agg [.int .i64 (A:Int),.int .i64 (B:Int),.Bj (.own 108002 tB) .u64 (Dj A B fun(i j:Nat)=>EU (JB c l (i:Int)) (Mv p q m (j:Int)))],[108002],?_,Wk.GA (.cons .int (.cons .int (.cons (.drop _ _ _ _ (ze.2 rfl)) .nil)))⟩;rw[Bg.of.Mul.ev];have n:=of.Mul.outer 8 r c l p q m hA hB (by omega) (F:=fun(i j:Nat)=>EU (JB c l (i:Int)) (Mv p q m (j:Int))) (fun _ _=>rfl) hp A 0 8 (by omega) (by omega);rw[Lw] at n;exact n
def XB(x:MX):DV:=.CJ [.agg [.int .i64 x.1,.int .i64 x.2.1,.Bj .BE .u64 x.2.2.1],.int .i64 x.2.2.2]
def AmJ(e:Int):DV:=.CJ [.agg [.int .i64 0,.int .i64 0,.nil],.int .i64 e]
theorem Si{drops:List Nat}{x:MX}:Wk drops (XB x) (XB x) :=Wk.FQ (.cons (Wk.GA (.cons .int (.cons .int (.cons .IP .nil)))) (.cons .int .nil))
theorem QV{drops:List Nat}{e:Int}:Wk drops (AmJ e) (XB (Jw e)) :=Wk.FQ (.cons (Wk.GA (.cons .int (.cons .int (.cons (.nil _ _) .nil)))) (.cons .int .nil))
theorem Bg.Ii.Bp:Kq 126 Bg.Ii.Bu:=E1 Bg.Ii.E Tryz.func126 (kc Bg.of.Ii.Bp (kc Bg.size.Bp .nil)) fun n _=>by
 show ∃N dv drops,_=wM dv/\Wk drops dv (XB (K4 n));unfold K4;by_cases h:CN n=wc
 ·rw[Az h];exact⟨0,_,[],by rw[Bg.Ii.ev,h]; rfl,Si⟩
 ·have e:CN n=wh:=by simpa using h
  rw[Ay h];exact⟨0,_,[],by rw[Bg.Ii.ev,e]; rfl,QV⟩
theorem KC{r c:Int}{l:Bf}(h:BD r c l=wc):CN r=wc/\CN c=wc:=by obtain⟨h1,h2,_⟩:=G5.1 h;exact⟨GO.2 h1,GO.2 h2⟩
theorem Bg.EH.Bp:Kq 203 Bg.EH.Bu:=E1 Bg.EH.E Tryz.func203 (kc Bg.Check.Bp (kc Bg.of.EH.Bp .nil)) fun r c l _=>by
 show ∃N dv drops,_=wM dv/\Wk drops dv (XB (Ej r c l));unfold Ej;by_cases h:BD r c l=wc
 ·obtain⟨h1,h2⟩:=KC h;rw[Az h];exact⟨0,_,[],by rw[Bg.EH.ev,OW,h,h1,h2,Ac ⟨rfl,rfl⟩]; rfl,Si⟩
 ·have e:BD r c l=wh:=by simpa using h
  have ec:Iy r c l=1:=by unfold Iy; rw[e]; rfl
  rw[Ay h];exact⟨0,_,[],by rw[Bg.EH.ev,OW,e,ec]; rfl,QV⟩
theorem UD{r c x y a b:Int}(hr:0<=r/\r<=6)(hc:0<=c/\c<=6):
 ((((((((BH x (0:Int))||(BH y (0:Int)))||(BH a (0:Int)))||(BH b (0:Int)))||(BH r x))||(BH c y))||(BH (Bh (r-x)) a))||(BH (Bh (c-y)) b))=!(Kg r c x y a b):=by
 unfold Kg;simp only[B8];by_cases h:0<=x/\0<=y/\x<=r/\y<=c
 ·rw[Bz (x:=r-x) (by omega) (by omega),Bz (x:=c-y) (by omega) (by omega),Ar];simp only[zH,Ai,Bool.not_eq_true',Av];omega
 ·have e:decide (0<=x/\0<=y/\0<=a/\0<=b/\x<=r/\y<=c/\a<=r-x/\b<=c-y)=wh:=Ag (by omega);rw[e,Ar];simp only[zH,Ai,Bc,iff_true];omega
theorem Zl{r c x y a b:Int}{l:Bf}(h:BD r c l=wc)(hp:Kg r c x y a b=wc):CN a=wc/\CN b=wc:=by obtain⟨h1,h2,_⟩:=G5.1 h;have:=A6 hp;exact⟨GO.2 (by omega),GO.2 (by omega)⟩
theorem Bg.Part.Bp:Kq 63 Bg.Part.Bu:=E1 Bg.Part.E Tryz.func63 (kc Bg.Check.Bp (kc Bg.of.Part.Bp .nil)) fun r c l x y a b _=>by
 show ∃N dv drops,_=wM dv/\Wk drops dv (XB (Ff r c l x y a b));unfold Ff;by_cases h:BD r c l=wc
 ·obtain⟨h1,h2,_⟩:=G5.1 h;by_cases hp:Kg r c x y a b=wc
  ·obtain⟨s1,s2⟩:=Zl h hp;rw[Az h,Az hp];exact⟨0,_,[],by rw[Bg.Part.ev,OW,UD h1 h2,h,hp,s1,s2]; rfl,Si⟩
  ·have e:Kg r c x y a b=wh:=by simpa using hp
   rw[Az h,Ay hp];exact⟨0,_,[],by rw[Bg.Part.ev,OW,UD h1 h2,h,e]; rfl,QV⟩
 ·have e:BD r c l=wh:=by simpa using h
  have ec:Iy r c l=1:=by unfold Iy; rw[e]; rfl
  rw[Ay h];exact⟨0,_,[],by rw[Bg.Part.ev,OW,e,ec]; rfl,QV⟩
theorem MA(r c:Int)(l:Bf)(p q:Int)(m:Bf):((Sk r c l p q m) !=(0:Int))=!(BD r c l&&BD p q m):=by unfold Sk;cases BD r c l&&BD p q m<;>rfl
theorem AdM{r c:Int}{l:Bf}{p q:Int}{m:Bf}(h:(BD r c l&&BD p q m)=wh):Sk r c l p q m=1:=by unfold Sk; rw[h]; rfl
theorem Bg.Mul.Bp:Kq 65 Bg.Mul.Bu:=E1 Bg.Mul.E Tryz.func65 (kc Bg.of.Mul.Bp (kc Bg.two.Bp .nil)) fun r c l p q m hp=>by
 show ∃N dv drops,_=wM dv/\Wk drops dv (XB (ON r c l p q m));unfold ON;have hp:(Bq l&&Bq m)=wc:=hp;by_cases h:(BD r c l&&BD p q m)=wc
 ·obtain⟨h1,h2⟩:=Bi.1 h;by_cases hc:c=p
  ·have e:(c !=p)=wh:=by rw[hc]; simp
   rw[Az h,Az hc];exact⟨0,_,[],by rw[Bg.Mul.ev,MA,h,e,(KC h1).1,(KC h2).2,hp,Ac ⟨rfl,rfl,hc⟩]; rfl,Si⟩
  ·have e:(c !=p)=wc:=by simpa using hc
   rw[Az h,Ay hc];exact⟨0,_,[],by rw[Bg.Mul.ev,MA,h,e]; rfl,QV⟩
 ·have e:(BD r c l&&BD p q m)=wh:=by simpa using h
  rw[Ay h];exact⟨0,_,[],by rw[Bg.Mul.ev,MA,e,AdM e]; rfl,QV⟩
theorem Bg.Stack.Bp:Kq 61 Bg.Stack.Bu:=E1 Bg.Stack.E Tryz.func61 (kc Bg.of.Stack.Bp (kc Bg.two.Bp .nil)) fun r c l p q m _=>by
 show ∃N dv drops,_=wM dv/\Wk drops dv (XB (ID r c l p q m));unfold ID;by_cases h:(BD r c l&&BD p q m)=wc
 ·obtain⟨h1,h2⟩:=Bi.1 h;obtain⟨r1,c1,_⟩:=G5.1 h1;obtain⟨p1,q1,_⟩:=G5.1 h2;have ew:Bh (r+p)=r+p:=Bz (by omega) (by omega);by_cases hc:c=q/\r+p<=6
  ·have e:((c !=q)||(BH (6:Int) (r+p)))=wh:=by rw[B8,hc.1]; simp; omega
   rw[Az h,Az hc];exact⟨0,_,[],by rw[Bg.Stack.ev,ew,MA,h,e,(KC h1).2,GO.2 (show 0<=r+p/\r+p<=6 by omega),Ac ⟨rfl,rfl,hc.1.symm⟩]; rfl,Si⟩
  ·have e:((c !=q)||(BH (6:Int) (r+p)))=wc:=by rw[B8]; simp; omega
   rw[Az h,Ay hc];exact⟨0,_,[],by rw[Bg.Stack.ev,ew,MA,h,e]; rfl,QV⟩
 ·have e:(BD r c l&&BD p q m)=wh:=by simpa using h
  rw[Ay h];exact⟨0,_,[],by rw[Bg.Stack.ev,MA,e,AdM e]; rfl,QV⟩
def De.IC.E:=E0 []
theorem De.IC.ev(N:Nat)(r c:Int)(l:Bf):Cz De.IC.E N f90 (Bw f90) [.agg [.int .i64 r,.int .i64 c,.Bj .arg .u64 l]]=wM (.bool (cond (bif (cond (bif (DT 0 r) then (DT r 6) else wh) (DT 0 c) wh) then (DT c 6) else wh) ((wj l:Int)==(Bh (r*c))) wh)) :=Et (B4 (M3 (DT 0 r)) (B4 (J7 (DT 0 r)) (B4 (J7 (DT 0 r)) (B4 (Qk (DT 0 r)) (B4 (AiI (DT 0 r) (DT r 6)) (B4 (AbE (DT 0 r) (DT r 6)) (B4 (AbE (DT 0 r) (DT r 6)) (B4 (AiJ (DT 0 r) (DT r 6)) (B4 (AiK (DT 0 r) (DT r 6) (DT 0 c)) (B4 (AbF (DT 0 r) (DT r 6) (DT 0 c)) (B4 (AbF (DT 0 r) (DT r 6) (DT 0 c)) (B4 (AiL (DT 0 r) (DT r 6) (DT 0 c)) (B4 (AgL (DT 0 r) (DT r 6) (DT 0 c) (DT c 6)) (B4 (AdV (DT 0 r) (DT r 6) (DT 0 c) (DT c 6)) (B4 (AdV (DT 0 r) (DT r 6) (DT 0 c) (DT c 6)) (B4 (AgL (DT 0 r) (DT r 6) (DT 0 c) (DT c 6)) (B4 (AdV (DT 0 r) (DT r 6) (DT 0 c) (DT c 6)) (B4 (AgL (DT 0 r) (DT r 6) (DT 0 c) (DT c 6)) (B4 (AdV (DT 0 r) (DT r 6) (DT 0 c) (DT c 6)) (B4 (AkE (DT 0 r) (DT r 6) (DT 0 c) (DT c 6)) (B4 (AkE (DT 0 r) (DT r 6) (DT 0 c) (DT c 6)) (B4 (AkF (DT 0 r) (DT r 6) (DT 0 c) (DT c 6)) rfl))))))))))))))))))))))
def De.At.E:=E0 []
theorem De.At.ev(N:Nat)(r c:Int)(l:Bf)(i k:Int):Cz De.At.E N f55 (Bw f55) [.agg [.int .i64 r,.int .i64 c,.Bj .arg .u64 l],.int .i64 i,.int .i64 k]=cond ((decide (0<=(Bh ((Bh (i*c))+k))))&&(decide ((Bh ((Bh (i*c))+k))<(wj l:Int)))) (wM (.int .u64 (vC l (wi (Bh ((Bh (i*c))+k))) 0))) wN:=by kernel_rfl
def De.Ii.hint:Nat->Option BK
 | 0=>wM { Da:=[0,2,3,4],Cg:=[],Cv:=[2,3] }
 | _=>wN
def De.Qj.hint:Nat->Option BK
 | 0=>wM { Da:=[1,3,7,8],Cg:=[(0,7,100007,.Bj 43 .u64 [])],Cv:=[3] }
 | _=>wN
def De.Qj.E:=Dr (CW [(55,De.At.Bu)]) (fun _=>wh) De.Qj.hint (fun _=>wN)
section
variable(N M:Nat)(r c:Int)(l:Bf)(k f p8:Int)(p7:Bf)
def De.Qj.L0:Option DV:=C6 De.Qj.E N f22 (Bw f22) [1,1,0,1,0] [] M ⟨Fp 25 [(1,.int .i64 k),(3,.ptr 3 0 0),(7,.Dh 100007),(8,.int .i64 p8)],[(3,wh,.box [.int .i64 r,.int .i64 c,.Bj .arg .u64 l]),(100007,wh,.Bj 43 .u64 p7)]⟩
theorem De.Qj.B7:De.Qj.L0 N (M+1) r c l k p8 p7=cond (BH p8 r) (bif (Gi r c l p8 k) then cond (decide ((wj p7)+1<=GK)) (De.Qj.L0 N M r c l k (Bh (p8+1)) (p7++[(Dy c l p8 k)])) wN else wN) (wM (.Bj (.own 100007 43) .u64 p7)):=by kernel_rfl
theorem De.Qj.ev:Cz De.Qj.E N f22 (Bw f22) [.agg [.int .i64 r,.int .i64 c,.Bj .arg .u64 l],.int .i64 k,.int .i64 f]=
 De.Qj.L0 N N r c l k f []:=by kernel_rfl
end
theorem De.IC.Bp:Kq 90 De.IC.Bu:=E1 De.IC.E Tryz.func90 .nil fun r c l _=>by
 refine⟨0,De.IC.out [.i r,.i c,.l l],[],?_,.bool⟩
 have e:(cond (bif (cond (bif (DT (0:Int) r) then (DT r (6:Int)) else wh) (DT (0:Int) c) wh) then (DT c (6:Int)) else wh) ((wj l:Int)==(Bh (r*c))) wh)=BD r c l:=by
  have:=Yx r c l
  have h:(cond (bif (cond (bif (DT (0:Int) r) then (DT r (6:Int)) else wh) (DT (0:Int) c) wh) then (DT c (6:Int)) else wh) ((wj l:Int)==(Bh (r*c))) wh)=!(((!(CN r))||(!(CN c)))||((wj l:Int) !=(Bh (r*c)))):=by unfold CN bne;rw[Ei,Ei,Ei,Ei];cases decide (0<=r)<;>cases decide (r<=6)<;>cases decide (0<=c)<;>cases decide (c<=6)<;>cases ((wj l:Int)==(Bh (r*c)))<;>rfl
  rw[h,this,Bool.not_not]
 rw[De.IC.ev,e]; rfl
theorem De.At.Bp:Kq 55 De.At.Bu:=E1 De.At.E Tryz.func55 .nil fun r c l i k hp=>by obtain⟨e,h1,h2⟩:=Ab2 (R:=r) (show Gi r c l i k=wc from hp);refine⟨0,De.At.out [.i r,.i c,.l l,.i i,.i k],[],?_,.int⟩;rw[De.At.ev,e,Ac h1,Ac h2];rfl
theorem YD{drops:List Nat}{i:Nat}{e:TypeId}{a b:Int}{l:Bf}(h:i∈drops):Wk drops (.agg [.int .i64 a,.int .i64 b,.Bj (.own i e) .u64 l]) (.agg [.int .i64 a,.int .i64 b,.Bj .BE .u64 l]) :=Wk.GA (.cons .int (.cons .int (.cons (.drop _ _ _ _ h) .nil)))
theorem Ad0{drops:List Nat}{a b:Int}{l:Bf}:Wk drops (.agg [.int .i64 a,.int .i64 b,.Bj .BE .u64 l]) (.agg [.int .i64 a,.int .i64 b,.Bj .BE .u64 l]) :=Wk.GA (.cons .int (.cons .int (.cons .IP .nil)))
theorem VM(N:Nat){R C K f:Nat}{l:Bf}(r6:R<=6)(c6:C<=6)(hl:l.length=R*C)(hk:K<C):∀(k i F:Nat),f+i+k=R->k<F ->
 De.Qj.L0 N F (R:Int) (C:Int) l (K:Int) ((f+i:Nat):Int) (BQ (C:Int) l (K:Int) (f:Int) i)=wM (.Bj (.own 100007 tB) .u64 (BQ (C:Int) l (K:Int) (f:Int) (R-f))):=by
 intro k
 induction k with
 | zero =>
   intro i F hi hF;obtain⟨F,rfl⟩:∃G,F=G+1:=⟨F-1,by omega⟩
   rw[De.Qj.B7,B8,Ag (by omega),Af,show R-f=i by omega]
 | succ k ih =>
   intro i F hi hF;obtain⟨F,rfl⟩:∃G,F=G+1:=⟨F-1,by omega⟩
   have d:decide ((BQ (C:Int) l (K:Int) (f:Int) i).length+1<=GK)=wc:=Ac (by rw[HI]; unfold GK; omega);rw[De.Qj.B7,B8,Ac (by omega),Aa,TF r6 c6 hl (show f+i<R by omega) hk,Aa,d,Aa,Bz (by omega) (by omega)];have:=ih (i+1) F (by omega) (by omega);unfold BQ at this ⊢;rw[xn,yu] at this;exact this
theorem De.Qj.Bp:Kq 22 De.Qj.Bu:=E1 De.Qj.E Tryz.func22 (kc De.At.Bp .nil) fun r c l k f hp=>by
 obtain⟨h0,hf⟩:=Bi.1 (show(EG r c l k&&Ci (0<=f/\f<=r))=wc from hp);have hf:=Bv.1 hf;obtain⟨hr,hi⟩:=Bi.1 h0;have hi:=Bv.1 hi;obtain⟨R,C,rfl,rfl,r6,c6,hl⟩:=DF hr;obtain⟨K,rfl⟩:∃j:Nat,k=j:=⟨k.toNat,by omega⟩
 obtain⟨f,rfl⟩:∃j:Nat,f=j:=⟨f.toNat,by omega⟩
 refine⟨8,.Bj (.own 100007 tB) .u64 (BQ (C:Int) l (K:Int) (f:Int) (R-f)),[100007],?_,?_⟩
 ·rw[De.Qj.ev];exact VM 8 r6 c6 hl (by omega) (R-f) 0 8 (by omega) (by omega)
 ·show Wk _ _ (DV.Bj .BE .u64 (BQ (C:Int) l (K:Int) (f:Int) (wi ((R:Int)-(f:Int)))));rw[show wi ((R:Int)-(f:Int))=R-f by omega];exact .drop _ _ _ _ (ze.2 rfl)
def Bo.Kl.E:=E0 []
theorem Bo.Kl.ev(N:Nat)(l:Bf)(i:Int):Cz Bo.Kl.E N f159 (Bw f159) [.Bj .arg .u32 l,.int .i64 i]=cond ((DT 0 i)&&(BH i (wj l:Int))) (bif ((decide (0<=i))&&(decide (i<(wj l:Int)))) then wM (.int .u64 (BU (vC l (wi i) 0))) else wN) (wM (.int .u64 0)) :=Et (B4 (M3 (DT 0 i)) (B4 (M3 (DT 0 i)) (B4 (J7 (DT 0 i)) (B4 (AbK (DT 0 i)) (B4 (Qk (DT 0 i)) (CQ (tt1 _ _) rfl rfl))))))
def Bo.Made.hint:Nat->Option BK
 | 0=>wM { Da:=[0,1,4,5],Cg:=[],Cv:=[4] }
 | _=>wN
def Bo.Made.E:=Dr (CW []) (fun _=>wh) Bo.Made.hint (fun _=>wN)
section
variable(N M:Nat)(n:Bool)(l:Bf)(p5:Int)
def Bo.Made.L0:Option DV:=C6 Bo.Made.E N f104 (Bw f104) [1,1,0,0] [] M ⟨Fp 28 [(0,.bool n),(1,.Bj .arg .u32 l),(4,.ptr 4 0 0),(5,.int .i64 p5)],[(4,wh,.box [.bool wh,.nil])]⟩
theorem Bo.Made.B7:Bo.Made.L0 N (M+1) n l p5=cond ((!(BH 0 p5))||((decide (0<=(Bh (p5-1))))&&(decide ((Bh (p5-1))<(wj l:Int))))) (bif ((BH 0 p5)&&((vC l (wi (Bh (p5-1))) 0)==(0:Int))) then Bo.Made.L0 N M n l (Bh (p5-1)) else bif (p5==(0:Int)) then wM (.agg [.bool wh,.nil]) else bif ((decide ((0:Int)<=p5))&&(decide (p5<=(wj l:Int)))) then wM (.agg [.bool n,.Bj .arg .u32 (zG (wi p5) l)]) else wN) wN :=Et (B4 (M3 (BH 0 p5)) (B4 (M3 (BH 0 p5)) (B4 (J7 (BH 0 p5)) (CQ (AkD _ _ _) (B4 (J7 (BH 0 p5)) (B4 (J7 (BH 0 p5)) (B4 (Qk (BH 0 p5)) (CQ (tt1 _ _) rfl (ET rfl (CQ (JZ _ _) rfl rfl)))))) rfl))))
theorem Bo.Made.ev:Cz Bo.Made.E N f104 (Bw f104) [.bool n,.Bj .arg .u32 l]=
 Bo.Made.L0 N N n l (wj l:Int):=by kernel_rfl
end
def Bo.Of.E:=E0 [(104,Bo.Made.Bu)]
theorem Bo.Of.ev(N:Nat)(n:Int):Cz Bo.Of.E N f40 (Bw f40) [.int .i64 n]=cond (BH n 0) (bif (G9 [(Hy (zw (BU ((BU (Bh (0-(Bh (n+1)))))+1)) 4294967296)),(Hy (BU (zq (BU ((BU (Bh (0-(Bh (n+1)))))+1)) 4294967296)))]) then wM (.agg [.bool (BB (wv wc [(Hy (zw (BU ((BU (Bh (0-(Bh (n+1)))))+1)) 4294967296)),(Hy (BU (zq (BU ((BU (Bh (0-(Bh (n+1)))))+1)) 4294967296)))])),.Bj .arg .u32 (Bk (wv wc [(Hy (zw (BU ((BU (Bh (0-(Bh (n+1)))))+1)) 4294967296)),(Hy (BU (zq (BU ((BU (Bh (0-(Bh (n+1)))))+1)) 4294967296)))]))]) else wN) (bif (G9 [(Hy (zw n 4294967296)),(Hy (Bh (zq n 4294967296)))]) then wM (.agg [.bool (BB (wv wh [(Hy (zw n 4294967296)),(Hy (Bh (zq n 4294967296)))])),.Bj .arg .u32 (Bk (wv wh [(Hy (zw n 4294967296)),(Hy (Bh (zq n 4294967296)))]))]) else wN):=by kernel_rfl
def Bo.IV.hint:Nat->Option BK
 | 0=>wM { Da:=[0,1,5],Cg:=[],Cv:=[] }
 | _=>wN
def Bo.IV.E:=Dr (CW [(159,Bo.Kl.Bu)]) (fun _=>wh) Bo.IV.hint (fun _=>wN)
section
variable(N M:Nat)(a b:Bf)(p5:Int)
def Bo.IV.L0:Option DV:=C6 Bo.IV.E N f111 (Bw f111) [1,0,1,0] [] M ⟨Fp 29 [(0,.Bj .arg .u32 a),(1,.Bj .arg .u32 b),(5,.int .i64 p5)],[]⟩
theorem Bo.IV.B7:Bo.IV.L0 N (M+1) a b p5=cond (DT 0 p5) (bif (G9 a) then cond (G9 b) (bif (BH (Gb a p5) (Gb b p5)) then wM (.int .i64 (-1:Int)) else bif (G9 a) then cond (G9 b) (bif (BH (Gb b p5) (Gb a p5)) then wM (.int .i64 1) else Bo.IV.L0 N M a b (Bh (p5-1))) wN else wN) wN else wN) (wM (.int .i64 0)):=by kernel_rfl
theorem Bo.IV.ev:Cz Bo.IV.E N f111 (Bw f111) [.Bj .arg .u32 a,.Bj .arg .u32 b]=
 Bo.IV.L0 N N a b (max (wj a:Int) (wj b:Int)):=by kernel_rfl
end
def Bo.plus.hint:Nat->Option BK
 | 0=>wM { Da:=[0,1,5,6,7],Cg:=[(0,5,100005,.Bj 121 .u32 [])],Cv:=[] }
 | _=>wN
def Bo.plus.E:=Dr (CW [(159,Bo.Kl.Bu)]) (fun _=>wh) Bo.plus.hint (fun _=>wN)
section
variable(N M:Nat)(a b:Bf)(p6 p7:Int)(p5:Bf)
def Bo.plus.L0:Option DV:=C6 Bo.plus.E N f110 (Bw f110) [1,1,1,0,1,0] [] M ⟨Fp 37 [(0,.Bj .arg .u32 a),(1,.Bj .arg .u32 b),(5,.Dh 100005),(6,.int .u64 p6),(7,.int .i64 p7)],[(100005,wh,.Bj 121 .u32 p5)]⟩
theorem Bo.plus.B7:Bo.plus.L0 N (M+1) a b p6 p7 p5=cond (DT p7 (max (wj a:Int) (wj b:Int))) (bif (G9 a) then cond (G9 b) (bif (decide ((wj p5)+1<=GK)) then Bo.plus.L0 N M a b (BU (zq (BU ((BU ((Gb a p7)+(Gb b p7)))+p6)) 4294967296)) (Bh (p7+1)) (p5++[(Hy (zw (BU ((BU ((Gb a p7)+(Gb b p7)))+p6)) 4294967296))]) else wN) wN else wN) (wM (.Bj (.own 100005 121) .u32 p5)):=by kernel_rfl
theorem Bo.plus.ev:Cz Bo.plus.E N f110 (Bw f110) [.Bj .arg .u32 a,.Bj .arg .u32 b]=
 Bo.plus.L0 N N a b 0 0 []:=by kernel_rfl
end
def Bo.minus.hint:Nat->Option BK
 | 0=>wM { Da:=[0,1,5,6,7],Cg:=[(0,5,100005,.Bj 121 .u32 [])],Cv:=[] }
 | _=>wN
def Bo.minus.E:=Dr (CW [(159,Bo.Kl.Bu)]) (fun _=>wh) Bo.minus.hint (fun _=>wN)
section
variable(N M:Nat)(a b:Bf)(p6 p7:Int)(p5:Bf)
def Bo.minus.L0:Option DV:=C6 Bo.minus.E N f112 (Bw f112) [1,1,1,0,1,0] [] M ⟨Fp 36 [(0,.Bj .arg .u32 a),(1,.Bj .arg .u32 b),(5,.Dh 100005),(6,.int .u64 p6),(7,.int .i64 p7)],[(100005,wh,.Bj 121 .u32 p5)]⟩
theorem Bo.minus.B7:Bo.minus.L0 N (M+1) a b p6 p7 p5=cond (BH p7 (wj a:Int)) (bif (G9 a) then cond (G9 b) (bif (decide ((wj p5)+1<=GK)) then Bo.minus.L0 N M a b (BU ((1:Int)-(BU (zq (BU ((BU ((BU ((4294967296:Int)+(Gb a p7)))-(Gb b p7)))-p6)) 4294967296)))) (Bh (p7+1)) (p5++[(Hy (zw (BU ((BU ((BU ((4294967296:Int)+(Gb a p7)))-(Gb b p7)))-p6)) 4294967296))]) else wN) wN else wN) (wM (.Bj (.own 100005 121) .u32 p5)):=by kernel_rfl
theorem Bo.minus.ev:Cz Bo.minus.E N f112 (Bw f112) [.Bj .arg .u32 a,.Bj .arg .u32 b]=
 Bo.minus.L0 N N a b 0 0 []:=by kernel_rfl
end
def Bo.Add.E:=E0 [(104,Bo.Made.Bu),(111,Bo.IV.Bu),(112,Bo.minus.Bu),(110,Bo.plus.Bu)]
theorem Bo.Add.ev(N:Nat)(n:Bool)(a:Bf)(m:Bool)(b:Bf):Cz Bo.Add.E N f48 (Bw f48) [.agg [.bool n,.Bj .arg .u32 a],.agg [.bool m,.Bj .arg .u32 b]]=cond (n==m) (bif (G9 a&&G9 b) then cond (G9 (HV a b)) (wM (.agg [.bool (BB (wv n (HV a b))),.Bj .arg .u32 (Bk (wv n (HV a b)))])) wN else wN) (bif (G9 a&&G9 b) then cond (BH (QM (C0 a) (C0 b)) 0) (bif ((G9 b&&G9 a)&&leL a b) then cond (G9 (GS b a)) (wM (.agg [.bool (BB (wv m (GS b a))),.Bj .arg .u32 (Bk (wv m (GS b a)))])) wN else wN) (bif ((G9 a&&G9 b)&&leL b a) then cond (G9 (GS a b)) (wM (.agg [.bool (BB (wv n (GS a b))),.Bj .arg .u32 (Bk (wv n (GS a b)))])) wN else wN) else wN) :=Et (ET (CQ (CD _) (CQ (CD _) rfl rfl) rfl) (ET (ET (CQ (CD _) (CQ (CD _) rfl rfl) rfl) (CQ (CD _) (CQ (CD _) rfl rfl) rfl)) rfl))
def Bo.Neg.E:=E0 [(104,Bo.Made.Bu)]
theorem Bo.Neg.ev(N:Nat)(n:Bool)(a:Bf):Cz Bo.Neg.E N f103 (Bw f103) [.agg [.bool n,.Bj .arg .u32 a]]=cond (G9 a) (wM (.agg [.bool (BB (wv (!n) a)),.Bj .arg .u32 (Bk (wv (!n) a))])) wN:=by kernel_rfl
theorem Bo.Kl.Bp:Kq 159 Bo.Kl.Bu:=E1 Bo.Kl.E Tryz.func159 .nil fun l i hp=>by
 obtain⟨hl,hi⟩:=Iq hp;refine⟨0,Bo.Kl.out [.l l,.i i],[],?_,.int⟩;rw[Bo.Kl.ev,Ei,B8];show _=wM (DV.int .u64 (Gb l i));by_cases h0:0<=i
 ·obtain⟨k,rfl⟩:∃k:Nat,i=k:=⟨i.toNat,by omega⟩
  have hv:=Gs hi k;have hg:=KK hi k;rw[hv,Ad,hg,Ac h0,AW];by_cases h1:(k:Int)<(l.length:Int)
  ·rw[Ac h1,Aa,Aa,Dk (by omega) (by omega)]
  ·have h2:l.getD k 0=0:=by rw[Al,Bb (by omega)]; rfl
   rw[h2] at hg;rw[Ag h1,Af,<- hg]
 ·have:Gb l i=0:=by unfold Gb; rw[Ay h0]
  rw[Ag h0,zV,Af,this]
theorem Vs{drops:List Nat}{b:Bool}{l:Bf}:Wk drops (.agg [.bool b,.Bj .arg .u32 l]) (.agg [.bool b,.Bj .arg .u32 l]):=Wk.GA (.cons .bool (.cons .WC .nil))
theorem Ac0:BB 0=wh:=rfl
theorem XT:Bk 0=[]:=rfl
theorem AcB(N:Nat)(n:Bool){l:Bf}(hl:l.length<1073741824)(hi:PN l):∀(p F:Nat),p<=l.length->p<F->C0 l<2^(32*p) ->
 ∃dv,Bo.Made.L0 N F n l (p:Int)=wM dv/\Wk [] dv (.agg [.bool (BB (wv n l)),.Bj .arg .u32 (Bk (wv n l))]):=by
 have hlast:∀p,p<=l.length->D0 (C0 l)=p->p≠0->wM (DV.agg [.bool n,.Bj .arg .u32 (l.take p)])=wM (DV.agg [.bool (BB (wv n l)),.Bj .arg .u32 (Bk (wv n l))]):=by
  intro p hp hq h0;have h1:=ZF hi;rw[hq] at h1;have h2:C0 l≠0:=fun h=>by rw[h] at hq; exact h0 hq.symm
  have e:(wv n l).natAbs=C0 l:=by unfold wv Gx; split<;>omega
  have e1:Bk (wv n l)=Mp (C0 l):=by unfold Bk; rw[e]
  have e2:BB (wv n l)=n:=by unfold BB wv Gx; cases n<;>simp<;>omega
  rw[h1,e1,e2]
 intro p
 induction p with
 | zero =>
   intro F hp hF hv;obtain⟨F,rfl⟩:∃G,F=G+1:=⟨F-1,by omega⟩
   have hz:wv n l=0:=by
    have:C0 l=0:=by rw[yk,AG] at hv; omega
    unfold wv Gx; rw[this]; cases n<;>rfl
   refine⟨.agg [.bool wh,.nil],?_,?_⟩
   ·rw[Bo.Made.B7,B8]; rfl
   ·rw[hz,Ac0,XT];exact Wk.GA (.cons .bool (.cons (.nil _ _) .nil))
 | succ p ih =>
   intro F hp hF hv;obtain⟨F,rfl⟩:∃G,F=G+1:=⟨F-1,by omega⟩
   rw[Bo.Made.B7,B8,Bz (by omega) (by omega)];have e0:((p+1:Nat):Int)-1=(p:Int):=by omega
   have t0:decide ((0:Int)<((p+1:Nat):Int))=wc:=Ac (by omega);have t1:decide ((0:Int)<=(p:Int))=wc:=by simp
   have t2:decide ((p:Int)<(l.length:Int))=wc:=by simp; omega
   have hg:=KK hi p
   have hq:C0 l / 2^(32*p)<4294967296:=by rw[yw (Cs _),<- J0]; exact hv
   rw[Ao hq] at hg;rw[e0,t0,t1,t2,Ad,hg];simp only[AH,Ah,Bool.false_or,Aa,AW];by_cases hz:C0 l / 2^(32*p)=0
   ·have:(((C0 l / 2^(32*p):Nat):Int)==0)=wc:=by rw[hz]; rfl
    rw[this,Aa];refine ih F (by omega) (by omega) ?_;rcases AF (C0 l) (2^(32*p)) with h | h
    ·exact h
    ·have:=Nat.div_pos h (Cs _); omega
   ·have:(((C0 l / 2^(32*p):Nat):Int)==0)=wh:=by simp only[AD,ne_eq]; omega
    have t3:(((p+1:Nat):Int)==0)=wh:=by simp only[AD,ne_eq]; omega
    have t4:decide (((p+1:Nat):Int)<=(l.length:Int))=wc:=by simp; omega
    have t5:decide ((0:Int)<=((p+1:Nat):Int))=wc:=Ac (by omega);rw[this,Af,t3,Af,t4,t5,Ah,Aa,Ad]
    have hlen:D0 (C0 l)=p+1:=by
     have a1:=Ja hv
     have a2:=Ah7 (n:=C0 l) (k:=p) (by
      rcases AF (C0 l) (2^(32*p)) with h | h
      ·exact absurd (yd h) hz
      ·exact h)
     omega
    exact⟨_,hlast (p+1) hp hlen (by omega),Vs⟩
theorem Bo.Made.Bp:Kq 104 Bo.Made.Bu:=E1 Bo.Made.E Tryz.func104 .nil fun n l hp=>by obtain⟨hl,hi⟩:=Iq hp;obtain⟨dv,h1,h2⟩:=AcB (l.length+1) n hl hi l.length (l.length+1) (AB _) (by omega) (Ij hi);exact⟨l.length+1,dv,[],by rw[Bo.Made.ev]; exact h1,h2⟩
theorem Um{a b:Int}(ha:0<=a/\a<4294967296)(hb:0<=b/\b<4294967296):G9 [a,b]=wc:=
 Ip (show 2<1073741824 by decide) fun x hx=>by
  rcases zB.1 hx with rfl | hx
  ·exact ha
  ·rcases zB.1 hx with rfl | hx
   ·exact hb
   ·cases hx
theorem XR:(4294967296:Int)=((4294967296:Nat):Int):=rfl
theorem Bo.Of.Bp:Kq 40 Bo.Of.Bu:=E1 Bo.Of.E Tryz.func40 (kc Bo.Made.Bp .nil) fun n hp=>by
 have hp:=Bv.1 hp;refine⟨0,Bo.Of.out [.i n],[],?_,Vs⟩;rw[Bo.Of.ev,B8];show _=wM (DV.agg [.bool (BB n),.Bj .arg .u32 (Bk n)]);by_cases h:n<0
 ·obtain⟨k,rfl⟩:∃k:Nat,n=-(k:Int):=⟨(-n).toNat,by omega⟩
  have e1:BU (BU (Bh (0-Bh (-(k:Int)+1)))+1)=(k:Int):=by rw[Bz (x:=-(k:Int)+1) (by omega) (by omega),Bz (by omega) (by omega),Dk (x:=0-(-(k:Int)+1)) (by omega) (by omega),Dk (by omega) (by omega)]; omega
  rw[Ac h,Aa,e1,XR,H0,H2,Hx (by omega) (by omega),Dk (by omega) (by omega),Hx (by omega) (by omega),
   Um (by omega) (by omega),Aa]
  have e2:wv wc [((k%4294967296:Nat):Int),((k / 4294967296:Nat):Int)]=-(k:Int):=by unfold wv Gx C0 C0 C0;rw[Az rfl,Ad,Ad];omega
  rw[e2]
 ·obtain⟨k,rfl⟩:∃k:Nat,n=(k:Int):=⟨n.toNat,by omega⟩
  rw[Ag h,Af,XR,H0,H2,Hx (by omega) (by omega),Bz (by omega) (by omega),Hx (by omega) (by omega),
   Um (by omega) (by omega),Aa]
  have e2:wv wh [((k%4294967296:Nat):Int),((k / 4294967296:Nat):Int)]=(k:Int):=by unfold wv Gx C0 C0 C0;rw[Ay (by decide),Ad,Ad];omega
  rw[e2]
theorem Bo.Neg.Bp:Kq 103 Bo.Neg.Bu:=E1 Bo.Neg.E Tryz.func103 (kc Bo.Made.Bp .nil) fun n a hp=>by obtain⟨v,rfl,rfl,hv⟩:=HC hp;refine⟨0,Bo.Neg.out [.b (BB v),.l (Bk v)],[],?_,Vs⟩;rw[Bo.Neg.ev,Lr (by omega),Aa,Ai9];rfl
theorem Ac7(N:Nat){a b:Bf}(ha:G9 a=wc)(hb:G9 b=wc):∀(j F:Nat),j<4000000000->j<F->C0 a / 2^(32*j)=C0 b / 2^(32*j) ->
 Bo.IV.L0 N F a b ((j:Int)-1)=wM (.int .i64 (QM (C0 a) (C0 b))):=by
 have ia:=(Iq ha).2;have ib:=(Iq hb).2;intro j
 induction j with
 | zero =>
   intro F hj hF h;obtain⟨F,rfl⟩:∃G,F=G+1:=⟨F-1,by omega⟩
   rw[yk,AG,yE,yE] at h;have e:QM (C0 a) (C0 b)=0:=by unfold QM; rw[Ay (by omega),Ay (by omega)]
   rw[Bo.IV.B7,Ei,e];rfl
 | succ j ih =>
   intro F hj hF h;obtain⟨F,rfl⟩:∃G,F=G+1:=⟨F-1,by omega⟩
   have e0:((j+1:Nat):Int)-1=(j:Int):=by omega
   have t0:decide ((0:Int)<=(j:Int))=wc:=Ac (by omega);rw[J0,A0,<- A9,<- A9] at h
   have up:C0 a / 2^(32*j)<C0 b / 2^(32*j)->C0 a<C0 b:=fun k=>by
    rcases AF (C0 a) (C0 b) with h1 | h1
    ·exact h1
    ·have:=wH (c:=2^(32*j)) h1; omega
   have down:C0 b / 2^(32*j)<C0 a / 2^(32*j)->C0 b<C0 a:=fun k=>by
    rcases AF (C0 b) (C0 a) with h1 | h1
    ·exact h1
    ·have:=wH (c:=2^(32*j)) h1; omega
   rw[Bo.IV.B7,e0,Ei,t0,Aa,ha,hb,Aa,Aa,B8,B8,Gs ia,Gs ib,Bz (by omega) (by omega)];have ih:=ih F (by omega) (by omega);generalize C0 a / 2^(32*j)=x at *
   generalize C0 b / 2^(32*j)=y at *
   by_cases h1:x%4294967296<y%4294967296
   ·have e:QM (C0 a) (C0 b)=-1:=by unfold QM; rw[Az (up (by omega))]
    rw[Ac (by omega),Aa,e]
   ·rw[Ag (by omega),Af];by_cases h2:y%4294967296<x%4294967296
    ·have:=down (by omega);have e:QM (C0 a) (C0 b)=1:=by unfold QM; rw[Ay (by omega),Az this]
     rw[Ac (by omega),Aa,e];rfl
    ·rw[Ag (by omega),Af];exact ih (by omega)
theorem Abw{l:Bf}(h:PN l){j:Nat}(hj:l.length<=j):C0 l / 2^(32*j)=0 :=yd (AU (Ij h) (Aq (by decide) (by omega)))
theorem Bo.IV.Bp:Kq 111 Bo.IV.Bu:=E1 Bo.IV.E Tryz.func111 (kc Bo.Kl.Bp .nil) fun a b hp=>by
 obtain⟨ha,hb⟩:=Bi.1 hp;obtain⟨la,ia⟩:=Iq ha;obtain⟨lb,ib⟩:=Iq hb;refine⟨max a.length b.length+2,Bo.IV.out [.l a,.l b],[],?_,.int⟩;rw[Bo.IV.ev];have e:max (a.length:Int) (b.length:Int)=((max a.length b.length+1:Nat):Int)-1:=by omega
 rw[e];exact Ac7 _ ha hb _ _ (by omega) (by omega) (by rw[Abw ia (by omega),Abw ib (by omega)])
theorem UB(N:Nat){a b:Bf}(ha:G9 a=wc)(hb:G9 b=wc):∀(k i c F:Nat),i+k=max a.length b.length+1->k<F->c<=1 ->
 C0 a / 2^(32*i)+C0 b / 2^(32*i)+c=(C0 a+C0 b) / 2^(32*i) ->
 Bo.plus.L0 N F a b (c:Int) (i:Int) (digits i (C0 a+C0 b))=wM (.Bj (.own 100005 tW) .u32 (HV a b)):=by
 obtain⟨la,ia⟩:=Iq ha;obtain⟨lb,ib⟩:=Iq hb;intro k
 induction k with
 | zero =>
   intro i c F hi hF hc h;obtain⟨F,rfl⟩:∃G,F=G+1:=⟨F-1,by omega⟩
   have t0:decide ((i:Int)<=max (a.length:Int) (b.length:Int))=wh:=Ag (by omega);rw[Bo.plus.B7,Ei,t0,Af];unfold HV;rw[show i=max a.length b.length+1 by omega]
 | succ k ih =>
   intro i c F hi hF hc h;obtain⟨F,rfl⟩:∃G,F=G+1:=⟨F-1,by omega⟩
   have t0:decide ((i:Int)<=max (a.length:Int) (b.length:Int))=wc:=Ac (by omega);have t1:decide ((digits i (C0 a+C0 b)).length+1<=GK)=wc:=Ac (by rw[DZ]; unfold GK; omega);rw[Bo.plus.B7,Ei,t0,ha,hb,t1];simp only[Aa];rw[Gs ia,Gs ib];have ih:=ih (i+1);rw[J0,A0 4294967296,<- A9,<- A9,<- A9,Ic] at ih;generalize C0 a / 2^(32*i)=x at *
   generalize C0 b / 2^(32*i)=y at *
   generalize (C0 a+C0 b) / 2^(32*i)=z at *
   have e1:BU (BU (((x%4294967296:Nat):Int)+((y%4294967296:Nat):Int))+(c:Int))=((x%4294967296+y%4294967296+c:Nat):Int):=by rw[Dk (x:=((x%4294967296:Nat):Int)+((y%4294967296:Nat):Int)) (by omega) (by omega),Dk (by omega) (by omega)]; omega
   rw[e1,XR,H0,H2,Hx (by omega) (by omega),Dk (by omega) (by omega),Bz (by omega) (by omega)];have e2:(x%4294967296+y%4294967296+c)%4294967296=z%4294967296:=by omega
   rw[e2];exact ih ((x%4294967296+y%4294967296+c) / 4294967296) F (by omega) (by omega) (by omega) (by omega)
theorem VP{i:Nat}{e:TypeId}{k:IntKind}{l:Bf}:Wk [i] (.Bj (.own i e) k l) (.Bj .arg k l):=.Abp i e k l (ze.2 rfl)
theorem Bo.plus.Bp:Kq 110 Bo.plus.Bu:=E1 Bo.plus.E Tryz.func110 (kc Bo.Kl.Bp .nil) fun a b hp=>by obtain⟨ha,hb⟩:=Bi.1 hp;refine⟨max a.length b.length+2,.Bj (.own 100005 tW) .u32 (HV a b),[100005],?_,VP⟩;rw[Bo.plus.ev];exact UB _ ha hb (max a.length b.length+1) 0 0 _ (by omega) (by omega) (by omega) (by simp)
theorem Z5(N:Nat){a b:Bf}(ha:G9 a=wc)(hb:G9 b=wc):∀(k i w F:Nat),i+k=a.length->k<F->w<=1 ->
 C0 a / 2^(32*i)=C0 b / 2^(32*i)+(C0 a-C0 b) / 2^(32*i)+w ->
 Bo.minus.L0 N F a b (w:Int) (i:Int) (digits i (C0 a-C0 b))=wM (.Bj (.own 100005 tW) .u32 (GS a b)):=by
 obtain⟨la,ia⟩:=Iq ha;obtain⟨lb,ib⟩:=Iq hb;intro k
 induction k with
 | zero =>
   intro i c F hi hF hc h;obtain⟨F,rfl⟩:∃G,F=G+1:=⟨F-1,by omega⟩
   have t0:decide ((i:Int)<(a.length:Int))=wh:=Ag (by omega);rw[Bo.minus.B7,B8,t0,Af];unfold GS;rw[show i=a.length by omega]
 | succ k ih =>
   intro i w F hi hF hc h;obtain⟨F,rfl⟩:∃G,F=G+1:=⟨F-1,by omega⟩
   have t0:decide ((i:Int)<(a.length:Int))=wc:=Ac (by omega);have t1:decide ((digits i (C0 a-C0 b)).length+1<=GK)=wc:=Ac (by rw[DZ]; unfold GK; omega);rw[Bo.minus.B7,B8,t0,ha,hb,t1];simp only[Aa];rw[Gs ia,Gs ib];have ih:=ih (i+1);rw[J0,A0 4294967296,<- A9,<- A9,<- A9,Ic] at ih;generalize C0 a / 2^(32*i)=x at *
   generalize C0 b / 2^(32*i)=y at *
   generalize (C0 a-C0 b) / 2^(32*i)=z at *
   have e1:BU (BU (BU ((4294967296:Int)+((x%4294967296:Nat):Int))-((y%4294967296:Nat):Int))-(w:Int))=((4294967296+x%4294967296-y%4294967296-w:Nat):Int):=by rw[Dk (x:=(4294967296:Int)+((x%4294967296:Nat):Int)) (by omega) (by omega),Dk (x:=(4294967296:Int)+((x%4294967296:Nat):Int)-((y%4294967296:Nat):Int)) (by omega) (by omega),Dk (by omega) (by omega)]; omega
   have e2:(4294967296+x%4294967296-y%4294967296-w)%4294967296=z%4294967296:=by omega
   have e3:BU ((1:Int)-(((4294967296+x%4294967296-y%4294967296-w) / 4294967296:Nat):Int))=((1-(4294967296+x%4294967296-y%4294967296-w) / 4294967296:Nat):Int):=by rw[Dk (by omega) (by omega)]; omega
   rw[e1,XR,H0,H2,Hx (by omega) (by omega),Dk (x:=(((4294967296+x%4294967296-y%4294967296-w) / 4294967296:Nat):Int)) (by omega) (by omega),Bz (by omega) (by omega),e2,e3];exact ih (1-(4294967296+x%4294967296-y%4294967296-w) / 4294967296) F (by omega) (by omega) (by omega) (by omega)
theorem Bo.minus.Bp:Kq 112 Bo.minus.Bu:=E1 Bo.minus.E Tryz.func112 (kc Bo.Kl.Bp .nil) fun a b hp=>by obtain⟨h1,hle⟩:=Bi.1 hp;obtain⟨ha,hb⟩:=Bi.1 h1;have hle:=Bv.1 hle;refine⟨a.length+1,.Bj (.own 100005 tW) .u32 (GS a b),[100005],?_,VP⟩;rw[Bo.minus.ev];exact Z5 _ ha hb a.length 0 0 _ (by omega) (by omega) (by omega) (by simp; omega)
theorem Fy(v:Int):PN (Bk v):=XS _
theorem Adz{v w:Int}(h:BB v=BB w):wv (BB v) (HV (Bk v) (Bk w))=v+w:=by
 unfold wv;rw[UC (Fy _) (Fy _),DQ,DQ];unfold BB at h ⊢;unfold Gx;rw[decide_eq_decide] at h;by_cases hv:v<0
 ·have hw:=h.1 hv;rw[Ac hv,Az rfl]; omega
 ·have hw:¬w<0:=fun k=>hv (h.2 k)
  rw[Ag hv,Ay (by decide)]; omega
theorem Aay{v w:Int}(h:BB v≠BB w)(hl:w.natAbs<=v.natAbs):wv (BB v) (GS (Bk v) (Bk w))=v+w:=by
 unfold wv;rw[Z7 _ (Fy _),DQ,DQ];unfold BB at h ⊢;unfold Gx;rw[ne_eq,decide_eq_decide] at h;by_cases hv:v<0
 ·have hw:¬w<0:=fun k=>h ⟨fun _=>k,fun _=>hv⟩
  rw[Ac hv,Az rfl]; omega
 ·have hw:w<0:=by
   rcases Int.lt_or_le w 0 with k | k
   ·exact k
   ·exact absurd ⟨fun k'=>absurd k' hv,fun k'=>by omega⟩ h
  rw[Ag hv,Ay (by decide)]; omega
theorem Bo.Add.Bp:Kq 48 Bo.Add.Bu:=E1 Bo.Add.E Tryz.func48 (kc Bo.Made.Bp (kc Bo.IV.Bp (kc Bo.minus.Bp (kc Bo.plus.Bp .nil)))) fun n a m b hp=>by
 obtain⟨h1,h2⟩:=Bi.1 hp;obtain⟨v,rfl,rfl,hv⟩:=HC h1;obtain⟨w,rfl,rfl,hw⟩:=HC h2;refine⟨0,Bo.Add.out [.b (BB v),.l (Bk v),.b (BB w),.l (Bk w)],[],?_,Vs⟩;have o1:G9 (Bk v)=wc:=Lr (by omega);have o2:G9 (Bk w)=wc:=Lr (by omega);rw[Bo.Add.ev,o1,o2,Ah,Aa];show _=wM (DV.agg [.bool (BB (wv (BB v) (Bk v)+wv (BB w) (Bk w))),.Bj .arg .u32 (Bk (wv (BB v) (Bk v)+wv (BB w) (Bk w)))]);rw[EB,EB];by_cases hs:BB v=BB w
 ·have:(BB v==BB w)=wc:=by simp[hs]
  have o3:G9 (HV (Bk v) (Bk w))=wc:=Ip (by rw[LG,CE,CE]; omega) (SH _ _);rw[this,Aa,o3,Aa,Adz hs]
 ·have:(BB v==BB w)=wh:=by simp[hs]
  rw[this,Af,Aa,B8,DQ,DQ,AW,AW];by_cases hl:v.natAbs<w.natAbs
  ·have e:decide (QM v.natAbs w.natAbs<0)=wc:=Ac (by unfold QM; rw[Az hl]; decide);have o3:G9 (GS (Bk w) (Bk v))=wc:=Ip (by rw[Ov,CE]; omega) (UK _ _);have o4:leL (Bk v) (Bk w)=wc:=Bv.2 (by rw[DQ,DQ]; omega);rw[e,Aa,o4,Aa,o3,Aa,Aay (fun k=>hs k.symm) (by omega),Int.add_comm]
  ·have e:decide (QM v.natAbs w.natAbs<0)=wh:=Ag (by unfold QM; rw[Ay hl]; split<;>decide);have o3:G9 (GS (Bk v) (Bk w))=wc:=Ip (by rw[Ov,CE]; omega) (UK _ _);have o4:leL (Bk w) (Bk v)=wc:=Bv.2 (by rw[DQ,DQ]; omega);rw[e,Af,o4,Aa,o3,Aa,Aay hs (by omega)]
def Bo.Hv.E:=E0 [(104,Bo.Made.Bu),(110,Bo.plus.Bu)]
theorem Bo.Hv.ev(N:Nat)(n:Bool)(a:Bf):Cz Bo.Hv.E N f161 (Bw f161) [.agg [.bool n,.Bj .arg .u32 a]]=cond (G9 a&&G9 a) (bif (G9 (HV a a)) then wM (.agg [.bool (BB (wv n (HV a a))),.Bj .arg .u32 (Bk (wv n (HV a a)))]) else wN) wN :=Et (CQ (CD _) (CQ (CD _) rfl rfl) rfl)
def Bo.I6.hint:Nat->Option BK
 | 0=>wM { Da:=[1,2,3,4],Cg:=[(0,3,100003,.Bj 121 .u32 [])],Cv:=[1,2] }
 | _=>wN
def Bo.I6.E:=Dr (CW [(104,Bo.Made.Bu),(159,Bo.Kl.Bu)]) (fun _=>wh) Bo.I6.hint (fun _=>wN)
section
variable(N M:Nat)(n:Bool)(a:Bf)(p4:Int)(p3:Bf)
def Bo.I6.L0:Option DV:=C6 Bo.I6.E N f106 (Bw f106) [1,1,0,1,0] [] M ⟨Fp 37 [(1,.ptr 1 0 0),(2,.ptr 2 0 0),(3,.Dh 100003),(4,.int .i64 p4)],[(1,wh,.box [.bool n,.Bj .arg .u32 a]),(2,wh,.box [.bool wh,.nil]),(100003,wh,.Bj 121 .u32 p3)]⟩
theorem Bo.I6.B7:Bo.I6.L0 N (M+1) n a p4 p3=cond (BH p4 (wj a:Int)) (bif (G9 a) then cond (G9 a) (bif ((decide (0<=p4))&&(decide (p4<(wj p3:Int)))) then cond (decide ((wi p4)<(wj p3))) (Bo.I6.L0 N M n a (Bh (p4+1)) (List.set p3 (wi p4) (Hy (BU (zq (BU ((BU ((zw (Gb a (Bh (p4+1))) 2)*4294967296))+(Gb a p4))) 2))))) wN else wN) wN else wN) (bif (G9 p3) then wM (.agg [.bool (BB (wv n p3)),.Bj .arg .u32 (Bk (wv n p3))]) else wN) :=Et (ET (CQ (CD _) (CQ (CD _) (CQ (JZ _ _) (CQ (CD _) rfl rfl) rfl) rfl) rfl) rfl)
theorem Bo.I6.ev:Cz Bo.I6.E N f106 (Bw f106) [.agg [.bool n,.Bj .arg .u32 a]]=cond (((decide ((0:Int)<=(wj a:Int)))&&(decide ((wj a:Int)<=(wj a:Int))))&&(decide ((wj a:Int)<=GK))) (Bo.I6.L0 N N n a 0 (List.replicate (wi (wj a:Int)) 0)) wN:=by kernel_rfl
end
def Bo.CF.hint:Nat->Option BK
 | 0=>wM { Da:=[1,2,4],Cg:=[],Cv:=[2,4] }
 | 2=>wM { Da:=[1,2,4],Cg:=[],Cv:=[2,4] }
 | 4=>wM { Da:=[1,2,4],Cg:=[],Cv:=[2,4] }
 | 6=>wM { Da:=[1,2,4],Cg:=[],Cv:=[2,4] }
 | _=>wN
def Bo.CF.E:=Dr (CW [(161,Bo.Hv.Bu),(106,Bo.I6.Bu),(104,Bo.Made.Bu)]) (fun _=>wh) Bo.CF.hint (fun _=>wN)
section
variable(N:Nat)(n:Bool)(a:Bf)(k:Int)(M:Nat)(p1_3:Int)(p2_6:Bool)(p2_7:Bf)(p1_2:Int)(p2_4:Bool)(p2_5:Bf)(p1_1:Int)(p2_2:Bool)(p2_3:Bf)(p1:Int)(p2:Bool)(p2_1:Bf)
def Bo.CF.L0:Option DV:=C6 Bo.CF.E N f113 (Bw f113) [1,0,0] [] M ⟨Fp 63 [(1,.int .i64 p1),(2,.ptr 2 0 0),(4,.ptr 4 0 0)],[(2,wh,.box [.bool p2,.Bj .arg .u32 p2_1]),(4,wh,.box [.bool wh,.nil])]⟩
def Bo.CF.L1:Option DV:=C6 Bo.CF.E N f113 (Bw f113) [1,1,0,0] [] M ⟨Fp 63 [(1,.int .i64 p1_1),(2,.ptr 2 0 0),(4,.ptr 4 0 0)],[(2,wh,.box [.bool p2_2,.Bj .arg .u32 p2_3]),(4,wh,.box [.bool wh,.nil])]⟩
def Bo.CF.L2:Option DV:=C6 Bo.CF.E N f113 (Bw f113) [1,1,1,0,0] [] M ⟨Fp 63 [(1,.int .i64 p1_2),(2,.ptr 2 0 0),(4,.ptr 4 0 0)],[(2,wh,.box [.bool p2_4,.Bj .arg .u32 p2_5]),(4,wh,.box [.bool wh,.nil])]⟩
def Bo.CF.L3:Option DV:=C6 Bo.CF.E N f113 (Bw f113) [1,1,1,1,0,0] [] M ⟨Fp 63 [(1,.int .i64 p1_3),(2,.ptr 2 0 0),(4,.ptr 4 0 0)],[(2,wh,.box [.bool p2_6,.Bj .arg .u32 p2_7]),(4,wh,.box [.bool wh,.nil])]⟩
theorem Bo.CF.B7:Bo.CF.L0 N (M+1) p1 p2 p2_1=cond ((DT 32 p1)&&(BH 0 (wj p2_1:Int))) (bif (decide (1+(wj p2_1)<=GK)) then cond (G9 ([(0:Int)]++p2_1)) (Bo.CF.L0 N M (Bh (p1-32)) (BB (wv p2 ([(0:Int)]++p2_1))) (Bk (wv p2 ([(0:Int)]++p2_1)))) wN else wN) (Bo.CF.L1 N N p1 p2 p2_1) :=Et (B4 (M3 (DT 32 p1)) (B4 (J7 (DT 32 p1)) (B4 (J7 (DT 32 p1)) (B4 (J7 (DT 32 p1)) (B4 (Qk (DT 32 p1)) (CQ (tt1 _ _) (CQ (CD _) (CQ (CD _) rfl rfl) rfl) rfl))))))
theorem Bo.CF.CU:Bo.CF.L1 N (M+1) p1_1 p2_2 p2_3=cond ((BH 0 p1_1)&&(BH 0 (wj p2_3:Int))) (bif (HD p2_2 p2_3) then Bo.CF.L1 N M (Bh (p1_1-1)) (BB (2*wv p2_2 p2_3)) (Bk (2*wv p2_2 p2_3)) else wN) (Bo.CF.L2 N N p1_1 p2_2 p2_3) :=Et (B4 (M3 (BH 0 p1_1)) (B4 (J7 (BH 0 p1_1)) (B4 (J7 (BH 0 p1_1)) (B4 (J7 (BH 0 p1_1)) (B4 (Qk (BH 0 p1_1)) (CQ (tt1 _ _) rfl rfl))))))
theorem Bo.CF.I5:Bo.CF.L2 N (M+1) p1_2 p2_4 p2_5=cond ((DT p1_2 (-32:Int))&&(BH 0 (wj p2_5:Int))) (bif (decide ((1:Int)<=(wj p2_5:Int))) then cond (G9 (zL 1 p2_5)) (Bo.CF.L2 N M (Bh (p1_2+32)) (BB (wv p2_4 (zL 1 p2_5))) (Bk (wv p2_4 (zL 1 p2_5)))) wN else wN) (Bo.CF.L3 N N p1_2 p2_4 p2_5) :=Et (B4 (M3 (DT p1_2 (-32:Int))) (B4 (J7 (DT p1_2 (-32:Int))) (B4 (J7 (DT p1_2 (-32:Int))) (B4 (J7 (DT p1_2 (-32:Int))) (B4 (Qk (DT p1_2 (-32:Int))) (CQ (tt1 _ _) (CQ (AkC _) (CQ (CD _) rfl rfl) rfl) rfl))))))
theorem Bo.CF.Ob:Bo.CF.L3 N (M+1) p1_3 p2_6 p2_7=cond ((BH p1_3 0)&&(BH 0 (wj p2_7:Int))) (bif (HD p2_6 p2_7) then Bo.CF.L3 N M (Bh (p1_3+1)) (BB (IB (wv p2_6 p2_7) 1)) (Bk (IB (wv p2_6 p2_7) 1)) else wN) (wM (.agg [.bool p2_6,.Bj .arg .u32 p2_7])) :=Et (B4 (M3 (BH p1_3 0)) (B4 (J7 (BH p1_3 0)) (B4 (J7 (BH p1_3 0)) (B4 (J7 (BH p1_3 0)) (B4 (Qk (BH p1_3 0)) (CQ (tt1 _ _) rfl rfl))))))
theorem Bo.CF.ev:Cz Bo.CF.E N f113 (Bw f113) [.agg [.bool n,.Bj .arg .u32 a],.int .i64 k]=
 Bo.CF.L0 N N k n a:=by kernel_rfl
end
def Bo.QS.hint:Nat->Option BK
 | 0=>wM { Da:=[3,4],Cg:=[],Cv:=[] }
 | _=>wN
def Bo.QS.E:=Dr (CW []) (fun _=>wh) Bo.QS.hint (fun _=>wN)
def Bo.QS.L0(N M:Nat)(p3 p4:Int):Option DV:=C6 Bo.QS.E N f160 (Bw f160) [1,1,1,0,1,0] [] M ⟨Fp 29 [(3,.int .i64 p3),(4,.int .u32 p4)],[]⟩
theorem Bo.QS.B7(N M:Nat)(p3 p4:Int):Bo.QS.L0 N (M+1) p3 p4=cond (BH 0 p4) (Bo.QS.L0 N M (Bh (p3+1)) (Hy (zq p4 2))) (wM (.int .i64 p3)):=by kernel_rfl
theorem Bo.QS.ev(N:Nat)(n:Bool)(a:Bf):Cz Bo.QS.E N f160 (Bw f160) [.agg [.bool n,.Bj .arg .u32 a]]=cond ((wj a:Int)==(0:Int)) (wM (.int .i64 0)) (bif ((decide (0<=(Bh ((wj a:Int)-1))))&&(decide ((Bh ((wj a:Int)-1))<(wj a:Int)))) then Bo.QS.L0 N N (Bh ((32:Int)*(Bh ((wj a:Int)-1)))) (vC a (wi (Bh ((wj a:Int)-1))) 0) else wN):=by kernel_rfl
def Bo.Y7.E:=E0 []
theorem Bo.Y7.ev(N:Nat)(n:Bool)(a:Bf):Cz Bo.Y7.E N f105 (Bw f105) [.agg [.bool n,.Bj .arg .u32 a]]=cond ((!(BH 0 (wj a:Int)))||(decide ((0:Int)<(wj a:Int)))) (wM (.bool (cond (BH 0 (wj a:Int)) ((zw (vC a 0 0) 2)==(1:Int)) wh))) wN :=Et (B4 (M3 (BH 0 (wj a:Int))) (B4 (J7 (BH 0 (wj a:Int))) (CQ (AkA _ _) (B4 (J7 (BH 0 (wj a:Int))) (B4 (J7 (BH 0 (wj a:Int))) (B4 (J7 (BH 0 (wj a:Int))) (B4 (Qk (BH 0 (wj a:Int))) rfl)))) rfl)))
end Go.Proofs.S1
end
