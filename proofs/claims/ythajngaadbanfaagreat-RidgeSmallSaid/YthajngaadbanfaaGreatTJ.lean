/- A verified evaluator of the program's form and its use for this seat: S1EqBits6, S1EqTimes, S1PTimes, S1EqRefD, S1PRefD, S1PTimesA, S1EqVec, S1PVec, S1EqMat, S1PMat, S1EqOf, S1POf, S1PMatA, S1EqRef10, S1PRef10, S1PFill. -/
import Derived.Test.YthajngaadbanfaaGreatTG
import Derived.Test.YthajngaadbanfaaGreatTI
import Derived.Test.YthajngaadbanfaaGreatTH
import Derived.Test.YthajngaadbanfaaGreatTD
import Derived.Test.YthajngaadbanfaaGreatTE
set_option linter.unusedVariables false
set_option linter.unusedSimpArgs false
open Int renaming tdiv->zB,tmod->zE,natCast_add->yu,natCast_nonneg->xd,le_refl->yU
open Nat renaming pow_succ->zD,mul_add->yh,mul_mul_mul_comm->xh,mul_right_comm->vj,div_lt_iff_lt_mul->yI,div_eq_of_lt->yc,mul_left_comm->y4,le_div_iff_mul_le->y5
open Bool renaming and_false->xU,false_and->zO,or_eq_true->zK
open List renaming drop->zL,take->zt,mem_singleton->zf,length_drop->zP,length_take->zI,range_succ->y7,map_append->yq,range->zh,append_assoc->zQ,range_zero->xl,map_nil->yP,append_nil->yi,set->zn
noncomputable section
open Int (toNat)
open List (length getD)
open Go.Proofs.Tryz
namespace Go.Proofs.S1
open Go Go.Den Go.Ct Go.Proofs
set_option maxRecDepth 100000
def Ew.Di.E:=E0 [(167,Ew.N2.spec)]
theorem Ew.Di.ev(N:Nat)(x:Int):Bv Ew.Di.E N f210 (Aj f210) [.int .u64 x]=cond (Af x) (some (.int .i64 (Ad ((64:Int)-(Gt x))))) none:=by kernel_rfl
def Ew.P3.E:=E0 []
theorem Ew.P3.ev(N:Nat)(x y:Int):Bv Ew.P3.E N f209 (Aj f209) [.int .u64 x,.int .u64 y]=some (.tup [.int .u64 (Bo ((Bo ((Bo ((Eo .u64 x 32)*(Eo .u64 y 32)))+(Eo .u64 (Bo ((Bo ((Eo .u64 x 32)*(Gl .u64 y 4294967295)))+(Eo .u64 (Bo ((Gl .u64 x 4294967295)*(Gl .u64 y 4294967295))) 32))) 32)))+(Eo .u64 (Bo ((Gl .u64 (Bo ((Bo ((Eo .u64 x 32)*(Gl .u64 y 4294967295)))+(Eo .u64 (Bo ((Gl .u64 x 4294967295)*(Gl .u64 y 4294967295))) 32))) 4294967295)+(Bo ((Gl .u64 x 4294967295)*(Eo .u64 y 32))))) 32))),.int .u64 (Bo (x*y))]):=by kernel_rfl
abbrev Ew.N2.Kn:Prop:=E8 prog 167 Ew.N2.spec
theorem Ew.N2.call:∀(args:Array Value) (w:World),(callFunc 167 args).run prog w=.ok (.enter 167 args) w:=Mm func167 (by kernel_rfl) (show f167.body=some (Aj f167) by kernel_rfl)
theorem Ew.N2.run(x:Int)(w:World)(h0:0<=x)(h1:x<=18446744073709551615):Calls prog 167 #[.int .u64 x] w fun e w'=>e=.returned (.int .i64 (Lib.bitLen x.toNat))/\w'=w:=Tryz.Arz x w h0 h1
open Go Go.Den Go.Ct Go.Proofs
set_option maxRecDepth 100000
def times.signed.E:=E0 [(81,soft.Eg.spec)]
theorem times.signed.ev(N:Nat)(b:Int)(n:Bool):Bv times.signed.E N f183 (Aj f183) [.int .u64 b,.bool n]=cond n (bif (Af b) then some (.int .u64 (B7 b)) else none) (some (.int .u64 b)):=by kernel_rfl
def times.nan.E:=E0 [(165,soft.Kind.spec)]
theorem times.nan.ev(N:Nat)(a b:Int):Bv times.nan.E N f182 (Aj f182) [.int .u64 a,.int .u64 b]=cond (Af a) (bif ((Bb a)==(4:Int)) then some (.bool true) else bif (Af b) then cond ((Bb b)==(4:Int)) (some (.bool true)) (some (.bool false)) else none) none:=by kernel_rfl
def times.norm.E:=E0 [(210,Ew.Di.spec),(166,soft.Hg.spec)]
theorem times.norm.ev(N:Nat)(b:Int):Bv times.norm.E N f184 (Aj f184) [.int .u64 b]=cond (Af b) (bif (Af (B4 b)) then cond (decide (0<=(Ad ((64-Gt (B4 b))-11)))) (some (.tup [.int .u64 (Cj .u64 (B4 b) (Ad ((64-Gt (B4 b))-11))),.int .i64 (Ad ((Bn b)-(Ad ((64-Gt (B4 b))-11))))])) none else none) none:=by kernel_rfl
def times.wide.hint:Nat->Option A9
 | 0=>some { keep:=[0,1,2,3],objs:=[],boxes:=[] }
 | _=>none
def times.wide.E:=C6 (Cw [(180,soft.Ex.spec)]) (fun _=>false) times.wide.hint (fun _=>none)
section
variable(N M:Nat)(n:Bool)(m e:Int)(r:Bool)(p1 p2:Int)(p3:Bool)
def times.wide.L0:Option DV:=B2 times.wide.E N f185 (Aj f185) [1,0,0] [] M ⟨F3 39 [(0,.bool n),(1,.int .u64 p1),(2,.int .i64 p2),(3,.bool p3)],[]⟩
theorem times.wide.Ar:times.wide.L0 N (M+1) n p1 p2 p3=cond ((Bc p2 (-1130:Int))&&(Bc 1 p1)) (times.wide.L0 N M n (Eo .u64 p1 1) (Ad (p2+1)) (cond p3 true ((Gl .u64 p1 1)==(1:Int)))) (bif (Bc p2 (-1130:Int)) then cond (F0 0 (-1074:Int) true) (some (.tup [.int .u64 (Gr n 0 (-1074:Int) true),.int .u8 (Gq n 0 (-1074:Int) true)])) none else bif (F0 p1 p2 p3) then some (.tup [.int .u64 (Gr n p1 p2 p3),.int .u8 (Gq n p1 p2 p3)]) else none) :=Et (Ax (Un (Bc p2 (-1130:Int))) (Ax (P7 (Bc p2 (-1130:Int))) (Ax (tt2 (Bc p2 (-1130:Int))) (Co (tt1 _ _) (Ax (Uw p3) (Ax (Te p3) (Ax (Te p3) (Ax (tt6 p3) rfl)))) rfl))))
theorem times.wide.ev:Bv times.wide.E N f185 (Aj f185) [.bool n,.int .u64 m,.int .i64 e,.bool r] =
 times.wide.L0 N N n m e r:=by kernel_rfl
end
def times.Mul.E:=E0 [(209,Ew.P3.spec),(165,soft.Kind.spec),(181,soft.Sign.spec),(182,times.nan.spec),(184,times.norm.spec),(183,times.signed.spec),(185,times.wide.spec)]
theorem times.Mul.ev(N:Nat)(a b:Int):Bv times.Mul.E N f175 (Aj f175) [.int .u64 a,.int .u64 b]=cond (Af a) (bif (Af b) then cond (Af a) (bif (Af b) then cond (Af a&&Af b) (bif (A0h a b) then some (.tup [.int .u64 9221120237041090560,.int .u8 0]) else bif ((((Bb a)==(3:Int))&&((Bb b)==(0:Int)))||(((Bb a)==(0:Int))&&((Bb b)==(3:Int)))) then some (.tup [.int .u64 9221120237041090560,.int .u8 16]) else bif (((Bb a)==(3:Int))||((Bb b)==(3:Int))) then cond (Af 9218868437227405312) (some (.tup [.int .u64 (Xe (!((En a)==(En b))) 9218868437227405312),.int .u8 0])) none else bif (((Bb a)==(0:Int))||((Bb b)==(0:Int))) then cond (Af 0) (some (.tup [.int .u64 (Xe (!((En a)==(En b))) 0),.int .u8 0])) none else bif (Af a&&Qd a) then cond (Af b&&Qd b) (bif (Af (D0 a)&&Af (D0 b)) then cond (Td (Kc .u64 (Cj .u64 (Xh (D0 a) (D0 b)) 20) (Eo .u64 (Ry (D0 a) (D0 b)) 44)) (Ad ((Ad ((Jp a)+(Jp b)))+44))) (some (.tup [.int .u64 (Gr (!((En a)==(En b))) (Kc .u64 (Cj .u64 (Xh (D0 a) (D0 b)) 20) (Eo .u64 (Ry (D0 a) (D0 b)) 44)) (Ad ((Ad ((Jp a)+(Jp b)))+44)) ((Cj .u64 (Ry (D0 a) (D0 b)) 20) !=(0:Int))),.int .u8 (Gq (!((En a)==(En b))) (Kc .u64 (Cj .u64 (Xh (D0 a) (D0 b)) 20) (Eo .u64 (Ry (D0 a) (D0 b)) 44)) (Ad ((Ad ((Jp a)+(Jp b)))+44)) ((Cj .u64 (Ry (D0 a) (D0 b)) 20) !=(0:Int)))])) none else none) none else none) none else none) none else none) none :=Et (Es (Es (Es (Es (Es (Es rfl (Ax (Un ((Bb a)==(3:Int))) (Ax (P7 ((Bb a)==(3:Int))) (Ax (tt2 ((Bb a)==(3:Int))) (Ax (Baq ((Bb a)==(3:Int)) ((Bb b)==(0:Int))) (Ax (A3n ((Bb a)==(3:Int)) ((Bb b)==(0:Int))) (Ax (A3n ((Bb a)==(3:Int)) ((Bb b)==(0:Int))) (Ax (Bar ((Bb a)==(3:Int)) ((Bb b)==(0:Int)) ((Bb a)==(0:Int))) (Ax (Bas ((Bb a)==(3:Int)) ((Bb b)==(0:Int)) ((Bb a)==(0:Int))) (Ax (Bat ((Bb a)==(3:Int)) ((Bb b)==(0:Int)) ((Bb a)==(0:Int))) (Ax (Bau ((Bb a)==(3:Int)) ((Bb b)==(0:Int))) (Co (Bav _ _ _ _) rfl (Ax (Uw ((Bb a)==(3:Int))) (Ax (Te ((Bb a)==(3:Int))) (Ax (tt6 ((Bb a)==(3:Int))) (Co (tt5 _ _) rfl (Ax (Uw ((Bb a)==(0:Int))) (Ax (Te ((Bb a)==(0:Int))) (Ax (tt6 ((Bb a)==(0:Int))) (Co (tt5 _ _) rfl rfl)))))))))))))))))))) rfl) rfl) rfl) rfl) rfl)
def times.Div.hint:Nat->Option A9
 | 1=>some { keep:=[6,10,11,12,13,14,78],objs:=[],boxes:=[] }
 | _=>none
def times.Div.E:=C6 (Cw [(165,soft.Kind.spec),(181,soft.Sign.spec),(182,times.nan.spec),(184,times.norm.spec),(183,times.signed.spec),(185,times.wide.spec)]) (fun _=>false) times.Div.hint (fun _=>none)
section
variable(N M:Nat)(a b p13 p14 p78:Int)
def times.Div.L0:Option DV:=B2 times.Div.E N f144 (Aj f144) [1,1,1,1,1,1,1,0,1,0] [] M ⟨F3 104 [(6,.bool (!((En a)==(En b)))),(10,.int .i64 (Jp a)),(11,.int .u64 (D0 b)),(12,.int .i64 (Jp b)),(13,.int .u64 p13),(14,.int .u64 p14),(78,.int .i64 p78)],[]⟩
theorem times.Div.Ar:times.Div.L0 N (M+1) a b p13 p14 p78=cond (Bc p78 61) (bif (Fb (D0 b) (Cj .u64 p14 1)) then times.Div.L0 N M a b (Kc .u64 (Cj .u64 p13 1) 1) (Bo ((Cj .u64 p14 1)-(D0 b))) (Ad (p78+1)) else times.Div.L0 N M a b (Cj .u64 p13 1) (Cj .u64 p14 1) (Ad (p78+1))) (bif (Td p13 (Ad ((Ad ((Jp a)-(Jp b)))-61))) then some (.tup [.int .u64 (Gr (!((En a)==(En b))) p13 (Ad ((Ad ((Jp a)-(Jp b)))-61)) (p14 !=(0:Int))),.int .u8 (Gq (!((En a)==(En b))) p13 (Ad ((Ad ((Jp a)-(Jp b)))-61)) (p14 !=(0:Int)))]) else none):=by kernel_rfl
theorem times.Div.ev:Bv times.Div.E N f144 (Aj f144) [.int .u64 a,.int .u64 b]=cond (Af a) (bif (Af b) then cond (Af a) (bif (Af b) then cond (Af a&&Af b) (bif (A0h a b) then some (.tup [.int .u64 9221120237041090560,.int .u8 0]) else bif ((((Bb a)==(3:Int))&&((Bb b)==(3:Int)))||(((Bb a)==(0:Int))&&((Bb b)==(0:Int)))) then some (.tup [.int .u64 9221120237041090560,.int .u8 16]) else bif ((Bb a)==(3:Int)) then cond (Af 9218868437227405312) (some (.tup [.int .u64 (Xe (!((En a)==(En b))) 9218868437227405312),.int .u8 0])) none else bif (((Bb b)==(3:Int))||((Bb a)==(0:Int))) then cond (Af 0) (some (.tup [.int .u64 (Xe (!((En a)==(En b))) 0),.int .u8 0])) none else bif ((Bb b)==(0:Int)) then cond (Af 9218868437227405312) (some (.tup [.int .u64 (Xe (!((En a)==(En b))) 9218868437227405312),.int .u8 8])) none else bif (Af a&&Qd a) then cond (Af b&&Qd b) (bif ((D0 b) !=0) then cond ((D0 b) !=0) (times.Div.L0 N N a b (Bo (zB (D0 a) (D0 b))) (zE (D0 a) (D0 b)) (0:Int)) none else none) none else none) none else none) none else none) none :=Et (Es (Es (Es (Es (Es (Es rfl (Ax (Un ((Bb a)==(3:Int))) (Ax (P7 ((Bb a)==(3:Int))) (Ax (tt2 ((Bb a)==(3:Int))) (Ax (Baq ((Bb a)==(3:Int)) ((Bb b)==(3:Int))) (Ax (A3n ((Bb a)==(3:Int)) ((Bb b)==(3:Int))) (Ax (A3n ((Bb a)==(3:Int)) ((Bb b)==(3:Int))) (Ax (Bar ((Bb a)==(3:Int)) ((Bb b)==(3:Int)) ((Bb a)==(0:Int))) (Ax (Bas ((Bb a)==(3:Int)) ((Bb b)==(3:Int)) ((Bb a)==(0:Int))) (Ax (Bat ((Bb a)==(3:Int)) ((Bb b)==(3:Int)) ((Bb a)==(0:Int))) (Ax (Bau ((Bb a)==(3:Int)) ((Bb b)==(3:Int))) (Co (Bav _ _ _ _) rfl (Es rfl (Ax (Uw ((Bb b)==(3:Int))) (Ax (Te ((Bb b)==(3:Int))) (Ax (tt6 ((Bb b)==(3:Int))) (Co (tt5 _ _) rfl (Es rfl (Es (Es (Co (Cb _) (Co (Cb _) rfl rfl) rfl) rfl) rfl))))))))))))))))))) rfl) rfl) rfl) rfl) rfl)
end
theorem Aop{n:Nat}(h0:n≠0)(h:n<2^64):Go.Lib.bitLen n=n.log2+1:=by
 have h1:=Nat.log2_self_le h0;have h2:=Nat.lt_log2_self (n:=n);have hp:=Cm n.log2
 have e:n / 2^n.log2=1:=by rw[zD] at h2;exact Nat.div_eq_of_lt_le (by omega) (by omega)
 have e1:Go.Lib.bitLen 1=1:=by decide
 rw[Go.Lib.bitLen_shift n.log2 n h1 h,e,e1]
theorem Ew.N2.Ae:Ew.N2.Kn:=by
 refine⟨?_,Ew.N2.call⟩;intro args ha;simp only[Ew.N2.spec,A6] at ha ⊢;cases hd:Ol [.i .u64] args with
 | none=>rw[hd] at ha; cases ha
 | some ats =>
   rw[hd] at ha;simp only at ha ⊢;obtain⟨ds,h1,h2⟩:=Ov hd;obtain⟨x,_,_,rfl,rfl,he⟩:=h1.Aiq;obtain⟨rfl,rfl⟩:=he.Lf;obtain⟨n,rfl,hn⟩:=Bu (x:=x) ha;refine Sh.args ?_ h2;intro w vals I hI hv;obtain⟨u,us,e1,e2,e3⟩:=hv;simp only[Au] at e2;have e3:us=[]:=e3;subst e2 e3;have e4:vals=#[.int .u64 (n:Int)]:=Array.ext' e1;subst e4;refine(Ew.N2.run n w (by omega) (by omega)).mono ?_
   rintro e w' ⟨rfl,rfl⟩
   refine⟨_,fun _=>none,rfl,Go.RowKit.Below.refl _ _,⟨fun i b h=>(by cases h),fun i j b h=>(by cases h)⟩,?_⟩;show Au _ _ (DV.int .i64 (Gt n)) _;simp only[Au];congr 1;unfold Gt;rw[Ber];by_cases h0:n=0
   ·subst h0; rfl
   ·rw[Aop h0 hn,Bfb (by omega)]; rfl
theorem A0z{n:Nat}(hn:n<2^64):0<=Gt n/\Gt n<=64:=by
 unfold Gt;rw[Ber];by_cases h0:n=0
 ·subst h0; decide
 ·have:=(Bf5 h0).2 hn;rw[Bfb (by omega)]; omega
theorem Ew.Di.Ae:Kq 210 Ew.Di.spec:=Eb Ew.Di.E Tryz.func210 (kc Ew.N2.Ae .nil) fun x hp=>by obtain⟨n,rfl,hn⟩:=Bu (x:=x) hp;have:=A0z hn;refine⟨0,Ew.Di.out [.i n],[],?_,.int⟩;rw[Ew.Di.ev,Cr hn,Bep,An (by omega) (by omega)];rfl
theorem M3{a b:Nat}(ha:a<4294967296)(hb:b<4294967296):a*b<=18446744065119617025 :=Bfw (Bfl (show a<=4294967295 by omega) (show b<=4294967295 by omega)) (by decide)
theorem A0k(x y:Nat)(hx:x<2^64)(hy:y<2^64) :
 x*y / 18446744073709551616=(x / 2^32)*(y / 2^32)+((x / 2^32)*(y%2^32)+(x%2^32)*(y%2^32) / 2^32) / 2^32 +
  (((x / 2^32)*(y%2^32)+(x%2^32)*(y%2^32) / 2^32)%2^32+(x%2^32)*(y / 2^32)) / 2^32:=by
 have ex:x=x / 2^32*4294967296+x%2^32:=by omega
 have ey:y=y / 2^32*4294967296+y%2^32:=by omega
 have ha:x / 2^32<4294967296:=by omega
 have hc:y / 2^32<4294967296:=by omega
 have hb:x%2^32<4294967296:=by omega
 have hd:y%2^32<4294967296:=by omega
 generalize x / 2^32=a at *
 generalize x%2^32=b at *
 generalize y / 2^32=c at *
 generalize y%2^32=d at *
 have e:x*y=a*c*18446744073709551616+(a*d+b*c)*4294967296+b*d:=by
  rw[ex,ey,Bft,yh,yh]
  have e1:a*4294967296*(c*4294967296)=a*c*18446744073709551616:=by rw[xh]
  have e2:a*4294967296*d=a*d*4294967296:=vj _ _ _;have e3:b*(c*4294967296)=b*c*4294967296:=(Bfg _ _ _).symm;rw[e1,e2,e3];omega
 have b1:=M3 ha hc;have b2:=M3 ha hd;have b3:=M3 hb hc;have b4:=M3 hb hd;rw[e];clear e ex ey;generalize a*c=p at *
 generalize a*d=q at *
 generalize b*c=r at *
 generalize b*d=s at *
 omega
theorem Ew.P3.Ae:Kq 209 Ew.P3.spec:=Eb Ew.P3.E Tryz.func209 .nil fun x y hp=>by
 obtain⟨h1,h2⟩:=Ac.1 hp;obtain⟨x,rfl,hx⟩:=Bu h1;obtain⟨y,rfl,hy⟩:=Bu h2;refine⟨0,Ew.P3.out [.i x,.i y],[],?_,Wk.Ik (.cons .int (.cons .int .nil))⟩;show _=some (DV.tup [.int .u64 (Xh x y),.int .u64 (Ry x y)]);have s32:∀n:Nat,Eo .u64 (n:Int) (32:Int)=((n / 2^32:Nat):Int):=fun n=>J3 .u64 n 32 (by decide)
 have m32:∀n:Nat,n<2^64->Gl .u64 (n:Int) (4294967295:Int)=((n%2^32:Nat):Int):=fun n hn=>Li 32 hn (by decide)
 have ha:x / 2^32<4294967296:=by omega
 have hc:y / 2^32<4294967296:=by omega
 have hb:x%2^32<4294967296:=by omega
 have hd:y%2^32<4294967296:=by omega
 have b1:=M3 ha hc;have b2:=M3 ha hd;have b3:=M3 hb hc;have b4:=M3 hb hd;have hhi:=A0k x y hx hy;have wn:∀n:Nat,n<2^64->Bo (n:Int)=n:=fun n hn=>Dx (by omega) (by omega)
 have hlt:x*y / 18446744073709551616<2^64:=by rw[yI (by decide)];have:=Bfl (show x<=18446744073709551615 by omega) (show y<=18446744073709551615 by omega);omega
 rw[Ew.P3.ev];simp only[s32,m32 x hx,m32 y hy];generalize hA:x / 2^32=a at *
 generalize hB:x%2^32=b at *
 generalize hC:y / 2^32=c at *
 generalize hD:y%2^32=d at *
 simp only[<- Bfa];rw[wn (a*c) (by omega),wn (a*d) (by omega),wn (b*c) (by omega),wn (b*d) (by omega),s32];simp only[<- yu];rw[wn (a*d+b*d / 2^32) (by omega),s32,m32 _ (by omega)];simp only[<- yu];rw[wn (a*c+(a*d+b*d / 2^32) / 2^32) (by omega),wn _ (by omega),s32];simp only[<- yu];rw[<- hhi,wn _ hlt];unfold Xh Ry;rw[Ber,Ber,Si];congr 3
theorem times.signed.Ae:Kq 183 times.signed.spec:=Eb times.signed.E Tryz.func183 (kc soft.Eg.Ae .nil) fun b n hp=>by have hp:Af b=true:=hp;refine⟨0,times.signed.out [.i b,.b n],[],?_,.int⟩;rw[times.signed.ev,hp];cases n<;>rfl
theorem times.nan.Ae:Kq 182 times.nan.spec:=Eb times.nan.E Tryz.func182 (kc soft.Kind.Ae .nil) fun a b hp=>by
 obtain⟨ha,hb⟩:=Ac.1 hp;refine⟨0,times.nan.out [.i a,.i b],[],?_,.bool⟩;rw[times.nan.ev,ha,hb,Bep,Bep];show _=some (DV.bool (decide (Bb a=4)||decide (Bb b=4)));by_cases h1:Bb a=4
 ·rw[h1]; rfl
 ·have e1:(Bb a==(4:Int))=false:=by simp; exact h1
  rw[e1,Beu h1,Bet];by_cases h2:Bb b=4
  ·rw[h2]; rfl
  ·have e2:(Bb b==(4:Int))=false:=by simp; exact h2
   rw[e2,Beu h2]; rfl
theorem Sw{n:Nat}(h:Ap n≠0):(Ap n).log2<=52/\2^52<=Ap n*2^Cx n/\Ap n*2^Cx n<2^53/\Cx n<=52:=by
 have h1:=F8 n;have h2:(Ap n).log2<53:=(Bf5 h).2 (by omega);have hz:=O9 (Ap n) (Cx n) h;have hne:Ap n*2^Cx n≠0:=Ko h;have hl:(Ap n*2^Cx n).log2=52:=by rw[hz]; unfold Cx; omega
 refine⟨by omega,?_,?_,by unfold Cx; omega⟩
 ·rw[<- Nat.le_log2 hne]; omega
 ·rw[<- Bf5 hne]; omega
theorem times.norm.Ae:Kq 184 times.norm.spec:=Eb times.norm.E Tryz.func184 (kc Ew.Di.Ae (kc soft.Hg.Ae .nil)) fun b hp=>by
 obtain⟨h1,h2⟩:=Ac.1 hp;obtain⟨n,rfl,hn⟩:=Bu h1;have h2:Ap n≠0:=Ak.1 h2;obtain⟨l1,l2,l3,l4⟩:=Sw h2;have hM:=F8 n;have hE:=Da n;refine⟨0,times.norm.out [.i n],[],?_,Wk.Ik (.cons .int (.cons .int .nil))⟩;show _=some (DV.tup [.int .u64 (D0 n),.int .i64 (Jp n)]);have e1:B4 (n:Int)=(Ap n:Int):=rfl;have e2:Bn (n:Int)=Aw n:=rfl
 have e3:Gt (Ap n:Int)=((Ap n).log2:Int)+1:=by unfold Gt;rw[Bfb (by omega),Ber]
 have e4:Ad ((64-(((Ap n).log2:Int)+1))-(11:Int))=((Cx n:Nat):Int):=by rw[An (by omega) (by omega)]; unfold Cx; omega
 rw[times.norm.ev,Cr hn,e1,e2,Cr (n:=Ap n) (by omega),e3,e4,He _ _ (by omega),Be2 (by omega),An (by omega) (by omega),Beq (by omega)];rfl
theorem Aur{V t:Nat}{E:Int}(h0:V≠0)(h:V<2^t)(hE:E+t<=-1075):B9 V E=0/\flagsOf V E=3:=by
 have hl:V.log2<t:=(Bf5 h0).2 h;have hL:Ca V E=-1074:=by unfold Ca; omega
 obtain⟨k,hk⟩:∃k:Nat,(-1074-E).toNat=t+1+k:=⟨(-1074-E).toNat-t-1,by omega⟩
 have hp:2^(t+1)<=2^(t+1+k):=Be4 (by decide) (by omega);have ht:2^(t+1)=2*2^t:=by rw[zD]; omega
 have e2:(-(-1074-E)).toNat=0:=by omega
 have hr:Lk V (-1074-E)=0:=by unfold Lk K8;rw[e2,hk,Bfn,Bfy,yc (by omega),Be2 (by omega),Bfb (by omega)]
 have hru:B9 V E=0:=by unfold B9 kept;rw[Bfb h0,hL,hr];simp
 refine⟨hru,?_⟩;unfold flagsOf exact Qw;rw[Bfb h0,hru,hL,e2,hk,Bfn,Bfy,Be2 (by omega),Beu h0];decide
theorem Av8(n:Bool){m:Nat}{e:Int}(r:Bool)(hm:1<m)(he:e < -1130):Ie n (m / 2) (e+1) (r||decide (m%2=1))=Ie n m e r:=by
 have e1:(4*m+r.toNat) / 2^3=m / 2:=by cases r<;>simp<;>omega
 have e2:(r||decide (m%2=1))=decide ((4*m+r.toNat)%2^3≠0):=by
  rw[Be5];cases r
  ·simp; omega
  ·simp; omega
 have:=Zo n (V:=4*m+r.toNat) (k:=3) (E:=e-2) (e:=e+1) (s:=r||decide (m%2=1)) (by omega) e2 (by omega) (.inr (by omega));rw[e1] at this;exact this
theorem Zn(n:Bool){e:Int}(r:Bool)(he:e < -1130):Ie n 1 e r=Ie n 0 (-1074) true:=by
 have h1:r.toNat<=1:=by cases r<;>decide
 obtain⟨a1,a2⟩:=Aur (V:=4*1+r.toNat) (t:=3) (E:=e-2) (by omega) (by omega) (by omega);obtain⟨b1,b2⟩:=Aur (V:=4*0+true.toNat) (t:=1) (E:=-1074-2) (by decide) (by decide) (by decide);unfold Ie;rw[a1,a2,b1,b2]
theorem Aue(N:Nat)(n:Bool):∀(k m:Nat) (e:Int) (r:Bool),1<=m->m<2^62->m<=2^k->-7000<=e->e<=6000->(2^60<=m\/e<=-1130) ->
 times.wide.L0 N (k+1) n (m:Int) e r=some (.tup [.int .u64 (((Ie n m e r).1:Nat):Int),.int .u8 (((Ie n m e r).2:Nat):Int)]):=by
 intro k
 induction k with
 | zero =>
   intro m e r h1 h2 h3 h4 h5 h6;have hm:m=1:=by simp at h3; omega
   subst hm;rw[times.wide.Ar,As,As];have c1:decide ((1:Int)<((1:Nat):Int))=false:=by decide
   rw[c1,xU,Bet];by_cases he:e < -1130
   ·have hp:F0 (0:Int) (-1074:Int) true=true:=Ak.2 (by omega);rw[Beq he,Bep,hp,Bep,Zn n r he];rfl
   ·have he:e=-1130:=by omega
    subst he;have hp:F0 ((1:Nat):Int) (-1130:Int) r=true:=Ak.2 (by omega);rw[Beu (by omega),Bet,hp,Bep];rfl
 | succ k ih =>
   intro m e r h1 h2 h3 h4 h5 h6;rw[times.wide.Ar,As,As];by_cases he:e < -1130
   ·by_cases hm:1<m
    ·have c1:decide ((1:Int)<(m:Int))=true:=Beq (by omega);have e1:Eo .u64 (m:Int) (1:Int)=((m / 2:Nat):Int):=J3 .u64 m 1 (by decide);have e2:Gl .u64 (m:Int) (1:Int)=((m%2:Nat):Int):=Li (a:=m) 1 (by omega) (by decide)
     have e3:(cond r true ((Gl .u64 (m:Int) (1:Int))==(1:Int)))=(r||decide (m%2=1)):=by
      rw[e2];cases r
      ·rw[Be5]; simp; omega
      ·rfl
     rw[Beq he,c1,Bev,Bep,e1,e3,An (by omega) (by omega)];have hk:m / 2<=2^k:=by rw[zD] at h3; omega
     rw[ih (m / 2) (e+1) _ (by omega) (by omega) hk (by omega) (by omega) (.inr (by omega)),Av8 n r hm he]
    ·have hm:m=1:=by omega
     subst hm;have c1:decide ((1:Int)<((1:Nat):Int))=false:=by decide
     have hp:F0 (0:Int) (-1074:Int) true=true:=Ak.2 (by omega);rw[c1,xU,Bet,Beq he,Bep,hp,Bep,Zn n r he];rfl
   ·have hp:F0 (m:Int) e r=true:=Ak.2 ⟨by omega,by omega,by omega,.inl (by omega),fun _=>by omega⟩;rw[Beu he,zO,Bet,Bet,hp,Bep];rfl
theorem times.wide.Ae:Kq 185 times.wide.spec:=Eb times.wide.E Tryz.func185 (kc soft.Ex.Ae .nil) fun n m e r hp=>by
 obtain⟨h1,h2,h3,h4⟩:=Ak.1 (show Td m e=true from hp);obtain⟨m,rfl⟩:∃k:Nat,m=k:=⟨m.toNat,by omega⟩
 refine⟨63,times.wide.out [.b n,.i m,.i e,.b r],[],?_,Wk.Ik (.cons .int (.cons .int .nil))⟩;rw[times.wide.ev,Aue 63 n 62 m e r (by omega) (by omega) (by omega) (by omega) (by omega) (.inl (by omega))];rfl
def Bg.Neg.E:=E0 []
theorem Bg.Neg.ev(N:Nat)(x:Int):Bv Bg.Neg.E N f102 (Aj f102) [.int .u64 x]=some (.bool ((Bo (zB x 9223372036854775808))==(1:Int))):=by kernel_rfl
def Bg.Power.E:=E0 []
theorem Bg.Power.ev(N:Nat)(x:Int):Bv Bg.Power.E N f101 (Aj f101) [.int .u64 x]=some (.int .i64 (Ad (Bo (zB (zE x 9223372036854775808) 4503599627370496)))):=by kernel_rfl
def Bg.Uq.E:=E0 []
theorem Bg.Uq.ev(N:Nat)(x:Int):Bv Bg.Uq.E N f100 (Aj f100) [.int .u64 x]=some (.int .u64 (zE x 4503599627370496)):=by kernel_rfl
def Bg.Kind.E:=E0 [(100,Bg.Uq.spec),(101,Bg.Power.spec)]
theorem Bg.Kind.ev(N:Nat)(x:Int):Bv Bg.Kind.E N f58 (Aj f58) [.int .u64 x]=cond (R9 x) (bif ((Qb x)==(2047:Int)) then cond (R9 x) (bif ((Dv x)==(0:Int)) then some (.int .i64 3) else some (.int .i64 4)) none else bif (R9 x) then cond (Bc 0 (Qb x)) (some (.int .i64 2)) (bif (R9 x) then cond (Bc 0 (Dv x)) (some (.int .i64 1)) (some (.int .i64 0)) else none) else none) none:=by kernel_rfl
def Bg.Finite.E:=E0 [(101,Bg.Power.spec)]
theorem Bg.Finite.ev(N:Nat)(x:Int):Bv Bg.Finite.E N f114 (Aj f114) [.int .u64 x]=cond (R9 x) (some (.bool (Bc (Qb x) 2047))) none:=by kernel_rfl
def Bg.Eg.E:=E0 [(102,Bg.Neg.spec)]
theorem Bg.Eg.ev(N:Nat)(x:Int):Bv Bg.Eg.E N f86 (Aj f86) [.int .u64 x]=cond (Af x) (bif (En x) then some (.int .u64 (Bo (x-9223372036854775808))) else some (.int .u64 (Bo (x+9223372036854775808)))) none:=by kernel_rfl
def Ht.Canon.E:=E0 [(58,Bg.Kind.spec)]
theorem Ht.Canon.ev(N:Nat)(x:Int):Bv Ht.Canon.E N f186 (Aj f186) [.int .u64 x]=cond (R9 x) (bif ((Bb x)==(4:Int)) then some (.int .u64 9221120237041090560) else some (.int .u64 x)) none:=by kernel_rfl
abbrev Ht.Canon.nb.Kn:Prop:=E8 prog 186 Ht.Canon.nb.spec
theorem L4(n m:Nat):zB (n:Int) (m:Int)=((n / m:Nat):Int):=rfl
theorem Lz(n m:Nat):zE (n:Int) (m:Int)=((n%m:Nat):Int):=rfl
theorem A6t:(9223372036854775808:Int)=((2^63:Nat):Int):=rfl
theorem A6u:(4503599627370496:Int)=((2^52:Nat):Int):=rfl
theorem Bg.Neg.Ae:Kq 102 Bg.Neg.spec:=Eb Bg.Neg.E Tryz.func102 .nil fun x hp=>by obtain⟨n,rfl,hn⟩:=Bu (x:=x) hp;refine⟨0,Bg.Neg.out [.i n],[],?_,.bool⟩;rw[Bg.Neg.ev,A6t,L4,Dx (by omega) (by omega)];show _=some (DV.bool (En n));unfold En Be;rw[Ber];congr 2;rw[Be5];simp only[beq_iff_eq,Bew];omega
theorem Bg.Power.Ae:Kq 101 Bg.Power.spec:=Eb Bg.Power.E Tryz.func101 .nil fun x hp=>by
 obtain⟨n,rfl⟩:=Zp (x:=x) hp;refine⟨0,Bg.Power.out [.i n],[],?_,.int⟩;rw[Bg.Power.ev,A6t,A6u,Lz,L4,Dx (by omega) (by omega),An (by omega) (by omega)];show _=some (DV.int .i64 (Qb n));unfold Qb D7;rw[Ber];congr 2;have:n%2^63 / 2^52=n / 2^52%2048:=by omega
 rw[this]
theorem Bg.Uq.Ae:Kq 100 Bg.Uq.spec:=Eb Bg.Uq.E Tryz.func100 .nil fun x hp=>by obtain⟨n,rfl⟩:=Zp (x:=x) hp;refine⟨0,Bg.Uq.out [.i n],[],?_,.int⟩;rw[Bg.Uq.ev,A6u,Lz];rfl
theorem Bg.Kind.Ae:Kq 58 Bg.Kind.spec:=Eb Bg.Kind.E Tryz.func58 (kc Bg.Uq.Ae (kc Bg.Power.Ae .nil)) fun x hp=>by
 obtain⟨n,rfl⟩:=Zp (x:=x) hp;refine⟨0,Bg.Kind.out [.i n],[],?_,.int⟩;rw[Bg.Kind.ev,No];show _=some (DV.int .i64 (Bb n));unfold Bb Ag Qb Dv;simp only[Ber,Bep,As];have:=K9 n;by_cases h1:D7 n=2047
 ·by_cases h2:Dc n=0
  ·simp[h1,h2]
  ·have:((Dc n:Int)==0)=false:=by simp; exact h2
   simp[h1,this,h2]
 ·have h1':((D7 n:Int)==2047)=false:=by simp; omega
  rw[h1'];by_cases h3:0<D7 n
  ·simp[h1,h3]
  ·by_cases h4:0<Dc n
   ·simp[h1,h3,h4]
   ·simp[h1,h3,h4]
theorem Bg.Finite.Ae:Kq 114 Bg.Finite.spec:=Eb Bg.Finite.E Tryz.func114 (kc Bg.Power.Ae .nil) fun x hp=>by obtain⟨n,rfl,hn⟩:=Bu (x:=x) hp;refine⟨0,Bg.Finite.out [.i n],[],?_,.bool⟩;rw[Bg.Finite.ev,No,Bep,As];show _=some (DV.bool (Dl n));unfold Dl Iy Qb;rw[Ber];have:decide ((D7 n:Int)<2047)=decide (D7 n<2047):=decide_eq_decide.2 (by omega);rw[this]
theorem Bg.Eg.Ae:Kq 86 Bg.Eg.spec:=Eb Bg.Eg.E Tryz.func86 (kc Bg.Neg.Ae .nil) fun x hp=>by
 obtain⟨n,rfl,hn⟩:=Bu (x:=x) hp;refine⟨0,Bg.Eg.out [.i n],[],?_,.int⟩;rw[Bg.Eg.ev,Cr hn,Bep];show _=some (DV.int .u64 (B7 n));unfold B7 Fz En Be;rw[Ber,Si,Si];by_cases h:2^63<=n
 ·have e:((n:Int)-9223372036854775808)%18446744073709551616=((n-2^63:Nat):Int):=by omega
  rw[Bfc h,Beq h,Bep,e]
 ·have e:((n:Int)+9223372036854775808)%18446744073709551616=((n+2^63:Nat):Int):=by omega
  rw[Bfb h,Beu h,Bet,e]
theorem Ht.Canon.Ae:Kq 186 Ht.Canon.spec:=Eb Ht.Canon.E Tryz.func186 (kc Bg.Kind.Ae .nil) fun x hp=>by
 obtain⟨n,rfl⟩:=Zp (x:=x) hp;refine⟨0,Ht.Canon.out [.i n],[],?_,.int⟩;rw[Ht.Canon.ev,No,Bep];show _=some (DV.int .u64 (Age n));unfold Age E5 Bb;rw[Ber];by_cases h:Ag n=4
 ·have:((Ag n:Int)==4)=true:=by simp; omega
  rw[this,Bfc h]; rfl
 ·have:((Ag n:Int)==4)=false:=by simp; omega
  rw[this,Bfb h]; rfl
theorem Aw3{n m:Nat}(h:Ur n m):E5 n=E5 m:=by
 rcases h with rfl | ⟨h1,h2⟩
 ·rfl
 ·unfold Hl at h1 h2;rw[Ae1 n] at h1;rw[Ae1 m] at h2;unfold E5;rw[Bfc (Bff h1),Bfc (Bff h2)]
theorem A4m{c:Ctx}{w:World}{d:DV}{vs:List Value}(h:Bh c w [d] vs):∃v,vs=[v]/\Au c w d v:=by simp only[Bh] at h;obtain⟨u,us,rfl,hv,rfl⟩:=h;exact⟨u,rfl,hv⟩
theorem Ht.Canon.A0f:Ht.Canon.nb.Kn:=by
 refine⟨fun args ha=>?_,Ht.Canon.Ae.call⟩;unfold Ht.Canon.nb.spec A6 at ha ⊢;simp only at ha ⊢;cases hd:Ol [.nb] args with
 | none=>rw[hd] at ha; cases ha
 | some bs =>
   rw[hd] at ha;obtain⟨ds,h1,h2⟩:=Ov hd;obtain⟨x,_,_,rfl,rfl,he⟩:=h1.A8b;obtain⟨rfl,rfl⟩:=he.Lf;refine Sh.args (args:=[.nb x]) ?_ h2;intro w vals I hI hl;obtain⟨v,hv,hr⟩:=A4m hl;simp only[Au] at hr;obtain⟨m,rfl,hm⟩:=hr
   have e:Ht.Canon.nb.out [.f x]=Ht.Canon.spec.out [.int .u64 (m:Int)]:=by show DV.int .u64 (H0 x)=DV.int .u64 (Age (m:Int));unfold H0 Age;rw[Ber,Aw3 hm]
   show Calls _ _ _ _ fun e' w'=>∃v own,e'=.returned v/\Go.RowKit.Below w.heap.size w w'/\Auc own w w'/\Au (E4 I own w w') w' (Ht.Canon.nb.out [.f x]) v
   rw[e];exact Ht.Canon.Ae.meets [.int .u64 (m:Int)] (No m) w vals I hI (by rw[hv]; exact⟨_,_,rfl,rfl,rfl⟩)
theorem Sp{b:Nat}(h0:Ag b≠0)(h3:Ag b≠3)(h4:Ag b≠4):Ap b≠0:=by
 have:=K9 b;unfold Ag at h0 h3 h4;unfold Ap;by_cases h1:D7 b=2047
 ·rw[Bfc h1] at h3 h4;by_cases h2:Dc b=0
  ·rw[Bfc h2] at h3; exact absurd rfl h3
  ·rw[Bfb h2] at h4; exact absurd rfl h4
 ·rw[Bfb h1] at h0;by_cases h2:0<D7 b
  ·rw[Bfb (by omega)]; omega
  ·rw[Bfb h2] at h0;by_cases h5:0<Dc b
   ·rw[Bfc (by omega)]; omega
   ·rw[Bfb h5] at h0; exact absurd rfl h0
theorem Abd{b:Nat}(h0:Ag b=0):Ap b=0:=by
 unfold Ag at h0;unfold Ap;by_cases h1:D7 b=2047
 ·rw[Bfc h1] at h0; split at h0<;>omega
 ·rw[Bfb h1] at h0;by_cases h2:0<D7 b
  ·rw[Bfc h2] at h0; omega
  ·rw[Bfb h2] at h0;by_cases h5:0<Dc b
   ·rw[Bfc h5] at h0; omega
   ·rw[Bfc (by omega)]; omega
theorem Aq0{x y:Nat}(hx1:2^52<=x)(hx2:x<2^53)(hy1:2^52<=y)(hy2:y<2^53):2^104<=x*y/\x*y<2^106:=by have h1:=Bfl hx1 hy1;have h2:x*y<2^53*2^53:=Nat.mul_lt_mul'' hx2 hy2;exact⟨Bfw (by decide) h1,Bf0 h2 (by decide)⟩
theorem A4i{V:Nat}(h:V<2^106):Kc .u64 (Cj .u64 ((V / 18446744073709551616:Nat):Int) (20:Int)) (Eo .u64 ((V%18446744073709551616:Nat):Int) (44:Int))=((V / 2^44:Nat):Int):=by have e1:Cj .u64 ((V / 18446744073709551616:Nat):Int) (20:Int)=((V / 18446744073709551616*2^20%2^64:Nat):Int):=He _ 20 (by decide);have e2:Eo .u64 ((V%18446744073709551616:Nat):Int) (44:Int)=((V%18446744073709551616 / 2^44:Nat):Int):=J3 .u64 _ 44 (by decide);rw[e1,e2,Be2 (by omega),Rf (k:=20) (by omega) (by omega)];congr 1;omega
theorem A4h{V:Nat}:((Cj .u64 ((V%18446744073709551616:Nat):Int) (20:Int)) !=(0:Int))=decide (V%2^44≠0):=by have e1:Cj .u64 ((V%18446744073709551616:Nat):Int) (20:Int)=((V%18446744073709551616*2^20%2^64:Nat):Int):=He _ 20 (by decide);rw[e1,Be5];simp only[bne_iff_ne,ne_eq,Bew];omega
theorem Akj(s t:Bool):(!(s==t))=(s !=t):=rfl
theorem w53{x:Nat}(h:x<2^53):Af (x:Int)=true:=Cr (by omega)
theorem A4r(n:Bool){a b:Nat}(ha:Ap a≠0)(hb:Ap b≠0) :
 (bif (Af (D0 a)&&Af (D0 b)) then
  bif (Td (Kc .u64 (Cj .u64 (Xh (D0 a) (D0 b)) (20:Int)) (Eo .u64 (Ry (D0 a) (D0 b)) (44:Int))) (Ad ((Ad ((Jp a)+(Jp b)))+(44:Int)))) then
   some (DV.tup [.int .u64 (Gr n (Kc .u64 (Cj .u64 (Xh (D0 a) (D0 b)) (20:Int)) (Eo .u64 (Ry (D0 a) (D0 b)) (44:Int))) (Ad ((Ad ((Jp a)+(Jp b)))+(44:Int))) ((Cj .u64 (Ry (D0 a) (D0 b)) (20:Int)) !=(0:Int))),.int .u8 (Gq n (Kc .u64 (Cj .u64 (Xh (D0 a) (D0 b)) (20:Int)) (Eo .u64 (Ry (D0 a) (D0 b)) (44:Int))) (Ad ((Ad ((Jp a)+(Jp b)))+(44:Int))) ((Cj .u64 (Ry (D0 a) (D0 b)) (20:Int)) !=(0:Int)))])
  else none
 else none)=some (.tup [.int .u64 ((Bf n (B9 (Ap a*Ap b) (Aw a+Aw b)):Nat):Int),.int .u8 ((flagsOf (Ap a*Ap b) (Aw a+Aw b):Nat):Int)]):=by
 obtain⟨a1,a2,a3,a4⟩:=Sw ha;obtain⟨b1,b2,b3,b4⟩:=Sw hb;have ea:=Da a;have eb:=Da b;have ma:D0 (a:Int)=((Ap a*2^Cx a:Nat):Int):=rfl;have mb:D0 (b:Int)=((Ap b*2^Cx b:Nat):Int):=rfl;have na:Jp (a:Int)=Aw a-Cx a:=rfl;have nb:Jp (b:Int)=Aw b-Cx b:=rfl;have hi:Xh (D0 a) (D0 b)=((Ap a*2^Cx a*(Ap b*2^Cx b) / 18446744073709551616:Nat):Int):=rfl;have lo:Ry (D0 a) (D0 b)=((Ap a*2^Cx a*(Ap b*2^Cx b)%18446744073709551616:Nat):Int):=rfl;rw[hi,lo,ma,mb,na,nb,w53 a3,w53 b3,Bev,Bep];obtain⟨v1,v2⟩:=Aq0 a2 a3 b2 b3
 have ev:Ap a*2^Cx a*(Ap b*2^Cx b)=Ap a*Ap b*2^(Cx a+Cx b):=by rw[xh,<- Bfe]
 obtain⟨s1,s2⟩:=D1 (Ap a*Ap b) (Cx a+Cx b) (Aw a+Aw b);rw[<- ev] at s1 s2;generalize Ap a*2^Cx a*(Ap b*2^Cx b)=V at *
 rw[A4i v2,A4h,An (x:=_+_) (by rw[An (by omega) (by omega)]; omega) (by rw[An (by omega) (by omega)]; omega),An (by omega) (by omega)];have hw:Td ((V / 2^44:Nat):Int) (Aw a-Cx a+(Aw b-Cx b)+44)=true:=Ak.2 ⟨by omega,by omega,by omega,by omega⟩;rw[hw,Bep];unfold Gr Gq;rw[Ber,Zo n (V:=V) (k:=44) (E:=Aw a+Aw b-((Cx a+Cx b:Nat):Int)) (e:=Aw a-Cx a+(Aw b-Cx b)+44) (s:=decide (V%2^44≠0)) (by omega) rfl (by omega) (.inl (by omega)),s1,s2]
theorem kq(b k:Nat):(((Ag b:Nat):Int)==((k:Nat):Int))=decide (Ag b=k):=by rw[Be5]; simp only[beq_iff_eq,Bew]; omega
theorem Ahv(n:Bool){r:Nat}(h:r<2^63):Xe n (r:Int)=((Bf n r:Nat):Int):=by
 unfold Xe Bf B7;cases n
 ·rfl
 ·simp only[if_true];rw[Ber,Ae6 h]
theorem Anz(n:Bool):Xe n (9218868437227405312:Int)=((Bf n Ea:Nat):Int):=Ahv n (r:=Ea) (by decide)
theorem Ahb(n:Bool):Xe n (0:Int)=((Bf n 0:Nat):Int):=Ahv n (r:=0) (by decide)
theorem Ws(b:Nat):Bb (b:Int)=((Ag b:Nat):Int):=rfl
theorem Atj(a b:Nat):A0h (a:Int) (b:Int)=(decide (Ag a=4)||decide (Ag b=4)):=by unfold A0h Bb;simp only[Ber];rw[Be5];simp only[zK,Bew];omega
theorem k3(b:Nat):(((Ag b:Nat):Int)==(3:Int))=decide (Ag b=3):=kq b 3
theorem k0(b:Nat):(((Ag b:Nat):Int)==(0:Int))=decide (Ag b=0):=kq b 0
theorem times.Mul.Ae:Kq 175 times.Mul.spec:=Eb times.Mul.E Tryz.func175 (kc Ew.P3.Ae (kc soft.Kind.Ae (kc soft.Sign.Ae (kc times.nan.Ae (kc times.norm.Ae (kc times.signed.Ae (kc times.wide.Ae .nil))))))) fun a b hp=>by
 obtain⟨ha,hb⟩:=Ac.1 hp;obtain⟨a,rfl,hn⟩:=Bu ha;obtain⟨b,rfl,hm⟩:=Bu hb;refine⟨0,times.Mul.out [.i a,.i b],[],?_,Wk.Ik (.cons .int (.cons .int .nil))⟩;have i1:Af (9218868437227405312:Int)=true:=Cr (n:=9218868437227405312) (by decide);have i2:Af (0:Int)=true:=Cr (n:=0) (by decide);rw[times.Mul.ev,ha,hb,Atj,Ws,Ws,k3,k3,k0,k0,i1,i2,Anz,Ahb,Akj];show _=some (DV.tup [.int .u64 (((E7 a b).1:Nat):Int),.int .u8 (((E7 a b).2:Nat):Int)]);have ea:En (a:Int)=Be a:=rfl;have eb:En (b:Int)=Be b:=rfl;rw[ea,eb];unfold E7;simp only[Bev,Bep];by_cases h4:Ag a=4\/Ag b=4
 ·have c4:(decide (Ag a=4)||decide (Ag b=4))=true:=by simp; exact h4
  rw[Bfc h4,c4,Bep]; rfl
 ·have c4:(decide (Ag a=4)||decide (Ag b=4))=false:=by simp; omega
  rw[Bfb h4,c4,Bet];by_cases h3:Ag a=3\/Ag b=3
  ·rw[Bfc h3];by_cases h0:Ag a=0\/Ag b=0
   ·have c0:(decide (Ag a=3)&&decide (Ag b=0)||decide (Ag a=0)&&decide (Ag b=3))=true:=by simp; omega
    rw[Bfc h0,c0,Bep]; rfl
   ·have c0:(decide (Ag a=3)&&decide (Ag b=0)||decide (Ag a=0)&&decide (Ag b=3))=false:=by simp; omega
    have c3:(decide (Ag a=3)||decide (Ag b=3))=true:=by simp; omega
    rw[Bfb h0,c0,Bet,c3,Bep]; rfl
  ·have c0:(decide (Ag a=3)&&decide (Ag b=0)||decide (Ag a=0)&&decide (Ag b=3))=false:=by simp; omega
   have c3:(decide (Ag a=3)||decide (Ag b=3))=false:=by simp; omega
   rw[Bfb h3,c0,Bet,c3,Bet];by_cases h0:Ag a=0\/Ag b=0
   ·have c5:(decide (Ag a=0)||decide (Ag b=0))=true:=by simp; exact h0
    have hz:Ap a*Ap b=0:=by
     rcases h0 with h | h
     ·rw[Abd h,Nat.zero_mul]
     ·rw[Abd h,Nat.mul_zero]
    rw[c5,Bep,hz,Wf,Tx]; rfl
   ·have c5:(decide (Ag a=0)||decide (Ag b=0))=false:=by simp; omega
    have pa:=Sp (b:=a) (by omega) (by omega) (by omega);have pb:=Sp (b:=b) (by omega) (by omega) (by omega);have na:Qd (a:Int)=true:=Ak.2 pa;have nb:Qd (b:Int)=true:=Ak.2 pb;rw[c5,Bet,na,nb,Bev,Bep,Bep];exact A4r _ pa pb
theorem A1v(N:Nat){a b:Nat}{X Y:Nat}(hY:0<Y)(hY2:Y<2^53)(hX:X<2*Y)(em:D0 (b:Int)=(Y:Int)):∀(k i:Nat),k+i=61 ->
 times.Div.L0 N (k+1) a b ((X*2^i / Y:Nat):Int) ((X*2^i%Y:Nat):Int) (i:Int) =
  times.Div.L0 N 1 a b ((X*2^61 / Y:Nat):Int) ((X*2^61%Y:Nat):Int) (61:Int):=by
 intro k
 induction k with
 | zero =>
   intro i hi;have:i=61:=by omega
   subst this;rfl
 | succ k ih =>
   intro i hi
   have hq:X*2^i / Y<2^62:=by
    rw[yI hY];have h1:X*2^i<2*Y*2^i:=(Nat.mul_lt_mul_right (Cm i)).2 hX
    have h2:2*2^i<=2^62:=by rw[Bfd,<- zD]; exact Be4 (by decide) (by omega)
    have h3:2*2^i*Y<=2^62*Y:=Be1 _ h2;rw[vj] at h1;omega
   have hr:X*2^i%Y<Y:=Nat.mod_lt _ hY;have hd:=Nat.div_add_mod (X*2^i) Y;have e2:X*2^(i+1)=X*2^i*2:=by rw[zD,Bfg]
   rw[times.Div.Ar,As,Fs,em,Beq (by omega),Bep]
   have s1:Cj .u64 ((X*2^i%Y:Nat):Int) (1:Int)=((X*2^i%Y*2:Nat):Int):=by have:=He (X*2^i%Y) 1 (by decide);rw[Be2 (a:=X*2^i%Y*2^1) (by omega)] at this;exact this
   have s2:Cj .u64 ((X*2^i / Y:Nat):Int) (1:Int)=((X*2^i / Y*2^1:Nat):Int):=by have:=He (X*2^i / Y) 1 (by decide);rw[Be2 (a:=X*2^i / Y*2^1) (by omega)] at this;exact this
   have s3:Kc .u64 ((X*2^i / Y*2^1:Nat):Int) (1:Int)=((X*2^i / Y*2^1+1:Nat):Int):=Rf (k:=1) (b:=1) (by decide) (by omega);have ei:Ad ((i:Int)+1)=((i+1:Nat):Int):=by rw[An (by omega) (by omega)]; rfl
   rw[s1,s2,s3,ei];generalize hq':X*2^i / Y=q at *
   generalize hr':X*2^i%Y=r at *
   have step:∀c,X*2^i*2=Y*(2*q+c)+(2*r-c*Y)->c*Y<=2*r->2*r<c*Y+Y->X*2^(i+1) / Y=2*q+c/\X*2^(i+1)%Y=2*r-c*Y:=fun c h1 h2 h3=>by
    rw[e2,h1];constructor
    ·rw[Nat.mul_add_div hY,yc (by omega)]; omega
    ·rw[Nat.mul_add_mod,Be2 (by omega)]
   by_cases hc:Y<=r*2
   ·obtain⟨t1,t2⟩:=step 1 (by rw[yh,Bfy,y4]; omega) (by omega) (by omega);have:=ih (i+1) (by omega);rw[t1,t2] at this;rw[Beq (by omega),Bep,Dx (by omega) (by omega)];have e3:((r*2:Nat):Int)-(Y:Int)=((2*r-1*Y:Nat):Int):=by omega
    have e4:q*2^1+1=2*q+1:=by omega
    rw[e3,e4];exact this
   ·obtain⟨t1,t2⟩:=step 0 (by rw[Bfx,y4]; omega) (by omega) (by omega);have:=ih (i+1) (by omega);rw[t1,t2] at this;rw[Beu (by omega),Bet];have e3:r*2=2*r-0*Y:=by omega
    have e4:q*2^1=2*q+0:=by omega
    rw[e3,e4];exact this
theorem A5o{a b:Nat}(ha:Ap a≠0)(hb:Ap b≠0) :
 times.Div.L0 62 62 a b (Bo (zB (D0 a) (D0 b))) (zE (D0 a) (D0 b)) (0:Int) =
  some (.tup [.int .u64 ((Bf (Be a !=Be b) (B9 (F4 (Ap a) (Ap b) 120) (Aw a-Aw b-121)):Nat):Int),.int .u8 ((flagsOf (F4 (Ap a) (Ap b) 120) (Aw a-Aw b-121):Nat):Int)]):=by
 obtain⟨a1,a2,a3,a4⟩:=Sw ha;obtain⟨b1,b2,b3,b4⟩:=Sw hb;have ea:=Da a;have eb:=Da b;have ma:D0 (a:Int)=((Ap a*2^Cx a:Nat):Int):=rfl;have mb:D0 (b:Int)=((Ap b*2^Cx b:Nat):Int):=rfl;have na:Jp (a:Int)=Aw a-Cx a:=rfl;have nb:Jp (b:Int)=Aw b-Cx b:=rfl;have sL:=Apq (Ap a) (Ap b*2^Cx b) (Cx a) 61;have hpos:0<Ap b*2^Cx b:=by omega
 have hq1:2^53<=Ap a*2^Cx a*2^61 / (Ap b*2^Cx b):=by rw[y5 hpos]; omega
 have hqq:2^60<=Ap a*2^Cx a*2^61 / (Ap b*2^Cx b):=by rw[y5 hpos]; omega
 have hq2:Ap a*2^Cx a*2^61 / (Ap b*2^Cx b)<2^62:=by rw[yI hpos]; omega
 have hstick:F4 (Ap a*2^Cx a) (Ap b*2^Cx b) 61=F4 (Ap a) (Ap b) (61+Cx a-Cx b):=by
  rw[sL];have:61+Cx a=61+Cx a-Cx b+Cx b:=by omega
  conv=>lhs; rw[this]
  rw[Al5]
 have hge1:2^53<=Ap a*2^(61+Cx a-Cx b) / Ap b:=by
  have e1:Ap a*2^Cx a*2^61=Ap a*2^(61+Cx a-Cx b)*2^Cx b:=by rw[Bfg,<- Bfe,Bfg,<- Bfe];congr 2;omega
  rw[e1,Nat.mul_div_mul_right _ _ (Cm _)] at hq1;exact hq1
 have hge2:2^53<=Ap a*2^120 / Ap b:=Azu (t:=53) (by omega) (by omega) (by have:=F8 b; omega) (by omega);obtain⟨s1,s2⟩:=Ad7 (X:=Ap a) (Y:=Ap b) (K:=61+Cx a-Cx b) (L:=120) (E:=Aw a-Cx a-(Aw b-Cx b)-61-1) (F:=Aw a-Aw b-121) (by omega) hge1 hge2 (by omega)
 have d1:Bo (zB (D0 a) (D0 b))=((Ap a*2^Cx a*2^0 / (Ap b*2^Cx b):Nat):Int):=by rw[ma,mb,L4,Bfn,Bfy];have h1:=Nat.div_le_self (Ap a*2^Cx a) (Ap b*2^Cx b);have h2:Ap a*2^Cx a / (Ap b*2^Cx b)<2^64:=Bfr h1 (Nat.lt_trans a3 (by decide));generalize Ap a*2^Cx a / (Ap b*2^Cx b)=q at h2 ⊢;exact Dx (xd q) (by omega)
 have d2:zE (D0 a) (D0 b)=((Ap a*2^Cx a*2^0%(Ap b*2^Cx b):Nat):Int):=by rw[ma,mb,Lz,Bfn,Bfy]
 rw[d1,d2];have lp:=A1v 62 (a:=a) (b:=b) hpos b3 (X:=Ap a*2^Cx a) (by omega) mb 61 0 (by omega);refine lp.trans ?_;rw[times.Div.Ar,As,na,nb,Beu (by omega),Bet]
 have we:Ad (Ad (Aw a-Cx a-(Aw b-Cx b))-61)=Aw a-Cx a-(Aw b-Cx b)-61:=by rw[An (x:=Aw a-Cx a-(Aw b-Cx b)) (by omega) (by omega),An (by omega) (by omega)]
 have hne:(((Ap a*2^Cx a*2^61%(Ap b*2^Cx b):Nat):Int) !=(0:Int))=decide (Ap a*2^Cx a*2^61%(Ap b*2^Cx b)≠0):=by rw[Be5]; simp only[bne_iff_ne,ne_eq,Bew]; omega
 rw[we,hne];have hw:Td ((Ap a*2^Cx a*2^61 / (Ap b*2^Cx b):Nat):Int) (Aw a-Cx a-(Aw b-Cx b)-61)=true:=Ak.2 ⟨by omega,by omega,by omega,by omega⟩;have hn:En (a:Int)=Be a:=rfl;have hn':En (b:Int)=Be b:=rfl;rw[hw,Bep,Akj,hn,hn'];unfold Gr Gq;rw[Ber,Awa _ rfl rfl hq1,hstick,s1,s2]
theorem times.Div.Ae:Kq 144 times.Div.spec:=Eb times.Div.E Tryz.func144 (kc soft.Kind.Ae (kc soft.Sign.Ae (kc times.nan.Ae (kc times.norm.Ae (kc times.signed.Ae (kc times.wide.Ae .nil)))))) fun a b hp=>by
 obtain⟨ha,hb⟩:=Ac.1 hp;obtain⟨a,rfl,hn⟩:=Bu ha;obtain⟨b,rfl,hm⟩:=Bu hb;refine⟨62,times.Div.out [.i a,.i b],[],?_,Wk.Ik (.cons .int (.cons .int .nil))⟩;have i1:Af (9218868437227405312:Int)=true:=Cr (n:=9218868437227405312) (by decide);have i2:Af (0:Int)=true:=Cr (n:=0) (by decide);rw[times.Div.ev,ha,hb,Atj,Ws,Ws,k3,k3,k0,k0,i1,i2,Anz,Ahb,Akj];show _=some (DV.tup [.int .u64 (((Ok a b).1:Nat):Int),.int .u8 (((Ok a b).2:Nat):Int)]);have ea:En (a:Int)=Be a:=rfl;have eb:En (b:Int)=Be b:=rfl;rw[ea,eb];unfold Ok;rw[Bev,Bep,Bep,Bep,Bep,Bep];by_cases h4:Ag a=4\/Ag b=4
 ·have c4:(decide (Ag a=4)||decide (Ag b=4))=true:=by simp; exact h4
  rw[Bfc h4,c4,Bep]; rfl
 ·have c4:(decide (Ag a=4)||decide (Ag b=4))=false:=by simp; omega
  rw[Bfb h4,c4,Bet];by_cases h1:Ag a=Ag b/\(Ag a=3\/Ag a=0)
  ·have c1:(decide (Ag a=3)&&decide (Ag b=3)||decide (Ag a=0)&&decide (Ag b=0))=true:=by simp; omega
   rw[Bfc h1,c1,Bep]; rfl
  ·have c1:(decide (Ag a=3)&&decide (Ag b=3)||decide (Ag a=0)&&decide (Ag b=0))=false:=by simp; omega
   rw[Bfb h1,c1,Bet];by_cases h2:Ag a=3
   ·rw[Bfc h2,Beq h2,Bep]; rfl
   ·rw[Bfb h2,Beu h2,Bet];by_cases h3:Ag b=3\/Ag a=0
    ·have c3:(decide (Ag b=3)||decide (Ag a=0))=true:=by simp; exact h3
     rw[Bfc h3,c3,Bep]; rfl
    ·have c3:(decide (Ag b=3)||decide (Ag a=0))=false:=by simp; omega
     rw[Bfb h3,c3,Bet];by_cases h5:Ag b=0
     ·rw[Bfc h5,Beq h5,Bep]; rfl
     ·rw[Bfb h5,Beu h5,Bet];have pa:=Sp (b:=a) (by omega) (by omega) (by omega);have pb:=Sp (b:=b) (by omega) (by omega) (by omega);have na:Qd (a:Int)=true:=Ak.2 pa;have nb:Qd (b:Int)=true:=Ak.2 pb
      have hnb:(D0 (b:Int) !=0)=true:=by obtain⟨_,l2,_,_⟩:=Sw pb;have mb:D0 (b:Int)=((Ap b*2^Cx b:Nat):Int):=rfl;rw[mb];simp only[bne_iff_ne,ne_eq];omega
      rw[na,nb,hnb,Bev,Bep,Bep,Bep,Bep,A5o pa pb]
def Ai.Add.E:=E0 [(174,sum.Add.spec)]
theorem Ai.Add.ev(N:Nat)(a b:Int):Bv Ai.Add.E N f137 (Aj f137) [.int .u64 a,.int .u64 b]=cond (Af a&&Af b) (some (.int .u64 (De a b))) none:=by kernel_rfl
def Ai.Sub.E:=E0 [(231,sum.Sub.spec)]
theorem Ai.Sub.ev(N:Nat)(a b:Int):Bv Ai.Sub.E N f201 (Aj f201) [.int .u64 a,.int .u64 b]=cond (Af a&&Af b) (some (.int .u64 (Gg a b))) none:=by kernel_rfl
def Ai.Mul.E:=E0 [(175,times.Mul.spec)]
theorem Ai.Mul.ev(N:Nat)(a b:Int):Bv Ai.Mul.E N f138 (Aj f138) [.int .u64 a,.int .u64 b]=cond (Af a&&Af b) (some (.int .u64 (Bz a b))) none:=by kernel_rfl
def Ai.fit.E:=E0 []
theorem Ai.fit.ev(N:Nat)(x y:List Int):Bv Ai.fit.E N f173 (Aj f173) [.ints .arg .u64 x,.ints .arg .u64 y]=some (.bool (cond ((length x:Int)==(length y:Int)) (Fb (length x:Int) 64) false)) :=Et (Ax (Un ((length x:Int)==(length y:Int))) (Ax (P7 ((length x:Int)==(length y:Int))) (Ax (P7 ((length x:Int)==(length y:Int))) (Ax (tt2 ((length x:Int)==(length y:Int))) rfl))))
def Ai.H6.hint:Nat->Option A9
 | 0=>some { keep:=[0,1,6,13,14],objs:=[],boxes:=[] }
 | _=>none
def Ai.H6.E:=C6 (Cw [(137,Ai.Add.spec),(138,Ai.Mul.spec),(173,Ai.fit.spec)]) (fun _=>false) Ai.H6.hint (fun _=>none)
section
variable(N M:Nat)(x y:List Int)(p6 p14:Int)
def Ai.H6.L0:Option DV:=B2 Ai.H6.E N f134 (Aj f134) [1,1,1,0,1,0] [] M ⟨F3 30 [(0,.ints .arg .u64 x),(1,.ints .arg .u64 y),(6,.int .u64 p6),(13,.int .i64 (length x:Int)),(14,.int .i64 p14)],[]⟩
theorem Ai.H6.Ar:Ai.H6.L0 N (M+1) x y p6 p14=cond (Bc p14 (length x:Int)) (bif ((decide (0<=p14))&&(decide (p14<(length x:Int)))) then cond ((decide (0<=p14))&&(decide (p14<(length y:Int)))) (bif (Af (getD x (toNat p14) 0)&&Af (getD y (toNat p14) 0)) then cond (Af p6&&Af (Bz (getD x (toNat p14) 0) (getD y (toNat p14) 0))) (Ai.H6.L0 N M x y (De p6 (Bz (getD x (toNat p14) 0) (getD y (toNat p14) 0))) (Ad (p14+1))) none else none) none else none) (some (.tup [.int .u64 p6,.int .i64 0])) :=Et (Es (Co (Kz _ _) (Co (Kz _ _) (Co (Cb _) (Co (Cb _) rfl rfl) rfl) rfl) rfl) rfl)
theorem Ai.H6.ev:Bv Ai.H6.E N f134 (Aj f134) [.ints .arg .u64 x,.ints .arg .u64 y]=cond (!(Re x y)) (some (.tup [.int .u64 0,.int .i64 3])) (Ai.H6.L0 N N x y 0 0):=by kernel_rfl
end
def Aq.F.E:=E0 []
theorem Aq.F.ev(N:Nat)(x:Int):Bv Aq.F.E N f147 (Aj f147) [.int .u64 x]=cond (decide (0<=x)) (some (.fl (toNat x))) none:=by kernel_rfl
def Aq.B.E:=E0 [(186,Ht.Canon.nb.spec)]
theorem Aq.B.ev(N x:Nat):Bv Aq.B.E N f145 (Aj f145) [.fl x]=some (.int .u64 (H0 x)):=by kernel_rfl
def Aq.Add.E:=E0 [(145,Aq.B.spec),(147,Aq.F.spec)]
theorem Aq.Add.ev(N:Nat)(a b:Int):Bv Aq.Add.E N f152 (Aj f152) [.int .u64 a,.int .u64 b]=cond (Af a) (bif (Af b) then some (.int .u64 (H0 ((Ieee.double.add (toNat a) (toNat b)).getD nanBits))) else none) none:=by kernel_rfl
def Aq.Sub.E:=E0 [(145,Aq.B.spec),(147,Aq.F.spec)]
theorem Aq.Sub.ev(N:Nat)(a b:Int):Bv Aq.Sub.E N f198 (Aj f198) [.int .u64 a,.int .u64 b]=cond (Af a) (bif (Af b) then some (.int .u64 (H0 ((Ieee.double.sub (toNat a) (toNat b)).getD nanBits))) else none) none:=by kernel_rfl
def Aq.Mul.E:=E0 [(145,Aq.B.spec),(147,Aq.F.spec)]
theorem Aq.Mul.ev(N:Nat)(a b:Int):Bv Aq.Mul.E N f153 (Aj f153) [.int .u64 a,.int .u64 b]=cond (Af a) (bif (Af b) then some (.int .u64 (H0 ((Ieee.double.mul (toNat a) (toNat b)).getD nanBits))) else none) none:=by kernel_rfl
def Aq.H6.hint:Nat->Option A9
 | 0=>some { keep:=[0,1,5,6],objs:=[],boxes:=[] }
 | _=>none
def Aq.H6.E:=C6 (Cw [(152,Aq.Add.spec),(153,Aq.Mul.spec)]) (fun _=>false) Aq.H6.hint (fun _=>none)
section
variable(N M:Nat)(x y:List Int)(p5 p6:Int)
def Aq.H6.L0:Option DV:=B2 Aq.H6.E N f141 (Aj f141) [1,1,0,1,0] [] M ⟨F3 25 [(0,.ints .arg .u64 x),(1,.ints .arg .u64 y),(5,.int .u64 p5),(6,.int .i64 p6)],[]⟩
theorem Aq.H6.Ar:Aq.H6.L0 N (M+1) x y p5 p6=cond (Bc p6 (length x:Int)) (bif ((decide (0<=p6))&&(decide (p6<(length x:Int)))) then cond ((decide (0<=p6))&&(decide (p6<(length y:Int)))) (bif (Af (getD x (toNat p6) 0)&&Af (getD y (toNat p6) 0)) then cond (Af p5&&Af (Bz (getD x (toNat p6) 0) (getD y (toNat p6) 0))) (Aq.H6.L0 N M x y (De p5 (Bz (getD x (toNat p6) 0) (getD y (toNat p6) 0))) (Ad (p6+1))) none else none) none else none) (some (.int .u64 p5)) :=Et (Es (Co (Kz _ _) (Co (Kz _ _) (Co (Cb _) (Co (Cb _) rfl rfl) rfl) rfl) rfl) rfl)
theorem Aq.H6.ev:Bv Aq.H6.E N f141 (Aj f141) [.ints .arg .u64 x,.ints .arg .u64 y] =
 Aq.H6.L0 N N x y 0 0:=by kernel_rfl
end
open Go Go.Den Go.Ct Go.Proofs Ieee
theorem Zm{b:Nat}(h3:Ag b≠3)(h4:Ag b≠4):Ap b=0↔Ag b=0 :=
 ⟨fun h=>by
  by_cases h0:Ag b=0
  ·exact h0
  ·exact absurd h (Sp h0 h3 h4),Abd⟩
theorem Om(s:Bool):E5 (Bf s Ea)=Bf s Ea:=Iv s (Bfj _)
theorem Zr{a b:Nat}(ha:a<2^64)(hb:b<2^64){d:Nat}(hd:Ag d=4):E5 ((Ieee.double.mul a b).getD d)=(E7 a b).1:=by
 have cd:E5 d=P1:=Bfc hd;have ex:∀s t:Bool,(s ^^ t)=(s !=t):=fun s t=>by cases s<;>cases t<;>rfl
 unfold Format.mul;rw[K7 ha,K7 hb];unfold E7;by_cases a4:Ag a=4
 ·rw[Bfc (.inl a4),Jc a4]; exact cd
 ·by_cases b4:Ag b=4
  ·rw[Bfc (.inr b4),Jc b4];by_cases a3:Ag a=3
   ·rw[F2 a3]; exact cd
   ·rw[F1 a3 a4]; exact cd
  ·rw[Bfb (fun h=>h.elim a4 b4)];by_cases a3:Ag a=3
   ·rw[Bfc (.inl a3),F2 a3];by_cases b3:Ag b=3
    ·rw[F2 b3,Bfb (by omega)];show E5 (Bf (Be a ^^ Be b) Ea)=_;rw[Om,ex]
    ·rw[F1 b3 b4];have z:=Zm b3 b4;by_cases b0:Ag b=0
     ·have e:(Datum.infinity (Be a)).product (.number (Be b) (Ap b) (Aw b))=none:=Bfc (z.2 b0);rw[e,Bfc (.inr b0)]; exact cd
     ·have e:(Datum.infinity (Be a)).product (.number (Be b) (Ap b) (Aw b))=some (.infinity (Be a ^^ Be b)):=Bfb (fun k=>b0 (z.1 k));rw[e,Bfb (by omega)];show E5 (Bf (Be a ^^ Be b) Ea)=_;rw[Om,ex]
   ·rw[F1 a3 a4];have z:=Zm a3 a4;by_cases b3:Ag b=3
    ·rw[Bfc (.inr b3),F2 b3];have sw:∀s t:Bool,(t ^^ s)=(s !=t):=fun s t=>by cases s<;>cases t<;>rfl
     by_cases a0:Ag a=0
     ·have e:(Datum.number (Be a) (Ap a) (Aw a)).product (.infinity (Be b))=none:=Bfc (z.2 a0);rw[e,Bfc (.inl a0)]; exact cd
     ·have e:(Datum.number (Be a) (Ap a) (Aw a)).product (.infinity (Be b))=some (.infinity (Be b ^^ Be a)):=Bfb (fun k=>a0 (z.1 k));rw[e,Bfb (by omega)];show E5 (Bf (Be b ^^ Be a) Ea)=_;rw[Om,sw]
    ·rw[F1 b3 b4,Bfb (by omega)];show E5 (Ieee.double.write (.number (Be a ^^ Be b) (Ap a*Ap b) (Aw a+Aw b)))=_;rw[Qj,Iv _ (K5 _ _),ex]
theorem Io:Ag nanBits=4:=by decide +kernel
theorem Ai.Add.Ae:Kq 137 Ai.Add.spec:=Eb Ai.Add.E Tryz.func137 (kc sum.Add.Ae .nil) fun a b hp=>by have hp:(Af a&&Af b)=true:=hp;refine⟨0,Ai.Add.out [.i a,.i b],[],?_,.int⟩;rw[Ai.Add.ev,hp]; rfl
theorem Ai.Sub.Ae:Kq 201 Ai.Sub.spec:=Eb Ai.Sub.E Tryz.func201 (kc sum.Sub.Ae .nil) fun a b hp=>by have hp:(Af a&&Af b)=true:=hp;refine⟨0,Ai.Sub.out [.i a,.i b],[],?_,.int⟩;rw[Ai.Sub.ev,hp]; rfl
theorem Ai.Mul.Ae:Kq 138 Ai.Mul.spec:=Eb Ai.Mul.E Tryz.func138 (kc times.Mul.Ae .nil) fun a b hp=>by have hp:(Af a&&Af b)=true:=hp;refine⟨0,Ai.Mul.out [.i a,.i b],[],?_,.int⟩;rw[Ai.Mul.ev,hp]; rfl
theorem A1g(x y:List Int):(cond ((length x:Int)==(length y:Int)) (Fb (length x:Int) (64:Int)) false)=Re x y:=by
 unfold Re;rw[Fs,Be5];by_cases h:x.length=y.length
 ·have:((x.length:Int)==(y.length:Int))=true:=by rw[beq_iff_eq]; omega
  rw[this,Bep,Beq h,Bf2,Bew,Bew]; omega
 ·have:((x.length:Int)==(y.length:Int))=false:=by rw[Bfk]; omega
  rw[this,Bet,Beu h,zO]
theorem Ai.fit.Ae:Kq 173 Ai.fit.spec:=Eb Ai.fit.E Tryz.func173 .nil fun x y _=>by refine⟨0,Ai.fit.out [.l x,.l y],[],?_,.bool⟩;rw[Ai.fit.ev,A1g]; rfl
theorem Ado{x y:List Int}:Re x y=true↔x.length=y.length/\x.length<=64:=by unfold Re; simp
theorem Aoi{l:List Int}{i:Nat}(h:i<l.length):l.drop i=l.getD i 0::l.drop (i+1):=by rw[List.drop_eq_getElem_cons h,Bez,Be6 h]; rfl
theorem Af7{x y:List Int}{i:Nat}(s:Nat)(hx:i<x.length)(hy:i<y.length) :
 Af8 s (x.drop i) (y.drop i)=Af8 (Fh s (E7 (x.getD i 0).toNat (y.getD i 0).toNat).1).1 (x.drop (i+1)) (y.drop (i+1)):=by
 rw[Aoi hx,Aoi hy]; rfl
theorem A1s(N:Nat){x y:List Int}(hf:Re x y=true)(hx:Ah x=true)(hy:Ah y=true):∀(k i F s:Nat),i+k=x.length->k<F->s<2^64 ->
 Ai.H6.L0 N F x y (s:Int) (i:Int)=some (.tup [.int .u64 ((Af8 s (x.drop i) (y.drop i):Nat):Int),.int .i64 (0:Int)]):=by
 obtain⟨h1,h2⟩:=Ado.1 hf;intro k
 induction k with
 | zero =>
   intro i F s hi hF hs;obtain⟨F,rfl⟩:∃G,F=G+1:=⟨F-1,by omega⟩
   rw[Ai.H6.Ar,As,Beu (by omega),Bet,Be3 (by omega)];rfl
 | succ k ih =>
   intro i F s hi hF hs;obtain⟨F,rfl⟩:∃G,F=G+1:=⟨F-1,by omega⟩
   have c1:decide ((i:Int)<(x.length:Int))=true:=Beq (by omega);have c2:decide ((i:Int)<(y.length:Int))=true:=Beq (by omega);have c3:decide ((0:Int)<=(i:Int))=true:=Beq (by omega);have g1:=Lj hx (show i<x.length by omega);have g2:=Lj hy (show i<y.length by omega);have em:Bz (x.getD i 0) (y.getD i 0)=(((E7 (x.getD i 0).toNat (y.getD i 0).toNat).1:Nat):Int):=rfl;have ea:∀t:Nat,De (s:Int) (t:Int)=(((Fh s t).1:Nat):Int):=fun t=>rfl
   rw[Ai.H6.Ar,As,c1,c2,c3,Ber,g1,g2,em,ea,Cr hs,Cr Qg,Bev,Bep,Bep,Bep,Bep,Bep,An (by omega) (by omega),Af7 s (by omega) (by omega)];exact ih (i+1) F _ (by omega) (by omega) (W2 hs Qg).1
theorem Ai.H6.Ae:Kq 134 Ai.H6.spec:=Eb Ai.H6.E Tryz.func134 (kc Ai.Add.Ae (kc Ai.Mul.Ae (kc Ai.fit.Ae .nil))) fun x y hp=>by obtain⟨h1,hy⟩:=Ac.1 hp;obtain⟨hf,hx⟩:=Ac.1 h1;refine⟨x.length+1,Ai.H6.out [.l x,.l y],[],?_,Wk.Ik (.cons .int (.cons .int .nil))⟩;rw[Ai.H6.ev,hf,Bfo,Bet];exact A1s _ hf hx hy x.length 0 _ 0 (by omega) (by omega) (by decide)
theorem Aq.F.Ae:Kq 147 Aq.F.spec:=Eb Aq.F.E Tryz.func147 .nil fun x hp=>by obtain⟨n,rfl,hn⟩:=Bu (x:=x) hp;refine⟨0,Aq.F.out [.i n],[],?_,.fl⟩;rw[Aq.F.ev,Beq (xd n)]; rfl
theorem Aq.B.Ae:Kq 145 Aq.B.spec:=Eb Aq.B.E Tryz.func145 (.cons Ht.Canon.A0f .nil) fun x _=>by refine⟨0,Aq.B.out [.f x],[],?_,.int⟩;rw[Aq.B.ev]; rfl
theorem Aq.Add.Ae:Kq 152 Aq.Add.spec:=Eb Aq.Add.E Tryz.func152 (kc Aq.B.Ae (kc Aq.F.Ae .nil)) fun a b hp=>by obtain⟨ha,hb⟩:=Ac.1 hp;obtain⟨a,rfl,hn⟩:=Bu ha;obtain⟨b,rfl,hm⟩:=Bu hb;refine⟨0,Aq.Add.out [.i a,.i b],[],?_,.int⟩;rw[Aq.Add.ev,ha,hb,Ber,Ber];unfold H0;rw[A2j hn hm Io]; rfl
theorem Aq.Sub.Ae:Kq 198 Aq.Sub.spec:=Eb Aq.Sub.E Tryz.func198 (kc Aq.B.Ae (kc Aq.F.Ae .nil)) fun a b hp=>by obtain⟨ha,hb⟩:=Ac.1 hp;obtain⟨a,rfl,hn⟩:=Bu ha;obtain⟨b,rfl,hm⟩:=Bu hb;refine⟨0,Aq.Sub.out [.i a,.i b],[],?_,.int⟩;rw[Aq.Sub.ev,ha,hb,Ber,Ber];unfold H0;rw[Ayu hn hm Io]; rfl
theorem Aq.Mul.Ae:Kq 153 Aq.Mul.spec:=Eb Aq.Mul.E Tryz.func153 (kc Aq.B.Ae (kc Aq.F.Ae .nil)) fun a b hp=>by obtain⟨ha,hb⟩:=Ac.1 hp;obtain⟨a,rfl,hn⟩:=Bu ha;obtain⟨b,rfl,hm⟩:=Bu hb;refine⟨0,Aq.Mul.out [.i a,.i b],[],?_,.int⟩;rw[Aq.Mul.ev,ha,hb,Ber,Ber];unfold H0;rw[Zr hn hm Io]; rfl
theorem Aj9(N:Nat){x y:List Int}(hf:Re x y=true)(hx:Ah x=true)(hy:Ah y=true):∀(k i F s:Nat),i+k=x.length->k<F->s<2^64 ->
 Aq.H6.L0 N F x y (s:Int) (i:Int)=some (.int .u64 ((Af8 s (x.drop i) (y.drop i):Nat):Int)):=by
 obtain⟨h1,h2⟩:=Ado.1 hf;intro k
 induction k with
 | zero =>
   intro i F s hi hF hs;obtain⟨F,rfl⟩:∃G,F=G+1:=⟨F-1,by omega⟩
   rw[Aq.H6.Ar,As,Beu (by omega),Bet,Be3 (by omega)];rfl
 | succ k ih =>
   intro i F s hi hF hs;obtain⟨F,rfl⟩:∃G,F=G+1:=⟨F-1,by omega⟩
   have c1:decide ((i:Int)<(x.length:Int))=true:=Beq (by omega);have c2:decide ((i:Int)<(y.length:Int))=true:=Beq (by omega);have c3:decide ((0:Int)<=(i:Int))=true:=Beq (by omega);have g1:=Lj hx (show i<x.length by omega);have g2:=Lj hy (show i<y.length by omega);have em:Bz (x.getD i 0) (y.getD i 0)=(((E7 (x.getD i 0).toNat (y.getD i 0).toNat).1:Nat):Int):=rfl;have ea:∀t:Nat,De (s:Int) (t:Int)=(((Fh s t).1:Nat):Int):=fun t=>rfl
   rw[Aq.H6.Ar,As,c1,c2,c3,Ber,g1,g2,em,ea,Cr hs,Cr Qg,Bev,Bep,Bep,Bep,Bep,Bep,An (by omega) (by omega),Af7 s (by omega) (by omega)];exact ih (i+1) F _ (by omega) (by omega) (W2 hs Qg).1
theorem Aq.H6.Ae:Kq 141 Aq.H6.spec:=Eb Aq.H6.E Tryz.func141 (kc Aq.Add.Ae (kc Aq.Mul.Ae .nil)) fun x y hp=>by obtain⟨h1,hy⟩:=Ac.1 hp;obtain⟨hf,hx⟩:=Ac.1 h1;refine⟨x.length+1,Aq.H6.out [.l x,.l y],[],?_,.int⟩;rw[Aq.H6.ev];exact Aj9 _ hf hx hy x.length 0 _ 0 (by omega) (by omega) (by decide)
def Aa.size.E:=E0 []
theorem Aa.size.ev(N:Nat)(n:Int):Bv Aa.size.E N f164 (Aj f164) [.int .i64 n]=some (.bool (cond (Fb 0 n) (Fb n 6) false)) :=Et (Ax (Un (Fb 0 n)) (Ax (P7 (Fb 0 n)) (Ax (tt2 (Fb 0 n)) rfl)))
def Aa.Check.E:=E0 [(164,Aa.size.spec)]
theorem Aa.Check.ev(N:Nat)(r c:Int)(l:List Int):Bv Aa.Check.E N f121 (Aj f121) [.agg [.int .i64 r,.int .i64 c,.ints .arg .u64 l]]=cond (((!(Bp r))||(!(Bp c)))||((length l:Int) !=(Ad (r*c)))) (some (.int .i64 1)) (some (.int .i64 0)) :=Et (Ax (Xw (Bp r)) (Ax (R7 (Bp r)) (Ax (R7 (Bp r)) (Ax (R7 (Bp r)) (Ax (Aau (Bp r)) (Ax (Alz (Bp r) (Bp c)) (Ax (Aun (Bp r) (Bp c)) (Ax (Aun (Bp r) (Bp c)) (Ax (Alz (Bp r) (Bp c)) (Ax (Aun (Bp r) (Bp c)) (Ax (Alz (Bp r) (Bp c)) (Ax (Aun (Bp r) (Bp c)) (Ax (Bap (Bp r) (Bp c)) (Ax (Bap (Bp r) (Bp c)) (Ax (A7f (Bp r) (Bp c)) (Co (Bdg _ _ _) rfl rfl))))))))))))))))
def Aa.get.E:=E0 []
theorem Aa.get.ev(N:Nat)(r c:Int)(l:List Int)(i k:Int):Bv Aa.get.E N f119 (Aj f119) [.agg [.int .i64 r,.int .i64 c,.ints .arg .u64 l],.int .i64 i,.int .i64 k]=cond ((decide (0<=(Ad ((Ad (i*c))+k))))&&(decide ((Ad ((Ad (i*c))+k))<(length l:Int)))) (some (.int .u64 (getD l (toNat (Ad ((Ad (i*c))+k))) 0))) none:=by kernel_rfl
def Aa.two.E:=E0 [(121,Aa.Check.spec)]
theorem Aa.two.ev(N:Nat)(r c:Int)(l:List Int)(p q:Int)(m:List Int):Bv Aa.two.E N f116 (Aj f116) [.agg [.int .i64 r,.int .i64 c,.ints .arg .u64 l],.agg [.int .i64 p,.int .i64 q,.ints .arg .u64 m]]=cond (((Ny r c l) !=(0:Int))||((Ny p q m) !=(0:Int))) (some (.int .i64 1)) (some (.int .i64 0)) :=Et (Ax (Uw ((Ny r c l) !=(0:Int))) (Ax (Te ((Ny r c l) !=(0:Int))) (Ax (Te ((Ny r c l) !=(0:Int))) (Ax (tt6 ((Ny r c l) !=(0:Int))) (Co (tt5 _ _) rfl rfl)))))
def Aa.Row.E:=E0 []
theorem Aa.Row.ev(N:Nat)(r c:Int)(l:List Int)(i f:Int):Bv Aa.Row.E N f135 (Aj f135) [.agg [.int .i64 r,.int .i64 c,.ints .arg .u64 l],.int .i64 i,.int .i64 f]=cond (((decide ((0:Int)<=(Ad ((Ad (i*c))+f))))&&(decide ((Ad ((Ad (i*c))+f))<=(Ad ((Ad (i+1))*c)))))&&((decide ((0:Int)<=(Ad ((Ad (i+1))*c))))&&(decide ((Ad ((Ad (i+1))*c))<=(length l:Int))))) (bif (decide (0+(length (zL (toNat (Ad ((Ad (i*c))+f))) (zt (toNat (Ad ((Ad (i+1))*c))) l)))<=G2)) then some (.ints (.own 22 43) .u64 ([]++(zL (toNat (Ad ((Ad (i*c))+f))) (zt (toNat (Ad ((Ad (i+1))*c))) l)))) else none) none :=Et (Co (Bao _ _ _ _) rfl rfl)
def Aa.Fi.hint:Nat->Option A9
 | 0=>some { keep:=[1,3,7,8],objs:=[(0,7,100007,.ints 43 .u64 [])],boxes:=[3] }
 | _=>none
def Aa.Fi.E:=C6 (Cw [(119,Aa.get.spec)]) (fun _=>false) Aa.Fi.hint (fun _=>none)
section
variable(N M:Nat)(r c:Int)(l:List Int)(k f p8:Int)(p7:List Int)
def Aa.Fi.L0:Option DV:=B2 Aa.Fi.E N f68 (Aj f68) [1,1,0,1,0] [] M ⟨F3 24 [(1,.int .i64 k),(3,.ptr 3 0 0),(7,.oref 100007),(8,.int .i64 p8)],[(3,false,.box [.int .i64 r,.int .i64 c,.ints .arg .u64 l]),(100007,false,.ints 43 .u64 p7)]⟩
theorem Aa.Fi.Ar:Aa.Fi.L0 N (M+1) r c l k p8 p7=cond (Bc p8 r) (bif (E6 r c l p8 k) then cond (decide ((length p7)+1<=G2)) (Aa.Fi.L0 N M r c l k (Ad (p8+1)) (p7++[(C1 c l p8 k)])) none else none) (some (.ints (.own 100007 43) .u64 p7)):=by kernel_rfl
theorem Aa.Fi.ev:Bv Aa.Fi.E N f68 (Aj f68) [.agg [.int .i64 r,.int .i64 c,.ints .arg .u64 l],.int .i64 k,.int .i64 f] =
 Aa.Fi.L0 N N r c l k f []:=by kernel_rfl
end
def Aa.Ib.E:=E0 []
theorem Aa.Ib.ev(N:Nat)(i k:Int):Bv Aa.Ib.E N f193 (Aj f193) [.int .i64 i,.int .i64 k]=some (.int .u64 0):=by kernel_rfl
def Aa.P6.E:=E0 []
theorem Aa.P6.ev(N:Nat)(i k:Int):Bv Aa.P6.E N f168 (Aj f168) [.int .i64 i,.int .i64 k]=cond (i==k) (some (.int .u64 4607182418800017408)) (some (.int .u64 0)):=by kernel_rfl
def Aa.Ls.E:=E0 [(119,Aa.get.spec)]
theorem Aa.Ls.ev(N:Nat)(i k:Int)(r c:Int)(l:List Int):Bv Aa.Ls.E N f232 (Aj f232) [.int .i64 i,.int .i64 k,.cellp [.int .i64 r,.int .i64 c,.ints .arg .u64 l]]=cond (E6 r c l k i) (some (.int .u64 (C1 c l k i))) none:=by kernel_rfl
def Aa.Lt.E:=E0 [(119,Aa.get.spec)]
theorem Aa.Lt.ev(N:Nat)(i k:Int)(r c:Int)(l:List Int)(x y:Int):Bv Aa.Lt.E N f122 (Aj f122) [.int .i64 i,.int .i64 k,.cellp [.int .i64 r,.int .i64 c,.ints .arg .u64 l],.cellp [.int .i64 x],.cellp [.int .i64 y]]=cond (E6 r c l (Ad (x+i)) (Ad (y+k))) (some (.int .u64 (C1 c l (Ad (x+i)) (Ad (y+k))))) none:=by kernel_rfl
def Aa.I7.E:=E0 [(119,Aa.get.spec)]
theorem Aa.I7.ev(N:Nat)(i k:Int)(r c:Int)(l:List Int)(p q:Int)(m:List Int):Bv Aa.I7.E N f118 (Aj f118) [.int .i64 i,.int .i64 k,.cellp [.int .i64 r,.int .i64 c,.ints .arg .u64 l],.cellp [.int .i64 p,.int .i64 q,.ints .arg .u64 m]]=cond (Bc i r) (bif (E6 r c l i k) then some (.int .u64 (C1 c l i k)) else none) (bif (E6 p q m (Ad (i-r)) k) then some (.int .u64 (C1 q m (Ad (i-r)) k)) else none):=by kernel_rfl
def Aa.P2.E:=E0 [(68,Aa.Fi.spec),(135,Aa.Row.spec),(134,Ai.H6.spec)]
theorem Aa.P2.ev(N:Nat)(i k:Int)(r c:Int)(l:List Int)(p q:Int)(m:List Int):Bv Aa.P2.E N f133 (Aj f133) [.int .i64 i,.int .i64 k,.cellp [.int .i64 r,.int .i64 c,.ints .arg .u64 l],.cellp [.int .i64 p,.int .i64 q,.ints .arg .u64 m]]=cond (Tj r c l i&&decide ((0:Int)=0)) (bif (Gu p q m k&&Bq (0<=(0:Int)/\(0:Int)<=p)) then cond ((Re (F6 c l i) (B3 q m k 0 (toNat (p-0)))&&Ah (F6 c l i))&&Ah (B3 q m k 0 (toNat (p-0)))) (some (.int .u64 (Hi (F6 c l i) (B3 q m k 0 (toNat (p-0)))))) none else none) none :=Et (Co (Cb _) (Co (Cb _) (Co (Cb _) rfl rfl) rfl) rfl)
theorem K3{a b:Int}(h1:0<=a)(h2:a<20)(h3:0<=b)(h4:b<20):0<=a*b/\a*b<400:=by have:=Int.mul_nonneg h1 h3;have h5:a*b<=19*19:=Int.mul_le_mul (by omega) (by omega) h3 (by omega);omega
theorem Aa.size.Ae:Kq 164 Aa.size.spec:=Eb Aa.size.E Tryz.func164 .nil fun n _=>by
 refine⟨0,Aa.size.out [.i n],[],?_,.bool⟩
 have e:(cond (Fb (0:Int) n) (Fb n (6:Int)) false)=Bp n:=by unfold Bp;rw[Fs,Fs];cases decide (0<=n)<;>rfl
 rw[Aa.size.ev,e]; rfl
theorem Aom(r c:Int)(l:List Int):(((!(Bp r))||(!(Bp c)))||((length l:Int) !=(Ad (r*c))))=!(Az r c l):=by
 unfold Az;cases h1:Bp r with
 | false=>rfl
 | true =>
   cases h2:Bp c with
   | false=>rfl
   | true =>obtain⟨r1,r2⟩:=J0.1 h1;obtain⟨c1,c2⟩:=J0.1 h2;have:=K3 (a:=r) (b:=c) r1 (by omega) c1 (by omega);rw[An (by omega) (by omega),Be5];simp
theorem Aa.Check.Ae:Kq 121 Aa.Check.spec:=Eb Aa.Check.E Tryz.func121 (kc Aa.size.Ae .nil) fun r c l _=>by refine⟨0,Aa.Check.out [.i r,.i c,.l l],[],?_,.int⟩;rw[Aa.Check.ev,Aom];show _=some (DV.int .i64 (Ny r c l));unfold Ny;cases Az r c l<;>rfl
theorem Ow{c i k:Int}{l:List Int}{R:Int}(h:E6 R c l i k=true):Ad (Ad (i*c)+k)=i*c+k/\0<=i*c+k/\i*c+k<l.length:=by obtain⟨h1,h2,h3,h4,h5,h6,h7,_⟩:=Ak.1 h;have:=K3 h1 (by omega) h5 (by omega);rw[An (x:=i*c) (by omega) (by omega),An (by omega) (by omega)];omega
theorem Aa.get.Ae:Kq 119 Aa.get.spec:=Eb Aa.get.E Tryz.func119 .nil fun r c l i k hp=>by obtain⟨e,h1,h2⟩:=Ow (R:=r) (show E6 r c l i k=true from hp);refine⟨0,Aa.get.out [.i r,.i c,.l l,.i i,.i k],[],?_,.int⟩;rw[Aa.get.ev,e,Beq h1,Beq h2];rfl
theorem Yl(r c:Int)(l:List Int):((Ny r c l) !=(0:Int))=!(Az r c l):=by unfold Ny;cases Az r c l<;>rfl
theorem Aa.two.Ae:Kq 116 Aa.two.spec:=Eb Aa.two.E Tryz.func116 (kc Aa.Check.Ae .nil) fun r c l p q m _=>by refine⟨0,Aa.two.out [.i r,.i c,.l l,.i p,.i q,.l m],[],?_,.int⟩;rw[Aa.two.ev,Yl,Yl];show _=some (DV.int .i64 (Aas r c l p q m));unfold Aas;cases Az r c l<;>cases Az p q m<;>rfl
theorem Aa.Row.Ae:Kq 135 Aa.Row.spec:=Eb Aa.Row.E Tryz.func135 .nil fun r c l i f hp=>by
 obtain⟨h0,hf⟩:=Ac.1 hp;obtain rfl:=Bff hf;obtain⟨hr,hi⟩:=Ac.1 h0;have hi:=Ak.1 hi;obtain⟨R,C,rfl,rfl,r6,c6,hl⟩:=Cp hr;obtain⟨I,rfl⟩:∃k:Nat,i=k:=⟨i.toNat,by omega⟩
 have hm:=K3 (a:=(I:Int)) (b:=(C:Int)) (by omega) (by omega) (by omega) (by omega);have hm2:=K3 (a:=(I:Int)+1) (b:=(C:Int)) (by omega) (by omega) (by omega) (by omega);have hle:(I+1)*C<=R*C:=Be1 C (by omega);have hle2:I*C<=(I+1)*C:=Be1 C (by omega);have e1:(I:Int)*(C:Int)=((I*C:Nat):Int):=(Bfa _ _).symm;have e2:((I:Int)+1)*(C:Int)=(((I+1)*C:Nat):Int):=by rw[Bfa]; rfl
 refine⟨0,.ints (.own 22 tB) .u64 (F6 (C:Int) l (I:Int)),[22],?_,.drop _ _ _ _ (zf.2 rfl)⟩;rw[Aa.Row.ev,An (x:=(I:Int)+1) (by omega) (by omega),An (x:=(I:Int)*(C:Int)) (by omega) (by omega),Int.add_zero,An (x:=(I:Int)*(C:Int)) (by omega) (by omega),An (x:=((I:Int)+1)*(C:Int)) (by omega) (by omega)];unfold F6;have d1:decide ((0:Int)<=(I:Int)*(C:Int))=true:=Beq (by omega);have d2:decide ((I:Int)*(C:Int)<=((I:Int)+1)*(C:Int))=true:=Beq (by rw[e1,e2]; omega);have d3:decide ((0:Int)<=((I:Int)+1)*(C:Int))=true:=Beq (by omega);have d4:decide (((I:Int)+1)*(C:Int)<=(l.length:Int))=true:=Beq (by rw[e2]; omega)
 have d5:decide (0+(zL ((I:Int)*(C:Int)).toNat (zt (((I:Int)+1)*(C:Int)).toNat l)).length<=G2)=true:=by refine Beq ?_;rw[zP,zI];unfold G2;omega
 rw[d1,d2,d3,d4,d5];rfl
theorem Mj(c b i:Int)(n:Nat)(l:List Int):(B3 c l b i n).length=n:=by unfold B3; rw[Bfv,Bfs]
theorem A5s(r c:Int)(l:List Int)(k:Int):B3 c l k 0 (toNat (r-0))=Yk r c l k:=by
 unfold B3 Yk;rw[Int.sub_zero];refine List.map_congr_left fun j _=>?_
 rw[Int.zero_add]
theorem Ao6{r:Int}(h:0<=r):Bq (0<=(0:Int)/\0<=r)=true:=Ak.2 ⟨yU _,h⟩
theorem A12(N:Nat){R C K f:Nat}{l:List Int}(r6:R<=6)(c6:C<=6)(hl:l.length=R*C)(hk:K<C):∀(k i F:Nat),f+i+k=R->k<F ->
 Aa.Fi.L0 N F (R:Int) (C:Int) l (K:Int) ((f+i:Nat):Int) (B3 (C:Int) l (K:Int) (f:Int) i)=some (.ints (.own 100007 tB) .u64 (B3 (C:Int) l (K:Int) (f:Int) (R-f))):=by
 intro k
 induction k with
 | zero =>
   intro i F hi hF;obtain⟨F,rfl⟩:∃G,F=G+1:=⟨F-1,by omega⟩
   rw[Aa.Fi.Ar,As,Beu (by omega),Bet,show R-f=i by omega]
 | succ k ih =>
   intro i F hi hF;obtain⟨F,rfl⟩:∃G,F=G+1:=⟨F-1,by omega⟩
   have d:decide ((B3 (C:Int) l (K:Int) (f:Int) i).length+1<=G2)=true:=Beq (by rw[Mj]; unfold G2; omega);rw[Aa.Fi.Ar,As,Beq (by omega),Bep,Gi r6 c6 hl (show f+i<R by omega) hk,Bep,d,Bep,An (by omega) (by omega)];have:=ih (i+1) F (by omega) (by omega);unfold B3 at this ⊢;rw[y7,yq] at this;exact this
theorem Aa.Fi.Ae:Kq 68 Aa.Fi.spec:=Eb Aa.Fi.E Tryz.func68 (kc Aa.get.Ae .nil) fun r c l k f hp=>by
 obtain⟨h0,hf⟩:=Ac.1 (show(Gu r c l k&&Bq (0<=f/\f<=r))=true from hp);have hf:=Ak.1 hf;obtain⟨hr,hi⟩:=Ac.1 h0;have hi:=Ak.1 hi;obtain⟨R,C,rfl,rfl,r6,c6,hl⟩:=Cp hr;obtain⟨K,rfl⟩:∃j:Nat,k=j:=⟨k.toNat,by omega⟩
 obtain⟨f,rfl⟩:∃j:Nat,f=j:=⟨f.toNat,by omega⟩
 refine⟨8,.ints (.own 100007 tB) .u64 (B3 (C:Int) l (K:Int) (f:Int) (R-f)),[100007],?_,?_⟩
 ·rw[Aa.Fi.ev];exact A12 8 r6 c6 hl (by omega) (R-f) 0 8 (by omega) (by omega)
 ·show Wk _ _ (DV.ints .fresh .u64 (B3 (C:Int) l (K:Int) (f:Int) (toNat ((R:Int)-(f:Int)))));rw[show toNat ((R:Int)-(f:Int))=R-f by omega];exact .drop _ _ _ _ (zf.2 rfl)
theorem M7{r c i k:Int}{l:List Int}(h:Az r c l=true)(h1:0<=i)(h2:i<r)(h3:0<=k)(h4:k<c)(R:Int):E6 R c l i k=true:=by
 obtain⟨R',C,rfl,rfl,r6,c6,hl⟩:=Cp h;obtain⟨I,rfl⟩:∃j:Nat,i=j:=⟨i.toNat,by omega⟩
 obtain⟨K,rfl⟩:∃j:Nat,k=j:=⟨k.toNat,by omega⟩
 exact Gi r6 c6 hl (by omega) (by omega)
theorem Aa.Ib.Ae:Kq 193 Aa.Ib.spec:=Eb Aa.Ib.E Tryz.func193 .nil fun i k _=>by refine⟨0,Aa.Ib.out [.i i,.i k],[],?_,.int⟩;rw[Aa.Ib.ev]; rfl
theorem Aa.P6.Ae:Kq 168 Aa.P6.spec:=Eb Aa.P6.E Tryz.func168 .nil fun i k _=>by
 refine⟨0,Aa.P6.out [.i i,.i k],[],?_,.int⟩;rw[Aa.P6.ev];show _=some (DV.int .u64 (Pc i k));unfold Pc;by_cases h:i=k
 ·have:(i==k)=true:=by rw[h]; simp
  rw[this,Bfc h]; rfl
 ·have:(i==k)=false:=by simpa using h
  rw[this,Bfb h]; rfl
theorem Aa.Ls.Ae:Kq 232 Aa.Ls.spec:=Eb Aa.Ls.E Tryz.func232 (kc Aa.get.Ae .nil) fun i k r c l hp=>by have hp:E6 r c l k i=true:=hp;refine⟨0,Aa.Ls.out [.i i,.i k,.i r,.i c,.l l],[],?_,.int⟩;rw[Aa.Ls.ev,hp]; rfl
theorem Aa.Lt.Ae:Kq 122 Aa.Lt.spec:=Eb Aa.Lt.E Tryz.func122 (kc Aa.get.Ae .nil) fun i k r c l x y hp=>by obtain⟨h1,h2⟩:=Ac.1 hp;have h2:=Ak.1 h2;refine⟨0,Aa.Lt.out [.i i,.i k,.i r,.i c,.l l,.i x,.i y],[],?_,.int⟩;rw[Aa.Lt.ev,An (x:=x+i) (by omega) (by omega),An (x:=y+k) (by omega) (by omega),h1]; rfl
theorem Aa.I7.Ae:Kq 118 Aa.I7.spec:=Eb Aa.I7.E Tryz.func118 (kc Aa.get.Ae .nil) fun i k r c l p q m hp=>by
 obtain⟨h1,h2,h3,h4,h5⟩:=Ak.1 (show Sm r c l p q m i k=true from hp);refine⟨0,Aa.I7.out [.i i,.i k,.i r,.i c,.l l,.i p,.i q,.l m],[],?_,.int⟩;show _=some (DV.int .u64 (Kj r c l q m i k));rw[Aa.I7.ev,As,An (x:=i-r) (by omega) (by omega)];unfold Kj;by_cases h:i<r
 ·rw[Bfc h] at h5;rw[Beq h,Bep,h5,Bep,Bfc h]
 ·rw[Bfb h] at h5;rw[Beu h,Bet,h5,Bep,Bfb h]
theorem Xz{R C:Nat}{l:List Int}(hl:l.length=R*C){I:Nat}(hi:I<R):(F6 (C:Int) l (I:Int)).length=C:=by
 have hle:(I+1)*C<=R*C:=Be1 C (by omega);have e1:((I:Int)*(C:Int)).toNat=I*C:=by rw[<- Bfa,Ber]
 have e2:(((I:Int)+1)*(C:Int)).toNat=(I+1)*C:=by
  have:((I:Int)+1)*(C:Int)=(((I+1)*C:Nat):Int):=by rw[Bfa]; rfl
  rw[this,Ber]
 unfold F6;rw[zP,zI,e1,e2];rw[Bft,Nat.one_mul] at hle ⊢;omega
theorem Ars(R:Nat)(C:Int)(l:List Int)(K:Int):(Yk (R:Int) C l K).length=R:=by unfold Yk;rw[Bfv,Bfs,Ber]
theorem A38{c i:Int}{l:List Int}(h:Ah l=true):Ah (F6 c l i)=true:=by have h:=Ak.1 h;exact Ak.2 fun x hx=>h x (List.mem_of_mem_take (List.mem_of_mem_drop hx))
theorem T5{c i k:Int}{l:List Int}(h:Ah l=true):Af (C1 c l i k)=true:=by
 unfold C1;by_cases hj:(i*c+k).toNat<l.length
 ·exact Lj h hj
 ·rw[Bez,Bf7 (by omega)];exact Cr (n:=0) (by decide)
theorem A5t{r c k:Int}{l:List Int}(h:Ah l=true):Ah (Yk r c l k)=true:=by
 refine Ak.2 fun x hx=>?_
 obtain⟨j,_,rfl⟩:=List.mem_map.1 hx;exact T5 h
theorem Aa.P2.Ae:Kq 133 Aa.P2.spec:=Eb Aa.P2.E Tryz.func133 (kc Aa.Fi.Ae (kc Aa.Row.Ae (kc Ai.H6.Ae .nil))) fun i k r c l p q m hp=>by
 obtain⟨h1,h2⟩:=Ac.1 (show Abj r c l p q m i k=true from hp);obtain⟨h3,h4⟩:=Ac.1 h1;obtain⟨h5,h6⟩:=Ac.1 h2;obtain⟨hl,hm⟩:=Ac.1 h5;obtain rfl:=Ak.1 h6;obtain⟨hr,hi⟩:=Ac.1 h3;have hi:=Ak.1 hi;obtain⟨R,C,rfl,rfl,r6,c6,ll⟩:=Cp hr;obtain⟨I,rfl⟩:∃j:Nat,i=j:=⟨i.toNat,by omega⟩
 refine⟨0,Aa.P2.out [.i I,.i k,.i R,.i C,.l l,.i C,.i q,.l m],[],?_,.int⟩;have hf:Re (F6 (C:Int) l (I:Int)) (Yk (C:Int) q m k)=true:=Ado.2 ⟨by rw[Xz ll (by omega),Ars],by rw[Xz ll (by omega)]; omega⟩;rw[Aa.P2.ev,A5s,h3,h4,hf,A38 hl,A5t hm,Ao6 (by omega)];rfl
def Aa.of.Br.hint:Nat->Option A9
 | 0=>some { keep:=[1,2,6,7,13,14],objs:=[(8,2,108002,.ints 43 .u64 [])],boxes:=[6,7] }
 | 2=>some { keep:=[1,2,6,7,8,13,14,17,18],objs:=[(8,2,108002,.ints 43 .u64 [])],boxes:=[6,7] }
 | _=>none
def Aa.of.Br.E:=C6 (Cw [(193,Aa.Ib.spec)]) (fun _=>false) Aa.of.Br.hint (fun _=>none)
section
variable(N M0 M:Nat)(a b p8 p14_1 p18:Int)(p2:List Int)(p14:Int)(p2_1:List Int)
def Aa.of.Br.L0:Option DV:=B2 Aa.of.Br.E N f117 (Aj f117) [1,1,0,1,0] [] M ⟨F3 33 [(1,.int .i64 b),(2,.fn 193 [] []),(6,.ptr 6 0 0),(7,.ptr 7 0 0),(13,.int .i64 a),(14,.int .i64 p14)],[(6,false,.box [.int .i64 0,.int .i64 0,.nil]),(7,false,.box [.int .i64 a,.int .i64 b,.oref 108002]),(108002,false,.ints 43 .u64 p2_1)]⟩
def Aa.of.Br.L1:Option DV:=B2 Aa.of.Br.E N f117 (Aj f117) [1,1,0,1,0,0,1,1,0,0,1,1,0] [M0] M ⟨F3 33 [(1,.int .i64 b),(2,.fn 193 [] []),(6,.ptr 6 0 0),(7,.ptr 7 0 0),(8,.int .i64 p8),(13,.int .i64 a),(14,.int .i64 p14_1),(17,.int .i64 b),(18,.int .i64 p18)],[(6,false,.box [.int .i64 0,.int .i64 0,.nil]),(7,false,.box [.int .i64 a,.int .i64 b,.oref 108002]),(108002,false,.ints 43 .u64 p2)]⟩
theorem Aa.of.Br.Ar:Aa.of.Br.L0 N (M+1) a b p14 p2_1=cond (Bc p14 a) (Aa.of.Br.L1 N M N a b p14 p14 0 p2_1) (some (.agg [.int .i64 a,.int .i64 b,.ints (.own 108002 43) .u64 p2_1])):=by kernel_rfl
theorem Aa.of.Br.B6:Aa.of.Br.L1 N M0 (M+1) a b p8 p14_1 p18 p2=cond (Bc p18 b) (bif (decide ((length p2)+1<=G2)) then Aa.of.Br.L1 N M0 M a b p8 p14_1 (Ad (p18+1)) (p2++[(0:Int)]) else none) (Aa.of.Br.L0 N M0 a b (Ad (p14_1+1)) p2) :=Et (Es (Co (Cb _) rfl rfl) rfl)
theorem Aa.of.Br.ev:Bv Aa.of.Br.E N f117 (Aj f117) [.int .i64 a,.int .i64 b,.fn 193 [] []] =
 Aa.of.Br.L0 N N a b 0 []:=by kernel_rfl
end
def Aa.of.Hv.hint:Nat->Option A9
 | 0=>some { keep:=[1,2,6,7,13,14],objs:=[(8,2,108002,.ints 43 .u64 [])],boxes:=[6,7] }
 | 2=>some { keep:=[1,2,6,7,8,13,14,17,18],objs:=[(8,2,108002,.ints 43 .u64 [])],boxes:=[6,7] }
 | _=>none
def Aa.of.Hv.E:=C6 (Cw [(168,Aa.P6.spec)]) (fun _=>false) Aa.of.Hv.hint (fun _=>none)
section
variable(N M0 M:Nat)(a b p8 p14_1 p18:Int)(p2:List Int)(p14:Int)(p2_1:List Int)
def Aa.of.Hv.L0:Option DV:=B2 Aa.of.Hv.E N f117 (Aj f117) [1,1,0,1,0] [] M ⟨F3 33 [(1,.int .i64 b),(2,.fn 168 [] []),(6,.ptr 6 0 0),(7,.ptr 7 0 0),(13,.int .i64 a),(14,.int .i64 p14)],[(6,false,.box [.int .i64 0,.int .i64 0,.nil]),(7,false,.box [.int .i64 a,.int .i64 b,.oref 108002]),(108002,false,.ints 43 .u64 p2_1)]⟩
def Aa.of.Hv.L1:Option DV:=B2 Aa.of.Hv.E N f117 (Aj f117) [1,1,0,1,0,0,1,1,0,0,1,1,0] [M0] M ⟨F3 33 [(1,.int .i64 b),(2,.fn 168 [] []),(6,.ptr 6 0 0),(7,.ptr 7 0 0),(8,.int .i64 p8),(13,.int .i64 a),(14,.int .i64 p14_1),(17,.int .i64 b),(18,.int .i64 p18)],[(6,false,.box [.int .i64 0,.int .i64 0,.nil]),(7,false,.box [.int .i64 a,.int .i64 b,.oref 108002]),(108002,false,.ints 43 .u64 p2)]⟩
theorem Aa.of.Hv.Ar:Aa.of.Hv.L0 N (M+1) a b p14 p2_1=cond (Bc p14 a) (Aa.of.Hv.L1 N M N a b p14 p14 0 p2_1) (some (.agg [.int .i64 a,.int .i64 b,.ints (.own 108002 43) .u64 p2_1])):=by kernel_rfl
theorem Aa.of.Hv.B6:Aa.of.Hv.L1 N M0 (M+1) a b p8 p14_1 p18 p2=cond (Bc p18 b) (bif (decide ((length p2)+1<=G2)) then Aa.of.Hv.L1 N M0 M a b p8 p14_1 (Ad (p18+1)) (p2++[(Pc p8 p18)]) else none) (Aa.of.Hv.L0 N M0 a b (Ad (p14_1+1)) p2) :=Et (Es (Co (Cb _) rfl rfl) rfl)
theorem Aa.of.Hv.ev:Bv Aa.of.Hv.E N f117 (Aj f117) [.int .i64 a,.int .i64 b,.fn 168 [] []] =
 Aa.of.Hv.L0 N N a b 0 []:=by kernel_rfl
end
def Aa.of.D4.hint:Nat->Option A9
 | 0=>some { keep:=[1,2,6,7,13,14],objs:=[(8,2,108002,.ints 43 .u64 [])],boxes:=[6,7] }
 | 2=>some { keep:=[1,2,6,7,8,13,14,17,18],objs:=[(8,2,108002,.ints 43 .u64 [])],boxes:=[6,7] }
 | _=>none
def Aa.of.D4.E:=C6 (Cw [(232,Aa.Ls.spec)]) (fun _=>false) Aa.of.D4.hint (fun _=>none)
section
variable(N M0 M:Nat)(a b r c:Int)(l:List Int)(p8 p14_1 p18:Int)(p2:List Int)(p14:Int)(p2_1:List Int)
def Aa.of.D4.L0:Option DV:=B2 Aa.of.D4.E N f117 (Aj f117) [1,1,0,1,0] [] M ⟨F3 33 [(1,.int .i64 b),(2,.fn 232 [] [.cellp [.int .i64 r,.int .i64 c,.ints .arg .u64 l]]),(6,.ptr 6 0 0),(7,.ptr 7 0 0),(13,.int .i64 a),(14,.int .i64 p14)],[(6,false,.box [.int .i64 0,.int .i64 0,.nil]),(7,false,.box [.int .i64 a,.int .i64 b,.oref 108002]),(108002,false,.ints 43 .u64 p2_1)]⟩
def Aa.of.D4.L1:Option DV:=B2 Aa.of.D4.E N f117 (Aj f117) [1,1,0,1,0,0,1,1,0,0,1,1,0] [M0] M ⟨F3 33 [(1,.int .i64 b),(2,.fn 232 [] [.cellp [.int .i64 r,.int .i64 c,.ints .arg .u64 l]]),(6,.ptr 6 0 0),(7,.ptr 7 0 0),(8,.int .i64 p8),(13,.int .i64 a),(14,.int .i64 p14_1),(17,.int .i64 b),(18,.int .i64 p18)],[(6,false,.box [.int .i64 0,.int .i64 0,.nil]),(7,false,.box [.int .i64 a,.int .i64 b,.oref 108002]),(108002,false,.ints 43 .u64 p2)]⟩
theorem Aa.of.D4.Ar:Aa.of.D4.L0 N (M+1) a b r c l p14 p2_1=cond (Bc p14 a) (Aa.of.D4.L1 N M N a b r c l p14 p14 0 p2_1) (some (.agg [.int .i64 a,.int .i64 b,.ints (.own 108002 43) .u64 p2_1])):=by kernel_rfl
theorem Aa.of.D4.B6:Aa.of.D4.L1 N M0 (M+1) a b r c l p8 p14_1 p18 p2=cond (Bc p18 b) (bif (E6 r c l p18 p8) then cond (decide ((length p2)+1<=G2)) (Aa.of.D4.L1 N M0 M a b r c l p8 p14_1 (Ad (p18+1)) (p2++[(C1 c l p18 p8)])) none else none) (Aa.of.D4.L0 N M0 a b r c l (Ad (p14_1+1)) p2) :=Et (Es (Co (Cb _) (Co (Cb _) rfl rfl) rfl) rfl)
theorem Aa.of.D4.ev:Bv Aa.of.D4.E N f117 (Aj f117) [.int .i64 a,.int .i64 b,.fn 232 [] [.cellp [.int .i64 r,.int .i64 c,.ints .arg .u64 l]]] =
 Aa.of.D4.L0 N N a b r c l 0 []:=by kernel_rfl
end
def Aa.of.Part.hint:Nat->Option A9
 | 0=>some { keep:=[1,2,6,7,13,14],objs:=[(8,2,108002,.ints 43 .u64 [])],boxes:=[6,7] }
 | 2=>some { keep:=[1,2,6,7,8,13,14,17,18],objs:=[(8,2,108002,.ints 43 .u64 [])],boxes:=[6,7] }
 | _=>none
def Aa.of.Part.E:=C6 (Cw [(122,Aa.Lt.spec)]) (fun _=>false) Aa.of.Part.hint (fun _=>none)
section
variable(N M0 M:Nat)(a b r c:Int)(l:List Int)(x y p8 p14_1 p18:Int)(p2:List Int)(p14:Int)(p2_1:List Int)
def Aa.of.Part.L0:Option DV:=B2 Aa.of.Part.E N f117 (Aj f117) [1,1,0,1,0] [] M ⟨F3 33 [(1,.int .i64 b),(2,.fn 122 [] [.cellp [.int .i64 r,.int .i64 c,.ints .arg .u64 l],.cellp [.int .i64 x],.cellp [.int .i64 y]]),(6,.ptr 6 0 0),(7,.ptr 7 0 0),(13,.int .i64 a),(14,.int .i64 p14)],[(6,false,.box [.int .i64 0,.int .i64 0,.nil]),(7,false,.box [.int .i64 a,.int .i64 b,.oref 108002]),(108002,false,.ints 43 .u64 p2_1)]⟩
def Aa.of.Part.L1:Option DV:=B2 Aa.of.Part.E N f117 (Aj f117) [1,1,0,1,0,0,1,1,0,0,1,1,0] [M0] M ⟨F3 33 [(1,.int .i64 b),(2,.fn 122 [] [.cellp [.int .i64 r,.int .i64 c,.ints .arg .u64 l],.cellp [.int .i64 x],.cellp [.int .i64 y]]),(6,.ptr 6 0 0),(7,.ptr 7 0 0),(8,.int .i64 p8),(13,.int .i64 a),(14,.int .i64 p14_1),(17,.int .i64 b),(18,.int .i64 p18)],[(6,false,.box [.int .i64 0,.int .i64 0,.nil]),(7,false,.box [.int .i64 a,.int .i64 b,.oref 108002]),(108002,false,.ints 43 .u64 p2)]⟩
theorem Aa.of.Part.Ar:Aa.of.Part.L0 N (M+1) a b r c l x y p14 p2_1=cond (Bc p14 a) (Aa.of.Part.L1 N M N a b r c l x y p14 p14 0 p2_1) (some (.agg [.int .i64 a,.int .i64 b,.ints (.own 108002 43) .u64 p2_1])):=by kernel_rfl
theorem Aa.of.Part.B6:Aa.of.Part.L1 N M0 (M+1) a b r c l x y p8 p14_1 p18 p2=cond (Bc p18 b) (bif (E6 r c l (x+p8) (y+p18)&&Aec x y p8 p18) then cond (decide ((length p2)+1<=G2)) (Aa.of.Part.L1 N M0 M a b r c l x y p8 p14_1 (Ad (p18+1)) (p2++[(C1 c l (x+p8) (y+p18))])) none else none) (Aa.of.Part.L0 N M0 a b r c l x y (Ad (p14_1+1)) p2) :=Et (Es (Co (Cb _) (Co (Cb _) rfl rfl) rfl) rfl)
theorem Aa.of.Part.ev:Bv Aa.of.Part.E N f117 (Aj f117) [.int .i64 a,.int .i64 b,.fn 122 [] [.cellp [.int .i64 r,.int .i64 c,.ints .arg .u64 l],.cellp [.int .i64 x],.cellp [.int .i64 y]]] =
 Aa.of.Part.L0 N N a b r c l x y 0 []:=by kernel_rfl
end
def Aa.of.Stack.hint:Nat->Option A9
 | 0=>some { keep:=[1,2,6,7,13,14],objs:=[(8,2,108002,.ints 43 .u64 [])],boxes:=[6,7] }
 | 2=>some { keep:=[1,2,6,7,8,13,14,17,18],objs:=[(8,2,108002,.ints 43 .u64 [])],boxes:=[6,7] }
 | _=>none
def Aa.of.Stack.E:=C6 (Cw [(118,Aa.I7.spec)]) (fun _=>false) Aa.of.Stack.hint (fun _=>none)
section
variable(N M0 M:Nat)(a b r c:Int)(l:List Int)(p q:Int)(m:List Int)(p8 p14_1 p18:Int)(p2:List Int)(p14:Int)(p2_1:List Int)
def Aa.of.Stack.L0:Option DV:=B2 Aa.of.Stack.E N f117 (Aj f117) [1,1,0,1,0] [] M ⟨F3 33 [(1,.int .i64 b),(2,.fn 118 [] [.cellp [.int .i64 r,.int .i64 c,.ints .arg .u64 l],.cellp [.int .i64 p,.int .i64 q,.ints .arg .u64 m]]),(6,.ptr 6 0 0),(7,.ptr 7 0 0),(13,.int .i64 a),(14,.int .i64 p14)],[(6,false,.box [.int .i64 0,.int .i64 0,.nil]),(7,false,.box [.int .i64 a,.int .i64 b,.oref 108002]),(108002,false,.ints 43 .u64 p2_1)]⟩
def Aa.of.Stack.L1:Option DV:=B2 Aa.of.Stack.E N f117 (Aj f117) [1,1,0,1,0,0,1,1,0,0,1,1,0] [M0] M ⟨F3 33 [(1,.int .i64 b),(2,.fn 118 [] [.cellp [.int .i64 r,.int .i64 c,.ints .arg .u64 l],.cellp [.int .i64 p,.int .i64 q,.ints .arg .u64 m]]),(6,.ptr 6 0 0),(7,.ptr 7 0 0),(8,.int .i64 p8),(13,.int .i64 a),(14,.int .i64 p14_1),(17,.int .i64 b),(18,.int .i64 p18)],[(6,false,.box [.int .i64 0,.int .i64 0,.nil]),(7,false,.box [.int .i64 a,.int .i64 b,.oref 108002]),(108002,false,.ints 43 .u64 p2)]⟩
theorem Aa.of.Stack.Ar:Aa.of.Stack.L0 N (M+1) a b r c l p q m p14 p2_1=cond (Bc p14 a) (Aa.of.Stack.L1 N M N a b r c l p q m p14 p14 0 p2_1) (some (.agg [.int .i64 a,.int .i64 b,.ints (.own 108002 43) .u64 p2_1])):=by kernel_rfl
theorem Aa.of.Stack.B6:Aa.of.Stack.L1 N M0 (M+1) a b r c l p q m p8 p14_1 p18 p2=cond (Bc p18 b) (bif (Sm r c l p q m p8 p18) then cond (decide ((length p2)+1<=G2)) (Aa.of.Stack.L1 N M0 M a b r c l p q m p8 p14_1 (Ad (p18+1)) (p2++[(Kj r c l q m p8 p18)])) none else none) (Aa.of.Stack.L0 N M0 a b r c l p q m (Ad (p14_1+1)) p2) :=Et (Es (Co (Cb _) (Co (Cb _) rfl rfl) rfl) rfl)
theorem Aa.of.Stack.ev:Bv Aa.of.Stack.E N f117 (Aj f117) [.int .i64 a,.int .i64 b,.fn 118 [] [.cellp [.int .i64 r,.int .i64 c,.ints .arg .u64 l],.cellp [.int .i64 p,.int .i64 q,.ints .arg .u64 m]]] =
 Aa.of.Stack.L0 N N a b r c l p q m 0 []:=by kernel_rfl
end
def Aa.of.Mul.hint:Nat->Option A9
 | 0=>some { keep:=[1,2,6,7,13,14],objs:=[(8,2,108002,.ints 43 .u64 [])],boxes:=[6,7] }
 | 2=>some { keep:=[1,2,6,7,8,13,14,17,18],objs:=[(8,2,108002,.ints 43 .u64 [])],boxes:=[6,7] }
 | _=>none
def Aa.of.Mul.E:=C6 (Cw [(133,Aa.P2.spec)]) (fun _=>false) Aa.of.Mul.hint (fun _=>none)
section
variable(N M0 M:Nat)(a b r c:Int)(l:List Int)(p q:Int)(m:List Int)(p8 p14_1 p18:Int)(p2:List Int)(p14:Int)(p2_1:List Int)
def Aa.of.Mul.L0:Option DV:=B2 Aa.of.Mul.E N f117 (Aj f117) [1,1,0,1,0] [] M ⟨F3 33 [(1,.int .i64 b),(2,.fn 133 [] [.cellp [.int .i64 r,.int .i64 c,.ints .arg .u64 l],.cellp [.int .i64 p,.int .i64 q,.ints .arg .u64 m]]),(6,.ptr 6 0 0),(7,.ptr 7 0 0),(13,.int .i64 a),(14,.int .i64 p14)],[(6,false,.box [.int .i64 0,.int .i64 0,.nil]),(7,false,.box [.int .i64 a,.int .i64 b,.oref 108002]),(108002,false,.ints 43 .u64 p2_1)]⟩
def Aa.of.Mul.L1:Option DV:=B2 Aa.of.Mul.E N f117 (Aj f117) [1,1,0,1,0,0,1,1,0,0,1,1,0] [M0] M ⟨F3 33 [(1,.int .i64 b),(2,.fn 133 [] [.cellp [.int .i64 r,.int .i64 c,.ints .arg .u64 l],.cellp [.int .i64 p,.int .i64 q,.ints .arg .u64 m]]),(6,.ptr 6 0 0),(7,.ptr 7 0 0),(8,.int .i64 p8),(13,.int .i64 a),(14,.int .i64 p14_1),(17,.int .i64 b),(18,.int .i64 p18)],[(6,false,.box [.int .i64 0,.int .i64 0,.nil]),(7,false,.box [.int .i64 a,.int .i64 b,.oref 108002]),(108002,false,.ints 43 .u64 p2)]⟩
theorem Aa.of.Mul.Ar:Aa.of.Mul.L0 N (M+1) a b r c l p q m p14 p2_1=cond (Bc p14 a) (Aa.of.Mul.L1 N M N a b r c l p q m p14 p14 0 p2_1) (some (.agg [.int .i64 a,.int .i64 b,.ints (.own 108002 43) .u64 p2_1])):=by kernel_rfl
theorem Aa.of.Mul.B6:Aa.of.Mul.L1 N M0 (M+1) a b r c l p q m p8 p14_1 p18 p2=cond (Bc p18 b) (bif (Abj r c l p q m p8 p18) then cond (decide ((length p2)+1<=G2)) (Aa.of.Mul.L1 N M0 M a b r c l p q m p8 p14_1 (Ad (p18+1)) (p2++[(Hi (F6 c l p8) (Yk p q m p18))])) none else none) (Aa.of.Mul.L0 N M0 a b r c l p q m (Ad (p14_1+1)) p2) :=Et (Es (Co (Cb _) (Co (Cb _) rfl rfl) rfl) rfl)
theorem Aa.of.Mul.ev:Bv Aa.of.Mul.E N f117 (Aj f117) [.int .i64 a,.int .i64 b,.fn 133 [] [.cellp [.int .i64 r,.int .i64 c,.ints .arg .u64 l],.cellp [.int .i64 p,.int .i64 q,.ints .arg .u64 m]]] =
 Aa.of.Mul.L0 N N a b r c l p q m 0 []:=by kernel_rfl
end
def Aa.Br.E:=E0 [(117,Aa.of.Br.spec),(164,Aa.size.spec)]
theorem Aa.Br.ev(N:Nat)(a b:Int):Bv Aa.Br.E N f149 (Aj f149) [.int .i64 a,.int .i64 b]=cond ((!(Bp a))||(!(Bp b))) (some (.tup [.agg [.int .i64 0,.int .i64 0,.nil],.int .i64 3])) (bif ((Bp a&&Bp b)) then some (.tup [.agg [.int .i64 a,.int .i64 b,.ints .fresh .u64 (B0 (toNat a) (toNat b) (fun _ _=>0))],.int .i64 0]) else none) :=Et (Ax (Xw (Bp a)) (Ax (R7 (Bp a)) (Ax (R7 (Bp a)) (Ax (Aau (Bp a)) (Co (Apm _ _) rfl rfl)))))
def Aa.Hv.E:=E0 [(117,Aa.of.Hv.spec),(164,Aa.size.spec)]
theorem Aa.Hv.ev(N:Nat)(n:Int):Bv Aa.Hv.E N f126 (Aj f126) [.int .i64 n]=cond (!(Bp n)) (some (.tup [.agg [.int .i64 0,.int .i64 0,.nil],.int .i64 3])) (bif ((Bp n&&Bp n)) then some (.tup [.agg [.int .i64 n,.int .i64 n,.ints .fresh .u64 (B0 (toNat n) (toNat n) (fun j1 j2=>Pc j1 j2))],.int .i64 0]) else none):=by kernel_rfl
def Aa.D4.E:=E0 [(121,Aa.Check.spec),(117,Aa.of.D4.spec)]
theorem Aa.D4.ev(N:Nat)(r c:Int)(l:List Int):Bv Aa.D4.E N f203 (Aj f203) [.agg [.int .i64 r,.int .i64 c,.ints .arg .u64 l]]=cond ((Ny r c l) !=(0:Int)) (some (.tup [.agg [.int .i64 0,.int .i64 0,.nil],.int .i64 (Ny r c l)])) (bif ((Bp c&&Bp r)&&Az r c l&&decide (c=c/\r=r)) then some (.tup [.agg [.int .i64 c,.int .i64 r,.ints .fresh .u64 (B0 (toNat c) (toNat r) (fun j1 j2=>C1 c l j2 j1))],.int .i64 0]) else none):=by kernel_rfl
def Aa.Part.E:=E0 [(121,Aa.Check.spec),(117,Aa.of.Part.spec)]
theorem Aa.Part.ev(N:Nat)(r c:Int)(l:List Int)(x y:Int)(a b:Int):Bv Aa.Part.E N f63 (Aj f63) [.agg [.int .i64 r,.int .i64 c,.ints .arg .u64 l],.int .i64 x,.int .i64 y,.int .i64 a,.int .i64 b]=cond ((Ny r c l) !=(0:Int)) (some (.tup [.agg [.int .i64 0,.int .i64 0,.nil],.int .i64 (Ny r c l)])) (bif ((((((((Bc x 0)||(Bc y 0))||(Bc a 0))||(Bc b 0))||(Bc r x))||(Bc c y))||(Bc (Ad (r-x)) a))||(Bc (Ad (c-y)) b)) then some (.tup [.agg [.int .i64 0,.int .i64 0,.nil],.int .i64 3]) else bif ((Bp a&&Bp b)&&Az r c l&&Ug r c x y a b) then some (.tup [.agg [.int .i64 a,.int .i64 b,.ints .fresh .u64 (B0 (toNat a) (toNat b) (fun j1 j2=>C1 c l (x+j1) (y+j2)))],.int .i64 0]) else none) :=Et (Es rfl (Ax (Uw (Bc x 0)) (Ax (Te (Bc x 0)) (Ax (tt6 (Bc x 0)) (Ax (Agu (Bc x 0) (Bc y 0)) (Ax (Agv (Bc x 0) (Bc y 0)) (Ax (Apj (Bc x 0) (Bc y 0)) (Ax (Apk (Bc x 0) (Bc y 0) (Bc a 0)) (Ax (Aly (Bc x 0) (Bc y 0) (Bc a 0)) (Ax (Ayn (Bc x 0) (Bc y 0) (Bc a 0)) (Ax (Aum (Bc x 0) (Bc y 0) (Bc a 0) (Bc b 0)) (Ax (Aum (Bc x 0) (Bc y 0) (Bc a 0) (Bc b 0)) (Ax (Bak (Bc x 0) (Bc y 0) (Bc a 0) (Bc b 0)) (Ax (A7b (Bc x 0) (Bc y 0) (Bc a 0) (Bc b 0)) (Ax (A7c (Bc x 0) (Bc y 0) (Bc a 0) (Bc b 0)) (Ax (Bal (Bc x 0) (Bc y 0) (Bc a 0) (Bc b 0) (Bc r x)) (Ax (Bal (Bc x 0) (Bc y 0) (Bc a 0) (Bc b 0) (Bc r x)) (Ax (Bc8 (Bc x 0) (Bc y 0) (Bc a 0) (Bc b 0) (Bc r x)) (Ax (Bc9 (Bc x 0) (Bc y 0) (Bc a 0) (Bc b 0) (Bc r x)) (Ax (Bda (Bc x 0) (Bc y 0) (Bc a 0) (Bc b 0) (Bc r x)) (Ax (A7d (Bc x 0) (Bc y 0) (Bc a 0) (Bc b 0) (Bc r x) (Bc c y)) (Ax (A7d (Bc x 0) (Bc y 0) (Bc a 0) (Bc b 0) (Bc r x) (Bc c y)) (Ax (Bdb (Bc x 0) (Bc y 0) (Bc a 0) (Bc b 0) (Bc r x) (Bc c y)) (Ax (A7d (Bc x 0) (Bc y 0) (Bc a 0) (Bc b 0) (Bc r x) (Bc c y)) (Ax (Bam (Bc x 0) (Bc y 0) (Bc a 0) (Bc b 0) (Bc r x) (Bc c y)) (Ax (Bam (Bc x 0) (Bc y 0) (Bc a 0) (Bc b 0) (Bc r x) (Bc c y)) (Ax (Bdc (Bc x 0) (Bc y 0) (Bc a 0) (Bc b 0) (Bc r x) (Bc c y)) (Ax (A7e (Bc x 0) (Bc y 0) (Bc a 0) (Bc b 0) (Bc r x) (Bc c y) (Bc (Ad (r-x)) a)) (Ax (A7e (Bc x 0) (Bc y 0) (Bc a 0) (Bc b 0) (Bc r x) (Bc c y) (Bc (Ad (r-x)) a)) (Ax (Bdd (Bc x 0) (Bc y 0) (Bc a 0) (Bc b 0) (Bc r x) (Bc c y) (Bc (Ad (r-x)) a)) (Ax (A7e (Bc x 0) (Bc y 0) (Bc a 0) (Bc b 0) (Bc r x) (Bc c y) (Bc (Ad (r-x)) a)) (Ax (Ban (Bc x 0) (Bc y 0) (Bc a 0) (Bc b 0) (Bc r x) (Bc c y) (Bc (Ad (r-x)) a)) (Ax (Ban (Bc x 0) (Bc y 0) (Bc a 0) (Bc b 0) (Bc r x) (Bc c y) (Bc (Ad (r-x)) a)) (Ax (Bde (Bc x 0) (Bc y 0) (Bc a 0) (Bc b 0) (Bc r x) (Bc c y) (Bc (Ad (r-x)) a)) (Co (Bdf _ _ _ _ _ _ _ _) rfl rfl)))))))))))))))))))))))))))))))))))
def Aa.Stack.E:=E0 [(117,Aa.of.Stack.spec),(116,Aa.two.spec)]
theorem Aa.Stack.ev(N:Nat)(r c:Int)(l:List Int)(p q:Int)(m:List Int):Bv Aa.Stack.E N f61 (Aj f61) [.agg [.int .i64 r,.int .i64 c,.ints .arg .u64 l],.agg [.int .i64 p,.int .i64 q,.ints .arg .u64 m]]=cond ((Aas r c l p q m) !=(0:Int)) (some (.tup [.agg [.int .i64 0,.int .i64 0,.nil],.int .i64 (Aas r c l p q m)])) (bif ((c !=q)||(Bc 6 (Ad (r+p)))) then some (.tup [.agg [.int .i64 0,.int .i64 0,.nil],.int .i64 3]) else bif ((Bp (Ad (r+p))&&Bp c)&&(Az r c l&&Az p q m)&&decide ((Ad (r+p))=r+p/\c=c/\q=c)) then some (.tup [.agg [.int .i64 (Ad (r+p)),.int .i64 c,.ints .fresh .u64 (B0 (toNat (Ad (r+p))) (toNat c) (fun j1 j2=>Kj r c l q m j1 j2))],.int .i64 0]) else none) :=Et (Es rfl (Ax (Uw (c !=q)) (Ax (Te (c !=q)) (Ax (Uw (c !=q)) (Ax (Te (c !=q)) (Ax (tt8 (c !=q)) (Ax (Te (c !=q)) (Ax (tt6 (c !=q)) (Co (tt5 _ _) rfl rfl)))))))))
def Aa.Mul.E:=E0 [(117,Aa.of.Mul.spec),(116,Aa.two.spec)]
theorem Aa.Mul.ev(N:Nat)(r c:Int)(l:List Int)(p q:Int)(m:List Int):Bv Aa.Mul.E N f65 (Aj f65) [.agg [.int .i64 r,.int .i64 c,.ints .arg .u64 l],.agg [.int .i64 p,.int .i64 q,.ints .arg .u64 m]]=cond ((Aas r c l p q m) !=(0:Int)) (some (.tup [.agg [.int .i64 0,.int .i64 0,.nil],.int .i64 (Aas r c l p q m)])) (bif (c !=p) then some (.tup [.agg [.int .i64 0,.int .i64 0,.nil],.int .i64 3]) else bif ((Bp r&&Bp q)&&((Az r c l&&Az p q m)&&(Ah l&&Ah m))&&decide (r=r/\q=q/\c=p)) then some (.tup [.agg [.int .i64 r,.int .i64 q,.ints .fresh .u64 (B0 (toNat r) (toNat q) (fun j1 j2=>Hi (F6 c l j1) (Yk p q m j2)))],.int .i64 0]) else none):=by kernel_rfl
theorem of.Br.inner(N:Nat)  {A B:Nat} (hA:A<=6) (hB:B<=6) {F:Nat->Nat->Int} (hF:∀i j:Nat,F i j=(0:Int)) {i:Nat} (hi:i<A):∀(k j M0 M:Nat),j+k=B->k<M ->
 Aa.of.Br.L1 N M0 M (A:Int) (B:Int) (i:Int) (i:Int) (j:Int) (B0 i B F++(zh j).map (F i))=Aa.of.Br.L0 N M0 (A:Int) (B:Int) ((i+1:Nat):Int) (B0 (i+1) B F):=by
 intro k
 induction k with
 | zero =>
   intro j M0 M hj hM;obtain⟨M,rfl⟩:∃G,M=G+1:=⟨M-1,by omega⟩
   obtain rfl:j=B:=by omega
   rw[Aa.of.Br.B6,As,Beu (by omega),Bet,An (by omega) (by omega),<- Og];rfl
 | succ k ih =>
   intro j M0 M hj hM;obtain⟨M,rfl⟩:∃G,M=G+1:=⟨M-1,by omega⟩
   have d:decide ((B0 i B F++(zh j).map (F i)).length+1<=G2)=true:=by refine Beq ?_;have:=Bfl (show i<=6 by omega) hB;rw[Bfh,B5,Bfv,Bfs]; unfold G2; omega
   rw[Aa.of.Br.B6,As,Beq (by omega),Bep,d,Bep,An (by omega) (by omega),<- hF i j];have:=ih (j+1) M0 M (by omega) (by omega);rw[Kl,<- zQ] at this;exact this
theorem of.Br.outer(N:Nat)  {A B:Nat} (hA:A<=6) (hB:B<=6) (hN:6<N) {F:Nat->Nat->Int} (hF:∀i j:Nat,F i j=(0:Int)):∀(k i M:Nat),i+k=A->k<M ->
 Aa.of.Br.L0 N M (A:Int) (B:Int) (i:Int) (B0 i B F)=some (.agg [.int .i64 (A:Int),.int .i64 (B:Int),.ints (.own 108002 tB) .u64 (B0 A B F)]):=by
 intro k
 induction k with
 | zero =>
   intro i M hi hM;obtain⟨M,rfl⟩:∃G,M=G+1:=⟨M-1,by omega⟩
   obtain rfl:i=A:=by omega
   rw[Aa.of.Br.Ar,As,Beu (by omega),Bet]
 | succ k ih =>
   intro i M hi hM;obtain⟨M,rfl⟩:∃G,M=G+1:=⟨M-1,by omega⟩
   have n:=of.Br.inner N hA hB hF (show i<A by omega) B 0 M N (by omega) (by omega);rw[xl,yP,yi] at n;rw[Aa.of.Br.Ar,As,Beq (by omega),Bep];exact n.trans (ih (i+1) M (by omega) (by omega))
theorem Aa.of.Br.Ae:Kq 117 Aa.of.Br.spec:=Eb Aa.of.Br.E Tryz.func117 (kc Aa.Ib.Ae .nil) fun a b hp=>by have h1:(Bp a&&Bp b)=true:=hp;obtain⟨ha,hb⟩:=Ac.1 h1;obtain⟨A,rfl,hA⟩:=F5 ha;obtain⟨B,rfl,hB⟩:=F5 hb;refine⟨8,.agg [.int .i64 (A:Int),.int .i64 (B:Int),.ints (.own 108002 tB) .u64 (B0 A B fun(i j:Nat)=>(0:Int))],[108002],?_,Wk.H3 (.cons .int (.cons .int (.cons (.drop _ _ _ _ (zf.2 rfl)) .nil)))⟩;rw[Aa.of.Br.ev];have n:=of.Br.outer 8 hA hB (by omega) (F:=fun(i j:Nat)=>(0:Int)) (fun _ _=>rfl) A 0 8 (by omega) (by omega);rw[M4] at n;exact n
theorem of.Hv.inner(N:Nat)  {A B:Nat} (hA:A<=6) (hB:B<=6) {F:Nat->Nat->Int} (hF:∀i j:Nat,F i j=Pc (i:Int) (j:Int)) {i:Nat} (hi:i<A):∀(k j M0 M:Nat),j+k=B->k<M ->
 Aa.of.Hv.L1 N M0 M (A:Int) (B:Int) (i:Int) (i:Int) (j:Int) (B0 i B F++(zh j).map (F i))=Aa.of.Hv.L0 N M0 (A:Int) (B:Int) ((i+1:Nat):Int) (B0 (i+1) B F):=by
 intro k
 induction k with
 | zero =>
   intro j M0 M hj hM;obtain⟨M,rfl⟩:∃G,M=G+1:=⟨M-1,by omega⟩
   obtain rfl:j=B:=by omega
   rw[Aa.of.Hv.B6,As,Beu (by omega),Bet,An (by omega) (by omega),<- Og];rfl
 | succ k ih =>
   intro j M0 M hj hM;obtain⟨M,rfl⟩:∃G,M=G+1:=⟨M-1,by omega⟩
   have d:decide ((B0 i B F++(zh j).map (F i)).length+1<=G2)=true:=by refine Beq ?_;have:=Bfl (show i<=6 by omega) hB;rw[Bfh,B5,Bfv,Bfs]; unfold G2; omega
   rw[Aa.of.Hv.B6,As,Beq (by omega),Bep,d,Bep,An (by omega) (by omega),<- hF i j];have:=ih (j+1) M0 M (by omega) (by omega);rw[Kl,<- zQ] at this;exact this
theorem of.Hv.outer(N:Nat)  {A B:Nat} (hA:A<=6) (hB:B<=6) (hN:6<N) {F:Nat->Nat->Int} (hF:∀i j:Nat,F i j=Pc (i:Int) (j:Int)):∀(k i M:Nat),i+k=A->k<M ->
 Aa.of.Hv.L0 N M (A:Int) (B:Int) (i:Int) (B0 i B F)=some (.agg [.int .i64 (A:Int),.int .i64 (B:Int),.ints (.own 108002 tB) .u64 (B0 A B F)]):=by
 intro k
 induction k with
 | zero =>
   intro i M hi hM;obtain⟨M,rfl⟩:∃G,M=G+1:=⟨M-1,by omega⟩
   obtain rfl:i=A:=by omega
   rw[Aa.of.Hv.Ar,As,Beu (by omega),Bet]
 | succ k ih =>
   intro i M hi hM;obtain⟨M,rfl⟩:∃G,M=G+1:=⟨M-1,by omega⟩
   have n:=of.Hv.inner N hA hB hF (show i<A by omega) B 0 M N (by omega) (by omega);rw[xl,yP,yi] at n;rw[Aa.of.Hv.Ar,As,Beq (by omega),Bep];exact n.trans (ih (i+1) M (by omega) (by omega))
theorem Aa.of.Hv.Ae:Kq 117 Aa.of.Hv.spec:=Eb Aa.of.Hv.E Tryz.func117 (kc Aa.P6.Ae .nil) fun a b hp=>by have h1:(Bp a&&Bp b)=true:=hp;obtain⟨ha,hb⟩:=Ac.1 h1;obtain⟨A,rfl,hA⟩:=F5 ha;obtain⟨B,rfl,hB⟩:=F5 hb;refine⟨8,.agg [.int .i64 (A:Int),.int .i64 (B:Int),.ints (.own 108002 tB) .u64 (B0 A B fun(i j:Nat)=>Pc (i:Int) (j:Int))],[108002],?_,Wk.H3 (.cons .int (.cons .int (.cons (.drop _ _ _ _ (zf.2 rfl)) .nil)))⟩;rw[Aa.of.Hv.ev];have n:=of.Hv.outer 8 hA hB (by omega) (F:=fun(i j:Nat)=>Pc (i:Int) (j:Int)) (fun _ _=>rfl) A 0 8 (by omega) (by omega);rw[M4] at n;exact n
theorem of.D4.inner(N:Nat)(r c:Int)(l:List Int){A B:Nat}(hA:A<=6)(hB:B<=6){F:Nat->Nat->Int}(hF:∀i j:Nat,F i j=C1 c l (j:Int) (i:Int)){i:Nat}(hi:i<A)(hp:∀j:Nat,j<B->E6 r c l (j:Int) (i:Int)=true):∀(k j M0 M:Nat),j+k=B->k<M ->
 Aa.of.D4.L1 N M0 M (A:Int) (B:Int) r c l (i:Int) (i:Int) (j:Int) (B0 i B F++(zh j).map (F i))=Aa.of.D4.L0 N M0 (A:Int) (B:Int) r c l ((i+1:Nat):Int) (B0 (i+1) B F):=by
 intro k
 induction k with
 | zero =>
   intro j M0 M hj hM;obtain⟨M,rfl⟩:∃G,M=G+1:=⟨M-1,by omega⟩
   obtain rfl:j=B:=by omega
   rw[Aa.of.D4.B6,As,Beu (by omega),Bet,An (by omega) (by omega),<- Og];rfl
 | succ k ih =>
   intro j M0 M hj hM;obtain⟨M,rfl⟩:∃G,M=G+1:=⟨M-1,by omega⟩
   have d:decide ((B0 i B F++(zh j).map (F i)).length+1<=G2)=true:=by refine Beq ?_;have:=Bfl (show i<=6 by omega) hB;rw[Bfh,B5,Bfv,Bfs]; unfold G2; omega
   rw[Aa.of.D4.B6,As,Beq (by omega),Bep,hp j (by omega),Bep,d,Bep,An (by omega) (by omega),<- hF i j];have:=ih (j+1) M0 M (by omega) (by omega);rw[Kl,<- zQ] at this;exact this
theorem of.D4.outer(N:Nat)(r c:Int)(l:List Int){A B:Nat}(hA:A<=6)(hB:B<=6)(hN:6<N){F:Nat->Nat->Int}(hF:∀i j:Nat,F i j=C1 c l (j:Int) (i:Int))(hp:∀i j:Nat,i<A->j<B->E6 r c l (j:Int) (i:Int)=true):∀(k i M:Nat),i+k=A->k<M ->
 Aa.of.D4.L0 N M (A:Int) (B:Int) r c l (i:Int) (B0 i B F)=some (.agg [.int .i64 (A:Int),.int .i64 (B:Int),.ints (.own 108002 tB) .u64 (B0 A B F)]):=by
 intro k
 induction k with
 | zero =>
   intro i M hi hM;obtain⟨M,rfl⟩:∃G,M=G+1:=⟨M-1,by omega⟩
   obtain rfl:i=A:=by omega
   rw[Aa.of.D4.Ar,As,Beu (by omega),Bet]
 | succ k ih =>
   intro i M hi hM;obtain⟨M,rfl⟩:∃G,M=G+1:=⟨M-1,by omega⟩
   have n:=of.D4.inner N r c l hA hB hF (show i<A by omega) (fun j hj=>hp i j (by omega) hj) B 0 M N (by omega) (by omega);rw[xl,yP,yi] at n;rw[Aa.of.D4.Ar,As,Beq (by omega),Bep];exact n.trans (ih (i+1) M (by omega) (by omega))
theorem Aa.of.D4.Ae:Kq 117 Aa.of.D4.spec:=Eb Aa.of.D4.E Tryz.func117 (kc Aa.Ls.Ae .nil) fun a b r c l hp=>by
 obtain⟨h12,hy⟩:=Ac.1 (show(((Bp a&&Bp b)&&Az r c l)&&decide (a=c/\b=r))=true from hp);obtain⟨h1,hx⟩:=Ac.1 h12;have h2:=Ac.2 ⟨hx,hy⟩;obtain⟨ha,hb⟩:=Ac.1 h1;obtain⟨A,rfl,hA⟩:=F5 ha;obtain⟨B,rfl,hB⟩:=F5 hb;obtain⟨hr,he⟩:=Ac.1 h2;obtain⟨e1,e2⟩:=Bff he;have hp:∀i j:Nat,i<A->j<B->E6 r c l (j:Int) (i:Int)=true:=fun i j hi hj=>M7 hr (by omega) (by omega) (by omega) (by omega) r
 refine⟨8,.agg [.int .i64 (A:Int),.int .i64 (B:Int),.ints (.own 108002 tB) .u64 (B0 A B fun(i j:Nat)=>C1 c l (j:Int) (i:Int))],[108002],?_,Wk.H3 (.cons .int (.cons .int (.cons (.drop _ _ _ _ (zf.2 rfl)) .nil)))⟩;rw[Aa.of.D4.ev];have n:=of.D4.outer 8 r c l hA hB (by omega) (F:=fun(i j:Nat)=>C1 c l (j:Int) (i:Int)) (fun _ _=>rfl) hp A 0 8 (by omega) (by omega);rw[M4] at n;exact n
theorem of.Part.inner(N:Nat)(r c:Int)(l:List Int)(x y:Int){A B:Nat}(hA:A<=6)(hB:B<=6){F:Nat->Nat->Int}(hF:∀i j:Nat,F i j=C1 c l (x+(i:Int)) (y+(j:Int))){i:Nat}(hi:i<A)(hp:∀j:Nat,j<B->(E6 r c l (x+(i:Int)) (y+(j:Int))&&Aec x y (i:Int) (j:Int))=true):∀(k j M0 M:Nat),j+k=B->k<M ->
 Aa.of.Part.L1 N M0 M (A:Int) (B:Int) r c l x y (i:Int) (i:Int) (j:Int) (B0 i B F++(zh j).map (F i))=Aa.of.Part.L0 N M0 (A:Int) (B:Int) r c l x y ((i+1:Nat):Int) (B0 (i+1) B F):=by
 intro k
 induction k with
 | zero =>
   intro j M0 M hj hM;obtain⟨M,rfl⟩:∃G,M=G+1:=⟨M-1,by omega⟩
   obtain rfl:j=B:=by omega
   rw[Aa.of.Part.B6,As,Beu (by omega),Bet,An (by omega) (by omega),<- Og];rfl
 | succ k ih =>
   intro j M0 M hj hM;obtain⟨M,rfl⟩:∃G,M=G+1:=⟨M-1,by omega⟩
   have d:decide ((B0 i B F++(zh j).map (F i)).length+1<=G2)=true:=by refine Beq ?_;have:=Bfl (show i<=6 by omega) hB;rw[Bfh,B5,Bfv,Bfs]; unfold G2; omega
   rw[Aa.of.Part.B6,As,Beq (by omega),Bep,hp j (by omega),Bep,d,Bep,An (by omega) (by omega),<- hF i j];have:=ih (j+1) M0 M (by omega) (by omega);rw[Kl,<- zQ] at this;exact this
theorem of.Part.outer(N:Nat)(r c:Int)(l:List Int)(x y:Int){A B:Nat}(hA:A<=6)(hB:B<=6)(hN:6<N){F:Nat->Nat->Int}(hF:∀i j:Nat,F i j=C1 c l (x+(i:Int)) (y+(j:Int)))(hp:∀i j:Nat,i<A->j<B->(E6 r c l (x+(i:Int)) (y+(j:Int))&&Aec x y (i:Int) (j:Int))=true):∀(k i M:Nat),i+k=A->k<M ->
 Aa.of.Part.L0 N M (A:Int) (B:Int) r c l x y (i:Int) (B0 i B F)=some (.agg [.int .i64 (A:Int),.int .i64 (B:Int),.ints (.own 108002 tB) .u64 (B0 A B F)]):=by
 intro k
 induction k with
 | zero =>
   intro i M hi hM;obtain⟨M,rfl⟩:∃G,M=G+1:=⟨M-1,by omega⟩
   obtain rfl:i=A:=by omega
   rw[Aa.of.Part.Ar,As,Beu (by omega),Bet]
 | succ k ih =>
   intro i M hi hM;obtain⟨M,rfl⟩:∃G,M=G+1:=⟨M-1,by omega⟩
   have n:=of.Part.inner N r c l x y hA hB hF (show i<A by omega) (fun j hj=>hp i j (by omega) hj) B 0 M N (by omega) (by omega);rw[xl,yP,yi] at n;rw[Aa.of.Part.Ar,As,Beq (by omega),Bep];exact n.trans (ih (i+1) M (by omega) (by omega))
theorem Aa.of.Part.Ae:Kq 117 Aa.of.Part.spec:=Eb Aa.of.Part.E Tryz.func117 (kc Aa.Lt.Ae .nil) fun a b r c l x y hp=>by
 obtain⟨h12,hy⟩:=Ac.1 (show(((Bp a&&Bp b)&&Az r c l)&&Ug r c x y a b)=true from hp);obtain⟨h1,hx⟩:=Ac.1 h12;have h2:=Ac.2 ⟨hx,hy⟩;obtain⟨ha,hb⟩:=Ac.1 h1;obtain⟨A,rfl,hA⟩:=F5 ha;obtain⟨B,rfl,hB⟩:=F5 hb;obtain⟨hr,he⟩:=Ac.1 h2;have he:=Bff he;have hs:=Hj.1 hr
 have hp:∀i j:Nat,i<A->j<B->(E6 r c l (x+(i:Int)) (y+(j:Int))&&Aec x y (i:Int) (j:Int))=true:=fun i j hi hj =>
  Ac.2 ⟨M7 hr (by omega) (by omega) (by omega) (by omega) r,Ak.2 (by omega)⟩
 refine⟨8,.agg [.int .i64 (A:Int),.int .i64 (B:Int),.ints (.own 108002 tB) .u64 (B0 A B fun(i j:Nat)=>C1 c l (x+(i:Int)) (y+(j:Int)))],[108002],?_,Wk.H3 (.cons .int (.cons .int (.cons (.drop _ _ _ _ (zf.2 rfl)) .nil)))⟩;rw[Aa.of.Part.ev];have n:=of.Part.outer 8 r c l x y hA hB (by omega) (F:=fun(i j:Nat)=>C1 c l (x+(i:Int)) (y+(j:Int))) (fun _ _=>rfl) hp A 0 8 (by omega) (by omega);rw[M4] at n;exact n
theorem of.Stack.inner(N:Nat)(r c:Int)(l:List Int)(p q:Int)(m:List Int){A B:Nat}(hA:A<=6)(hB:B<=6){F:Nat->Nat->Int}(hF:∀i j:Nat,F i j=Kj r c l q m (i:Int) (j:Int)){i:Nat}(hi:i<A)(hp:∀j:Nat,j<B->Sm r c l p q m (i:Int) (j:Int)=true):∀(k j M0 M:Nat),j+k=B->k<M ->
 Aa.of.Stack.L1 N M0 M (A:Int) (B:Int) r c l p q m (i:Int) (i:Int) (j:Int) (B0 i B F++(zh j).map (F i))=Aa.of.Stack.L0 N M0 (A:Int) (B:Int) r c l p q m ((i+1:Nat):Int) (B0 (i+1) B F):=by
 intro k
 induction k with
 | zero =>
   intro j M0 M hj hM;obtain⟨M,rfl⟩:∃G,M=G+1:=⟨M-1,by omega⟩
   obtain rfl:j=B:=by omega
   rw[Aa.of.Stack.B6,As,Beu (by omega),Bet,An (by omega) (by omega),<- Og];rfl
 | succ k ih =>
   intro j M0 M hj hM;obtain⟨M,rfl⟩:∃G,M=G+1:=⟨M-1,by omega⟩
   have d:decide ((B0 i B F++(zh j).map (F i)).length+1<=G2)=true:=by refine Beq ?_;have:=Bfl (show i<=6 by omega) hB;rw[Bfh,B5,Bfv,Bfs]; unfold G2; omega
   rw[Aa.of.Stack.B6,As,Beq (by omega),Bep,hp j (by omega),Bep,d,Bep,An (by omega) (by omega),<- hF i j];have:=ih (j+1) M0 M (by omega) (by omega);rw[Kl,<- zQ] at this;exact this
theorem of.Stack.outer(N:Nat)(r c:Int)(l:List Int)(p q:Int)(m:List Int){A B:Nat}(hA:A<=6)(hB:B<=6)(hN:6<N){F:Nat->Nat->Int}(hF:∀i j:Nat,F i j=Kj r c l q m (i:Int) (j:Int))(hp:∀i j:Nat,i<A->j<B->Sm r c l p q m (i:Int) (j:Int)=true):∀(k i M:Nat),i+k=A->k<M ->
 Aa.of.Stack.L0 N M (A:Int) (B:Int) r c l p q m (i:Int) (B0 i B F)=some (.agg [.int .i64 (A:Int),.int .i64 (B:Int),.ints (.own 108002 tB) .u64 (B0 A B F)]):=by
 intro k
 induction k with
 | zero =>
   intro i M hi hM;obtain⟨M,rfl⟩:∃G,M=G+1:=⟨M-1,by omega⟩
   obtain rfl:i=A:=by omega
   rw[Aa.of.Stack.Ar,As,Beu (by omega),Bet]
 | succ k ih =>
   intro i M hi hM;obtain⟨M,rfl⟩:∃G,M=G+1:=⟨M-1,by omega⟩
   have n:=of.Stack.inner N r c l p q m hA hB hF (show i<A by omega) (fun j hj=>hp i j (by omega) hj) B 0 M N (by omega) (by omega);rw[xl,yP,yi] at n;rw[Aa.of.Stack.Ar,As,Beq (by omega),Bep];exact n.trans (ih (i+1) M (by omega) (by omega))
theorem Aa.of.Stack.Ae:Kq 117 Aa.of.Stack.spec:=Eb Aa.of.Stack.E Tryz.func117 (kc Aa.I7.Ae .nil) fun a b r c l p q m hp=>by
 obtain⟨h12,hy⟩:=Ac.1 (show(((Bp a&&Bp b)&&(Az r c l&&Az p q m))&&decide (a=r+p/\b=c/\q=c))=true from hp);obtain⟨h1,hx⟩:=Ac.1 h12;have h2:=Ac.2 ⟨hx,hy⟩;obtain⟨ha,hb⟩:=Ac.1 h1;obtain⟨A,rfl,hA⟩:=F5 ha;obtain⟨B,rfl,hB⟩:=F5 hb;obtain⟨h3,he⟩:=Ac.1 h2;obtain⟨hr,hm⟩:=Ac.1 h3;obtain⟨e1,e2,e3⟩:=Bff he;have hs:=Hj.1 hr
 have hp:∀i j:Nat,i<A->j<B->Sm r c l p q m (i:Int) (j:Int)=true:=fun i j hi hj=>by
  refine Ak.2 ⟨by omega,by omega,by omega,by omega,?_⟩;by_cases h:(i:Int)<r
  ·rw[Bfc h]; exact M7 hr (by omega) (by omega) (by omega) (by omega) r
  ·rw[Bfb h]; exact M7 hm (by omega) (by omega) (by omega) (by omega) p
 refine⟨8,.agg [.int .i64 (A:Int),.int .i64 (B:Int),.ints (.own 108002 tB) .u64 (B0 A B fun(i j:Nat)=>Kj r c l q m (i:Int) (j:Int))],[108002],?_,Wk.H3 (.cons .int (.cons .int (.cons (.drop _ _ _ _ (zf.2 rfl)) .nil)))⟩;rw[Aa.of.Stack.ev];have n:=of.Stack.outer 8 r c l p q m hA hB (by omega) (F:=fun(i j:Nat)=>Kj r c l q m (i:Int) (j:Int)) (fun _ _=>rfl) hp A 0 8 (by omega) (by omega);rw[M4] at n;exact n
theorem of.Mul.inner(N:Nat)(r c:Int)(l:List Int)(p q:Int)(m:List Int){A B:Nat}(hA:A<=6)(hB:B<=6){F:Nat->Nat->Int}(hF:∀i j:Nat,F i j=Hi (F6 c l (i:Int)) (Yk p q m (j:Int))){i:Nat}(hi:i<A)(hp:∀j:Nat,j<B->Abj r c l p q m (i:Int) (j:Int)=true):∀(k j M0 M:Nat),j+k=B->k<M ->
 Aa.of.Mul.L1 N M0 M (A:Int) (B:Int) r c l p q m (i:Int) (i:Int) (j:Int) (B0 i B F++(zh j).map (F i))=Aa.of.Mul.L0 N M0 (A:Int) (B:Int) r c l p q m ((i+1:Nat):Int) (B0 (i+1) B F):=by
 intro k
 induction k with
 | zero =>
   intro j M0 M hj hM;obtain⟨M,rfl⟩:∃G,M=G+1:=⟨M-1,by omega⟩
   obtain rfl:j=B:=by omega
   rw[Aa.of.Mul.B6,As,Beu (by omega),Bet,An (by omega) (by omega),<- Og];rfl
 | succ k ih =>
   intro j M0 M hj hM;obtain⟨M,rfl⟩:∃G,M=G+1:=⟨M-1,by omega⟩
   have d:decide ((B0 i B F++(zh j).map (F i)).length+1<=G2)=true:=by refine Beq ?_;have:=Bfl (show i<=6 by omega) hB;rw[Bfh,B5,Bfv,Bfs]; unfold G2; omega
   rw[Aa.of.Mul.B6,As,Beq (by omega),Bep,hp j (by omega),Bep,d,Bep,An (by omega) (by omega),<- hF i j];have:=ih (j+1) M0 M (by omega) (by omega);rw[Kl,<- zQ] at this;exact this
theorem of.Mul.outer(N:Nat)(r c:Int)(l:List Int)(p q:Int)(m:List Int){A B:Nat}(hA:A<=6)(hB:B<=6)(hN:6<N){F:Nat->Nat->Int}(hF:∀i j:Nat,F i j=Hi (F6 c l (i:Int)) (Yk p q m (j:Int)))(hp:∀i j:Nat,i<A->j<B->Abj r c l p q m (i:Int) (j:Int)=true):∀(k i M:Nat),i+k=A->k<M ->
 Aa.of.Mul.L0 N M (A:Int) (B:Int) r c l p q m (i:Int) (B0 i B F)=some (.agg [.int .i64 (A:Int),.int .i64 (B:Int),.ints (.own 108002 tB) .u64 (B0 A B F)]):=by
 intro k
 induction k with
 | zero =>
   intro i M hi hM;obtain⟨M,rfl⟩:∃G,M=G+1:=⟨M-1,by omega⟩
   obtain rfl:i=A:=by omega
   rw[Aa.of.Mul.Ar,As,Beu (by omega),Bet]
 | succ k ih =>
   intro i M hi hM;obtain⟨M,rfl⟩:∃G,M=G+1:=⟨M-1,by omega⟩
   have n:=of.Mul.inner N r c l p q m hA hB hF (show i<A by omega) (fun j hj=>hp i j (by omega) hj) B 0 M N (by omega) (by omega);rw[xl,yP,yi] at n;rw[Aa.of.Mul.Ar,As,Beq (by omega),Bep];exact n.trans (ih (i+1) M (by omega) (by omega))
theorem Aa.of.Mul.Ae:Kq 117 Aa.of.Mul.spec:=Eb Aa.of.Mul.E Tryz.func117 (kc Aa.P2.Ae .nil) fun a b r c l p q m hp=>by
 obtain⟨h12,hy⟩:=Ac.1 (show(((Bp a&&Bp b)&&((Az r c l&&Az p q m)&&(Ah l&&Ah m)))&&decide (a=r/\b=q/\c=p))=true from hp);obtain⟨h1,hx⟩:=Ac.1 h12;have h2:=Ac.2 ⟨hx,hy⟩;obtain⟨ha,hb⟩:=Ac.1 h1;obtain⟨A,rfl,hA⟩:=F5 ha;obtain⟨B,rfl,hB⟩:=F5 hb;obtain⟨h3,he⟩:=Ac.1 h2;obtain⟨h4,h5⟩:=Ac.1 h3;obtain⟨hr,hm⟩:=Ac.1 h4;obtain⟨e1,e2,e3⟩:=Bff he
 have hp:∀i j:Nat,i<A->j<B->Abj r c l p q m (i:Int) (j:Int)=true:=fun i j hi hj =>
  Ac.2 ⟨Ac.2 ⟨Ac.2 ⟨hr,Ak.2 (by omega)⟩,Ac.2 ⟨hm,Ak.2 (by omega)⟩⟩,Ac.2 ⟨h5,Ak.2 e3⟩⟩
 refine⟨8,.agg [.int .i64 (A:Int),.int .i64 (B:Int),.ints (.own 108002 tB) .u64 (B0 A B fun(i j:Nat)=>Hi (F6 c l (i:Int)) (Yk p q m (j:Int)))],[108002],?_,Wk.H3 (.cons .int (.cons .int (.cons (.drop _ _ _ _ (zf.2 rfl)) .nil)))⟩;rw[Aa.of.Mul.ev];have n:=of.Mul.outer 8 r c l p q m hA hB (by omega) (F:=fun(i j:Nat)=>Hi (F6 c l (i:Int)) (Yk p q m (j:Int))) (fun _ _=>rfl) hp A 0 8 (by omega) (by omega);rw[M4] at n;exact n
def Uo(x:MX):DV:=.tup [.agg [.int .i64 x.1,.int .i64 x.2.1,.ints .fresh .u64 x.2.2.1],.int .i64 x.2.2.2]
def A4q(e:Int):DV:=.tup [.agg [.int .i64 0,.int .i64 0,.nil],.int .i64 e]
theorem Qv{drops:List Nat}{x:MX}:Wk drops (Uo x) (Uo x) :=Wk.Ik (.cons (Wk.H3 (.cons .int (.cons .int (.cons .Rd .nil)))) (.cons .int .nil))
theorem Jm{drops:List Nat}{e:Int}:Wk drops (A4q e) (Uo (N6 e)) :=Wk.Ik (.cons (Wk.H3 (.cons .int (.cons .int (.cons (.nil _ _) .nil)))) (.cons .int .nil))
theorem Aa.Br.Ae:Kq 149 Aa.Br.spec:=Eb Aa.Br.E Tryz.func149 (kc Aa.of.Br.Ae (kc Aa.size.Ae .nil)) fun a b _=>by
 show ∃N dv drops,_=some dv/\Wk drops dv (Uo (Dw a b));unfold Dw;by_cases h:(Bp a&&Bp b)=true
 ·obtain⟨h1,h2⟩:=Ac.1 h;rw[Bfc h];exact⟨0,_,[],by rw[Aa.Br.ev,h1,h2]; rfl,Qv⟩
 ·have e:((!(Bp a))||(!(Bp b)))=true:=by cases h1:Bp a<;>cases h2:Bp b<;>simp_all
  rw[Bfb h];exact⟨0,_,[],by rw[Aa.Br.ev,e]; rfl,Jm⟩
theorem Aa.Hv.Ae:Kq 126 Aa.Hv.spec:=Eb Aa.Hv.E Tryz.func126 (kc Aa.of.Hv.Ae (kc Aa.size.Ae .nil)) fun n _=>by
 show ∃N dv drops,_=some dv/\Wk drops dv (Uo (Rn n));unfold Rn;by_cases h:Bp n=true
 ·rw[Bfc h];exact⟨0,_,[],by rw[Aa.Hv.ev,h]; rfl,Qv⟩
 ·have e:Bp n=false:=by simpa using h
  rw[Bfb h];exact⟨0,_,[],by rw[Aa.Hv.ev,e]; rfl,Jm⟩
theorem Km{r c:Int}{l:List Int}(h:Az r c l=true):Bp r=true/\Bp c=true:=by obtain⟨h1,h2,_⟩:=Hj.1 h;exact⟨J0.2 h1,J0.2 h2⟩
theorem Aa.D4.Ae:Kq 203 Aa.D4.spec:=Eb Aa.D4.E Tryz.func203 (kc Aa.Check.Ae (kc Aa.of.D4.Ae .nil)) fun r c l _=>by
 show ∃N dv drops,_=some dv/\Wk drops dv (Uo (Dy r c l));unfold Dy;by_cases h:Az r c l=true
 ·obtain⟨h1,h2⟩:=Km h;rw[Bfc h];exact⟨0,_,[],by rw[Aa.D4.ev,Yl,h,h1,h2,Beq ⟨rfl,rfl⟩]; rfl,Qv⟩
 ·have e:Az r c l=false:=by simpa using h
  have ec:Ny r c l=1:=by unfold Ny; rw[e]; rfl
  rw[Bfb h];exact⟨0,_,[],by rw[Aa.D4.ev,Yl,e,ec]; rfl,Jm⟩
theorem Ah5{r c x y a b:Int}(hr:0<=r/\r<=6)(hc:0<=c/\c<=6) :
 ((((((((Bc x (0:Int))||(Bc y (0:Int)))||(Bc a (0:Int)))||(Bc b (0:Int)))||(Bc r x))||(Bc c y))||(Bc (Ad (r-x)) a))||(Bc (Ad (c-y)) b))=!(Ug r c x y a b):=by
 unfold Ug;simp only[As];by_cases h:0<=x/\0<=y/\x<=r/\y<=c
 ·rw[An (x:=r-x) (by omega) (by omega),An (x:=c-y) (by omega) (by omega),Be5];simp only[zK,Bew,Bool.not_eq_true',Be8];omega
 ·have e:decide (0<=x/\0<=y/\0<=a/\0<=b/\x<=r/\y<=c/\a<=r-x/\b<=c-y)=false:=Beu (by omega);rw[e,Be5];simp only[zK,Bew,Bf8,iff_true];omega
theorem Aqk{r c x y a b:Int}{l:List Int}(h:Az r c l=true)(hp:Ug r c x y a b=true):Bp a=true/\Bp b=true:=by obtain⟨h1,h2,_⟩:=Hj.1 h;have:=Bff hp;exact⟨J0.2 (by omega),J0.2 (by omega)⟩
theorem Aa.Part.Ae:Kq 63 Aa.Part.spec:=Eb Aa.Part.E Tryz.func63 (kc Aa.Check.Ae (kc Aa.of.Part.Ae .nil)) fun r c l x y a b _=>by
 show ∃N dv drops,_=some dv/\Wk drops dv (Uo (L5 r c l x y a b));unfold L5;by_cases h:Az r c l=true
 ·obtain⟨h1,h2,_⟩:=Hj.1 h;by_cases hp:Ug r c x y a b=true
  ·obtain⟨s1,s2⟩:=Aqk h hp;rw[Bfc h,Bfc hp];exact⟨0,_,[],by rw[Aa.Part.ev,Yl,Ah5 h1 h2,h,hp,s1,s2]; rfl,Qv⟩
  ·have e:Ug r c x y a b=false:=by simpa using hp
   rw[Bfc h,Bfb hp];exact⟨0,_,[],by rw[Aa.Part.ev,Yl,Ah5 h1 h2,h,e]; rfl,Jm⟩
 ·have e:Az r c l=false:=by simpa using h
  have ec:Ny r c l=1:=by unfold Ny; rw[e]; rfl
  rw[Bfb h];exact⟨0,_,[],by rw[Aa.Part.ev,Yl,e,ec]; rfl,Jm⟩
theorem Qx(r c:Int)(l:List Int)(p q:Int)(m:List Int):((Aas r c l p q m) !=(0:Int))=!(Az r c l&&Az p q m):=by unfold Aas;cases Az r c l&&Az p q m<;>rfl
theorem Apg{r c:Int}{l:List Int}{p q:Int}{m:List Int}(h:(Az r c l&&Az p q m)=false):Aas r c l p q m=1:=by unfold Aas; rw[h]; rfl
theorem Aa.Mul.Ae:Kq 65 Aa.Mul.spec:=Eb Aa.Mul.E Tryz.func65 (kc Aa.of.Mul.Ae (kc Aa.two.Ae .nil)) fun r c l p q m hp=>by
 show ∃N dv drops,_=some dv/\Wk drops dv (Uo (Zs r c l p q m));unfold Zs;have hp:(Ah l&&Ah m)=true:=hp;by_cases h:(Az r c l&&Az p q m)=true
 ·obtain⟨h1,h2⟩:=Ac.1 h;by_cases hc:c=p
  ·have e:(c !=p)=false:=by rw[hc]; simp
   rw[Bfc h,Bfc hc];exact⟨0,_,[],by rw[Aa.Mul.ev,Qx,h,e,(Km h1).1,(Km h2).2,hp,Beq ⟨rfl,rfl,hc⟩]; rfl,Qv⟩
  ·have e:(c !=p)=true:=by simpa using hc
   rw[Bfc h,Bfb hc];exact⟨0,_,[],by rw[Aa.Mul.ev,Qx,h,e]; rfl,Jm⟩
 ·have e:(Az r c l&&Az p q m)=false:=by simpa using h
  rw[Bfb h];exact⟨0,_,[],by rw[Aa.Mul.ev,Qx,e,Apg e]; rfl,Jm⟩
theorem Aa.Stack.Ae:Kq 61 Aa.Stack.spec:=Eb Aa.Stack.E Tryz.func61 (kc Aa.of.Stack.Ae (kc Aa.two.Ae .nil)) fun r c l p q m _=>by
 show ∃N dv drops,_=some dv/\Wk drops dv (Uo (Fg r c l p q m));unfold Fg;by_cases h:(Az r c l&&Az p q m)=true
 ·obtain⟨h1,h2⟩:=Ac.1 h;obtain⟨r1,c1,_⟩:=Hj.1 h1;obtain⟨p1,q1,_⟩:=Hj.1 h2;have ew:Ad (r+p)=r+p:=An (by omega) (by omega);by_cases hc:c=q/\r+p<=6
  ·have e:((c !=q)||(Bc (6:Int) (r+p)))=false:=by rw[As,hc.1]; simp; omega
   rw[Bfc h,Bfc hc];exact⟨0,_,[],by rw[Aa.Stack.ev,ew,Qx,h,e,(Km h1).2,J0.2 (show 0<=r+p/\r+p<=6 by omega),Beq ⟨rfl,rfl,hc.1.symm⟩]; rfl,Qv⟩
  ·have e:((c !=q)||(Bc (6:Int) (r+p)))=true:=by rw[As]; simp; omega
   rw[Bfc h,Bfb hc];exact⟨0,_,[],by rw[Aa.Stack.ev,ew,Qx,h,e]; rfl,Jm⟩
 ·have e:(Az r c l&&Az p q m)=false:=by simpa using h
  rw[Bfb h];exact⟨0,_,[],by rw[Aa.Stack.ev,Qx,e,Apg e]; rfl,Jm⟩
def A0.Oa.E:=E0 []
theorem A0.Oa.ev(N:Nat)(r c:Int)(l:List Int):Bv A0.Oa.E N f90 (Aj f90) [.agg [.int .i64 r,.int .i64 c,.ints .arg .u64 l]]=some (.bool (cond (bif (cond (bif (Fb 0 r) then (Fb r 6) else false) (Fb 0 c) false) then (Fb c 6) else false) ((length l:Int)==(Ad (r*c))) false)) :=Et (Ax (Un (Fb 0 r)) (Ax (P7 (Fb 0 r)) (Ax (P7 (Fb 0 r)) (Ax (tt2 (Fb 0 r)) (Ax (Bag (Fb 0 r) (Fb r 6)) (Ax (Aym (Fb 0 r) (Fb r 6)) (Ax (Aym (Fb 0 r) (Fb r 6)) (Ax (Bah (Fb 0 r) (Fb r 6)) (Ax (Bc5 (Fb 0 r) (Fb r 6) (Fb 0 c)) (Ax (Bai (Fb 0 r) (Fb r 6) (Fb 0 c)) (Ax (Bai (Fb 0 r) (Fb r 6) (Fb 0 c)) (Ax (Bc6 (Fb 0 r) (Fb r 6) (Fb 0 c)) (Ax (A7a (Fb 0 r) (Fb r 6) (Fb 0 c) (Fb c 6)) (Ax (A3m (Fb 0 r) (Fb r 6) (Fb 0 c) (Fb c 6)) (Ax (A3m (Fb 0 r) (Fb r 6) (Fb 0 c) (Fb c 6)) (Ax (A7a (Fb 0 r) (Fb r 6) (Fb 0 c) (Fb c 6)) (Ax (A3m (Fb 0 r) (Fb r 6) (Fb 0 c) (Fb c 6)) (Ax (A7a (Fb 0 r) (Fb r 6) (Fb 0 c) (Fb c 6)) (Ax (A3m (Fb 0 r) (Fb r 6) (Fb 0 c) (Fb c 6)) (Ax (Baj (Fb 0 r) (Fb r 6) (Fb 0 c) (Fb c 6)) (Ax (Baj (Fb 0 r) (Fb r 6) (Fb 0 c) (Fb c 6)) (Ax (Bc7 (Fb 0 r) (Fb r 6) (Fb 0 c) (Fb c 6)) rfl))))))))))))))))))))))
def A0.At.E:=E0 []
theorem A0.At.ev(N:Nat)(r c:Int)(l:List Int)(i k:Int):Bv A0.At.E N f55 (Aj f55) [.agg [.int .i64 r,.int .i64 c,.ints .arg .u64 l],.int .i64 i,.int .i64 k]=cond ((decide (0<=(Ad ((Ad (i*c))+k))))&&(decide ((Ad ((Ad (i*c))+k))<(length l:Int)))) (some (.int .u64 (getD l (toNat (Ad ((Ad (i*c))+k))) 0))) none:=by kernel_rfl
def A0.Br.E:=E0 []
theorem A0.Br.ev(N:Nat)(a b:Int):Bv A0.Br.E N f53 (Aj f53) [.int .i64 a,.int .i64 b]=cond (((decide ((0:Int)<=(Ad (a*b))))&&(decide ((Ad (a*b))<=(Ad (a*b)))))&&(decide ((Ad (a*b))<=G2))) (some (.agg [.int .i64 a,.int .i64 b,.ints (.own 10 43) .u64 (List.replicate (toNat (Ad (a*b))) 0)])) none:=by kernel_rfl
def A0.Kg.E:=E0 []
theorem A0.Kg.ev(N:Nat)(r c:Int)(l:List Int)(i k b:Int):Bv A0.Kg.E N f54 (Aj f54) [.agg [.int .i64 r,.int .i64 c,.ints .arg .u64 l],.int .i64 i,.int .i64 k,.int .u64 b]=cond (decide (0+(length l)<=G2)) (bif ((decide (0<=(Ad ((Ad (i*c))+k))))&&(decide ((Ad ((Ad (i*c))+k))<(length ([]++l):Int)))) then cond (decide ((toNat (Ad ((Ad (i*c))+k)))<(length ([]++l)))) (some (.agg [.int .i64 r,.int .i64 c,.ints (.own 13 43) .u64 (zn ([]++l) (toNat (Ad ((Ad (i*c))+k))) b)])) none else none) none:=by kernel_rfl
def A0.Hv.hint:Nat->Option A9
 | 0=>some { keep:=[0,2,3,4],objs:=[],boxes:=[2,3] }
 | _=>none
def A0.Hv.E:=C6 (Cw [(54,A0.Kg.spec),(53,A0.Br.spec)]) (fun _=>false) A0.Hv.hint (fun _=>none)
section
variable(N M:Nat)(n p4:Int)(p3:List Int)
def A0.Hv.L0:Option DV:=B2 A0.Hv.E N f95 (Aj f95) [1,1,0,1,0] [] M ⟨F3 18 [(0,.int .i64 n),(2,.ptr 2 0 0),(3,.ptr 3 0 0),(4,.int .i64 p4)],[(2,false,.box [.int .i64 0,.int .i64 0,.nil]),(3,false,.box [.int .i64 n,.int .i64 n,.ints .fresh .u64 p3])]⟩
theorem A0.Hv.Ar:A0.Hv.L0 N (M+1) n p4 p3=cond (Bc p4 n) (bif (E6 n n p3 p4 p4) then A0.Hv.L0 N M n (Ad (p4+1)) (zn p3 (toNat (p4*n+p4)) 4607182418800017408) else none) (some (.agg [.int .i64 n,.int .i64 n,.ints .fresh .u64 p3])):=by kernel_rfl
theorem A0.Hv.ev:Bv A0.Hv.E N f95 (Aj f95) [.int .i64 n]=cond (Bp n&&Bp n) (A0.Hv.L0 N N n 0 (B0 (toNat n) (toNat n) (fun _ _=>0))) none:=by kernel_rfl
end
def A0.Row.E:=E0 []
theorem A0.Row.ev(N:Nat)(r c:Int)(l:List Int)(i:Int):Bv A0.Row.E N f107 (Aj f107) [.agg [.int .i64 r,.int .i64 c,.ints .arg .u64 l],.int .i64 i]=cond (((decide ((0:Int)<=(Ad (i*c))))&&(decide ((Ad (i*c))<=(Ad ((Ad (i+1))*c)))))&&((decide ((0:Int)<=(Ad ((Ad (i+1))*c))))&&(decide ((Ad ((Ad (i+1))*c))<=(length l:Int))))) (some (.ints .arg .u64 (zL (toNat (Ad (i*c))) (zt (toNat (Ad ((Ad (i+1))*c))) l)))) none :=Et (Co (Bao _ _ _ _) rfl rfl)
def A0.Ys.hint:Nat->Option A9
 | 0=>some { keep:=[1,3,7,8],objs:=[(0,7,100007,.ints 43 .u64 [])],boxes:=[3] }
 | _=>none
def A0.Ys.E:=C6 (Cw [(55,A0.At.spec)]) (fun _=>false) A0.Ys.hint (fun _=>none)
section
variable(N M:Nat)(r c:Int)(l:List Int)(k f p8:Int)(p7:List Int)
def A0.Ys.L0:Option DV:=B2 A0.Ys.E N f22 (Aj f22) [1,1,0,1,0] [] M ⟨F3 25 [(1,.int .i64 k),(3,.ptr 3 0 0),(7,.oref 100007),(8,.int .i64 p8)],[(3,false,.box [.int .i64 r,.int .i64 c,.ints .arg .u64 l]),(100007,false,.ints 43 .u64 p7)]⟩
theorem A0.Ys.Ar:A0.Ys.L0 N (M+1) r c l k p8 p7=cond (Bc p8 r) (bif (E6 r c l p8 k) then cond (decide ((length p7)+1<=G2)) (A0.Ys.L0 N M r c l k (Ad (p8+1)) (p7++[(C1 c l p8 k)])) none else none) (some (.ints (.own 100007 43) .u64 p7)):=by kernel_rfl
theorem A0.Ys.ev:Bv A0.Ys.E N f22 (Aj f22) [.agg [.int .i64 r,.int .i64 c,.ints .arg .u64 l],.int .i64 k,.int .i64 f] =
 A0.Ys.L0 N N r c l k f []:=by kernel_rfl
end
def A0.Mul.hint:Nat->Option A9
 | 0=>some { keep:=[2,3,4,5,6],objs:=[],boxes:=[2,3,4,5] }
 | 2=>some { keep:=[2,3,4,5,6,7],objs:=[],boxes:=[2,3,4,5] }
 | _=>none
def A0.D4.hint:Nat->Option A9
 | 0=>some { keep:=[1,2,3,4],objs:=[],boxes:=[1,2,3] }
 | 2=>some { keep:=[1,2,3,4,5],objs:=[],boxes:=[1,2,3] }
 | _=>none
def A0.D4.E:=C6 (Cw [(55,A0.At.spec),(54,A0.Kg.spec),(53,A0.Br.spec)]) (fun _=>false) A0.D4.hint (fun _=>none)
section
variable(N M0 M:Nat)(r c:Int)(l:List Int)(p5:Int)(p3:List Int)(p4_1 p4:Int)(p3_1:List Int)
def A0.D4.L0:Option DV:=B2 A0.D4.E N f14 (Aj f14) [1,1,0,1,0] [] M ⟨F3 32 [(1,.ptr 1 0 0),(2,.ptr 2 0 0),(3,.ptr 3 0 0),(4,.int .i64 p4)],[(1,false,.box [.int .i64 r,.int .i64 c,.ints .arg .u64 l]),(2,false,.box [.int .i64 0,.int .i64 0,.nil]),(3,false,.box [.int .i64 c,.int .i64 r,.ints .fresh .u64 p3_1])]⟩
def A0.D4.L1:Option DV:=B2 A0.D4.E N f14 (Aj f14) [1,1,0,1,0,0,1,0,0,1,0] [M0] M ⟨F3 32 [(1,.ptr 1 0 0),(2,.ptr 2 0 0),(3,.ptr 3 0 0),(4,.int .i64 p4_1),(5,.int .i64 p5)],[(1,false,.box [.int .i64 r,.int .i64 c,.ints .arg .u64 l]),(2,false,.box [.int .i64 0,.int .i64 0,.nil]),(3,false,.box [.int .i64 c,.int .i64 r,.ints .fresh .u64 p3])]⟩
theorem A0.D4.Ar:A0.D4.L0 N (M+1) r c l p4 p3_1=cond (Bc p4 r) (A0.D4.L1 N M N r c l 0 p3_1 p4) (some (.agg [.int .i64 c,.int .i64 r,.ints .fresh .u64 p3_1])):=by kernel_rfl
theorem A0.D4.B6:A0.D4.L1 N M0 (M+1) r c l p5 p3 p4_1=cond (Bc p5 c) (bif (E6 r c l p4_1 p5) then cond (E6 c r p3 p5 p4_1) (A0.D4.L1 N M0 M r c l (Ad (p5+1)) (zn p3 (toNat (p5*r+p4_1)) (C1 c l p4_1 p5)) p4_1) none else none) (A0.D4.L0 N M0 r c l (Ad (p4_1+1)) p3) :=Et (Es (Co (Cb _) (Co (Cb _) rfl rfl) rfl) rfl)
theorem A0.D4.ev:Bv A0.D4.E N f14 (Aj f14) [.agg [.int .i64 r,.int .i64 c,.ints .arg .u64 l]]=cond (Bp c&&Bp r) (A0.D4.L0 N N r c l 0 (B0 (toNat c) (toNat r) (fun _ _=>0))) none:=by kernel_rfl
end
abbrev A0.Kg.arg.Kn:Prop:=E8 prog 54 A0.Kg.arg.spec
abbrev A0.Br.arg.Kn:Prop:=E8 prog 53 A0.Br.arg.spec
abbrev A0.Hv.arg.Kn:Prop:=E8 prog 95 A0.Hv.arg.spec
theorem A0.Oa.Ae:Kq 90 A0.Oa.spec:=Eb A0.Oa.E Tryz.func90 .nil fun r c l _=>by
 refine⟨0,A0.Oa.out [.i r,.i c,.l l],[],?_,.bool⟩
 have e:(cond (bif (cond (bif (Fb (0:Int) r) then (Fb r (6:Int)) else false) (Fb (0:Int) c) false) then (Fb c (6:Int)) else false) ((length l:Int)==(Ad (r*c))) false)=Az r c l:=by
  have:=Aom r c l
  have h:(cond (bif (cond (bif (Fb (0:Int) r) then (Fb r (6:Int)) else false) (Fb (0:Int) c) false) then (Fb c (6:Int)) else false) ((length l:Int)==(Ad (r*c))) false)=!(((!(Bp r))||(!(Bp c)))||((length l:Int) !=(Ad (r*c)))):=by unfold Bp bne;rw[Fs,Fs,Fs,Fs];cases decide (0<=r)<;>cases decide (r<=6)<;>cases decide (0<=c)<;>cases decide (c<=6)<;>cases ((length l:Int)==(Ad (r*c)))<;>rfl
  rw[h,this,Bool.not_not]
 rw[A0.Oa.ev,e]; rfl
theorem A0.At.Ae:Kq 55 A0.At.spec:=Eb A0.At.E Tryz.func55 .nil fun r c l i k hp=>by obtain⟨e,h1,h2⟩:=Ow (R:=r) (show E6 r c l i k=true from hp);refine⟨0,A0.At.out [.i r,.i c,.l l,.i i,.i k],[],?_,.int⟩;rw[A0.At.ev,e,Beq h1,Beq h2];rfl
theorem Uu{drops:List Nat}{i:Nat}{e:TypeId}{a b:Int}{l:List Int}(h:i∈drops):Wk drops (.agg [.int .i64 a,.int .i64 b,.ints (.own i e) .u64 l]) (.agg [.int .i64 a,.int .i64 b,.ints .fresh .u64 l]) :=Wk.H3 (.cons .int (.cons .int (.cons (.drop _ _ _ _ h) .nil)))
theorem Yt{drops:List Nat}{a b:Int}{l:List Int}:Wk drops (.agg [.int .i64 a,.int .i64 b,.ints .fresh .u64 l]) (.agg [.int .i64 a,.int .i64 b,.ints .fresh .u64 l]) :=Wk.H3 (.cons .int (.cons .int (.cons .Rd .nil)))
theorem A0.Br.Ae:Kq 53 A0.Br.spec:=Eb A0.Br.E Tryz.func53 .nil fun a b hp=>by
 obtain⟨ha,hb⟩:=Ac.1 (show(Bp a&&Bp b)=true from hp);obtain⟨A,rfl,hA⟩:=F5 ha;obtain⟨B,rfl,hB⟩:=F5 hb;have hm:=K3 (a:=(A:Int)) (b:=(B:Int)) (by omega) (by omega) (by omega) (by omega);have e:((A:Int)*(B:Int)).toNat=A*B:=by rw[<- Bfa,Ber]
 refine⟨0,.agg [.int .i64 (A:Int),.int .i64 (B:Int),.ints (.own 10 tB) .u64 (B0 A B fun _ _=>0)],[10],?_,Uu (zf.2 rfl)⟩;rw[A0.Br.ev,An (by omega) (by omega),Beq hm.1,Beq (yU _),Beq (show(A:Int)*(B:Int)<=(G2:Int) by unfold G2; omega),e,Afr];rfl
theorem A0.Kg.Ae:Kq 54 A0.Kg.spec:=Eb A0.Kg.E Tryz.func54 .nil fun r c l i k b hp=>by obtain⟨_,_,_,_,_,_,_,h8⟩:=Ak.1 (show E6 r c l i k=true from hp);obtain⟨e,g1,g2⟩:=Ow (R:=r) (show E6 r c l i k=true from hp);refine⟨0,.agg [.int .i64 r,.int .i64 c,.ints (.own 13 tB) .u64 (zn l (i*c+k).toNat b)],[13],?_,Uu (zf.2 rfl)⟩;rw[A0.Kg.ev,e,List.nil_append,Beq (show 0+l.length<=G2 by unfold G2; omega),Beq g1,Beq g2,Beq (show(i*c+k).toNat<l.length by omega)];rfl
theorem Aok{r c i k:Nat}(hk:k<c){d d':Nat->Nat->Bool}{f:Nat->Nat->Int}{x:Int}(hx:x=f i k)
 (h:∀a b,a<r->b<c->(d' a b=true↔d a b=true\/(a=i/\b=k))) :
 zn (B0 r c fun a b=>if d a b=true then f a b else 0) (toNat ((i:Int)*(c:Int)+(k:Int))) x=B0 r c fun a b=>if d' a b=true then f a b else 0:=by
 have e:((i:Int)*(c:Int)+(k:Int)).toNat=i*c+k:=by rw[<- Bfa,<- yu,Ber]
 rw[e,S4 hk];refine Ef fun a b ha hb=>?_
 have h:=h a b ha hb;by_cases hab:a=i/\b=k
 ·rw[Bfc hab,Bfc (h.2 (.inr hab)),hx,hab.1,hab.2]
 ·rw[Bfb hab];by_cases hd:d a b=true
  ·rw[Bfc hd,Bfc (h.2 (.inl hd))]
  ·rw[Bfb hd,Bfb (fun k=>(h.1 k).elim hd hab)]
theorem Aka(N:Nat){R C K f:Nat}{l:List Int}(r6:R<=6)(c6:C<=6)(hl:l.length=R*C)(hk:K<C):∀(k i F:Nat),f+i+k=R->k<F ->
 A0.Ys.L0 N F (R:Int) (C:Int) l (K:Int) ((f+i:Nat):Int) (B3 (C:Int) l (K:Int) (f:Int) i)=some (.ints (.own 100007 tB) .u64 (B3 (C:Int) l (K:Int) (f:Int) (R-f))):=by
 intro k
 induction k with
 | zero =>
   intro i F hi hF;obtain⟨F,rfl⟩:∃G,F=G+1:=⟨F-1,by omega⟩
   rw[A0.Ys.Ar,As,Beu (by omega),Bet,show R-f=i by omega]
 | succ k ih =>
   intro i F hi hF;obtain⟨F,rfl⟩:∃G,F=G+1:=⟨F-1,by omega⟩
   have d:decide ((B3 (C:Int) l (K:Int) (f:Int) i).length+1<=G2)=true:=Beq (by rw[Mj]; unfold G2; omega);rw[A0.Ys.Ar,As,Beq (by omega),Bep,Gi r6 c6 hl (show f+i<R by omega) hk,Bep,d,Bep,An (by omega) (by omega)];have:=ih (i+1) F (by omega) (by omega);unfold B3 at this ⊢;rw[y7,yq] at this;exact this
theorem A0.Ys.Ae:Kq 22 A0.Ys.spec:=Eb A0.Ys.E Tryz.func22 (kc A0.At.Ae .nil) fun r c l k f hp=>by
 obtain⟨h0,hf⟩:=Ac.1 (show(Gu r c l k&&Bq (0<=f/\f<=r))=true from hp);have hf:=Ak.1 hf;obtain⟨hr,hi⟩:=Ac.1 h0;have hi:=Ak.1 hi;obtain⟨R,C,rfl,rfl,r6,c6,hl⟩:=Cp hr;obtain⟨K,rfl⟩:∃j:Nat,k=j:=⟨k.toNat,by omega⟩
 obtain⟨f,rfl⟩:∃j:Nat,f=j:=⟨f.toNat,by omega⟩
 refine⟨8,.ints (.own 100007 tB) .u64 (B3 (C:Int) l (K:Int) (f:Int) (R-f)),[100007],?_,?_⟩
 ·rw[A0.Ys.ev];exact Aka 8 r6 c6 hl (by omega) (R-f) 0 8 (by omega) (by omega)
 ·show Wk _ _ (DV.ints .fresh .u64 (B3 (C:Int) l (K:Int) (f:Int) (toNat ((R:Int)-(f:Int)))));rw[show toNat ((R:Int)-(f:Int))=R-f by omega];exact .drop _ _ _ _ (zf.2 rfl)
theorem A0.Row.Ae:Kq 107 A0.Row.spec:=Eb A0.Row.E Tryz.func107 .nil fun r c l i hp=>by
 obtain⟨hr,hi⟩:=Ac.1 (show Tj r c l i=true from hp);have hi:=Ak.1 hi;obtain⟨R,C,rfl,rfl,r6,c6,hl⟩:=Cp hr;obtain⟨I,rfl⟩:∃k:Nat,i=k:=⟨i.toNat,by omega⟩
 have hm:=K3 (a:=(I:Int)) (b:=(C:Int)) (by omega) (by omega) (by omega) (by omega);have hm2:=K3 (a:=(I:Int)+1) (b:=(C:Int)) (by omega) (by omega) (by omega) (by omega);have hle:(I+1)*C<=R*C:=Be1 C (by omega);have hle2:I*C<=(I+1)*C:=Be1 C (by omega);have e1:(I:Int)*(C:Int)=((I*C:Nat):Int):=(Bfa _ _).symm;have e2:((I:Int)+1)*(C:Int)=(((I+1)*C:Nat):Int):=by rw[Bfa]; rfl
 refine⟨0,A0.Row.out [.i (R:Int),.i (C:Int),.l l,.i (I:Int)],[],?_,.Aai⟩;rw[A0.Row.ev,An (x:=(I:Int)+1) (by omega) (by omega),An (x:=(I:Int)*(C:Int)) (by omega) (by omega),An (x:=((I:Int)+1)*(C:Int)) (by omega) (by omega)];have d1:decide ((0:Int)<=(I:Int)*(C:Int))=true:=Beq (by omega);have d2:decide ((I:Int)*(C:Int)<=((I:Int)+1)*(C:Int))=true:=Beq (by rw[e1,e2]; omega);have d3:decide ((0:Int)<=((I:Int)+1)*(C:Int))=true:=Beq (by omega);have d4:decide (((I:Int)+1)*(C:Int)<=(l.length:Int))=true:=Beq (by rw[e2]; omega);rw[d1,d2,d3,d4];rfl
def dR(i k a b:Nat):Bool:=decide (a<i\/(a=i/\b<k))
def dC(i k a b:Nat):Bool:=decide (b<i\/(b=i/\a<k))
def fill(r c:Nat)(f:Nat->Nat->Int)(d:Nat->Nat->Bool):List Int:=B0 r c fun a b=>if d a b=true then f a b else 0
theorem Vq(r c:Nat)(f:Nat->Nat->Int)(d:Nat->Nat->Bool):(fill r c f d).length=r*c:=B5 _ _ _
theorem Afw{r c i k:Nat}(hk:k<c){d d':Nat->Nat->Bool}{f:Nat->Nat->Int}{x:Int}(hx:x=f i k)(h:∀a b,a<r->b<c->(d' a b=true↔d a b=true\/(a=i/\b=k))) :
 zn (fill r c f d) (toNat ((i:Int)*(c:Int)+(k:Int))) x=fill r c f d':=Aok hk hx h
theorem Afx{r c:Nat}{f:Nat->Nat->Int}{d d':Nat->Nat->Bool}(h:∀a b,a<r->b<c->(d a b=true↔d' a b=true)):fill r c f d=fill r c f d':=by
 refine Ef fun a b ha hb=>?_
 have:=h a b ha hb;by_cases hd:d a b=true
 ·rw[Bfc hd,Bfc (this.1 hd)]
 ·rw[Bfb hd,Bfb (fun k=>hd (this.2 k))]
theorem Aoa{r c:Nat}{f:Nat->Nat->Int}{d:Nat->Nat->Bool}(h:∀a b,a<r->b<c->d a b=true):fill r c f d=B0 r c f :=Ef fun a b ha hb=>by rw[Bfc (h a b ha hb)]
theorem Abq{r c:Nat}{f:Nat->Nat->Int}{d:Nat->Nat->Bool}(h:∀a b,a<r->b<c->¬d a b=true):fill r c f d=B0 r c fun _ _=>0 :=Ef fun a b ha hb=>by rw[Bfb (h a b ha hb)]
theorem Afy.inner(N:Nat){R C:Nat}{l:List Int}(h6:R<=6/\C<=6)(hl:l.length=R*C){F:Nat->Nat->Int}(hF:F=fun(i j:Nat)=>C1 (C:Int) l (j:Int) (i:Int)){i:Nat}(hi:i<R):∀(k j M0 M:Nat),j+k=C->k<M ->
 A0.D4.L1 N M0 M (R:Int) (C:Int) l (j:Int) (fill C R F (dC i j)) (i:Int)=A0.D4.L0 N M0 (R:Int) (C:Int) l ((i+1:Nat):Int) (fill C R F (dC (i+1) 0)):=by
 intro k
 induction k with
 | zero =>
   intro j M0 M hj hM;obtain⟨M,rfl⟩:∃G,M=G+1:=⟨M-1,by omega⟩
   have e:fill C R F (dC i j)=fill C R F (dC (i+1) 0):=Afx fun a b ha hb=>by simp only[dC,Bew]; omega
   rw[A0.D4.B6,As,Beu (by omega),Bet,An (by omega) (by omega),e];rfl
 | succ k ih =>
   intro j M0 M hj hM;obtain⟨M,rfl⟩:∃G,M=G+1:=⟨M-1,by omega⟩
   have c1:E6 (R:Int) (C:Int) l (i:Int) (j:Int)=true:=Gi h6.1 h6.2 hl hi (by omega);have c9:E6 (C:Int) (R:Int) (fill C R F (dC i j)) (j:Int) (i:Int)=true:=Gi (by omega) (by omega) (Vq _ _ _ _) (by omega) (by omega);rw[A0.D4.B6,As,Beq (by omega),Bep,c1,Bep,c9,Bep,An (x:=(j:Int)+1) (by omega) (by omega),Afw (d':=dC i (j+1)) (by omega) (by rw[hF]) (fun a b ha hb=>by simp only[dC,Bew]; omega)];exact ih (j+1) M0 M (by omega) (by omega)
theorem Afy.outer(N:Nat)(hN:6<N){R C:Nat}{l:List Int}(h6:R<=6/\C<=6)(hl:l.length=R*C){F:Nat->Nat->Int}(hF:F=fun(i j:Nat)=>C1 (C:Int) l (j:Int) (i:Int)):∀(k i M:Nat),i+k=R->k<M ->
 A0.D4.L0 N M (R:Int) (C:Int) l (i:Int) (fill C R F (dC i 0))=some (.agg [.int .i64 (C:Int),.int .i64 (R:Int),.ints .fresh .u64 (B0 C R F)]):=by
 intro k
 induction k with
 | zero =>
   intro i M hi hM;obtain⟨M,rfl⟩:∃G,M=G+1:=⟨M-1,by omega⟩
   rw[A0.D4.Ar,As,Beu (by omega),Bet,Aoa (fun a b ha hb=>by simp only[dC,Bew]; omega)]
 | succ k ih =>
   intro i M hi hM;obtain⟨M,rfl⟩:∃G,M=G+1:=⟨M-1,by omega⟩
   have n:=Afy.inner N h6 hl hF (show i<R by omega) C 0 M N (by omega) (by omega);rw[A0.D4.Ar,As,Beq (by omega),Bep];exact n.trans (ih (i+1) M (by omega) (by omega))
theorem A0.D4.Ae:Kq 14 A0.D4.spec:=Eb A0.D4.E Tryz.func14 (kc A0.At.Ae (kc A0.Kg.Ae (kc A0.Br.Ae .nil))) fun r c l hp=>by have hr:Az r c l=true:=hp;obtain⟨R,C,rfl,rfl,r6,c6,hl⟩:=Cp hr;refine⟨8,.agg [.int .i64 (C:Int),.int .i64 (R:Int),.ints .fresh .u64 (B0 C R fun(i j:Nat)=>C1 (C:Int) l (j:Int) (i:Int))],[],?_,Yt⟩;have n:=Afy.outer 8 (by omega) ⟨r6,c6⟩ hl rfl R 0 8 (by omega) (by omega);rw[Abq (fun a b ha hb=>by simp only[dC,Bew]; omega)] at n;rw[A0.D4.ev,Rq r6,Rq c6,Bev,Bep,Ber,Ber];exact n
theorem A5g(N:Nat){n:Nat}(h6:n<=6):∀(k i M:Nat),i+k=n->k<M ->
 A0.Hv.L0 N M (n:Int) (i:Int) (fill n n (fun(a b:Nat)=>Pc (a:Int) (b:Int)) fun a b=>decide (a=b/\a<i))=some (.agg [.int .i64 (n:Int),.int .i64 (n:Int),.ints .fresh .u64 (B0 n n fun(a b:Nat)=>Pc (a:Int) (b:Int))]):=by
 intro k
 induction k with
 | zero =>
   intro i M hi hM;obtain⟨M,rfl⟩:∃G,M=G+1:=⟨M-1,by omega⟩
   have e:fill n n (fun(a b:Nat)=>Pc (a:Int) (b:Int)) (fun a b=>decide (a=b/\a<i))=B0 n n fun(a b:Nat)=>Pc (a:Int) (b:Int):=by
    refine Ef fun a b ha hb=>?_
    by_cases h:a=b
    ·rw[Bfc (Beq ⟨h,by omega⟩)]
    ·rw[Bfb (fun k=>h (Bff k).1)];unfold Pc;rw[Bfb (by omega)]
   rw[A0.Hv.Ar,As,Beu (by omega),Bet,e]
 | succ k ih =>
   intro i M hi hM;obtain⟨M,rfl⟩:∃G,M=G+1:=⟨M-1,by omega⟩
   have c9:E6 (n:Int) (n:Int) (fill n n (fun(a b:Nat)=>Pc (a:Int) (b:Int)) fun a b=>decide (a=b/\a<i)) (i:Int) (i:Int)=true:=Gi h6 h6 (Vq _ _ _ _) (by omega) (by omega);have one:(4607182418800017408:Int)=(fun(a b:Nat)=>Pc (a:Int) (b:Int)) i i:=(Bfc rfl).symm;rw[A0.Hv.Ar,As,Beq (by omega),Bep,c9,Bep,An (by omega) (by omega),Afw (d':=fun a b=>decide (a=b/\a<i+1)) (by omega) one (fun a b ha hb=>by simp only[Bew]; omega)];exact ih (i+1) M (by omega) (by omega)
theorem A0.Hv.Ae:Kq 95 A0.Hv.spec:=Eb A0.Hv.E Tryz.func95 (kc A0.Kg.Ae (kc A0.Br.Ae .nil)) fun n hp=>by have hp:Bp n=true:=hp;obtain⟨n,rfl,h6⟩:=F5 hp;refine⟨8,.agg [.int .i64 (n:Int),.int .i64 (n:Int),.ints .fresh .u64 (B0 n n fun(a b:Nat)=>Pc (a:Int) (b:Int))],[],?_,Yt⟩;have e:=A5g 8 h6 n 0 8 (by omega) (by omega);rw[Abq (fun a b ha hb=>by simp only[Bew]; omega)] at e;rw[A0.Hv.ev,hp,Bev,Bep,Ber];exact e
end Go.Proofs.S1
end
