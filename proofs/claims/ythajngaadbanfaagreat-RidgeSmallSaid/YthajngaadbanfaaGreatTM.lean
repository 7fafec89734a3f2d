/- A verified evaluator of the program's form and its use for this seat: S1PQr, S1PQrA, S1EqRef17, S1PRef17, S1EqRef14, S1PRef13, S1PRef14, S1EqGiv, S1EqRef12, S1PGiv, S1EqSort, S1PSort, S1EqSvd, S1PSvd, S1PSvdA, S1POfS, S1EqRef20, S1PSubSt. -/
import Derived.Test.YthajngaadbanfaaGreatTL
import Derived.Test.YthajngaadbanfaaGreatTG
import Derived.Test.YthajngaadbanfaaGreatTK
import Derived.Test.YthajngaadbanfaaGreatTJ
import Derived.Test.YthajngaadbanfaaGreatTE
set_option linter.unusedVariables false
set_option linter.unusedSimpArgs false
open List renaming set->zn,mem_singleton->zf,drop_eq_getElem_cons->yG,nil_append->zV,replicate->zp,length_set->yR,length_reverse->wu,mem_append->zH,mem_cons->zu,take_of_length_le->yO,length_take->zI,take_succ_eq_append_getElem->x6,range_succ->y7,map_append->yq
open Bool renaming and_eq_false_iff->xE
open Int renaming le_refl->yU
open Eq renaming trans->yL
noncomputable section
open Int (toNat)
open List (length getD)
open Go.Proofs.Tryz
namespace Go.Proofs.S1
open Go Go.Den Go.Ct Go.Proofs
def clS(R C:Nat)(l:List Int)(j:Nat)(x:Int)(i:Nat):List Int:=B0 R C fun a b=>if b=j/\j<=a/\a<i then (if a=j then x else 0) else C1 (C:Int) l (a:Int) (b:Int)
section
variable{R C j:Nat}{l:List Int}{x:Int}
theorem A5y(i:Nat):(clS R C l j x i).length=R*C:=B5 _ _ _
theorem Aiz(hl:l.length=R*C)(hj:j<C):zn l (j*C+j) x=clS R C l j x (j+1):=by
 unfold clS
 conv=>lhs; rw[<- Wv hl]
 rw[S4 hj];refine Ef fun a b ha hb=>?_
 by_cases h:a=j/\b=j
 ·rw[Bfc h,Bfc (by omega),Bfc h.1]
 ·rw[Bfb h,Bfb (by omega)]
theorem A5x{i:Nat}(hj:j<C)(hi:j<i):zn (clS R C l j x i) (i*C+j) 0=clS R C l j x (i+1):=by
 unfold clS;rw[S4 hj];refine Ef fun a b ha hb=>?_
 by_cases h:a=i/\b=j
 ·rw[Bfc h,Bfc (by omega),Bfb (by omega)]
 ·rw[Bfb h];by_cases h2:b=j/\j<=a/\a<i
  ·rw[Bfc h2,Bfc (show b=j/\j<=a/\a<i+1 by omega)]
  ·rw[Bfb h2,Bfb (by omega)]
theorem A5z:clS R C l j x R=Abx R C l j x:=by
 unfold clS Abx;refine Ef fun a b ha hb=>?_
 by_cases h:b=j/\j<=a
 ·rw[Bfc h,Bfc (by omega)]
 ·rw[Bfb h,Bfb (by omega)]
end
theorem Ae4{C i j:Nat}(hi:i<=6)(hC:C<=6)(hj:j<=6):Ad (Ad ((i:Int)*(C:Int))+(j:Int))=((i*C+j:Nat):Int):=by have h36:=Bfl hi hC;rw[An (x:=(i:Int)*(C:Int)) (by rw[<- Bfa]; omega) (by rw[<- Bfa]; omega),<- Bfa,An (by omega) (by omega)];omega
section
variable{R C:Nat}
theorem Af5(N M0:Nat)(l0:List Int)(r6:R<=6)(c6:C<=6){j:Nat}(hj:j<C)(l:List Int)(x:Int)(v:List Int)(t:Int)(ms:List (List DV))(hms:ms.length<=100):∀(cnt i F:Nat),i+cnt=R->j<i->cnt<F ->
 qr.down.L0 N M0 F (R:Int) (C:Int) l0 (i:Int) (clS R C l j x i) (j:Int) v t ms=qr.down.L1 N M0 (R:Int) (C:Int) l0 ((j+1:Nat):Int) (ms++[[.ints .arg .u64 v,.int .u64 t]]) (Abx R C l j x):=by
 intro cnt
 induction cnt with
 | zero =>
   intro i F hi hji hF;obtain⟨F,rfl⟩:∃G,F=G+1:=⟨F-1,by omega⟩
   obtain rfl:i=R:=by omega
   rw[qr.down.Ar,As,Beu (by omega),Bet,Beq (by unfold A0t; omega),Bep,An (by omega) (by omega),A5z];rfl
 | succ cnt ih =>
   intro i F hi hji hF;obtain⟨F,rfl⟩:∃G,F=G+1:=⟨F-1,by omega⟩
   have hlen:=A5y (R:=R) (C:=C) (l:=l) (j:=j) (x:=x) i;have hp:=Hk (show i<R by omega) hj;rw[qr.down.Ar,As,Beq (by omega),Bep,Ae4 (by omega) c6 (by omega),Beq (by omega),Beq (by omega),Bev,Bep,Ber,Beq (by omega),Bep,A5x hj hji,An (by omega) (by omega)];exact ih (i+1) F (by omega) (by omega) (by omega)
def Xs(r c:Nat)(ms:List (List DV)):Option (List Int × List (List Int × Int))->DV
 | none=>.tup [.agg [.int .i64 0,.int .i64 0,.nil],.nil,.int .i64 2]
 | some x=>.tup [.agg [.int .i64 (r:Int),.int .i64 (c:Int),.ints (.own 106002 tB) .u64 x.1],.recs (.own 100006 tMR) 2 (ms++Ae5 x.2),.int .i64 0]
theorem Aw5(N:Nat)(hN:7<N)(l0:List Int)(r6:R<=6)(c6:C<=6):∀(cnt j F:Nat) (l:List Int) (ms:List (List DV)),j+cnt=N9 R C->cnt<F->l.length=R*C->Ah l=true->ms.length=j ->
 qr.down.L1 N F (R:Int) (C:Int) l0 (j:Int) ms l=some (Xs R C ms (Uk R C cnt j l)):=by
 intro cnt
 induction cnt with
 | zero =>
   intro j F l ms hj hF hl al hms;obtain⟨F,rfl⟩:∃G,F=G+1:=⟨F-1,by omega⟩
   unfold N9 at hj
   have hlt:(Bc (j:Int) (C:Int)&&Bc (j:Int) (Ad ((R:Int)-1)))=false:=by rw[As,As,An (by omega) (by omega),xE,Be8,Be8]; omega
   rw[qr.down.B6,hlt,Bet];simp[Uk,Xs,Ae5]
 | succ cnt ih =>
   intro j F l ms hj hF hl al hms;obtain⟨F,rfl⟩:∃G,F=G+1:=⟨F-1,by omega⟩
   have hj0:=hj;unfold N9 at hj;have hr:=Ep r6 c6 hl
   have hlt:(Bc (j:Int) (C:Int)&&Bc (j:Int) (Ad ((R:Int)-1)))=true:=by rw[As,As,An (by omega) (by omega),Beq (by omega),Beq (by omega)]; rfl
   have cp:Gu (R:Int) (C:Int) l (j:Int)=true:=Ac.2 ⟨hr,Ak.2 (by omega)⟩;have ec:B3 (C:Int) l (j:Int) (j:Int) (toNat ((R:Int)-(j:Int)))=Jl R C l j:=by unfold Jl; rw[show toNat ((R:Int)-(j:Int))=R-j by omega]
   have ca:Ah (Jl R C l j)=true:=Pj al;have cl:(Jl R C l j).length=R-j:=Mj _ _ _ _ _;rw[qr.down.B6,hlt,Bep,cp,Ak.2 (show 0<=(j:Int)/\(j:Int)<=(R:Int) by omega),Bev,Bep,ec,Gz ca (by omega),Bep];unfold Uk;by_cases he:(Dm (Jl R C l j)).2.2.2=0
   ·have hml:=Ae7 he;have hma:=Adm ca;have hap:T7 (R:Int) (C:Int) (j:Int) (j:Int) (Dm (Jl R C l j)).1=true:=Beq (by omega);have hp:=Hk (show j<R by omega) (show j<C by omega);have hlen:=Se R C l (j:Int) (j:Int) (Dm (Jl R C l j)).1 (Dm (Jl R C l j)).2.1;have hg:=Af5 N F l0 r6 c6 (show j<C by omega) (Jj R C l (j:Int) (j:Int) (Dm (Jl R C l j)).1 (Dm (Jl R C l j)).2.1) (Dm (Jl R C l j)).2.2.1 (Dm (Jl R C l j)).1 (Dm (Jl R C l j)).2.1 ms (by omega) (R-(j+1)) (j+1) N (by omega) (by omega) (by omega);have hn:=ih (j+1) F (Ag4 R C l j) (ms++[[.ints .arg .u64 (Dm (Jl R C l j)).1,.int .u64 (Dm (Jl R C l j)).2.1]]) (by omega) (by omega) (Vd _ _ _ _) (Akl al j) (by rw[Bfh,hms]; rfl)
    rw[Kh he,Bet,hr,hap,al,hma.1,hma.2.1,Bev,Bev,Bev,Bep,Ae4 (by omega) c6 (by omega),Ber,Ber,Ber,Beq (by omega),Beq (by omega),Bev,Bep,Beq (by omega),Bep,
     Aiz hlen (by omega),An (by omega) (by omega),Bfc he]
    refine(hg.trans hn).trans ?_;show some (Xs R C _ (Uk R C cnt (j+1) (Ag4 R C l j)))=some (Xs R C ms _);cases Uk R C cnt (j+1) (Ag4 R C l j) with
    | none=>rfl
    | some x=>simp[Xs,Ae5]
   ·rw[neI he,Bep,Bfb he]; rfl
theorem Arn(N:Nat)(hN:7<N){l:List Int}(r6:R<=6)(c6:C<=6)(hl:l.length=R*C)(al:Ah l=true)(h0:N9 R C≠0) :
 qr.down.L2 N N (R:Int) (C:Int) l=some (Xs R C [] (N8 R C l)):=by
 obtain⟨cnt,hc⟩:∃cnt,N9 R C=cnt+1:=⟨N9 R C-1,by omega⟩
 obtain⟨F,rfl⟩:∃G,N=G+1:=⟨N-1,by omega⟩
 have hj:=hc;unfold N9 at hj;have hr:=Ep r6 c6 hl
 have hlt:(Bc (0:Int) (C:Int)&&Bc (0:Int) (Ad ((R:Int)-1)))=true:=by rw[As,As,An (by omega) (by omega),Beq (by omega),Beq (by omega)]; rfl
 have cp:Gu (R:Int) (C:Int) l (0:Int)=true:=Ac.2 ⟨hr,Ak.2 (by omega)⟩;have ec:B3 (C:Int) l (0:Int) (0:Int) (toNat ((R:Int)-(0:Int)))=Jl R C l 0:=by unfold Jl; rw[show toNat ((R:Int)-(0:Int))=R-0 by omega]; rfl
 have ca:Ah (Jl R C l 0)=true:=Pj al;have cl:(Jl R C l 0).length=R-0:=Mj _ _ _ _ _;unfold N8;rw[hc,qr.down.Jw,hlt,Bep,cp,Ak.2 (show 0<=(0:Int)/\(0:Int)<=(R:Int) by omega),Bev,Bep,ec,Gz ca (by omega),Bep];unfold Uk;by_cases he:(Dm (Jl R C l 0)).2.2.2=0
 ·have hml:=Ae7 he;have hma:=Adm ca;have hap:T7 (R:Int) (C:Int) (0:Int) (0:Int) (Dm (Jl R C l 0)).1=true:=Beq (by omega);have hp:=Hk (show 0<R by omega) (show 0<C by omega);have hlen:=Se R C l (0:Int) (0:Int) (Dm (Jl R C l 0)).1 (Dm (Jl R C l 0)).2.1;have hg:=Af5 (F+1) F l r6 c6 (show 0<C by omega) (Jj R C l (0:Int) (0:Int) (Dm (Jl R C l 0)).1 (Dm (Jl R C l 0)).2.1) (Dm (Jl R C l 0)).2.2.1 (Dm (Jl R C l 0)).1 (Dm (Jl R C l 0)).2.1 [] (Nat.zero_le _) (R-1) 1 (F+1) (by omega) (by omega) (by omega);have hn:=Aw5 (R:=R) (C:=C) (F+1) hN l r6 c6 cnt 1 F (Ag4 R C l 0) [[.ints .arg .u64 (Dm (Jl R C l 0)).1,.int .u64 (Dm (Jl R C l 0)).2.1]] (by omega) (by unfold N9 at hc; omega) (Vd _ _ _ _) (Akl al 0) rfl;have mc:=Ae4 (i:=0) (C:=C) (j:=0) (by omega) c6 (by omega);have mc:Ad (Ad ((0:Int)*(C:Int))+(0:Int))=((0*C+0:Nat):Int):=mc
  rw[Kh he,Bet,hr,hap,al,hma.1,hma.2.1,Bev,Bev,Bev,Bep,mc,Ber,Ber,Ber,Beq (by omega),Beq (by omega),Bev,Bep,Beq (by omega),Bep,
   Aiz hlen (by omega),Bfc he]
  refine(hg.trans hn).trans ?_;show some (Xs R C _ (Uk R C cnt 1 (Ag4 R C l 0)))=some (Xs R C [] _);cases Uk R C cnt (0+1) (Ag4 R C l 0) with
  | none=>rfl
  | some x=>simp[Xs,Ae5]
 ·rw[neI he,Bep,Bfb he]; rfl
end
theorem qr.down.Ae:Kq 162 qr.down.spec:=Eb qr.down.E Tryz.func162 (kc A5.Apply.Ae (kc A5.Uc.Ae (kc Aa.Fi.Ae .nil))) fun r c l hp=>by
 obtain⟨h1,al⟩:=Ac.1 (show((Az r c l&&Ds l)&&Ah l)=true from hp);obtain⟨hr,hf⟩:=Ac.1 h1;obtain⟨R,C,rfl,rfl,r6,c6,hl⟩:=Cp hr;by_cases h0:N9 R C=0
 ·have hx:N8 R C l=some (l,[]):=by unfold N8; rw[h0]; rfl
  refine⟨8,.tup [.agg [.int .i64 (R:Int),.int .i64 (C:Int),.ints .arg .u64 l],.recs (.own 100006 tMR) 2 [],.int .i64 0],[100006],?_,?_⟩
  ·unfold N9 at h0
   have hlt:(Bc (0:Int) (C:Int)&&Bc (0:Int) (Ad ((R:Int)-1)))=false:=by rw[As,As,An (by omega) (by omega),xE,Be8,Be8]; omega
   rw[qr.down.ev,show(8:Nat)=7+1 from rfl,qr.down.Jw,hlt,Bet]
  ·show Wk _ _ (DV.tup [.agg [.int .i64 (Ig (R:Int) (C:Int) l).1,.int .i64 (Ig (R:Int) (C:Int) l).2.1,.ints .arg .u64 (Ig (R:Int) (C:Int) l).2.2.1],.recs .fresh 2 (Sy (R:Int) (C:Int) l),.int .i64 (Ig (R:Int) (C:Int) l).2.2.2]);unfold Ig Sy Tz;rw[Ber,Ber,hx];exact Wk.Ik (.cons (Wk.H3 (.cons .int (.cons .int (.cons .Aai .nil)))) (.cons (.dropR _ _ _ _ (zf.2 rfl)) (.cons .int .nil)))
 ·refine⟨8,Xs R C [] (N8 R C l),[106002,100006],?_,?_⟩
  ·rw[qr.down.ev];exact Arn 8 (by omega) r6 c6 hl al h0
  ·show Wk _ _ (DV.tup [.agg [.int .i64 (Ig (R:Int) (C:Int) l).1,.int .i64 (Ig (R:Int) (C:Int) l).2.1,.ints .arg .u64 (Ig (R:Int) (C:Int) l).2.2.1],.recs .fresh 2 (Sy (R:Int) (C:Int) l),.int .i64 (Ig (R:Int) (C:Int) l).2.2.2]);unfold Ig Sy Tz;rw[Ber,Ber];cases N8 R C l with
   | none=>exact Wk.Ik (.cons (Wk.H3 (.cons .int (.cons .int (.cons V5 .nil)))) (.cons (.nilR _ _) (.cons .int .nil)))
   | some x=>exact Wk.Ik (.cons (Wk.H3 (.cons .int (.cons .int (.cons (.dropA _ _ _ _ Bf4) .nil)))) (.cons (.dropR _ _ _ _ (Bfu _ Bf4)) (.cons .int .nil)))
open Go Go.Den Go.Ct Go.Proofs
def Ah9(e:Int):DV:=.tup [.agg [.int .i64 0,.int .i64 0,.nil],.agg [.int .i64 0,.int .i64 0,.nil],.int .i64 e]
theorem Aib{r:Nat}:∀{j:Nat} {ms:List (List Int × Int)},Ane r j ms->∀i:Nat,i<ms.length->Ah (ms.getD i ([],0)).1=true/\Af (ms.getD i ([],0)).2=true/\(ms.getD i ([],0)).1.length+(j+i)=r
 | _,[],_,i,h=>absurd h (Nat.not_lt_zero _)
 | j,m::ms,hm,0,_=>hm.1
 | j,m::ms,hm,i+1,h=>by have:=Aib hm.2 i (by simpa using h);rw[show j+(i+1)=j+1+i by omega];exact this
theorem A0m{ms:List (List Int × Int)}{i:Nat}(h:i<ms.length):getD (Ae5 ms) i []=[.ints .arg .u64 (ms.getD i ([],0)).1,.int .u64 (ms.getD i ([],0)).2]:=by unfold Ae5;rw[Bez,Bf6,Be6 h,Bez,Be6 h]; rfl
theorem Anc(ms:List (List Int × Int)):(Ae5 ms).length=ms.length:=by unfold Ae5; rw[Bfv]
theorem Axj{n i:Nat}{ms:List (List Int × Int)}(h:i<ms.length)(q:List Int):Pw n i (ms.drop i) q=Jj n n (Pw n (i+1) (ms.drop (i+1)) q) (i:Int) 0 (ms.getD i ([],0)).1 (ms.getD i ([],0)).2:=by rw[yG h,Pw,Bez,Be6 h]; rfl
theorem Akw{R:Nat}(h:R<=6):Rn (R:Int)=((R:Int),(R:Int),Iz R,0):=by unfold Rn Iz;rw[Bfc (Rq h),Ber]
theorem A7k{n:Nat}(h:n<=6):n*n<=36:=Bfl h h
theorem Aob(N:Nat){R C:Nat}{l:List Int}(r6:R<=6){x:List Int × List (List Int × Int)}(hx:N8 R C l=some x)(hm:Ane R 0 x.2)(hxr:Ah x.1=true)(hxl:x.1.length<=36):∀(j F:Nat),j<=x.2.length->j<F ->
 qr.Ez.L0 N F (R:Int) (C:Int) l ((j:Int)-1) (Pw R j (x.2.drop j) (Iz R)) =
 bif Xp R C l then some (.tup [.agg [.int .i64 (R:Int),.int .i64 (R:Int),.ints .fresh .u64 (Yf R C l)],.agg [.int .i64 (R:Int),.int .i64 (C:Int),.ints .arg .u64 (Tz R C l)],.int .i64 0])
 else some (Ah9 2):=by
 have hq:Yf R C l=Pw R 0 x.2 (Iz R):=by unfold Yf; rw[hx]
 have hr:Tz R C l=x.1:=by unfold Tz; rw[hx]
 have hd:Ig (R:Int) (C:Int) ([]++l)=((R:Int),(C:Int),x.1,0):=by unfold Ig;rw[zV,Ber,Ber,hx,hr]; rfl
 have hmd:Sy (R:Int) (C:Int) ([]++l)=Ae5 x.2:=by unfold Sy;rw[zV,Ber,Ber,hx]
 have h36:=A7k r6;intro j
 induction j with
 | zero =>
   intro F _ hF;obtain⟨F,rfl⟩:∃G,F=G+1:=⟨F-1,by omega⟩
   have hb:=Adx R x.2 0 (Iz R) (Akx R) (by unfold Iz; exact B5 _ _ _);have ok1:By (Pw R 0 x.2 (Iz R))=true:=Gz hb.1 (by omega);have ok2:By x.1=true:=Gz hxr (by omega);have hfo:Xp R C l=(Ds (Pw R 0 x.2 (Iz R))&&Ds x.1):=by unfold Xp; rw[hx,hq,hr]; rfl
   rw[qr.Ez.Ar,As,Beq (by omega),Bep,List.drop_zero,ok1,Bep,hd,Akw r6,ok2,Bf1,Bep,hfo,hq,hr];cases Ds (Pw R 0 x.2 (Iz R)) with
   | false=>rfl
   | true=>cases Ds x.1<;>rfl
 | succ j ih =>
   intro F hj hF;obtain⟨F,rfl⟩:∃G,F=G+1:=⟨F-1,by omega⟩
   have ej:(((j+1:Nat):Int))-1=(j:Int):=by omega
   have hg:=Aib hm j (by omega);have hb:=Adx R (x.2.drop (j+1)) (j+1) (Iz R) (Akx R) (by unfold Iz; exact B5 _ _ _);have hr1:=Ep r6 r6 hb.2;have hap:T7 (R:Int) (R:Int) (j:Int) 0 (x.2.getD j ([],0)).1=true:=Beq (by omega);have hmg:=A0m (ms:=x.2) (i:=j) (by omega);rw[qr.Ez.Ar,ej,As,Beu (show ¬(j:Int)<0 by omega),Bet,hmd,Anc,Beq (show(0:Int)<=(j:Int) by omega),Beq (show(j:Int)<(x.2.length:Int) by omega),Bev,Bep,Ber,hmg,Akw r6]
   show(bif true then bif true then bif true then (bif (((Az (R:Int) (R:Int) (Pw R (j+1) (x.2.drop (j+1)) (Iz R))&&T7 (R:Int) (R:Int) (j:Int) (0:Int) (x.2.getD j ([],0)).1)&&(Ah (Pw R (j+1) (x.2.drop (j+1)) (Iz R))&&Ah (x.2.getD j ([],0)).1))&&Af (x.2.getD j ([],0)).2) then
    qr.Ez.L0 N F (R:Int) (C:Int) l (Ad ((j:Int)-(1:Int))) (Jj (toNat (R:Int)) (toNat (R:Int)) (Pw R (j+1) (x.2.drop (j+1)) (Iz R)) (j:Int) (0:Int) (x.2.getD j ([],0)).1 (x.2.getD j ([],0)).2) else none) else none else none else none)=_
   rw[Bep,Bep,Bep,hr1,hap,hb.1,hg.1,hg.2.1,Bev,Bev,Bev,Bep,Ber,An (by omega) (by omega),<- Axj (by omega)];exact ih F (by omega) (by omega)
theorem A1r{R C:Nat}{l:List Int}(hl:l.length=R*C)(al:Ah l=true){x:List Int × List (List Int × Int)}(hx:N8 R C l=some x):Ah x.1=true/\x.1.length=R*C/\x.2.length=N9 R C/\Ane R 0 x.2 :=Af6 R C (N9 R C) 0 l x al hl (by unfold N9; omega) hx
theorem Adp{r c:Int}{l:List Int}(h:Ci r c l=0):Jg r c l=if Xp r.toNat c.toNat l=true then 0 else 2:=by unfold Jg; rw[Bfb (by rw[h]; decide)]
theorem Aod{r c:Int}{l:List Int}(h:Ci r c l≠0):Jg r c l=Ci r c l:=by unfold Jg; rw[Bfc h]
theorem Aqj{r c:Int}{l:List Int}{e:Int}(h:Jg r c l=e)(he:e≠0):qX r c l=N6 e/\rX r c l=N6 e:=by unfold qX rX; rw[h,Bfc he,Bfc he]; exact⟨rfl,rfl⟩
theorem As9{r c:Int}{l:List Int}(h:Jg r c l=0):qX r c l=(r,r,Yf r.toNat c.toNat l,0)/\rX r c l=(r,c,Tz r.toNat c.toNat l,0):=by unfold qX rX; rw[h]; exact⟨rfl,rfl⟩
theorem Ajc{drops:List Nat}{e:Int}{g h:Aoz}:Wk drops (Ah9 e) (DV.tup [.agg [.int .i64 (N6 e).1,.int .i64 (N6 e).2.1,.ints g .u64 (N6 e).2.2.1],.agg [.int .i64 (N6 e).1,.int .i64 (N6 e).2.1,.ints h .u64 (N6 e).2.2.1],.int .i64 e]) :=Wk.Ik (.cons (Wk.H3 (.cons .int (.cons .int (.cons V5 .nil)))) (.cons (Wk.H3 (.cons .int (.cons .int (.cons V5 .nil)))) (.cons .int .nil)))
theorem qr.Ez.Ae:qr.Ez.Kn:=qr.Ez.Ei (kc D2.Check.Ae (kc A5.Apply.Ae (kc Aa.Hv.Ae (kc qr.down.Ae (kc Ai.Finite.Ae .nil))))) fun r c l hp=>by
 have al:Ah l=true:=hp;show ∃N dv drops,_=some dv/\Wk drops dv (DV.tup [.agg [.int .i64 (qX r c l).1,.int .i64 (qX r c l).2.1,.ints .arg .u64 (qX r c l).2.2.1],.agg [.int .i64 (rX r c l).1,.int .i64 (rX r c l).2.1,.ints .arg .u64 (rX r c l).2.2.1],.int .i64 (Jg r c l)]);by_cases h1:Ci r c l=0
 ·obtain⟨hr,hf⟩:=L9 h1;have h36:=Mt hr;obtain⟨R,C,rfl,rfl,r6,c6,hl⟩:=Cp hr;have d0:decide (0+l.length<=G2)=true:=Beq (by unfold G2; omega);cases hx:N8 R C l with
  | none =>
    have hfo:Xp R C l=false:=by unfold Xp; rw[hx]; rfl
    have he:Jg (R:Int) (C:Int) l=2:=by rw[Adp h1,Ber,Ber,hfo]; rfl
    obtain⟨e1,e2⟩:=Aqj he (by decide)
    have hd:Ig (R:Int) (C:Int) ([]++l)=N6 2:=by unfold Ig;rw[zV,Ber,Ber,hx]; rfl
    rw[e1,e2,he];exact⟨0,Ah9 2,[],by rw[qr.Ez.ev,al,Bep,Kh h1,Bet,d0,Bep,hd,zV,hr,hf,al,Bev,Bev,Bep,show((N6 2).2.2.2 !=(0:Int))=true from rfl,Bep]; rfl,Ajc⟩
  | some x =>
    obtain⟨x1,x2,x3,x4⟩:=A1r hl al hx
    have hd:Ig (R:Int) (C:Int) ([]++l)=((R:Int),(C:Int),x.1,0):=by unfold Ig Tz;rw[zV,Ber,Ber,hx]; rfl
    have hmd:Sy (R:Int) (C:Int) ([]++l)=Ae5 x.2:=by unfold Sy;rw[zV,Ber,Ber,hx]
    have hn:x.2.length<=6:=by rw[x3]; unfold N9; omega
    have hloop:=Aob 8 r6 hx x4 x1 (by rw[x2]; exact Bfl r6 c6) x.2.length 8 (Bfj _) (by omega);rw[Be3 (Bfj _)] at hloop;have hrun:=qr.Ez.ev 8 (R:Int) (C:Int) l;rw[al,Bep,Kh h1,Bet,d0,Bep,hd,hmd,Anc,zV,hr,hf,al,Bev,Bev,Bep,show(((R:Int),(C:Int),x.1,(0:Int)).2.2.2 !=(0:Int))=false from rfl,Bet,Akw r6,An (by omega) (by omega)] at hrun;have hrun:=hrun.trans hloop;cases hfo:Xp R C l with
    | false =>
      have he:Jg (R:Int) (C:Int) l=2:=by rw[Adp h1,Ber,Ber,hfo]; rfl
      obtain⟨e1,e2⟩:=Aqj he (by decide);rw[hfo,Bet] at hrun;rw[e1,e2,he];exact⟨8,Ah9 2,[],hrun,Ajc⟩
    | true =>
      have he:Jg (R:Int) (C:Int) l=0:=by rw[Adp h1,Ber,Ber,hfo]; rfl
      obtain⟨e1,e2⟩:=As9 he;rw[hfo,Bep] at hrun;rw[e1,e2,he,Ber,Ber];exact⟨8,_,[],hrun,Wk.Ik (.cons (Wk.H3 (.cons .int (.cons .int (.cons (.fresh _ _) .nil)))) (.cons (Wk.H3 (.cons .int (.cons .int (.cons .Aai .nil)))) (.cons .int .nil)))⟩
 ·have he:=Aod h1;obtain⟨e1,e2⟩:=Aqj he h1;rw[e1,e2,he];exact⟨0,Ah9 (Ci r c l),[],by rw[qr.Ez.ev,al,Bep,neI h1,Bep]; rfl,Ajc⟩
theorem Arv{r c:Int}{l:List Int}(h:Jg r c l=0):Ci r c l=0:=by
 by_cases h1:Ci r c l=0
 ·exact h1
 ·rw[Aod h1] at h; exact absurd h h1
theorem Aoc{r c:Int}{l:List Int}(al:Ah l=true)(h:Jg r c l=0):∃R C:Nat,r=R/\c=C/\R<=6/\C<=6/\l.length=R*C/\Ah (Yf R C l)=true/\(Yf R C l).length=R*R/\Ah (Tz R C l)=true/\(Tz R C l).length=R*C/\Ds (Yf R C l)=true/\Ds (Tz R C l)=true:=by
 have h1:=Arv h;rw[Adp h1] at h;obtain⟨R,C,rfl,rfl,r6,c6,hl⟩:=Cp (L9 h1).1;rw[Ber,Ber] at h;by_cases ho:Xp R C l=true
 ·unfold Xp at ho;obtain⟨o1,o2⟩:=Ac.1 ho;obtain⟨o3,o4⟩:=Ac.1 o2;obtain⟨q1,q2⟩:=A5i o1;obtain⟨g1,g2⟩:=A5h al hl o1;exact⟨R,C,rfl,rfl,r6,c6,hl,q1,q2,g1,g2,o3,o4⟩
 ·rw[Bfb ho] at h; exact absurd h (by decide)
theorem Ate{R C:Nat}{l:List Int}(r6:R<=6)(c6:C<=6)(hl:l.length=R*C){x y a b:Int}(hp:Ug (R:Int) (C:Int) x y a b=true) :
 L5 (R:Int) (C:Int) l x y a b=(a,b,B0 a.toNat b.toNat fun i k=>C1 (C:Int) l (x+(i:Int)) (y+(k:Int)),0):=by
 unfold L5; rw[Bfc (Ep r6 c6 hl),Bfc hp]
theorem Ahp{r c:Int}{l:List Int}(al:Ah l=true)(h:Jg r c l=0) :
 L5 r r (Yf r.toNat c.toNat l) 0 0 r (min r c)=Me r c l/\L5 r c (Tz r.toNat c.toNat l) 0 0 (min r c) c=Sl r c l:=by
 obtain⟨R,C,rfl,rfl,r6,c6,hl,q1,q2,g1,g2,_,_⟩:=Aoc al h;unfold Me Sl;rw[h,Bfb (by decide),Bfb (by decide),Ber,Ber];have p1:Ug (R:Int) (R:Int) 0 0 (R:Int) (min (R:Int) (C:Int))=true:=Beq (by omega);have p2:Ug (R:Int) (C:Int) 0 0 (min (R:Int) (C:Int)) (C:Int)=true:=Beq (by omega);rw[Ate r6 r6 q2 p1,Ate r6 c6 g2 p2];exact⟨rfl,rfl⟩
theorem A8n{r c:Int}{l:List Int}(al:Ah l=true)(h:Jg r c l=0):Ah (Yf r.toNat c.toNat l)=true/\Ah (Tz r.toNat c.toNat l)=true:=by obtain⟨R,C,rfl,rfl,_,_,_,q1,_,g1,_,_,_⟩:=Aoc al h;rw[Ber,Ber];exact⟨q1,g1⟩
theorem A3s{r c:Int}{l:List Int}(al:Ah l=true)(h:Jg r c l=0):Ah (Me r c l).2.2.1=true/\Ah (Sl r c l).2.2.1=true:=by obtain⟨a,b⟩:=Ahp al h;obtain⟨q1,g1⟩:=A8n al h;rw[<- a,<- b];exact⟨Atf q1 _ _ _ _,Atf g1 _ _ _ _⟩
theorem qr.Xd.Ae:Kq 62 qr.Xd.spec:=Eb qr.Xd.E Tryz.func62 (kc Aa.Part.Ae (kc qr.Ez.Ae .nil)) fun r c l hp=>by
 have al:Ah l=true:=hp;show ∃N dv drops,_=some dv/\Wk drops dv (DV.tup [.agg [.int .i64 (Me r c l).1,.int .i64 (Me r c l).2.1,.ints .fresh .u64 (Me r c l).2.2.1],.agg [.int .i64 (Sl r c l).1,.int .i64 (Sl r c l).2.1,.ints .fresh .u64 (Sl r c l).2.2.1],.int .i64 (Jg r c l)]);by_cases h:Jg r c l=0
 ·obtain⟨e1,e2⟩:=As9 h;obtain⟨t1,t2⟩:=Ahp al h;refine⟨0,DV.tup [.agg [.int .i64 (Me r c l).1,.int .i64 (Me r c l).2.1,.ints .fresh .u64 (Me r c l).2.2.1],.agg [.int .i64 (Sl r c l).1,.int .i64 (Sl r c l).2.1,.ints .fresh .u64 (Sl r c l).2.2.1],.int .i64 0],[],by rw[qr.Xd.ev,al,Bep,Kh h,Bet,e1,e2,t1,t2],by rw[h]; exact Wk.Ik (.cons (Wk.H3 (.cons .int (.cons .int (.cons .Rd .nil)))) (.cons (Wk.H3 (.cons .int (.cons .int (.cons .Rd .nil)))) (.cons .int .nil)))⟩
 ·have e1:Me r c l=N6 (Jg r c l):=by unfold Me; rw[Bfc h]
  have e2:Sl r c l=N6 (Jg r c l):=by unfold Sl; rw[Bfc h]
  rw[e1,e2];exact⟨0,Ah9 (Jg r c l),[],by rw[qr.Xd.ev,al,Bep,neI h,Bep]; rfl,Ajc⟩
theorem Bbo{r c p:Int}:((Bc r c)||(r !=p))=decide (r<c\/r≠p):=by rw[As,Be5]; simp
theorem solve.Pf.Ae:Kq 150 solve.Pf.spec:=Eb solve.Pf.E Tryz.func150 (kc D2.Check.Ae (kc qr.Xd.Ae (kc qr.Lr.Ae (kc solve.Flat.Ae (kc solve.Pz.Ae .nil))))) fun r c l p q m hp=>by
 obtain⟨al,am⟩:=Ac.1 (show(Ah l&&Ah m)=true from hp);show ∃N dv drops,_=some dv/\Wk drops dv (Uo (Ra r c l p q m));have hrun:=solve.Pf.ev 0 r c l p q m;rw[al,Bep] at hrun;unfold Ra;by_cases c1:Ci r c l=0
 ·rw[Kh c1,Bet,am,Bep] at hrun;rw[Bfb (by rw[c1]; decide)];by_cases c2:Ci p q m=0
  ·rw[Kh c2,Bet,Bbo] at hrun;rw[Bfb (by rw[c2]; decide)];by_cases c3:r<c\/r≠p
   ·rw[Beq c3,Bep] at hrun;rw[Bfc c3];exact⟨0+4,_,[],hrun,Jm⟩
   ·rw[Beu c3,Bet,Bep] at hrun;rw[Bfb c3];by_cases c4:Jg r c l=0
    ·obtain⟨i1,i2⟩:=A3s al c4;rw[Kh c4,Bet,i2,Bep] at hrun;rw[Bfb (by rw[c4]; decide)];by_cases c5:(Vp (Sl r c l).1 (Sl r c l).2.1 (Sl r c l).2.2.1).1=true
     ·rw[c5,Bep] at hrun;rw[Bfc c5];exact⟨0+4,_,[],hrun,Jm⟩
     ·have c5':(Vp (Sl r c l).1 (Sl r c l).2.1 (Sl r c l).2.2.1).1=false:=by simpa using c5
      rw[c5',Bet,i1,Bev,Bep] at hrun;rw[Bfb c5];unfold A9l;by_cases c6:(Fe (Me r c l).1 (Me r c l).2.1 (Me r c l).2.2.1 p q m).2.2.2=0
      ·rw[Kh c6,Bet,Auk,Bev,Bep] at hrun;rw[Bfb (by rw[c6]; decide)];exact⟨0+4,_,[],hrun,Qv⟩
      ·rw[neI c6,Bep] at hrun;rw[Bfc c6];exact⟨0+4,_,[],hrun,Jm⟩
    ·rw[neI c4,Bep] at hrun;rw[Bfc c4];exact⟨0+4,_,[],hrun,Jm⟩
  ·rw[neI c2,Bep] at hrun;rw[Bfc c2];exact⟨0+4,_,[],hrun,Jm⟩
 ·rw[neI c1,Bep] at hrun;rw[Bfc c1];exact⟨0+4,_,[],hrun,Jm⟩
set_option maxRecDepth 100000
def Aq.Div.E:=E0 [(145,Aq.B.spec),(147,Aq.F.spec)]
theorem Aq.Div.ev(N:Nat)(a b:Int):Bv Aq.Div.E N f87 (Aj f87) [.int .u64 a,.int .u64 b]=cond (Af a) (bif (Af b) then some (.int .u64 (H0 ((Ieee.double.div (toNat a) (toNat b)).getD nanBits))) else none) none:=by kernel_rfl
def Aq.Finite.hint:Nat->Option A9
 | 0=>some { keep:=[0,3],objs:=[],boxes:=[] }
 | _=>none
def Aq.Finite.E:=C6 (Cw [(114,Bg.Finite.spec)]) (fun _=>false) Aq.Finite.hint (fun _=>none)
section
variable(N M:Nat)(x:List Int)(p3:Int)
def Aq.Finite.L0:Option DV:=B2 Aq.Finite.E N f74 (Aj f74) [1,0,1,0] [] M ⟨F3 16 [(0,.ints .arg .u64 x),(3,.int .i64 p3)],[]⟩
theorem Aq.Finite.Ar:Aq.Finite.L0 N (M+1) x p3=cond (Bc p3 (length x:Int)) (bif ((decide (0<=p3))&&(decide (p3<(length x:Int)))) then cond (Af (getD x (toNat p3) 0)) (bif (!(Dl (getD x (toNat p3) 0))) then some (.bool false) else Aq.Finite.L0 N M x (Ad (p3+1))) none else none) (some (.bool true)):=by kernel_rfl
theorem Aq.Finite.ev:Bv Aq.Finite.E N f74 (Aj f74) [.ints .arg .u64 x] =
 Aq.Finite.L0 N N x 0:=by kernel_rfl
end
def Bt.Check.E:=E0 [(74,Aq.Finite.spec),(90,A0.Oa.spec)]
theorem Bt.Check.ev(N:Nat)(r c:Int)(l:List Int):Bv Bt.Check.E N f35 (Aj f35) [.agg [.int .i64 r,.int .i64 c,.ints .arg .u64 l]]=cond (!(Az r c l)) (some (.int .i64 1)) (bif (By l) then cond (!(Ds l)) (some (.int .i64 4)) (some (.int .i64 0)) else none):=by kernel_rfl
theorem Aq.Div.Ae:Kq 87 Aq.Div.spec:=Eb Aq.Div.E Tryz.func87 (kc Aq.B.Ae (kc Aq.F.Ae .nil)) fun a b hp=>by obtain⟨ha,hb⟩:=Ac.1 hp;obtain⟨a,rfl,hn⟩:=Bu ha;obtain⟨b,rfl,hm⟩:=Bu hb;refine⟨0,Aq.Div.out [.i a,.i b],[],?_,.int⟩;rw[Aq.Div.ev,ha,hb,Ber,Ber];unfold H0;rw[A1w hn hm Io]; rfl
theorem Acy(N:Nat){x:List Int}(hx:By x=true):∀(k i F:Nat),i+k=x.length->k<F->Aq.Finite.L0 N F x (i:Int)=some (.bool ((x.drop i).all Dl)):=by
 obtain⟨hl,hu⟩:=Jr hx;intro k
 induction k with
 | zero =>
   intro i F hi hF;obtain⟨F,rfl⟩:∃G,F=G+1:=⟨F-1,by omega⟩
   rw[Aq.Finite.Ar,As,Beu (by omega),Bet,Be3 (by omega)]; rfl
 | succ k ih =>
   intro i F hi hF;obtain⟨F,rfl⟩:∃G,F=G+1:=⟨F-1,by omega⟩
   rw[Aq.Finite.Ar,As,Beq (show(i:Int)<(x.length:Int) by omega),Bep,Beq (show(0:Int)<=(i:Int) by omega),Bev,Bep,Ber,hu i (by omega),Bep,Lh (by omega),List.all_cons];cases Dl (x.getD i 0) with
   | false=>rfl
   | true =>rw[Bfo,Bet,An (by omega) (by omega),Bf2];exact ih (i+1) F (by omega) (by omega)
theorem Aq.Finite.Ae:Kq 74 Aq.Finite.spec:=Eb Aq.Finite.E Tryz.func74 (kc Bg.Finite.Ae .nil) fun x hp=>by have hp:By x=true:=hp;refine⟨x.length+1,Aq.Finite.out [.l x],[],?_,.bool⟩;show _=some (DV.bool (x.all Dl));rw[Aq.Finite.ev];exact Acy _ hp x.length 0 (x.length+1) (by omega) (by omega)
theorem Bt.Check.Ae:Kq 35 Bt.Check.spec:=Eb Bt.Check.E Tryz.func35 (kc Aq.Finite.Ae (kc A0.Oa.Ae .nil)) fun r c l hp=>by
 have hp:Ah l=true:=hp;refine⟨0,Bt.Check.out [.i r,.i c,.l l],[],?_,.int⟩;show _=some (DV.int .i64 (Ci r c l));rw[Bt.Check.ev];unfold Ci;by_cases h:Az r c l=true
 ·have:=Mt h;rw[h,Bfo,Bet,Gz hp (by omega),Bep,Bfc rfl];cases Ds l<;>rfl
 ·have h':Az r c l=false:=by simpa using h
  rw[h']; rfl
section
variable{n Q:Nat}{l m:List Int}
end
theorem A0.Kg.arg.Ae:A0.Kg.arg.Kn:=E8.Aar (P:=_) (pre:=A0.Kg.pre) (out:=A0.Kg.out) A0.Kg.Ae [] fun ats h=>by
 unfold A0.Kg.arg.pre at h;split at h
 ·exact⟨h,Wk.H3 (.cons .int (.cons .int (.cons (.fresh _ _) .nil)))⟩
 ·cases h
theorem A0.Hv.arg.Ae:A0.Hv.arg.Kn:=E8.Aar (P:=_) (pre:=A0.Hv.pre) (out:=A0.Hv.out) A0.Hv.Ae [] fun ats h=>by
 unfold A0.Hv.arg.pre at h;split at h
 ·exact⟨h,Wk.H3 (.cons .int (.cons .int (.cons (.fresh _ _) .nil)))⟩
 ·cases h
theorem A32{c b i:Int}{l:List Int}{n j:Nat}(h:j<n):(B3 c l b i n).getD j 0=C1 c l (i+(j:Int)) b:=by unfold B3;rw[Bez,Bf6,List.getElem?_range h]; rfl
theorem Oz(a c b:Nat):toNat ((a:Int)*(c:Int)+(b:Int))=a*c+b:=by rw[<- Bfa,<- Int.natCast_add,Ber]
section
variable{R C i k:Nat}{l v:List Int}{t:Int}
end
def Eu.Rows.hint:Nat->Option A9
 | 0=>some { keep:=[1,2,3,4,5,10,13,62,63],objs:=[(14,2,114002,.ints 43 .u64 [])],boxes:=[5,10,13] }
 | _=>none
def Eu.Rows.E:=C6 (Cw [(121,Aa.Check.spec),(137,Ai.Add.spec),(138,Ai.Mul.spec),(201,Ai.Sub.spec)]) (fun _=>false) Eu.Rows.hint (fun _=>none)
section
variable(N M:Nat)(r c:Int)(l:List Int)(i k x y p63:Int)(p2:List Int)
def Eu.Rows.L0:Option DV:=B2 Eu.Rows.E N f204 (Aj f204) [1,1,1,1,1,0,1,0] [] M ⟨F3 120 [(1,.int .i64 i),(2,.int .i64 k),(3,.int .u64 x),(4,.int .u64 y),(5,.ptr 5 0 0),(10,.ptr 10 0 0),(13,.ptr 13 0 0),(62,.int .i64 c),(63,.int .i64 p63)],[(5,false,.box [.int .i64 r,.int .i64 c,.ints .arg .u64 l]),(10,false,.box [.int .i64 0,.int .i64 0,.nil]),(13,false,.box [.int .i64 r,.int .i64 c,.oref 114002]),(114002,false,.ints 43 .u64 p2)]⟩
theorem Eu.Rows.Ar:Eu.Rows.L0 N (M+1) r c l i k x y p63 p2=cond (Bc p63 c) (bif ((decide (0<=(Ad ((Ad (i*c))+p63))))&&(decide ((Ad ((Ad (i*c))+p63))<(length l:Int)))) then cond ((decide (0<=(Ad ((Ad (k*c))+p63))))&&(decide ((Ad ((Ad (k*c))+p63))<(length l:Int)))) (bif (Af x&&Af (getD l (toNat (Ad ((Ad (i*c))+p63))) 0)) then cond (Af y&&Af (getD l (toNat (Ad ((Ad (k*c))+p63))) 0)) (bif (Af (Bz x (getD l (toNat (Ad ((Ad (i*c))+p63))) 0))&&Af (Bz y (getD l (toNat (Ad ((Ad (k*c))+p63))) 0))) then cond ((decide (0<=(Ad ((Ad (i*c))+p63))))&&(decide ((Ad ((Ad (i*c))+p63))<(length p2:Int)))) (bif (decide ((toNat (Ad ((Ad (i*c))+p63)))<(length p2))) then cond (Af x&&Af (getD l (toNat (Ad ((Ad (k*c))+p63))) 0)) (bif (Af y&&Af (getD l (toNat (Ad ((Ad (i*c))+p63))) 0)) then cond (Af (Bz x (getD l (toNat (Ad ((Ad (k*c))+p63))) 0))&&Af (Bz y (getD l (toNat (Ad ((Ad (i*c))+p63))) 0))) (bif ((decide (0<=(Ad ((Ad (k*c))+p63))))&&(decide ((Ad ((Ad (k*c))+p63))<(length (zn p2 (toNat (Ad ((Ad (i*c))+p63))) (De (Bz x (getD l (toNat (Ad ((Ad (i*c))+p63))) 0)) (Bz y (getD l (toNat (Ad ((Ad (k*c))+p63))) 0)))):Int)))) then cond (decide ((toNat (Ad ((Ad (k*c))+p63)))<(length (zn p2 (toNat (Ad ((Ad (i*c))+p63))) (De (Bz x (getD l (toNat (Ad ((Ad (i*c))+p63))) 0)) (Bz y (getD l (toNat (Ad ((Ad (k*c))+p63))) 0))))))) (Eu.Rows.L0 N M r c l i k x y (Ad (p63+1)) (zn (zn p2 (toNat (Ad ((Ad (i*c))+p63))) (De (Bz x (getD l (toNat (Ad ((Ad (i*c))+p63))) 0)) (Bz y (getD l (toNat (Ad ((Ad (k*c))+p63))) 0)))) (toNat (Ad ((Ad (k*c))+p63))) (Gg (Bz x (getD l (toNat (Ad ((Ad (k*c))+p63))) 0)) (Bz y (getD l (toNat (Ad ((Ad (i*c))+p63))) 0))))) none else none) none else none) none else none) none else none) none else none) none else none) (some (.tup [.agg [.int .i64 r,.int .i64 c,.ints (.own 114002 43) .u64 p2],.int .i64 0])) :=Et (Es (Co (Kz _ _) (Co (Kz _ _) (Co (Cb _) (Co (Cb _) (Co (Cb _) (Co (Kz _ _) (Co (Cb _) (Co (Cb _) (Co (Cb _) (Co (Cb _) (Co (Kz _ _) (Co (Cb _) rfl rfl) rfl) rfl) rfl) rfl) rfl) rfl) rfl) rfl) rfl) rfl) rfl) rfl)
theorem Eu.Rows.ev:Bv Eu.Rows.E N f204 (Aj f204) [.agg [.int .i64 r,.int .i64 c,.ints .arg .u64 l],.int .i64 i,.int .i64 k,.int .u64 x,.int .u64 y]=cond ((Ny r c l) !=(0:Int)) (some (.tup [.agg [.int .i64 0,.int .i64 0,.nil],.int .i64 (Ny r c l)])) (bif (((((Bc i 0)||(Fb r i))||(Bc k 0))||(Fb r k))||(i==k)) then some (.tup [.agg [.int .i64 0,.int .i64 0,.nil],.int .i64 7]) else bif (((decide ((0:Int)<=(length l:Int)))&&(decide ((length l:Int)<=(length l:Int))))&&(decide ((length l:Int)<=G2))) then Eu.Rows.L0 N N r c l i k x y 0 (Ul (zp (toNat (length l:Int)) 0) l) else none) :=Et (Es rfl (Ax (Uw (Bc i 0)) (Ax (Uw (Bc i 0)) (Ax (Te (Bc i 0)) (Ax (tt8 (Bc i 0)) (Ax (tt6 (Bc i 0)) (Ax (Agu (Bc i 0) (Fb r i)) (Ax (Agv (Bc i 0) (Fb r i)) (Ax (Apj (Bc i 0) (Fb r i)) (Ax (Apk (Bc i 0) (Fb r i) (Bc k 0)) (Ax (Apk (Bc i 0) (Fb r i) (Bc k 0)) (Ax (Aly (Bc i 0) (Fb r i) (Bc k 0)) (Ax (A99 (Bc i 0) (Fb r i) (Bc k 0)) (Ax (Ayn (Bc i 0) (Fb r i) (Bc k 0)) (Ax (Aum (Bc i 0) (Fb r i) (Bc k 0) (Fb r k)) (Ax (Aum (Bc i 0) (Fb r i) (Bc k 0) (Fb r k)) (Ax (A7b (Bc i 0) (Fb r i) (Bc k 0) (Fb r k)) (Ax (A7c (Bc i 0) (Fb r i) (Bc k 0) (Fb r k)) (Co (Bab _ _ _ _ _) rfl (Co (Bcy _ _ _) rfl rfl))))))))))))))))))))
end
def Eu.Mp.E:=E0 [(204,Eu.Rows.spec),(203,Aa.D4.spec)]
theorem Eu.Mp.ev(N:Nat)(r c:Int)(l:List Int)(i k:Int)(x y:Int):Bv Eu.Mp.E N f170 (Aj f170) [.agg [.int .i64 r,.int .i64 c,.ints .arg .u64 l],.int .i64 i,.int .i64 k,.int .u64 x,.int .u64 y]=cond (((Dy r c l).2.2.2) !=(0:Int)) (some (.tup [.agg [.int .i64 0,.int .i64 0,.nil],.int .i64 ((Dy r c l).2.2.2)])) (bif (Az ((Dy r c l).1) ((Dy r c l).2.1) ((Dy r c l).2.2.1)&&(Ah ((Dy r c l).2.2.1)&&((Af x&&Af y)&&Bq (0<=i/\i<((Dy r c l).1)/\0<=k/\k<((Dy r c l).1)/\i≠k)))) then some (.tup [.agg [.int .i64 ((Dy ((Dy r c l).1) ((Dy r c l).2.1) (Ni (toNat ((Dy r c l).1)) (toNat ((Dy r c l).2.1)) ((Dy r c l).2.2.1) (toNat i) (toNat k) x y)).1),.int .i64 ((Dy ((Dy r c l).1) ((Dy r c l).2.1) (Ni (toNat ((Dy r c l).1)) (toNat ((Dy r c l).2.1)) ((Dy r c l).2.2.1) (toNat i) (toNat k) x y)).2.1),.ints .fresh .u64 ((Dy ((Dy r c l).1) ((Dy r c l).2.1) (Ni (toNat ((Dy r c l).1)) (toNat ((Dy r c l).2.1)) ((Dy r c l).2.2.1) (toNat i) (toNat k) x y)).2.2.1)],.int .i64 ((Dy ((Dy r c l).1) ((Dy r c l).2.1) (Ni (toNat ((Dy r c l).1)) (toNat ((Dy r c l).2.1)) ((Dy r c l).2.2.1) (toNat i) (toNat k) x y)).2.2.2)]) else none):=by kernel_rfl
def Gd.Rows.hint:Nat->Option A9
 | 0=>some { keep:=[1,2,3,4,5,10,11,12],objs:=[],boxes:=[5,10,11] }
 | _=>none
def Gd.Rows.E:=C6 (Cw [(152,Aq.Add.spec),(153,Aq.Mul.spec),(198,Aq.Sub.spec),(55,A0.At.spec),(54,A0.Kg.arg.spec)]) (fun _=>false) Gd.Rows.hint (fun _=>none)
section
variable(N M:Nat)(r c:Int)(l:List Int)(i k x y p12:Int)(p11:List Int)
def Gd.Rows.L0:Option DV:=B2 Gd.Rows.E N f199 (Aj f199) [1,1,0,1,0] [] M ⟨F3 53 [(1,.int .i64 i),(2,.int .i64 k),(3,.int .u64 x),(4,.int .u64 y),(5,.ptr 5 0 0),(10,.ptr 10 0 0),(11,.ptr 11 0 0),(12,.int .i64 p12)],[(5,false,.box [.int .i64 r,.int .i64 c,.ints .arg .u64 l]),(10,false,.box [.int .i64 0,.int .i64 0,.nil]),(11,false,.box [.int .i64 r,.int .i64 c,.ints .arg .u64 p11])]⟩
theorem Gd.Rows.Ar:Gd.Rows.L0 N (M+1) r c l i k x y p12 p11=cond (Bc p12 c) (bif (E6 r c l i p12) then cond (E6 r c l k p12) (bif (Af x&&Af (C1 c l i p12)) then cond (Af y&&Af (C1 c l k p12)) (bif (Af (Bz x (C1 c l i p12))&&Af (Bz y (C1 c l k p12))) then cond (E6 r c p11 i p12) (bif (Af x&&Af (C1 c l k p12)) then cond (Af y&&Af (C1 c l i p12)) (bif (Af (Bz x (C1 c l k p12))&&Af (Bz y (C1 c l i p12))) then cond (E6 r c (zn p11 (toNat (i*c+p12)) (De (Bz x (C1 c l i p12)) (Bz y (C1 c l k p12)))) k p12) (Gd.Rows.L0 N M r c l i k x y (Ad (p12+1)) (zn (zn p11 (toNat (i*c+p12)) (De (Bz x (C1 c l i p12)) (Bz y (C1 c l k p12)))) (toNat (k*c+p12)) (Gg (Bz x (C1 c l k p12)) (Bz y (C1 c l i p12))))) none else none) none else none) none else none) none else none) none else none) (some (.agg [.int .i64 r,.int .i64 c,.ints .arg .u64 p11])) :=Et (Es (Es (Es (Co (Cb _) (Co (Cb _) (Co (Cb _) (Co (Cb _) (Co (Cb _) (Co (Cb _) (Co (Cb _) (Co (Cb _) rfl rfl) rfl) rfl) rfl) rfl) rfl) rfl) rfl) rfl) rfl) rfl)
theorem Gd.Rows.ev:Bv Gd.Rows.E N f199 (Aj f199) [.agg [.int .i64 r,.int .i64 c,.ints .arg .u64 l],.int .i64 i,.int .i64 k,.int .u64 x,.int .u64 y] =
 Gd.Rows.L0 N N r c l i k x y 0 l:=by kernel_rfl
end
def Gd.Mp.E:=E0 [(14,A0.D4.spec),(199,Gd.Rows.spec)]
theorem Gd.Mp.ev(N:Nat)(r c:Int)(l:List Int)(i k:Int)(x y:Int):Bv Gd.Mp.E N f157 (Aj f157) [.agg [.int .i64 r,.int .i64 c,.ints .arg .u64 l],.int .i64 i,.int .i64 k,.int .u64 x,.int .u64 y]=cond (Az r c l) (bif (Az c r (B0 (toNat c) (toNat r) (fun j1 j2=>C1 c l j2 j1))&&(Ah (B0 (toNat c) (toNat r) (fun j1 j2=>C1 c l j2 j1))&&((Af x&&Af y)&&Bq (0<=i/\i<c/\0<=k/\k<c/\i≠k)))) then cond (Az c r (Ni (toNat c) (toNat r) (B0 (toNat c) (toNat r) (fun j1 j2=>C1 c l j2 j1)) (toNat i) (toNat k) x y)) (some (.agg [.int .i64 r,.int .i64 c,.ints .fresh .u64 (B0 (toNat r) (toNat c) (fun j1 j2=>C1 r (Ni (toNat c) (toNat r) (B0 (toNat c) (toNat r) (fun j1 j2=>C1 c l j2 j1)) (toNat i) (toNat k) x y) j2 j1))])) none else none) none:=by kernel_rfl
theorem X4{R C i j:Nat}(r6:R<=6)(c6:C<=6)(hi:i<R)(hj:j<C):Ad (Ad ((i:Int)*(C:Int))+(j:Int))=((i*C+j:Nat):Int)/\i*C+j<R*C:=by have h:=Hk hi hj;have:R*C<=36:=Bfl r6 c6;have e:(i:Int)*(C:Int)=((i*C:Nat):Int):=(Bfa _ _).symm;refine⟨?_,h⟩;have e0:Ad ((i*C:Nat):Int)=((i*C:Nat):Int):=An (by omega) (by omega);rw[e,e0,An (by omega) (by omega)];omega
theorem Aww{R C:Nat}{l:List Int}{i k:Nat}{x y:Int}(r6:R<=6)(c6:C<=6)(hl:l.length=R*C)(al:Ah l=true)(hx:Af x=true)(hy:Af y=true)(hi:i<R)(hk:k<R)(hik:i≠k)(N:Nat) :
 ∀(d j F:Nat),j+d=C->d<F->Eu.Rows.L0 N F (R:Int) (C:Int) l (i:Int) (k:Int) x y (j:Int) (rgS R C l i k x y j)=some (.tup [.agg [.int .i64 (R:Int),.int .i64 (C:Int),.ints (.own 114002 tB) .u64 (Ni R C l i k x y)],.int .i64 (0:Int)]):=by
 intro d
 induction d with
 | zero =>
   intro j F hj hF;obtain⟨F,rfl⟩:∃G,F=G+1:=⟨F-1,by omega⟩
   obtain rfl:j=C:=by omega
   rw[Eu.Rows.Ar,As,Beu (by omega),Bet,As7]
 | succ d ih =>
   intro j F hj hF;obtain⟨F,rfl⟩:∃G,F=G+1:=⟨F-1,by omega⟩
   obtain⟨e1,b1⟩:=X4 r6 c6 hi (show j<C by omega);obtain⟨e2,b2⟩:=X4 r6 c6 hk (show j<C by omega);have a1:getD l (i*C+j) 0=C1 (C:Int) l (i:Int) (j:Int):=by unfold C1; rw[Oz]
   have a2:getD l (k*C+j) 0=C1 (C:Int) l (k:Int) (j:Int):=by unfold C1; rw[Oz]
   have g:∀n:Nat,n<R*C->(decide ((0:Int)<=(n:Int))&&decide ((n:Int)<((R*C:Nat):Int)))=true:=fun n hn=>by rw[Beq (by omega),Beq (by omega)]; rfl
   rw[Eu.Rows.Ar,As,Beq (by omega),Bep,e1,e2,Ber,Ber,yR,Aj8,hl,a1,a2,g _ b1,g _ b2,Bep,Bep,hx,hy,Hn al,Hn al,Bev,Bep,Bep,Fc,Fc,Bev,Bep,Bep,
    Beq b1,Beq b2,Bep,Bep,Bep,Fc,Fc,Bev,Bep,Bep,Bep,Amy (show j<C by omega) hik,An (by omega) (by omega)]
   exact ih (j+1) F (by omega) (by omega)
theorem Eu.Rows.Ae:Kq 204 Eu.Rows.spec:=Eb Eu.Rows.E Tryz.func204 (kc Aa.Check.Ae (kc Ai.Add.Ae (kc Ai.Mul.Ae (kc Ai.Sub.Ae .nil)))) fun r c l i k x y hp=>by
 obtain⟨hr,hp⟩:=Ac.1 (show(Az r c l&&(Ah l&&((Af x&&Af y)&&Bq (0<=i/\i<r/\0<=k/\k<r/\i≠k))))=true from hp);obtain⟨al,hp⟩:=Ac.1 hp;obtain⟨hxy,hp⟩:=Ac.1 hp;obtain⟨hx,hy⟩:=Ac.1 hxy;obtain⟨i0,i1,k0,k1,hik⟩:=Ak.1 hp;obtain⟨R,C,rfl,rfl,r6,c6,hl⟩:=Cp hr;obtain⟨i,rfl⟩:∃j:Nat,i=j:=⟨i.toNat,by omega⟩
 obtain⟨k,rfl⟩:∃j:Nat,k=j:=⟨k.toNat,by omega⟩
 have hlen:l.length<=36:=by rw[hl]; exact Bfl r6 c6
 refine⟨C+1,.tup [.agg [.int .i64 (R:Int),.int .i64 (C:Int),.ints (.own 114002 tB) .u64 (Ni R C l i k x y)],.int .i64 (0:Int)],[114002],?_,?_⟩
 ·have ec:Ny (R:Int) (C:Int) l=0:=by unfold Ny; rw[hr]; rfl
  have hn:zp (toNat ((l.length:Nat):Int)) (0:Int)=zp l.length 0:=by rw[Ber]
  rw[Eu.Rows.ev,ec,show((0:Int) !=0)=false from rfl,Bet,As,As,Fs,Fs,Beu (by omega),Beu (by omega),Beu (by omega),Beu (by omega),
   show(((i:Int))==(k:Int))=false from by simpa using(fun h=>hik h)]
  simp only[Bool.or_self,Bet];rw[Beq (by omega),Beq (yU _),Beq (by unfold G2; omega),Bev,Bev,Bep,hn,Aw8 (List.length_replicate ..)];have:=Aww r6 c6 hl al hx hy (by omega) (by omega) (i:=i) (k:=k) (fun h=>hik (by omega)) (C+1) C 0 (C+1) (by omega) (by omega);rw[Amx hl] at this;exact this
 ·exact Wk.Ik (.cons (Uu (zf.2 rfl)) (.cons .int .nil))
theorem Eu.Mp.Ae:Kq 170 Eu.Mp.spec:=Eb Eu.Mp.E Tryz.func170 (kc Eu.Rows.Ae (kc Aa.D4.Ae .nil)) fun r c l i k x y hp=>by
 obtain⟨hr,hp⟩:=Ac.1 (show(Az r c l&&(Ah l&&((Af x&&Af y)&&Bq (0<=i/\i<c/\0<=k/\k<c/\i≠k))))=true from hp);obtain⟨al,hp⟩:=Ac.1 hp;obtain⟨hxy,hp⟩:=Ac.1 hp;obtain⟨i0,i1,k0,k1,hik⟩:=Ak.1 hp;obtain⟨R,C,rfl,rfl,r6,c6,hl⟩:=Cp hr;obtain⟨i,rfl⟩:∃j:Nat,i=j:=⟨i.toNat,by omega⟩
 obtain⟨k,rfl⟩:∃j:Nat,k=j:=⟨k.toNat,by omega⟩
 have t1:Dy (R:Int) (C:Int) l=((C:Int),(R:Int),B0 C R fun a b=>C1 (C:Int) l (b:Int) (a:Int),0):=by unfold Dy; rw[Bfc hr,Ber,Ber]
 have r2:Az (C:Int) (R:Int) (B0 C R fun a b=>C1 (C:Int) l (b:Int) (a:Int))=true:=Oh _ c6 r6;have r3:Az (C:Int) (R:Int) (Ni C R (B0 C R fun a b=>C1 (C:Int) l (b:Int) (a:Int)) i k x y)=true:=Oh _ c6 r6
 have t2:Dy (C:Int) (R:Int) (Ni C R (B0 C R fun a b=>C1 (C:Int) l (b:Int) (a:Int)) i k x y)=((R:Int),(C:Int),Jh R C l i k x y,0):=by unfold Dy; rw[Bfc r3,Ber,Ber,Aix (by omega) (by omega)]
 refine⟨0,.tup [.agg [.int .i64 (R:Int),.int .i64 (C:Int),.ints .fresh .u64 (Jh R C l i k x y)],.int .i64 (0:Int)],[],?_,?_⟩
 ·rw[Eu.Mp.ev,t1,show((0:Int) !=0)=false from rfl,Bet,r2,show Ah (B0 C R fun a b=>C1 (C:Int) l (b:Int) (a:Int))=true from I3 fun a b=>Hn al,hxy,show Bq (0<=(i:Int)/\(i:Int)<(C:Int)/\0<=(k:Int)/\(k:Int)<(C:Int)/\(i:Int)≠(k:Int))=true from Ak.2 ⟨i0,i1,k0,k1,hik⟩];simp only[Bev,Bep,Ber];rw[t2]
 ·exact Wk.Ik (.cons (Wk.H3 (.cons .int (.cons .int (.cons (.fresh _ _) .nil)))) (.cons .int .nil))
theorem Ag0{R C:Nat}{l:List Int}{i k:Nat}{x y:Int}(r6:R<=6)(c6:C<=6)(hl:l.length=R*C)(al:Ah l=true)(hx:Af x=true)(hy:Af y=true)(hi:i<R)(hk:k<R)(hik:i≠k)(N:Nat) :
 ∀(d j F:Nat),j+d=C->d<F->Gd.Rows.L0 N F (R:Int) (C:Int) l (i:Int) (k:Int) x y (j:Int) (rgS R C l i k x y j)=some (.agg [.int .i64 (R:Int),.int .i64 (C:Int),.ints .arg .u64 (Ni R C l i k x y)]):=by
 intro d
 induction d with
 | zero =>
   intro j F hj hF;obtain⟨F,rfl⟩:∃G,F=G+1:=⟨F-1,by omega⟩
   obtain rfl:j=C:=by omega
   rw[Gd.Rows.Ar,As,Beu (by omega),Bet,As7]
 | succ d ih =>
   intro j F hj hF;obtain⟨F,rfl⟩:∃G,F=G+1:=⟨F-1,by omega⟩
   have hjC:j<C:=by omega
   rw[Gd.Rows.Ar,As,Beq (by omega),Bep,Gi r6 c6 hl hi hjC,Bep,Gi r6 c6 hl hk hjC,Bep,hx,hy,Hn al,Hn al,Bev,Bep,Bep,Fc,Fc,Bev,Bep,Gi r6 c6 (Aj8 _ _ _ _ _ _ _ _) hi hjC,Bep,Bep,Bep,Fc,Fc,Bev,Bep,
    Oz,Oz,Gi r6 c6 (by rw[yR,Aj8]) hk hjC,Bep,Amy hjC hik,An (by omega) (by omega)]
   exact ih (j+1) F (by omega) (by omega)
theorem Gd.Rows.Ae:Kq 199 Gd.Rows.spec:=Eb Gd.Rows.E Tryz.func199 (kc Aq.Add.Ae (kc Aq.Mul.Ae (kc Aq.Sub.Ae (kc A0.At.Ae (kc A0.Kg.arg.Ae .nil))))) fun r c l i k x y hp=>by
 obtain⟨hr,hp⟩:=Ac.1 (show(Az r c l&&(Ah l&&((Af x&&Af y)&&Bq (0<=i/\i<r/\0<=k/\k<r/\i≠k))))=true from hp);obtain⟨al,hp⟩:=Ac.1 hp;obtain⟨hxy,hp⟩:=Ac.1 hp;obtain⟨hx,hy⟩:=Ac.1 hxy;obtain⟨i0,i1,k0,k1,hik⟩:=Ak.1 hp;obtain⟨R,C,rfl,rfl,r6,c6,hl⟩:=Cp hr;obtain⟨i,rfl⟩:∃j:Nat,i=j:=⟨i.toNat,by omega⟩
 obtain⟨k,rfl⟩:∃j:Nat,k=j:=⟨k.toNat,by omega⟩
 refine⟨C+1,.agg [.int .i64 (R:Int),.int .i64 (C:Int),.ints .arg .u64 (Ni R C l i k x y)],[],?_,?_⟩
 ·rw[Gd.Rows.ev];have:=Ag0 r6 c6 hl al hx hy (by omega) (by omega) (fun h=>hik (by omega)) (C+1) (i:=i) (k:=k) C 0 (C+1) (by omega) (by omega);rw[Amx hl] at this;exact this
 ·exact Wk.H3 (.cons .int (.cons .int (.cons .Aai .nil)))
theorem Gd.Mp.Ae:Kq 157 Gd.Mp.spec:=Eb Gd.Mp.E Tryz.func157 (kc A0.D4.Ae (kc Gd.Rows.Ae .nil)) fun r c l i k x y hp=>by
 obtain⟨hr,hp⟩:=Ac.1 (show(Az r c l&&(Ah l&&((Af x&&Af y)&&Bq (0<=i/\i<c/\0<=k/\k<c/\i≠k))))=true from hp);obtain⟨al,hp⟩:=Ac.1 hp;obtain⟨hxy,hp⟩:=Ac.1 hp;obtain⟨i0,i1,k0,k1,hik⟩:=Ak.1 hp;obtain⟨R,C,rfl,rfl,r6,c6,hl⟩:=Cp hr;obtain⟨i,rfl⟩:∃j:Nat,i=j:=⟨i.toNat,by omega⟩
 obtain⟨k,rfl⟩:∃j:Nat,k=j:=⟨k.toNat,by omega⟩
 have r2:Az (C:Int) (R:Int) (B0 C R fun a b=>C1 (C:Int) l (b:Int) (a:Int))=true:=Oh _ c6 r6;have r3:Az (C:Int) (R:Int) (Ni C R (B0 C R fun a b=>C1 (C:Int) l (b:Int) (a:Int)) i k x y)=true:=Oh _ c6 r6;refine⟨0,.agg [.int .i64 (R:Int),.int .i64 (C:Int),.ints .fresh .u64 (Jh R C l i k x y)],[],?_,?_⟩
 ·rw[Gd.Mp.ev,hr,Bep];simp only[Ber];rw[r2,show Ah (B0 C R fun a b=>C1 (C:Int) l (b:Int) (a:Int))=true from I3 fun a b=>Hn al,hxy,show Bq (0<=(i:Int)/\(i:Int)<(C:Int)/\0<=(k:Int)/\(k:Int)<(C:Int)/\(i:Int)≠(k:Int))=true from Ak.2 ⟨i0,i1,k0,k1,hik⟩,Bev,Bev,Bev,Bep,r3,Bep,Aix (by omega) (by omega)]
 ·exact Wk.H3 (.cons .int (.cons .int (.cons (.fresh _ _) .nil)))
def Cn.G6.E:=E0 [(131,compare.Order.spec)]
theorem Cn.G6.ev(N:Nat)(i k:Int)(l:List Int):Bv Cn.G6.E N f130 (Aj f130) [.int .i64 i,.int .i64 k,.cellp [.ints .arg .u64 l]]=cond ((decide (0<=k))&&(decide (k<(length l:Int)))) (bif ((decide (0<=i))&&(decide (i<(length l:Int)))) then cond (Af (getD l (toNat k) 0)&&Af (getD l (toNat i) 0)) (some (.int .i64 (Hp (getD l (toNat k) 0) (getD l (toNat i) 0)))) none else none) none :=Et (Co (Kz _ _) (Co (Kz _ _) (Co (Cb _) rfl rfl) rfl) rfl)
def Bj.Ao.hint:Nat->Option A9
 | 0=>some { keep:=[0,1,2,3,8],objs:=[(0,0,100000,.ints 3 .i64 [])],boxes:=[] }
 | 2=>some { keep:=[0,1,2,3,8,9],objs:=[(0,0,100000,.ints 3 .i64 [])],boxes:=[] }
 | _=>none
def Bj.Ao.J4:List (Nat × Fy):=[(130,Cn.G6.spec)]
def Bj.Ao.E:Env:=Af2 (Cw Bj.Ao.J4) (fun _=>false) Bj.Ao.hint (fun _=>none) (fun _=>none) 1
section
variable(N:Nat)(x:List Int)(M0 M:Nat)(a b:Int)(l:List Int)(p9:Int)(p0:List Int)(p8_1 p8:Int)(p0_1:List Int)
def Bj.Ao.L0:Option (List Int):=Zx Bj.Ao.E N f205 (Aj f205) tI .i64 [1,0] [] M ⟨F3 53 [(0,.oref 100000),(1,.int .i64 a),(2,.int .i64 b),(3,.fn 130 [] [.cellp [.ints .arg .u64 l]]),(8,.int .i64 p8)],[(100000,false,.ints 3 .i64 p0_1)]⟩
def Bj.Ao.L1:Option (List Int):=Zx Bj.Ao.E N f205 (Aj f205) tI .i64 [1,0,0,1,0,0,1,0] [M0] M ⟨F3 53 [(0,.oref 100000),(1,.int .i64 a),(2,.int .i64 b),(3,.fn 130 [] [.cellp [.ints .arg .u64 l]]),(8,.int .i64 p8_1),(9,.int .i64 p9)],[(100000,false,.ints 3 .i64 p0)]⟩
theorem Bj.Ao.Ar:Bj.Ao.L0 N (M+1) a b l p8 p0_1=cond (Bc p8 b) (Bj.Ao.L1 N M N a b l p8 p0_1 p8) (some p0_1):=by kernel_rfl
theorem Bj.Ao.B6:Bj.Ao.L1 N M0 (M+1) a b l p9 p0 p8_1=cond ((!(Bc a p9))||((decide (0<=p9))&&(decide (p9<(length p0:Int))))) (bif ((!(Bc a p9))||(decide ((toNat p9)<(length p0)))) then cond ((!(Bc a p9))||((decide (0<=(Ad (p9-1))))&&(decide ((Ad (p9-1))<(length p0:Int))))) (bif ((!(Bc a p9))||(decide ((toNat (Ad (p9-1)))<(length p0)))) then cond ((!(Bc a p9))||(By l&&Bq (0<=(getD p0 (toNat p9) 0)/\(getD p0 (toNat p9) 0)<((length l:Nat):Int)/\0<=(getD p0 (toNat (Ad (p9-1))) 0)/\(getD p0 (toNat (Ad (p9-1))) 0)<((length l:Nat):Int)))) (bif ((Bc a p9)&&(Bc (Hp (Nv l (getD p0 (toNat (Ad (p9-1))) 0)) (Nv l (getD p0 (toNat p9) 0))) 0)) then cond ((decide (0<=(Ad (p9-1))))&&(decide ((Ad (p9-1))<(length p0:Int)))) (bif (decide ((toNat (Ad (p9-1)))<(length p0))) then cond ((decide (0<=p9))&&(decide (p9<(length p0:Int)))) (bif (decide ((toNat p9)<(length p0))) then cond ((decide (0<=p9))&&(decide (p9<(length p0:Int)))) (bif (decide ((toNat p9)<(length p0))) then cond ((decide (0<=(Ad (p9-1))))&&(decide ((Ad (p9-1))<(length (zn p0 (toNat p9) (getD p0 (toNat (Ad (p9-1))) 0)):Int)))) (bif (decide ((toNat (Ad (p9-1)))<(length (zn p0 (toNat p9) (getD p0 (toNat (Ad (p9-1))) 0))))) then Bj.Ao.L1 N M0 M a b l (Ad (p9-1)) (zn (zn p0 (toNat p9) (getD p0 (toNat (Ad (p9-1))) 0)) (toNat (Ad (p9-1))) (getD p0 (toNat p9) 0)) p8_1 else none) none else none) none else none) none else none) none else Bj.Ao.L0 N M0 a b l (Ad (p8_1+1)) p0) none else none) none else none) none :=Et (Ax (Ahl (Bc a p9)) (Ax (Ahl (Bc a p9)) (Ax (Ahl (Bc a p9)) (Co (A95 _ _ _) (Co (A96 _ _) (Ax (Ahl (Bc a p9)) (Ax (Ahl (Bc a p9)) (Ax (A97 (Bc a p9)) (Co (A95 _ _ _) (Co (A96 _ _) (Co (Bcx _ _) (Ax (A97 (Bc a p9)) (Ax (A98 (Bc a p9)) (Co (tt1 _ _) (Co (Kz _ _) (Co (Cb _) (Co (Kz _ _) (Co (Cb _) (Co (Kz _ _) (Co (Cb _) (Co (Kz _ _) (Co (Cb _) rfl rfl) rfl) rfl) rfl) rfl) rfl) rfl) rfl) rfl))) rfl) rfl) rfl)))) rfl) rfl))))
theorem Bj.Ao.ev:wrD Bj.Ao.E N f205 (Aj f205) tI .i64 x [.int .i64 a,.int .i64 b,.fn 130 [] [.cellp [.ints .arg .u64 l]]] =
 Bj.Ao.L0 N N a b l (Ad (a+1)) x:=by kernel_rfl
end
abbrev Bj.Ao.Kn:Prop:=Sg prog 205 (Alq tI .i64 Bj.Ao.ts Bj.Ao.pre Bj.Ao.Aet)
theorem Bj.Ao.Ei(hk:Hh prog Bj.Ao.J4)(h:∀(x:List Int) (a b:Int) (l:List Int),Bj.Ao.pre [.l x,.i a,.i b,.l l]=true->∃N,wrD Bj.Ao.E N f205 (Aj f205) tI .i64 x [.int .i64 a,.int .i64 b,.fn 130 [] [.cellp [.ints .arg .u64 l]]]=some (Bj.Ao.Aet [.l x,.i a,.i b,.l l])):Bj.Ao.Kn:=by
 refine Adz (E:=Bj.Ao.E) (Ads hk A60 _ _ _ _) (by decide) func205 (show f205.body=some (Aj f205) by kernel_rfl) (by kernel_rfl) (Mm func205 (by kernel_rfl) (show f205.body=some (Aj f205) by kernel_rfl)) fun x ats dvs he hp=>?_
 obtain⟨a,_,_,rfl,rfl,he0⟩:=he.Aiq;obtain⟨b,_,_,rfl,rfl,he1⟩:=he0.Aiq;obtain⟨_,_,_,_,rfl,rfl,hs2,he2⟩:=he1.Ari;obtain⟨_,_,_,_,rfl,rfl,hs3,he3⟩:=hs2.Arq;obtain⟨l,_,_,rfl,rfl,he4⟩:=hs3.Amm;obtain⟨rfl,rfl⟩:=he4.Lf;obtain⟨rfl,rfl⟩:=he3.Lf;obtain⟨rfl,rfl⟩:=he2.Lf;exact h x a b l hp
def Bj.A3.hint:Nat->Option A9
 | 0=>some { keep:=[0,1,2,6,7,8],objs:=[(0,0,100000,.ints 3 .i64 [])],boxes:=[] }
 | 2=>some { keep:=[0,1,2,6],objs:=[(0,0,100000,.ints 3 .i64 [])],boxes:=[] }
 | 4=>some { keep:=[0,1,2,6,7,8],objs:=[(0,0,100000,.ints 3 .i64 [])],boxes:=[] }
 | _=>none
def Bj.A3.J4:List (Nat × Fy):=[]
def Bj.A3.E:Env:=Af2 (Cw Bj.A3.J4) (fun _=>false) Bj.A3.hint (fun _=>none) (wr1 205 (Alq tI .i64 Bj.Ao.ts Bj.Ao.pre Bj.Ao.Aet)) 1
section
variable(N:Nat)(x:List Int)(M0 M:Nat)(n:Int)(l:List Int)(p6_1 p8_1:Int)(p0_2:List Int)(p6:Int)(p0_1:List Int)(p7 p8:Int)(p0:List Int)
def Bj.A3.L0:Option (List Int):=Zx Bj.A3.E N f171 (Aj f171) tI .i64 [1,1,0,0] [] M ⟨F3 63 [(0,.oref 100000),(1,.int .i64 n),(2,.fn 130 [] [.cellp [.ints .arg .u64 l]]),(6,.int .i64 20),(7,.int .i64 p7),(8,.int .i64 p8)],[(100000,false,.ints 3 .i64 p0)]⟩
def Bj.A3.L1:Option (List Int):=Zx Bj.A3.E N f171 (Aj f171) tI .i64 [1,1,1,1,0] [] M ⟨F3 63 [(0,.oref 100000),(1,.int .i64 n),(2,.fn 130 [] [.cellp [.ints .arg .u64 l]]),(6,.int .i64 p6)],[(100000,false,.ints 3 .i64 p0_1)]⟩
def Bj.A3.L2:Option (List Int):=Zx Bj.A3.E N f171 (Aj f171) tI .i64 [1,1,1,1,0,0,1,0,1,0,0] [M0] M ⟨F3 63 [(0,.oref 100000),(1,.int .i64 n),(2,.fn 130 [] [.cellp [.ints .arg .u64 l]]),(6,.int .i64 p6_1),(7,.int .i64 0),(8,.int .i64 p8_1)],[(100000,false,.ints 3 .i64 p0_2)]⟩
theorem Bj.A3.Ar:Bj.A3.L0 N (M+1) n l p7 p8 p0=cond (Fb p8 n) (bif (By l&&Bq (J1 (length l) p0=true/\length p0<=6/\p7=0/\p8=((length p0:Nat):Int))) then Bj.A3.L0 N M n l p8 (Ad (p8+20)) (Fv l p0) else none) (bif (By l&&Bq (J1 (length l) p0=true/\length p0<=6/\p7=0/\n=((length p0:Nat):Int))) then Bj.A3.L1 N N n l 20 (Fv l p0) else none):=by kernel_rfl
theorem Bj.A3.B6:Bj.A3.L1 N (M+1) n l p6 p0_1=cond (Bc p6 n) (Bj.A3.L2 N M N n l p6 (Ad ((2:Int)*p6)) p0_1) (some p0_1):=by kernel_rfl
theorem Bj.A3.ev:wrD Bj.A3.E N f171 (Aj f171) tI .i64 x [.int .i64 n,.fn 130 [] [.cellp [.ints .arg .u64 l]]] =
 Bj.A3.L0 N N n l 0 20 x:=by kernel_rfl
end
abbrev Bj.A3.Kn:Prop:=Sg prog 171 (Alq tI .i64 Bj.A3.ts Bj.A3.pre Bj.A3.Aet)
theorem Bj.A3.Ei(hk:Hh prog Bj.A3.J4)(hw:Bj.Ao.Kn)(h:∀(x:List Int) (n:Int) (l:List Int),Bj.A3.pre [.l x,.i n,.l l]=true->∃N,wrD Bj.A3.E N f171 (Aj f171) tI .i64 x [.int .i64 n,.fn 130 [] [.cellp [.ints .arg .u64 l]]]=some (Bj.A3.Aet [.l x,.i n,.l l])):Bj.A3.Kn:=by
 refine Adz (E:=Bj.A3.E) (Ads hk (Ao7 hw) _ _ _ _) (by decide) func171 (show f171.body=some (Aj f171) by kernel_rfl) (by kernel_rfl) (Mm func171 (by kernel_rfl) (show f171.body=some (Aj f171) by kernel_rfl)) fun x ats dvs he hp=>?_
 obtain⟨n,_,_,rfl,rfl,he0⟩:=he.Aiq;obtain⟨_,_,_,_,rfl,rfl,hs1,he1⟩:=he0.Ari;obtain⟨_,_,_,_,rfl,rfl,hs2,he2⟩:=hs1.Arq;obtain⟨l,_,_,rfl,rfl,he3⟩:=hs2.Amm;obtain⟨rfl,rfl⟩:=he3.Lf;obtain⟨rfl,rfl⟩:=he2.Lf;obtain⟨rfl,rfl⟩:=he1.Lf;exact h x n l hp
def Bj.A8.J4:List (Nat × Fy):=[]
def Bj.A8.E:Env:=Af2 (Cw Bj.A8.J4) (fun _=>false) (fun _=>none) (fun _=>none) (wr1 171 (Alq tI .i64 Bj.A3.ts Bj.A3.pre Bj.A3.Aet)) 1
theorem Bj.A8.ev(N:Nat)(x l:List Int):wrD Bj.A8.E N f129 (Aj f129) tI .i64 x [.fn 130 [] [.cellp [.ints .arg .u64 l]]]=cond (By l&&Bq (J1 (length l) x=true/\length x<=6/\(length x:Int)=((length x:Nat):Int))) (some (Fv l x)) none:=by kernel_rfl
abbrev Bj.A8.Kn:Prop:=Sg prog 129 (Alq tI .i64 Bj.A8.ts Bj.A8.pre Bj.A8.Aet)
theorem Bj.A8.Ei(hk:Hh prog Bj.A8.J4)(hw:Bj.A3.Kn)(h:∀(x l:List Int),Bj.A8.pre [.l x,.l l]=true->∃N,wrD Bj.A8.E N f129 (Aj f129) tI .i64 x [.fn 130 [] [.cellp [.ints .arg .u64 l]]]=some (Bj.A8.Aet [.l x,.l l])):Bj.A8.Kn:=by
 refine Adz (E:=Bj.A8.E) (Ads hk (Ao7 hw) _ _ _ _) (by decide) func129 (show f129.body=some (Aj f129) by kernel_rfl) (by kernel_rfl) (Mm func129 (by kernel_rfl) (show f129.body=some (Aj f129) by kernel_rfl)) fun x ats dvs he hp=>?_
 obtain⟨_,_,_,_,rfl,rfl,hs0,he0⟩:=he.Ari;obtain⟨_,_,_,_,rfl,rfl,hs1,he1⟩:=hs0.Arq;obtain⟨l,_,_,rfl,rfl,he2⟩:=hs1.Amm;obtain⟨rfl,rfl⟩:=he2.Lf;obtain⟨rfl,rfl⟩:=he1.Lf;obtain⟨rfl,rfl⟩:=he0.Lf;exact h x l hp
theorem Cn.G6.Ae:Kq 130 Cn.G6.spec:=Eb Cn.G6.E Tryz.func130 (kc compare.Order.Ae .nil) fun i k l hp=>by obtain⟨hl,hp⟩:=Ac.1 (show(By l&&Bq (0<=i/\i<((length l:Nat):Int)/\0<=k/\k<((length l:Nat):Int)))=true from hp);obtain⟨h1,h2,h3,h4⟩:=Ak.1 hp;obtain⟨_,hu⟩:=Jr hl;refine⟨0,.int .i64 (Hp (Nv l k) (Nv l i)),[],?_,.int⟩;rw[Cn.G6.ev,Beq h3,Beq h4,Bev,Bep,Beq h1,Beq h2,Bev,Bep,hu _ (by omega),hu _ (by omega),Bev,Bep];rfl
theorem Awq(N M0:Nat){l:List Int}(hl:By l=true){b p8 v:Int}:∀(R B:List Int) (F:Nat),J1 l.length (R.reverse++v::B)=true->R.length<F->R.length+B.length<=100 ->
 Bj.Ao.L1 N M0 F 0 b l (R.length:Int) (R.reverse++v::B) p8=Bj.Ao.L0 N M0 0 b l (Ad (p8+1)) ((Sb (Nv l) v R).reverse++B):=by
 intro R
 induction R with
 | nil =>
   intro B F hx hF hs;obtain⟨F,rfl⟩:∃G,F=G+1:=⟨F-1,by simp at hF; omega⟩
   rw[Bj.Ao.B6,As,Beu (show ¬(0:Int)<((([]:List Int).length:Nat):Int) by simp)];simp only[Bf8,Bool.true_or,Bep,Bool.false_and,Bet];rfl
 | cons y t ih =>
   intro B F hx hF hs;obtain⟨F,rfl⟩:∃G,F=G+1:=⟨F-1,by simp at hF; omega⟩
   have hlen:(((y::t).reverse++v::B).length)=t.length+2+B.length:=by simp; omega
   have e1:Ad (((y::t).length:Int)-1)=(t.length:Int):=by rw[An (by simp) (by simp at hs ⊢; omega)]; simp
   have eA:(y::t).reverse++v::B=t.reverse++y::v::B:=by simp
   have g1:getD ((y::t).reverse++v::B) (t.length+1) 0=v:=by have:=An2 (y::t).reverse B v;rw[wu] at this; exact this
   have g2:getD ((y::t).reverse++v::B) t.length 0=y:=by rw[eA];have:=An2 t.reverse (v::B) y;rw[wu] at this; exact this
   have p1:=S2 hx (j:=t.length+1) (by omega);have p2:=S2 hx (j:=t.length) (by omega);rw[g1] at p1; rw[g2] at p2;rw[Bj.Ao.B6,e1,As,Beq (show(0:Int)<(((y::t).length:Nat):Int) by simp)];simp only[Bfo,Bool.false_or,Bf2]
   rw[show toNat (((y::t).length:Nat):Int)=t.length+1 by simp,Ber,g1,g2,yR,hlen,
    Beq (show(0:Int)<=(((y::t).length:Nat):Int) by omega),Beq (show(((y::t).length:Nat):Int)<((t.length+2+B.length:Nat):Int) by simp; omega),Bev,Bep,
    Beq (show t.length+1<t.length+2+B.length by omega),Bep,Beq (show(0:Int)<=((t.length:Nat):Int) by omega),Beq (show((t.length:Nat):Int)<((t.length+2+B.length:Nat):Int) by omega),Bev,Bep,
    Beq (show t.length<t.length+2+B.length by omega),Bep,show(By l&&Bq (0<=v/\v<((length l:Nat):Int)/\0<=y/\y<((length l:Nat):Int)))=true from Ac.2 ⟨hl,Ak.2 ⟨p1.1,p1.2,p2.1,p2.2⟩⟩,Bep,As]
   by_cases hlt:Hp (Nv l y) (Nv l v)<0
   ·rw[Beq hlt];simp only[Bep]
    have hsw:(zn (zn ((y::t).reverse++v::B) (t.length+1) y) t.length v)=t.reverse++v::(y::B):=by rw[eA];have:=Auu t.reverse B y v;rw[wu] at this; exact this
    rw[hsw]
    have hx':J1 l.length (t.reverse++v::(y::B))=true:=Kv.2 fun z hz=>Kv.1 hx z (by
     rw[eA];simp only[zH,zu] at hz ⊢;rcases hz with h | h | h | h
     ·exact .inl h
     ·exact .inr (.inr (.inl h))
     ·exact .inr (.inl h)
     ·exact .inr (.inr (.inr h)))
    rw[ih (y::B) F hx' (by simp at hF; omega) (by simp at hs ⊢; omega)];congr 1;rw[show Sb (Nv l) v (y::t)=y::Sb (Nv l) v t from Bfc hlt];simp
   ·rw[Beu hlt,Bet,show Sb (Nv l) v (y::t)=v::y::t from Bfb hlt];congr 1;simp
theorem Awp(N:Nat){l x:List Int}(hl:By l=true)(hx:J1 l.length x=true)(h6:x.length<=6):∀(k i F:Nat),i+k=x.length->k<F->6<N ->
 Bj.Ao.L0 N F 0 (x.length:Int) l (i:Int) ((U0 (Nv l) (x.take i)).reverse++x.drop i)=some (Fv l x):=by
 intro k
 induction k with
 | zero =>
   intro i F hi hF hN;obtain⟨F,rfl⟩:∃G,F=G+1:=⟨F-1,by omega⟩
   rw[Bj.Ao.Ar,As,Beu (by omega),Bet,yO (by omega),Be3 (by omega),List.append_nil]; rfl
 | succ k ih =>
   intro i F hi hF hN;obtain⟨F,rfl⟩:∃G,F=G+1:=⟨F-1,by omega⟩
   have hd:x.drop i=x.getD i 0::x.drop (i+1):=by rw[yG (by omega),Bez,Be6 (by omega)]; rfl
   have hlen:(U0 (Nv l) (x.take i)).length=i:=by rw[Y2,zI]; omega
   have:=Awq N F hl (b:=(x.length:Int)) (p8:=(i:Int)) (v:=x.getD i 0) (U0 (Nv l) (x.take i)) (x.drop (i+1)) N (Kv.2 fun z hz=>Kv.1 hx z (by
    rw[zH,List.mem_reverse,zu] at hz;rcases hz with h | h | h
    ·exact List.mem_of_mem_take (Ahu h)
    ·rw[h,Bez,Be6 (show i<x.length by omega)]; exact List.getElem_mem _
    ·exact List.mem_of_mem_drop h)) (by omega) (by rw[List.length_drop]; omega)
   rw[hlen] at this;rw[Bj.Ao.Ar,As,Beq (by omega),Bep,hd,this,An (by omega) (by omega),<- Apw]
   have e:x.take i++[x.getD i 0]=x.take (i+1):=by rw[x6 (by omega),Bez,Be6 (show i<x.length by omega)]; rfl
   rw[e];exact ih (i+1) F (by omega) (by omega) hN
theorem Bj.Ao.Ae:Bj.Ao.Kn:=Bj.Ao.Ei (kc Cn.G6.Ae .nil) fun x a b l hp=>by
 obtain⟨hl,hp⟩:=Ac.1 (show(By l&&Bq (J1 (length l) x=true/\length x<=6/\a=0/\b=((length x:Nat):Int)))=true from hp);obtain⟨hx,h6,rfl,rfl⟩:=Ak.1 hp;refine⟨8,?_⟩;rw[Bj.Ao.ev,An (by decide) (by decide)];show _=some (Fv l x);cases x with
 | nil=>rw[Bj.Ao.Ar,As,Beu (by simp),Bet]; rfl
 | cons y t =>have:=Awp 8 hl hx h6 t.length 1 8 (by simp; omega) (by simp at h6; omega) (by decide);exact this
theorem Bj.A3.Ae:Bj.A3.Kn:=Bj.A3.Ei .nil Bj.Ao.Ae fun x n l hp=>by obtain⟨hl,hp⟩:=Ac.1 (show(By l&&Bq (J1 (length l) x=true/\length x<=6/\n=((length x:Nat):Int)))=true from hp);obtain⟨hx,h6,rfl⟩:=Ak.1 hp;refine⟨1,?_⟩;rw[Bj.A3.ev,Bj.A3.Ar,Fs,Beu (by omega),Bet,show(By l&&Bq (J1 (length l) x=true/\length x<=6/\(0:Int)=0/\((length x:Nat):Int)=((length x:Nat):Int)))=true from Ac.2 ⟨hl,Ak.2 ⟨hx,h6,rfl,rfl⟩⟩,Bep,Bj.A3.B6,As,Beu (by omega),Bet];rfl
theorem Bj.A8.Ae:Bj.A8.Kn:=Bj.A8.Ei .nil Bj.A3.Ae fun x l hp=>by obtain⟨hl,hp⟩:=Ac.1 (show(By l&&Bq (J1 (length l) x=true/\length x<=6))=true from hp);obtain⟨hx,h6⟩:=Ak.1 hp;refine⟨0,?_⟩;rw[Bj.A8.ev,show(By l&&Bq (J1 (length l) x=true/\length x<=6/\((length x:Nat):Int)=((length x:Nat):Int)))=true from Ac.2 ⟨hl,Ak.2 ⟨hx,h6,rfl⟩⟩,Bep];rfl
def Cn.Db.J4:List (Nat × Fy):=[(80,compare.Nc.spec),(78,compare.Ta.spec),(68,Aa.Fi.spec),(81,soft.Eg.spec),(181,soft.Sign.spec),(137,Ai.Add.spec),(82,Ai.Div.spec),(134,Ai.H6.spec),(138,Ai.Mul.spec),(67,Ai.Norm.spec),(79,Ai.Cc.spec),(139,Ai.Sqrt.spec),(201,Ai.Sub.spec)]
def Cn.Db.live:Nat->Option (List Nat)
 | 2=>some [3,8,9,10]
 | 5=>some [3,8,9,10,11,13,15]
 | 8=>some [8,9,10,15]
 | 11=>some [8,22]
 | 12=>some [8,22,23]
 | 13=>some [8,22,24]
 | 15=>some [8,24]
 | _=>none
def Cn.Db.E:Env:=C6 (Cw Cn.Db.J4) (fun _=>false) (fun _=>none) Cn.Db.live
section
variable(N:Nat)(r c:Int)(l:List Int)(i k p24_1 p22 p24 p23 b:Int)(p9 p10:List Int)(p11 p13 p15:Int)
def Cn.Db.C2:Option DV:=cutAt Cn.Db.E N f169 (Aj f169) [1,1] [] ⟨F3 114 [(3,.int .u64 b),(8,.ptr 8 0 0),(9,.ints .fresh .u64 p9),(10,.ints .fresh .u64 p10)],[(8,false,.box [.int .u64 0,.int .u64 0,.bool false]),(4,false,.box [.int .i64 r,.int .i64 c,.ints .arg .u64 l])]⟩
def Cn.Db.C5:Option DV:=cutAt Cn.Db.E N f169 (Aj f169) [1,1,1,1,1] [] ⟨F3 114 [(3,.int .u64 b),(8,.ptr 8 0 0),(9,.ints .fresh .u64 p9),(10,.ints .fresh .u64 p10),(11,.int .u64 p11),(13,.int .u64 p13),(15,.int .u64 p15)],[(8,false,.box [.int .u64 0,.int .u64 0,.bool false]),(4,false,.box [.int .i64 r,.int .i64 c,.ints .arg .u64 l])]⟩
def Cn.Db.C8:Option DV:=cutAt Cn.Db.E N f169 (Aj f169) [1,1,1,1,1,1,1] [] ⟨F3 114 [(8,.ptr 8 0 0),(9,.ints .fresh .u64 p9),(10,.ints .fresh .u64 p10),(15,.int .u64 p15)],[(8,false,.box [.int .u64 0,.int .u64 0,.bool false]),(4,false,.box [.int .i64 r,.int .i64 c,.ints .arg .u64 l])]⟩
def Cn.Db.C11:Option DV:=cutAt Cn.Db.E N f169 (Aj f169) [1,1,1,1,1,1,1,1,1,1] [] ⟨F3 114 [(8,.ptr 8 0 0),(22,.int .u64 p22)],[(8,false,.box [.int .u64 0,.int .u64 0,.bool false]),(4,false,.box [.int .i64 r,.int .i64 c,.ints .arg .u64 l])]⟩
def Cn.Db.C12:Option DV:=cutAt Cn.Db.E N f169 (Aj f169) [1,1,1,1,1,1,1,1,1,1,1] [] ⟨F3 114 [(8,.ptr 8 0 0),(22,.int .u64 p22),(23,.int .u64 p23)],[(8,false,.box [.int .u64 0,.int .u64 0,.bool false]),(4,false,.box [.int .i64 r,.int .i64 c,.ints .arg .u64 l])]⟩
def Cn.Db.C13:Option DV:=cutAt Cn.Db.E N f169 (Aj f169) [1,1,1,1,1,1,1,1,1,1,1,1,0] [] ⟨F3 114 [(8,.ptr 8 0 0),(22,.int .u64 p22),(24,.int .u64 p24)],[(8,false,.box [.int .u64 0,.int .u64 0,.bool false]),(4,false,.box [.int .i64 r,.int .i64 c,.ints .arg .u64 l])]⟩
def Cn.Db.C15:Option DV:=cutAt Cn.Db.E N f169 (Aj f169) [1,1,1,1,1,1,1,1,1,1,1,1,1] [] ⟨F3 114 [(8,.ptr 8 0 0),(24,.int .u64 p24_1)],[(8,false,.box [.int .u64 0,.int .u64 0,.bool false]),(4,false,.box [.int .i64 r,.int .i64 c,.ints .arg .u64 l])]⟩
theorem Cn.Db.Ao2:Cn.Db.C2 N r c l b p9 p10=cond (By p9&&Bq (length p9<=64)) (bif (By p10&&Bq (length p10<=64)) then cond ((Re p9 p10&&Ah p9)&&Ah p10) (Cn.Db.C5 N r c l b p9 p10 (Bk p9) (Bk p10) (Hi p9 p10)) none else none) none:=(D3 _ _ _ _ _ _ _).trans (by kernel_rfl)
theorem Cn.Db.Ao1:Cn.Db.C5 N r c l b p9 p10 p11 p13 p15=cond (Af p11&&Af p13) (bif (Dk (Bz p11 p13) (-44:Int)) then cond (Af b&&Af p11) (bif ((!(decide (Hp b p11<0)))||(Af b&&Af p13)) then cond (((!(decide (Hp b p11<0)))||(!(decide (Hp b p13<0))))||(Af p15)) (bif (((!(decide (Hp b p11<0)))||(!(decide (Hp b p13<0))))||(Af (A7 (Bz p11 p13) (-44:Int))&&Af (Hq p15))) then cond (((!(decide (Hp b p11<0)))||(!(decide (Hp b p13<0))))||(!(decide (Hp (A7 (Bz p11 p13) (-44:Int)) (Hq p15)<0)))) (some (.agg [.int .u64 0,.int .u64 0,.bool true])) (Cn.Db.C8 N r c l p9 p10 p15) else none) none else none) none else none) none :=
 yL ((D3 _ _ _ _ _ _ _).trans (by kernel_rfl))
 (Es (Es (Es (Ax (Xw (decide (Hp b p11<0))) (Ax (Xw (decide (Hp b p11<0))) (Co (A6m _ _) (Ax (R7 (decide (Hp b p11<0))) (Ax (Aau (decide (Hp b p11<0))) (Ax (Alz (decide (Hp b p11<0)) (decide (Hp b p13<0))) (Ax (Alz (decide (Hp b p11<0)) (decide (Hp b p13<0))) (Co (A6n _ _ _) (Co (Ayq _ _ _) (Ax (Aun (decide (Hp b p11<0)) (decide (Hp b p13<0))) (Ax (A7f (decide (Hp b p11<0)) (decide (Hp b p13<0))) (Co (Ba8 _ _ _) rfl rfl))) rfl) rfl))))) rfl))) rfl) rfl) rfl)
theorem Cn.Db.Ai9:Cn.Db.C8 N r c l p9 p10 p15=cond ((Re p9 p9&&Ah p9)&&Ah p9) (bif ((Re p10 p10&&Ah p10)&&Ah p10) then cond (Af (Hi p10 p10)&&Af (Hi p9 p9)) (bif (Af p15&&Af p15) then cond (Af (Gg (Hi p10 p10) (Hi p9 p9))&&Af (De p15 p15)) (Cn.Db.C11 N r c l (E2 (Gg (Hi p10 p10) (Hi p9 p9)) (De p15 p15))) none else none) none else none) none:=(D3 _ _ _ _ _ _ _).trans (by kernel_rfl)
theorem Cn.Db.Ags:Cn.Db.C11 N r c l p22=cond (Af p22&&Af p22) (bif (Af 4607182418800017408&&Af (Bz p22 p22)) then cond (Af (De 4607182418800017408 (Bz p22 p22))) (Cn.Db.C12 N r c l p22 (Dt (De 4607182418800017408 (Bz p22 p22)))) none else none) none:=(D3 _ _ _ _ _ _ _).trans (by kernel_rfl)
theorem Cn.Db.Agr:Cn.Db.C12 N r c l p22 p23=cond (Af p22) (bif (Af (Hq p22)&&Af p23) then cond (Af 4607182418800017408&&Af (De (Hq p22) p23)) (Cn.Db.C13 N r c l p22 (E2 4607182418800017408 (De (Hq p22) p23))) none else none) none:=(D3 _ _ _ _ _ _ _).trans (by kernel_rfl)
theorem Cn.Db.A9b:Cn.Db.C13 N r c l p22 p24=cond (Af p22) (bif (En p22) then cond (Af p24) (Cn.Db.C15 N r c l (B7 p24)) none else Cn.Db.C15 N r c l p24) none:=(D3 _ _ _ _ _ _ _).trans (by kernel_rfl)
theorem Cn.Db.Asc:Cn.Db.C15 N r c l p24_1=cond (Af p24_1&&Af p24_1) (bif (Af 4607182418800017408&&Af (Bz p24_1 p24_1)) then cond (Af (De 4607182418800017408 (Bz p24_1 p24_1))) (bif (Af 4607182418800017408&&Af (Dt (De 4607182418800017408 (Bz p24_1 p24_1)))) then cond (Af (E2 4607182418800017408 (Dt (De 4607182418800017408 (Bz p24_1 p24_1))))&&Af p24_1) (some (.agg [.int .u64 (E2 4607182418800017408 (Dt (De 4607182418800017408 (Bz p24_1 p24_1)))),.int .u64 (Bz (E2 4607182418800017408 (Dt (De 4607182418800017408 (Bz p24_1 p24_1)))) p24_1),.bool false])) none else none) none else none) none:=(D3 _ _ _ _ _ _ _).trans (by kernel_rfl)
theorem Cn.Db.ev:Bv Cn.Db.E N f169 (Aj f169) [.agg [.int .i64 r,.int .i64 c,.ints .arg .u64 l],.int .i64 i,.int .i64 k,.int .u64 b]=cond (Gu r c l i&&Bq (0<=(0:Int)/\(0:Int)<=r)) (bif (Gu r c l k&&Bq (0<=(0:Int)/\(0:Int)<=r)) then Cn.Db.C2 N r c l b (B3 c l i 0 (toNat (r-0))) (B3 c l k 0 (toNat (r-0))) else none) none :=Et (Co (Cb _) (Co (Cb _) rfl rfl) rfl)
end
def Cn.rounds.hint:Nat->Option A9
 | 0=>some { keep:=[2,3,4,6,7,13],objs:=[],boxes:=[3,4,6,7] }
 | 2=>some { keep:=[2,3,4,6,7,9,13,16,17],objs:=[],boxes:=[3,4,6,7] }
 | 4=>some { keep:=[2,3,4,6,7,9,10,11,13,16,17],objs:=[],boxes:=[3,4,6,7] }
 | _=>none
def Cn.rounds.E:=C6 (Cw [(170,Eu.Mp.spec),(81,soft.Eg.spec),(169,Cn.Db.spec)]) (fun _=>false) Cn.rounds.hint (fun _=>none)
section
variable(N M0 M1 M:Nat)(r c:Int)(l:List Int)(p q:Int)(m:List Int)(b p11:Int)(p9:Bool)(p3 p4:List Int)(p10 p17_1 p13_2 p17:Int)(p9_1:Bool)(p3_1 p4_1:List Int)(p13_1 p13:Int)(p3_2 p4_2:List Int)
def Cn.rounds.L0:Option DV:=B2 Cn.rounds.E N f127 (Aj f127) [1,0,1,0] [] M ⟨F3 66 [(2,.int .u64 b),(3,.ptr 3 0 0),(4,.ptr 4 0 0),(6,.ptr 6 0 0),(7,.ptr 7 0 0),(13,.int .i64 p13)],[(3,false,.box [.int .i64 r,.int .i64 c,.ints .arg .u64 p3_2]),(4,false,.box [.int .i64 p,.int .i64 q,.ints .arg .u64 p4_2]),(6,false,.box [.int .i64 0,.int .i64 0,.nil]),(7,false,.box [.int .i64 0,.int .i64 0,.nil])]⟩
def Cn.rounds.L1:Option DV:=B2 Cn.rounds.E N f127 (Aj f127) [1,0,1,0,0,1,1,0,0,0,1,1,0,1,0] [M0] M ⟨F3 66 [(2,.int .u64 b),(3,.ptr 3 0 0),(4,.ptr 4 0 0),(6,.ptr 6 0 0),(7,.ptr 7 0 0),(9,.bool p9_1),(13,.int .i64 p13_1),(16,.int .i64 c),(17,.int .i64 p17)],[(3,false,.box [.int .i64 r,.int .i64 c,.ints .arg .u64 p3_1]),(4,false,.box [.int .i64 p,.int .i64 q,.ints .arg .u64 p4_1]),(6,false,.box [.int .i64 0,.int .i64 0,.nil]),(7,false,.box [.int .i64 0,.int .i64 0,.nil])]⟩
def Cn.rounds.L2:Option DV:=B2 Cn.rounds.E N f127 (Aj f127) [1,0,1,0,0,1,1,0,0,0,1,1,0,1,0,0,1,1,0,0,1,0,1,0] [M0,M1] M ⟨F3 66 [(2,.int .u64 b),(3,.ptr 3 0 0),(4,.ptr 4 0 0),(6,.ptr 6 0 0),(7,.ptr 7 0 0),(9,.bool p9),(10,.int .i64 p10),(11,.int .i64 p11),(13,.int .i64 p13_2),(16,.int .i64 c),(17,.int .i64 p17_1)],[(3,false,.box [.int .i64 r,.int .i64 c,.ints .arg .u64 p3]),(4,false,.box [.int .i64 p,.int .i64 q,.ints .arg .u64 p4]),(6,false,.box [.int .i64 0,.int .i64 0,.nil]),(7,false,.box [.int .i64 0,.int .i64 0,.nil])]⟩
theorem Cn.rounds.Ar:Cn.rounds.L0 N (M+1) r c p q b p13 p3_2 p4_2=cond (Bc p13 60) (Cn.rounds.L1 N M N r c p q b 0 true p3_2 p4_2 p13) (some (.tup [.agg [.int .i64 r,.int .i64 c,.ints .arg .u64 p3_2],.agg [.int .i64 p,.int .i64 q,.ints .arg .u64 p4_2],.int .i64 6])):=by kernel_rfl
theorem Cn.rounds.B6:Cn.rounds.L1 N M0 (M+1) r c p q b p17 p9_1 p3_1 p4_1 p13_1=cond (Bc p17 c) (Cn.rounds.L2 N M0 M N r c p q b (Ad (p17+1)) p9_1 p3_1 p4_1 p17 p17 p13_1) (bif p9_1 then some (.tup [.agg [.int .i64 r,.int .i64 c,.ints .arg .u64 p3_1],.agg [.int .i64 p,.int .i64 q,.ints .arg .u64 p4_1],.int .i64 0]) else Cn.rounds.L0 N M0 r c p q b (Ad (p13_1+1)) p3_1 p4_1):=by kernel_rfl
theorem Cn.rounds.Jw:Cn.rounds.L2 N M0 M1 (M+1) r c p q b p11 p9 p3 p4 p10 p17_1 p13_2=cond (Bc p11 c) (bif (Az r c p3&&(Ah p3&&(Af b&&Bq (0<=p10/\p10<c/\0<=p11/\p11<c)))) then cond (Wz (Dz (toNat r) (toNat c) p3 (toNat p10)) (Dz (toNat r) (toNat c) p3 (toNat p11)) b) (Cn.rounds.L2 N M0 M1 M r c p q b (Ad (p11+1)) p9 p3 p4 p10 p17_1 p13_2) (bif (Af (trS (Dz (toNat r) (toNat c) p3 (toNat p10)) (Dz (toNat r) (toNat c) p3 (toNat p11)) b)) then cond (Az r c p3&&(Ah p3&&((Af (trC (Dz (toNat r) (toNat c) p3 (toNat p10)) (Dz (toNat r) (toNat c) p3 (toNat p11)) b)&&Af (B7 (trS (Dz (toNat r) (toNat c) p3 (toNat p10)) (Dz (toNat r) (toNat c) p3 (toNat p11)) b)))&&Bq (0<=p10/\p10<c/\0<=p11/\p11<c/\p10≠p11)))) (bif (Af (trS (Dz (toNat r) (toNat c) p3 (toNat p10)) (Dz (toNat r) (toNat c) p3 (toNat p11)) b)) then cond (Az p q p4&&(Ah p4&&((Af (trC (Dz (toNat r) (toNat c) p3 (toNat p10)) (Dz (toNat r) (toNat c) p3 (toNat p11)) b)&&Af (B7 (trS (Dz (toNat r) (toNat c) p3 (toNat p10)) (Dz (toNat r) (toNat c) p3 (toNat p11)) b)))&&Bq (0<=p10/\p10<q/\0<=p11/\p11<q/\p10≠p11)))) (Cn.rounds.L2 N M0 M1 M r c p q b (Ad (p11+1)) false (Jh (toNat r) (toNat c) p3 (toNat p10) (toNat p11) (trC (Dz (toNat r) (toNat c) p3 (toNat p10)) (Dz (toNat r) (toNat c) p3 (toNat p11)) b) (B7 (trS (Dz (toNat r) (toNat c) p3 (toNat p10)) (Dz (toNat r) (toNat c) p3 (toNat p11)) b))) (Jh (toNat p) (toNat q) p4 (toNat p10) (toNat p11) (trC (Dz (toNat r) (toNat c) p3 (toNat p10)) (Dz (toNat r) (toNat c) p3 (toNat p11)) b) (B7 (trS (Dz (toNat r) (toNat c) p3 (toNat p10)) (Dz (toNat r) (toNat c) p3 (toNat p11)) b))) p10 p17_1 p13_2) none else none) none else none) else none) (Cn.rounds.L1 N M0 M1 r c p q b (Ad (p17_1+1)) p9 p3 p4 p13_2) :=Et (Es (Es (Es rfl (Co (Cb _) (Co (Cb _) (Co (Cb _) (Co (Cb _) rfl rfl) rfl) rfl) rfl)) rfl) rfl)
theorem Cn.rounds.ev:Bv Cn.rounds.E N f127 (Aj f127) [.agg [.int .i64 r,.int .i64 c,.ints .arg .u64 l],.agg [.int .i64 p,.int .i64 q,.ints .arg .u64 m],.int .u64 b] =
 Cn.rounds.L0 N N r c p q b 0 l m:=by kernel_rfl
end
def Cn.Bx.hint:Nat->Option A9
 | 0=>some { keep:=[1,4,5,14,15,16],objs:=[(6,2,106002,.ints 43 .u64 [])],boxes:=[4,5] }
 | _=>none
def Cn.Bx.E:=C6 (Cw [(79,Ai.Cc.spec)]) (fun _=>false) Cn.Bx.hint (fun _=>none)
section
variable(N M:Nat)(r c:Int)(l:List Int)(k p16:Int)(p2:List Int)
def Cn.Bx.L0:Option DV:=B2 Cn.Bx.E N f125 (Aj f125) [1,1,0,1,0] [] M ⟨F3 30 [(1,.int .i64 k),(4,.ptr 4 0 0),(5,.ptr 5 0 0),(14,.ints .arg .u64 l),(15,.int .i64 (length l:Int)),(16,.int .i64 p16)],[(4,false,.box [.int .i64 0,.int .i64 0,.nil]),(5,false,.box [.int .i64 r,.int .i64 c,.oref 106002]),(106002,false,.ints 43 .u64 p2)]⟩
theorem Cn.Bx.Ar:Cn.Bx.L0 N (M+1) r c l k p16 p2=cond (Bc p16 (length l:Int)) (bif ((decide (0<=p16))&&(decide (p16<(length l:Int)))) then cond (Dk (getD l (toNat p16) 0) k) (bif (decide ((length p2)+1<=G2)) then Cn.Bx.L0 N M r c l k (Ad (p16+1)) (p2++[(A7 (getD l (toNat p16) 0) k)]) else none) none else none) (some (.agg [.int .i64 r,.int .i64 c,.ints (.own 106002 43) .u64 p2])) :=Et (Es (Es (Co (Cb _) (Co (Cb _) rfl rfl) rfl) rfl) rfl)
theorem Cn.Bx.ev:Bv Cn.Bx.E N f125 (Aj f125) [.agg [.int .i64 r,.int .i64 c,.ints .arg .u64 l],.int .i64 k] =
 Cn.Bx.L0 N N r c l k 0 []:=by kernel_rfl
end
def Cn.at.hint:Nat->Option A9
 | 0=>some { keep:=[1,2,4,5,15,16],objs:=[(6,2,106002,.ints 43 .u64 [])],boxes:=[2,4,5] }
 | 2=>some { keep:=[1,2,4,5,6,15,16,19,20,21],objs:=[(6,2,106002,.ints 43 .u64 [])],boxes:=[2,4,5] }
 | _=>none
def Cn.at.E:=C6 (Cw []) (fun _=>false) Cn.at.hint (fun _=>none)
section
variable(N M0 M:Nat)(r c:Int)(l x:List Int)(p6 p16_1 p21:Int)(p2:List Int)(p16:Int)(p2_1:List Int)
def Cn.at.L0:Option DV:=B2 Cn.at.E N f132 (Aj f132) [1,1,0,1,0] [] M ⟨F3 43 [(1,.ints .arg .i64 x),(2,.ptr 2 0 0),(4,.ptr 4 0 0),(5,.ptr 5 0 0),(15,.int .i64 r),(16,.int .i64 p16)],[(2,false,.box [.int .i64 r,.int .i64 c,.ints .arg .u64 l]),(4,false,.box [.int .i64 0,.int .i64 0,.nil]),(5,false,.box [.int .i64 r,.int .i64 c,.oref 106002]),(106002,false,.ints 43 .u64 p2_1)]⟩
def Cn.at.L1:Option DV:=B2 Cn.at.E N f132 (Aj f132) [1,1,0,1,0,0,1,1,0,0,1,1,0] [M0] M ⟨F3 43 [(1,.ints .arg .i64 x),(2,.ptr 2 0 0),(4,.ptr 4 0 0),(5,.ptr 5 0 0),(6,.int .i64 p6),(15,.int .i64 r),(16,.int .i64 p16_1),(19,.ints .arg .i64 x),(20,.int .i64 (length x:Int)),(21,.int .i64 p21)],[(2,false,.box [.int .i64 r,.int .i64 c,.ints .arg .u64 l]),(4,false,.box [.int .i64 0,.int .i64 0,.nil]),(5,false,.box [.int .i64 r,.int .i64 c,.oref 106002]),(106002,false,.ints 43 .u64 p2)]⟩
theorem Cn.at.Ar:Cn.at.L0 N (M+1) r c l x p16 p2_1=cond (Bc p16 r) (Cn.at.L1 N M N r c l x p16 p16 0 p2_1) (some (.agg [.int .i64 r,.int .i64 c,.ints (.own 106002 43) .u64 p2_1])):=by kernel_rfl
theorem Cn.at.B6:Cn.at.L1 N M0 (M+1) r c l x p6 p16_1 p21 p2=cond (Bc p21 (length x:Int)) (bif ((decide (0<=p21))&&(decide (p21<(length x:Int)))) then cond ((decide (0<=(Ad ((Ad (p6*c))+(getD x (toNat p21) 0)))))&&(decide ((Ad ((Ad (p6*c))+(getD x (toNat p21) 0)))<(length l:Int)))) (bif (decide ((length p2)+1<=G2)) then Cn.at.L1 N M0 M r c l x p6 p16_1 (Ad (p21+1)) (p2++[(getD l (toNat (Ad ((Ad (p6*c))+(getD x (toNat p21) 0)))) 0)]) else none) none else none) (Cn.at.L0 N M0 r c l x (Ad (p16_1+1)) p2) :=Et (Es (Es (Co (Kz _ _) (Co (Cb _) rfl rfl) rfl) rfl) rfl)
theorem Cn.at.ev:Bv Cn.at.E N f132 (Aj f132) [.agg [.int .i64 r,.int .i64 c,.ints .arg .u64 l],.ints .arg .i64 x] =
 Cn.at.L0 N N r c l x 0 []:=by kernel_rfl
end
def Cn.Jo.hint:Nat->Option A9
 | 0=>some { keep:=[1,3,8,9],objs:=[(0,3,100003,.ints 43 .u64 [])],boxes:=[1] }
 | _=>none
def Cn.Jo.E:=C6 (Cw [(68,Aa.Fi.spec),(67,Ai.Norm.spec)]) (fun _=>false) Cn.Jo.hint (fun _=>none)
section
variable(N M:Nat)(r c:Int)(l:List Int)(p9:Int)(p3:List Int)
def Cn.Jo.L0:Option DV:=B2 Cn.Jo.E N f128 (Aj f128) [1,1,0,1,0] [] M ⟨F3 25 [(1,.ptr 1 0 0),(3,.oref 100003),(8,.int .i64 c),(9,.int .i64 p9)],[(1,false,.box [.int .i64 r,.int .i64 c,.ints .arg .u64 l]),(100003,false,.ints 43 .u64 p3)]⟩
theorem Cn.Jo.Ar:Cn.Jo.L0 N (M+1) r c l p9 p3=cond (Bc p9 c) (bif (Gu r c l p9&&Bq (0<=(0:Int)/\(0:Int)<=r)) then cond (By (B3 c l p9 0 (toNat (r-0)))&&Bq (length (B3 c l p9 0 (toNat (r-0)))<=64)) (bif (decide ((length p3)+1<=G2)) then Cn.Jo.L0 N M r c l (Ad (p9+1)) (p3++[(Bk (B3 c l p9 0 (toNat (r-0))))]) else none) none else none) (some (.ints (.own 100003 43) .u64 p3)):=by kernel_rfl
theorem Cn.Jo.ev:Bv Cn.Jo.E N f128 (Aj f128) [.agg [.int .i64 r,.int .i64 c,.ints .arg .u64 l]] =
 Cn.Jo.L0 N N r c l 0 []:=by kernel_rfl
end
def Cn.A2.hint:Nat->Option A9
 | 0=>some { keep:=[2,3,6,9,10,56,57],objs:=[(0,10,100010,.ints 3 .i64 [])],boxes:=[2,3,9] }
 | _=>none
def Cn.A2.J4:List (Nat × Fy):=[(69,D2.Check.spec),(123,compare.Tc.spec),(126,Aa.Hv.spec),(132,Cn.at.spec),(128,Cn.Jo.spec),(127,Cn.rounds.spec),(125,Cn.Bx.spec),(124,Ai.Ck.spec),(66,Ai.Finite.spec),(67,Ai.Norm.spec),(79,Ai.Cc.spec)]
def Cn.A2.live:Nat->Option (List Nat)
 | 5=>some [1,2,3,6]
 | 8=>some [1,2,3,6,7]
 | 11=>some [1,2,3,6]
 | 18=>some [2,3,6,9,10]
 | 20=>some [2,3]
 | _=>none
def Cn.A2.E:Env:=Af2 (Cw Cn.A2.J4) (fun _=>false) Cn.A2.hint Cn.A2.live (wr1 129 (Alq tI .i64 Bj.A8.ts Bj.A8.pre Bj.A8.Aet)) 0
section
variable(N M:Nat)(r c:Int)(l:List Int)(p6 p7 p3 p3_1:Int)(p3_3 p2_1:List Int)(p57:Int)(p10 p3_2 p2:List Int)
def Cn.A2.C5:Option DV:=cutAt Cn.A2.E N f64 (Aj f64) [1,1,1] [] ⟨F3 92 [(1,.ptr 1 0 0),(2,.ptr 2 0 0),(3,.ptr 3 0 0),(6,.int .i64 p6)],[(3,false,.box [.int .i64 0,.int .i64 0,.nil]),(2,false,.box [.int .i64 0,.int .i64 0,.nil]),(1,false,.box [.int .i64 r,.int .i64 c,.ints .arg .u64 l])]⟩
def Cn.A2.C8:Option DV:=cutAt Cn.A2.E N f64 (Aj f64) [1,1,1,1,1,1,0] [] ⟨F3 92 [(1,.ptr 1 0 0),(2,.ptr 2 0 0),(3,.ptr 3 0 0),(6,.int .i64 p6),(7,.int .u64 p7)],[(3,false,.box [.int .i64 p3,.int .i64 p3_1,.ints .fresh .u64 p3_2]),(2,false,.box [.int .i64 r,.int .i64 c,.ints .arg .u64 p2]),(1,false,.box [.int .i64 r,.int .i64 c,.ints .arg .u64 l])]⟩
def Cn.A2.C11:Option DV:=cutAt Cn.A2.E N f64 (Aj f64) [1,1,1,1,1,1,1] [] ⟨F3 92 [(1,.ptr 1 0 0),(2,.ptr 2 0 0),(3,.ptr 3 0 0),(6,.int .i64 p6)],[(1,false,.box [.int .i64 r,.int .i64 c,.ints .arg .u64 l]),(3,false,.box [.int .i64 p3,.int .i64 p3_1,.ints .arg .u64 p3_3]),(2,false,.box [.int .i64 r,.int .i64 c,.ints .arg .u64 p2_1])]⟩
def Cn.A2.L0:Option DV:=B2 Cn.A2.E N f64 (Aj f64) [1,1,1,1,1,1,1,1,1,0,1,0] [] M ⟨F3 92 [(2,.ptr 2 0 0),(3,.ptr 3 0 0),(6,.int .i64 p6),(9,.ptr 9 0 0),(10,.oref 100010),(56,.int .i64 c),(57,.int .i64 p57)],[(2,false,.box [.int .i64 r,.int .i64 c,.ints .arg .u64 p2_1]),(3,false,.box [.int .i64 p3,.int .i64 p3_1,.ints .arg .u64 p3_3]),(9,false,.box [.ints .fresh .u64 (Ch (toNat r) (toNat c) p2_1)]),(100010,false,.ints 3 .i64 p10)]⟩
def Cn.A2.C18:Option DV:=cutAt Cn.A2.E N f64 (Aj f64) [1,1,1,1,1,1,1,1,1,1] [] ⟨F3 92 [(2,.ptr 2 0 0),(3,.ptr 3 0 0),(6,.int .i64 p6),(9,.ptr 9 0 0),(10,.oref 100010)],[(2,false,.box [.int .i64 r,.int .i64 c,.ints .arg .u64 p2_1]),(3,false,.box [.int .i64 p3,.int .i64 p3_1,.ints .arg .u64 p3_3]),(9,false,.box [.ints .fresh .u64 (Ch (toNat r) (toNat c) p2_1)]),(100010,false,.ints 3 .i64 p10)]⟩
def Cn.A2.C20:Option DV:=cutAt Cn.A2.E N f64 (Aj f64) [1,1,1,1,1,1,1,1,1,1,1,1,0] [] ⟨F3 92 [(2,.ptr 2 0 0),(3,.ptr 3 0 0)],[(2,false,.box [.int .i64 r,.int .i64 c,.ints .arg .u64 (A4 (Cu (toNat r) (toNat c) p2_1 (Fv (Ch (toNat r) (toNat c) p2_1) p10)) p6)]),(3,false,.box [.int .i64 p3,.int .i64 p3_1,.ints .fresh .u64 (Cu (toNat p3) (toNat p3_1) p3_3 (Fv (Ch (toNat r) (toNat c) p2_1) p10))]),(9,false,.box [.ints .fresh .u64 (Ch (toNat r) (toNat c) p2_1)]),(100010,false,.ints 3 .i64 (Fv (Ch (toNat r) (toNat c) p2_1) p10))]⟩
theorem Cn.A2.Ao1:Cn.A2.C5 N r c l p6=cond (By l&&Bq (length l<=1000/\-2300<=(Ad (0-p6))/\(Ad (0-p6))<=2300)) (bif (By (A4 l (Ad (0-p6)))&&Bq (length (A4 l (Ad (0-p6)))<=64)) then Cn.A2.C8 N r c l p6 (Bk (A4 l (Ad (0-p6)))) ((Rn c).1) ((Rn c).2.1) ((Rn c).2.2.1) (A4 l (Ad (0-p6))) else none) none:=(D3 _ _ _ _ _ _ _).trans (by kernel_rfl)
theorem Cn.A2.Ai9:Cn.A2.C8 N r c l p6 p7 p3 p3_1 p3_2 p2=cond (Dk p7 (-44:Int)) (bif ((Az r c p2&&Az p3 p3_1 p3_2)&&((Ah p2&&Ah p3_2)&&(Af (A7 p7 (-44:Int))&&Bq (p3=c/\p3_1=c)))) then cond (((Ec (toNat r) (toNat c) (A7 p7 (-44:Int)) 60 p2 p3_2).2.2) !=(0:Int)) (some (.tup [.agg [.int .i64 0,.int .i64 0,.nil],.agg [.int .i64 0,.int .i64 0,.nil],.nil,.int .i64 ((Ec (toNat r) (toNat c) (A7 p7 (-44:Int)) 60 p2 p3_2).2.2)])) (Cn.A2.C11 N r c l p6 p3 p3_1 ((Ec (toNat r) (toNat c) (A7 p7 (-44:Int)) 60 p2 p3_2).2.1) ((Ec (toNat r) (toNat c) (A7 p7 (-44:Int)) 60 p2 p3_2).1)) else none) none :=
 yL ((D3 _ _ _ _ _ _ _).trans (by kernel_rfl))
 (Co (Cb _) (Co (Cb _) rfl rfl) rfl)
theorem Cn.A2.Ags:Cn.A2.C11 N r c l p6 p3 p3_1 p3_3 p2_1=cond (Az r c p2_1&&Ah p2_1) (Cn.A2.L0 N N r c p6 p3 p3_1 p3_3 p2_1 0 []) none:=(D3 _ _ _ _ _ _ _).trans (by kernel_rfl)
theorem Cn.A2.Ar:Cn.A2.L0 N (M+1) r c p6 p3 p3_1 p3_3 p2_1 p57 p10=cond (Bc p57 c) (bif (decide ((length p10)+1<=G2)) then Cn.A2.L0 N M r c p6 p3 p3_1 p3_3 p2_1 (Ad (p57+1)) (p10++[p57]) else none) (Cn.A2.C18 N r c p6 p3 p3_1 p3_3 p2_1 p10):=by kernel_rfl
theorem Cn.A2.Asb:Cn.A2.C18 N r c p6 p3 p3_1 p3_3 p2_1 p10=cond (By (Ch (toNat r) (toNat c) p2_1)&&Bq (J1 (length (Ch (toNat r) (toNat c) p2_1)) p10=true/\length p10<=6)) (bif (Az r c p2_1&&Bq (((length (Fv (Ch (toNat r) (toNat c) p2_1) p10):Nat):Int)=c/\J1 (toNat c) (Fv (Ch (toNat r) (toNat c) p2_1) p10)=true)) then cond (By (Cu (toNat r) (toNat c) p2_1 (Fv (Ch (toNat r) (toNat c) p2_1) p10))&&Bq (length (Cu (toNat r) (toNat c) p2_1 (Fv (Ch (toNat r) (toNat c) p2_1) p10))<=1000/\-2300<=p6/\p6<=2300)) (bif (Az p3 p3_1 p3_3&&Bq (((length (Fv (Ch (toNat r) (toNat c) p2_1) p10):Nat):Int)=p3_1/\J1 (toNat p3_1) (Fv (Ch (toNat r) (toNat c) p2_1) p10)=true)) then Cn.A2.C20 N r c p6 p3 p3_1 p3_3 p2_1 p10 else none) none else none) none :=
 yL ((D3 _ _ _ _ _ _ _).trans (by kernel_rfl))
 (Es (Co (Cb _) (Co (Cb _) (Co (Cb _) rfl rfl) rfl) rfl) rfl)
theorem Cn.A2.A87:Cn.A2.C20 N r c p6 p3 p3_1 p3_3 p2_1 p10=cond (By (A4 (Cu (toNat r) (toNat c) p2_1 (Fv (Ch (toNat r) (toNat c) p2_1) p10)) p6)) (bif ((!(Ds (A4 (Cu (toNat r) (toNat c) p2_1 (Fv (Ch (toNat r) (toNat c) p2_1) p10)) p6)))||(By (Cu (toNat p3) (toNat p3_1) p3_3 (Fv (Ch (toNat r) (toNat c) p2_1) p10)))) then cond ((!(Ds (A4 (Cu (toNat r) (toNat c) p2_1 (Fv (Ch (toNat r) (toNat c) p2_1) p10)) p6)))||(!(Ds (Cu (toNat p3) (toNat p3_1) p3_3 (Fv (Ch (toNat r) (toNat c) p2_1) p10))))) (some (.tup [.agg [.int .i64 0,.int .i64 0,.nil],.agg [.int .i64 0,.int .i64 0,.nil],.nil,.int .i64 2])) (bif (Az r c (A4 (Cu (toNat r) (toNat c) p2_1 (Fv (Ch (toNat r) (toNat c) p2_1) p10)) p6)&&Ah (A4 (Cu (toNat r) (toNat c) p2_1 (Fv (Ch (toNat r) (toNat c) p2_1) p10)) p6)) then some (.tup [.agg [.int .i64 r,.int .i64 c,.ints .arg .u64 (A4 (Cu (toNat r) (toNat c) p2_1 (Fv (Ch (toNat r) (toNat c) p2_1) p10)) p6)],.agg [.int .i64 p3,.int .i64 p3_1,.ints .fresh .u64 (Cu (toNat p3) (toNat p3_1) p3_3 (Fv (Ch (toNat r) (toNat c) p2_1) p10))],.ints .fresh .u64 (Ch (toNat r) (toNat c) (A4 (Cu (toNat r) (toNat c) p2_1 (Fv (Ch (toNat r) (toNat c) p2_1) p10)) p6)),.int .i64 0]) else none) else none) none :=
 yL ((D3 _ _ _ _ _ _ _).trans (by kernel_rfl))
 (Es (Ax (Xw (Ds (A4 (Cu (toNat r) (toNat c) p2_1 (Fv (Ch (toNat r) (toNat c) p2_1) p10)) p6))) (Ax (R7 (Ds (A4 (Cu (toNat r) (toNat c) p2_1 (Fv (Ch (toNat r) (toNat c) p2_1) p10)) p6))) (Co (Apl _ _) (Ax (R7 (Ds (A4 (Cu (toNat r) (toNat c) p2_1 (Fv (Ch (toNat r) (toNat c) p2_1) p10)) p6))) (Ax (Aau (Ds (A4 (Cu (toNat r) (toNat c) p2_1 (Fv (Ch (toNat r) (toNat c) p2_1) p10)) p6))) (Co (Apm _ _) rfl (Co (Cb _) rfl rfl)))) rfl))) rfl)
theorem Cn.A2.ev:Bv Cn.A2.E N f64 (Aj f64) [.agg [.int .i64 r,.int .i64 c,.ints .arg .u64 l]]=cond (Ah l) (bif ((Ci r c l) !=(0:Int)) then some (.tup [.agg [.int .i64 0,.int .i64 0,.nil],.agg [.int .i64 0,.int .i64 0,.nil],.nil,.int .i64 (Ci r c l)]) else bif (By l) then cond (Af (Bi l)) (Cn.A2.C5 N r c l (Bs (Bi l))) none else none) none:=by kernel_rfl
end
abbrev Cn.A2.Kn:=E8 prog 64 Cn.A2.spec
theorem Cn.A2.Ei(hk:Hh prog Cn.A2.J4)(hw:Bj.A8.Kn)(h:Hyp Cn.A2.E f64 Cn.A2.ts Cn.A2.pre Cn.A2.out):Cn.A2.Kn :=Ij (Ads hk (Ao7 hw) _ _ _ _) func64 (by kernel_rfl) (by kernel_rfl) h
theorem Pk:Af (4607182418800017408:Int)=true:=Ake
theorem Alw(N:Nat)(r c:Int)(l:List Int){t:Int}(ht:Af t=true):Cn.Db.C15 N r c l t=some (.agg [.int .u64 (Fj t),.int .u64 (El t),.bool false]):=by have h1:Af (De (4607182418800017408:Int) (Bz t t))=true:=Pr Pk (Fc _ _);rw[Cn.Db.Asc,ht,Bev,Bep,Pk,Fc,Bev,Bep,h1,Bep,Th h1,Bev,Bep,J9,Bev,Bep];rfl
theorem Ayk(N:Nat)(r c:Int)(l:List Int){z:Int}(hz:Af z=true):Cn.Db.C11 N r c l z=some (.agg [.int .u64 (Fj (G9 z)),.int .u64 (El (G9 z)),.bool false]):=by
 have h1:Af (De (4607182418800017408:Int) (Bz z z))=true:=Pr Pk (Fc _ _);have h2:=Th h1;have h3:Af (De (Hq z) (Dt (De (4607182418800017408:Int) (Bz z z))))=true:=Pr (Q7 z) h2;rw[Cn.Db.Ags,hz,Bev,Bep,Pk,Fc,Bev,Bep,h1,Bep,Cn.Db.Agr,hz,Bep,Q7,h2,Bev,Bep,Pk,h3,Bev,Bep,Cn.Db.A9b,hz,Bep,J9,Bep]
 have e:G9 z=cond (En z) (B7 (E2 (4607182418800017408:Int) (De (Hq z) (Dt (De (4607182418800017408:Int) (Bz z z)))))) (E2 (4607182418800017408:Int) (De (Hq z) (Dt (De (4607182418800017408:Int) (Bz z z))))):=by unfold G9 Aat Va;cases En z<;>rfl
 rw[e];cases En z with
 | true=>rw[Bep,Bep]; exact Alw N r c l (O6 (J9 _ _))
 | false=>rw[Bet,Bet]; exact Alw N r c l (J9 _ _)
theorem Ye{x y:List Int}(hx:Ah x=true)(hy:Ah y=true)(h:x.length=y.length)(h6:x.length<=6):((Re x y&&Ah x)&&Ah y)=true:=by unfold Re;rw[Beq h,Beq (by omega),hx,hy]; rfl
theorem Aqq{x:List Int}(hx:Ah x=true)(h6:x.length<=6):(By x&&Bq (length x<=64))=true:=Ac.2 ⟨Gz hx (by omega),Ak.2 (by omega)⟩
theorem A3j(N:Nat)(r c:Int)(l:List Int){b:Int}(hb:Af b=true){x y:List Int}(hx:Ah x=true)(hy:Ah y=true)(h:x.length=y.length)(h6:x.length<=6) :
 Cn.Db.C2 N r c l b x y=some (.agg [.int .u64 (trC x y b),.int .u64 (trS x y b),.bool (Wz x y b)]):=by
 have f:=Ye hx hy h h6;have sc:Dk (Bz (Bk x) (Bk y)) (-44:Int)=true:=Ac.2 ⟨Fc _ _,Ak.2 (by decide)⟩;have eb:(((!(decide (Hp b (Bk x)<0)))||(!(decide (Hp b (Bk y)<0))))||(!(decide (Hp (A7 (Bz (Bk x) (Bk y)) (-44:Int)) (Hq (Hi x y))<0))))=Wz x y b:=rfl;rw[Cn.Db.Ao2,Aqq hx h6,Bep,Aqq hy (by omega),Bep,f,Bep,Cn.Db.Ao1,Le,Le,Bev,Bep,sc,Bep,hb,Bev,Bep,Bf1,Bep,Hz,Bf1,Bep,Hs (Fc _ _),Q7,Bev,Bf1,Bep,eb];unfold trC trS;cases Wz x y b with
 | true=>rw[Bep]; rfl
 | false =>rw[Bet,Cn.Db.Ai9,Ye hx hx rfl h6,Bep,Ye hy hy rfl (by omega),Bep,Hz,Hz,Bev,Bep,Hz,Bev,Bep,Tg (Hz _ _) (Hz _ _),Pr (Hz _ _) (Hz _ _),Bev,Bep];exact Ayk N r c l (J9 _ _)
theorem Cn.Db.Ae:Kq 169 Cn.Db.spec:=Eb Cn.Db.E Tryz.func169 (kc compare.Nc.Ae (kc compare.Ta.Ae (kc Aa.Fi.Ae (kc soft.Eg.Ae (kc soft.Sign.Ae (kc Ai.Add.Ae (kc Ai.Div.Ae (kc Ai.H6.Ae (kc Ai.Mul.Ae (kc Ai.Norm.Ae (kc Ai.Cc.Ae (kc Ai.Sqrt.Ae (kc Ai.Sub.Ae .nil))))))))))))) fun r c l i k b hp=>by
 obtain⟨hr,hp⟩:=Ac.1 (show(Az r c l&&(Ah l&&(Af b&&Bq (0<=i/\i<c/\0<=k/\k<c))))=true from hp);obtain⟨al,hp⟩:=Ac.1 hp;obtain⟨hb,hp⟩:=Ac.1 hp;obtain⟨i0,i1,k0,k1⟩:=Ak.1 hp;obtain⟨R,C,rfl,rfl,r6,c6,hl⟩:=Cp hr;obtain⟨i,rfl⟩:∃j:Nat,i=j:=⟨i.toNat,by omega⟩
 obtain⟨k,rfl⟩:∃j:Nat,k=j:=⟨k.toNat,by omega⟩
 have z:Bq (0<=(0:Int)/\(0:Int)<=(R:Int))=true:=Ak.2 ⟨yU _,by omega⟩;have cp:∀j:Nat,(j:Int)<(C:Int)->Gu (R:Int) (C:Int) l (j:Int)=true:=fun j hj=>Ac.2 ⟨hr,Ak.2 (by omega)⟩
 refine⟨0,.agg [.int .u64 (trC (Dz R C l i) (Dz R C l k) b),.int .u64 (trS (Dz R C l i) (Dz R C l k) b),.bool (Wz (Dz R C l i) (Dz R C l k) b)],[],?_,Wk.H3 (.cons .int (.cons .int (.cons .bool .nil)))⟩;rw[Cn.Db.ev,cp i i1,z,Bev,Bep,cp k k1,Bev,Bep,show toNat ((R:Int)-(0:Int))=R by omega];exact A3j 0 _ _ _ hb (Pj al) (Pj al) (by rw[E1,E1]) (by rw[E1]; exact r6)
section
variable{R C:Nat}{b:Int}(r6:R<=6)(c6:C<=6)(hb:Af b=true)(N:Nat)
include r6 c6 hb
theorem Ave{M0 M1:Nat}{p:Nat}{p13:Int}:∀(d q F:Nat) (s:List Int × List Int × Bool),q+d=C->d<F->p<q->Jk R C s ->
 Cn.rounds.L2 N M0 M1 F (R:Int) (C:Int) (C:Int) (C:Int) b (q:Int) s.2.2 s.1 s.2.1 (p:Int) (p:Int) p13 =
  Cn.rounds.L1 N M0 M1 (R:Int) (C:Int) (C:Int) (C:Int) b (((p+1:Nat):Int)) (O3 Wz R C b p d q s).2.2 (O3 Wz R C b p d q s).1 (O3 Wz R C b p d q s).2.1 p13:=by
 intro d
 induction d with
 | zero =>
   intro q F s hq hF hpq hs;obtain⟨F,rfl⟩:∃G,F=G+1:=⟨F-1,by omega⟩
   rw[Cn.rounds.Jw,As,Beu (by omega),Bet,An (by omega) (by omega)];rfl
 | succ d ih =>
   intro q F s hq hF hpq hs;obtain⟨F,rfl⟩:∃G,F=G+1:=⟨F-1,by omega⟩
   have hr:=Ep r6 c6 hs.1.1;have hv:=Ep c6 c6 hs.2.1
   have t1:(Az (R:Int) (C:Int) s.1&&(Ah s.1&&(Af b&&Bq (0<=(p:Int)/\(p:Int)<(C:Int)/\0<=(q:Int)/\(q:Int)<(C:Int)))))=true :=Ac.2 ⟨hr,Ac.2 ⟨hs.1.2,Ac.2 ⟨hb,Ak.2 (by omega)⟩⟩⟩
   have cq:Bq (0<=(p:Int)/\(p:Int)<(C:Int)/\0<=(q:Int)/\(q:Int)<(C:Int)/\(p:Int)≠(q:Int))=true:=Ak.2 (by omega);have hn:=ih (q+1) F (Go.Ct.Ng Wz R C b p q s) (by omega) (by omega) (by omega) hs.Ng;rw[Cn.rounds.Jw,As,Beq (by omega),Bep,t1,Bep];simp only[Ber];rw[An (by omega) (by omega)];show _=Cn.rounds.L1 N M0 M1 (R:Int) (C:Int) (C:Int) (C:Int) b (((p+1:Nat):Int)) (O3 Wz R C b p d (q+1) (Go.Ct.Ng Wz R C b p q s)).2.2 (O3 Wz R C b p d (q+1) (Go.Ct.Ng Wz R C b p q s)).1 (O3 Wz R C b p d (q+1) (Go.Ct.Ng Wz R C b p q s)).2.1 p13;rw[<- hn];unfold Go.Ct.Ng;cases hbe:Wz (Dz R C s.1 p) (Dz R C s.1 q) b with
   | true=>rw[Bep,Bfc rfl]; rfl
   | false =>
     have iS:Af (trS (Dz R C s.1 p) (Dz R C s.1 q) b)=true:=by unfold trS; rw[hbe]; exact Fc _ _
     have iC:Af (trC (Dz R C s.1 p) (Dz R C s.1 q) b)=true:=by unfold trC; rw[hbe]; exact J9 _ _
     rw[Bet,iS,Bep,hr,hs.1.2,iC,O6 iS,cq,Bev,Bev,Bev,Bev,Bep,Bep,hv,hs.2.2,Bev,Bev,Bep,Bfb (by decide)];have eC:trC (Dz R C s.1 p) (Dz R C s.1 q) b=Fj (G9 (Ix (Dz R C s.1 p) (Dz R C s.1 q))):=by unfold trC; rw[hbe]; rfl
     have eS:trS (Dz R C s.1 p) (Dz R C s.1 q) b=El (G9 (Ix (Dz R C s.1 p) (Dz R C s.1 q))):=by unfold trS; rw[hbe]; rfl
     rw[eC,eS];rfl
theorem Avf{M0:Nat}{p13:Int}(hN:6<N):∀(d p F:Nat) (s:List Int × List Int × Bool),p+d=C->d<F->Jk R C s ->
 Cn.rounds.L1 N M0 F (R:Int) (C:Int) (C:Int) (C:Int) b (p:Int) s.2.2 s.1 s.2.1 p13 =
  bif (Go.Ct.L6 Wz R C b d p s).2.2 then some (.tup [.agg [.int .i64 (R:Int),.int .i64 (C:Int),.ints .arg .u64 (Go.Ct.L6 Wz R C b d p s).1],.agg [.int .i64 (C:Int),.int .i64 (C:Int),.ints .arg .u64 (Go.Ct.L6 Wz R C b d p s).2.1],.int .i64 (0:Int)])
  else Cn.rounds.L0 N M0 (R:Int) (C:Int) (C:Int) (C:Int) b (Ad (p13+(1:Int))) (Go.Ct.L6 Wz R C b d p s).1 (Go.Ct.L6 Wz R C b d p s).2.1:=by
 intro d
 induction d with
 | zero =>
   intro p F s hp hF hs;obtain⟨F,rfl⟩:∃G,F=G+1:=⟨F-1,by omega⟩
   rw[Cn.rounds.B6,As,Beu (by omega),Bet];rfl
 | succ d ih =>
   intro p F s hp hF hs;obtain⟨F,rfl⟩:∃G,F=G+1:=⟨F-1,by omega⟩
   have h2:=Ave r6 c6 hb N (M0:=M0) (M1:=F) (p:=p) (p13:=p13) (C-(p+1)) (p+1) N s (by omega) (by omega) (by omega) hs;rw[Cn.rounds.B6,As,Beq (by omega),Bep,An (by omega) (by omega)];refine h2.trans ?_;exact ih (p+1) F (O3 Wz R C b p (C-(p+1)) (p+1) s) (by omega) (by omega) (Jk.O3 _ _ hs)
theorem Avg(hN:6<N):∀(m F:Nat) (w v:List Int),m<=60->m<F->Jk R C (w,v,true) ->
 Cn.rounds.L0 N F (R:Int) (C:Int) (C:Int) (C:Int) b ((60-m:Nat):Int) w v =
  some (.tup [.agg [.int .i64 (R:Int),.int .i64 (C:Int),.ints .arg .u64 (Go.Ct.Ec R C b m w v).1],.agg [.int .i64 (C:Int),.int .i64 (C:Int),.ints .arg .u64 (Go.Ct.Ec R C b m w v).2.1],.int .i64 (Go.Ct.Ec R C b m w v).2.2]):=by
 intro m
 induction m with
 | zero =>
   intro F w v hm hF hs;obtain⟨F,rfl⟩:∃G,F=G+1:=⟨F-1,by omega⟩
   rw[Cn.rounds.Ar,As,Beu (by omega),Bet];rfl
 | succ m ih =>
   intro F w v hm hF hs;obtain⟨F,rfl⟩:∃G,F=G+1:=⟨F-1,by omega⟩
   have h1:=Avf r6 c6 hb N (M0:=F) (p13:=((60-(m+1):Nat):Int)) hN C 0 N (w,v,true) (by omega) (by omega) hs;rw[Cn.rounds.Ar,As,Beq (by omega),Bep];refine h1.trans ?_;have g:Jk R C (Jb R C b w v):=Jk.L6 C 0 hs;show(cond ((Jb R C b w v).2.2) _ _)=_;unfold Go.Ct.Ec;cases he:(Jb R C b w v).2.2 with
   | true=>rw[Bep,Bfc rfl]; rfl
   | false =>rw[Bet,Bfb (by decide),An (by omega) (by omega),show(((60-(m+1):Nat):Int)+1)=((60-m:Nat):Int) by omega];exact ih F (Jb R C b w v).1 (Jb R C b w v).2.1 (by omega) (by omega) ⟨g.1,g.2⟩
end
theorem Cn.rounds.Ae:Kq 127 Cn.rounds.spec:=Eb Cn.rounds.E Tryz.func127 (kc Eu.Mp.Ae (kc soft.Eg.Ae (kc Cn.Db.Ae .nil))) fun r c l p q m b hp=>by
 obtain⟨h1,hp⟩:=Ac.1 (show((Az r c l&&Az p q m)&&((Ah l&&Ah m)&&(Af b&&Bq (p=c/\q=c))))=true from hp);obtain⟨hr,hv⟩:=Ac.1 h1;obtain⟨h2,hp⟩:=Ac.1 hp;obtain⟨al,am⟩:=Ac.1 h2;obtain⟨hb,hp⟩:=Ac.1 hp;obtain⟨rfl,rfl⟩:=Ak.1 hp;obtain⟨R,C,rfl,rfl,r6,c6,hl⟩:=Cp hr
 have hm:m.length=C*C:=by obtain⟨_,_,hm⟩:=Hj.1 hv;rw[<- Bfa] at hm; omega
 refine⟨62,_,[],(Cn.rounds.ev ..).trans (Avg r6 c6 hb 62 (by decide) 60 62 l m (by decide) (by decide) ⟨⟨hl,al⟩,hm,am⟩),?_⟩;exact Wk.Ik (.cons (Wk.H3 (.cons .int (.cons .int (.cons .Aai .nil)))) (.cons (Wk.H3 (.cons .int (.cons .int (.cons .Aai .nil)))) (.cons .int .nil)))
theorem Al9(N:Nat){r c:Int}{x:List Int}{e:Int}(hx:By x=true)(hl:x.length<=1000)(he:-2300<=e/\e<=2300):∀(k i F:Nat),i+k=x.length->k<F ->
 Cn.Bx.L0 N F r c x e (i:Int) ((x.take i).map fun b=>A7 b e)=some (.agg [.int .i64 r,.int .i64 c,.ints (.own 106002 tB) .u64 (A4 x e)]):=by
 obtain⟨_,hu⟩:=Jr hx;intro k
 induction k with
 | zero =>
   intro i F hi hF;obtain⟨F,rfl⟩:∃G,F=G+1:=⟨F-1,by omega⟩
   rw[Cn.Bx.Ar,As,Beu (by omega),Bet,yO (by omega)]; rfl
 | succ k ih =>
   intro i F hi hF;obtain⟨F,rfl⟩:∃G,F=G+1:=⟨F-1,by omega⟩
   rw[Cn.Bx.Ar,As,Beq (show(i:Int)<(x.length:Int) by omega),Bep,Beq (show(0:Int)<=(i:Int) by omega),Bev,Bep,Ber,
    show Dk (getD x i 0) e=true from Ac.2 ⟨hu i (by omega),Ak.2 he⟩,Bep,Beq (by rw[Bfv,zI]; unfold G2; omega),Bep,An (by omega) (by omega)]
   have:=ih (i+1) F (by omega) (by omega);rw[Xx (by omega)] at this;exact this
theorem Cn.Bx.Ae:Kq 125 Cn.Bx.spec:=Eb Cn.Bx.E Tryz.func125 (kc Ai.Cc.Ae .nil) fun r c x k hp=>by obtain⟨h1,h2⟩:=Ac.1 (show(By x&&Bq (length x<=1000/\-2300<=k/\k<=2300))=true from hp);have h2:=Ak.1 h2;refine⟨x.length+1,.agg [.int .i64 r,.int .i64 c,.ints (.own 106002 tB) .u64 (A4 x k)],[106002],?_,Wk.H3 (.cons .int (.cons .int (.cons (.dropA _ _ _ _ (zf.2 rfl)) .nil)))⟩;rw[Cn.Bx.ev];exact Al9 (x.length+1) h1 h2.1 h2.2 x.length 0 (x.length+1) (by omega) (by omega)
theorem Awt{R n i k:Nat}{f:Nat->Nat->Int}(hi:i<R)(hk:k<n):(B0 R n f).take (i*n+k+1)=(B0 R n f).take (i*n+k)++[f i k]:=by
 have h:i*n+k<(B0 R n f).length:=by rw[B5]; exact Hk hi hk
 rw[x6 h];have:=Afq (r:=R) (c:=n) (f:=f) hi hk;rw[Bez,Be6 h] at this;exact congrArg _ (congrArg (fun z=>[z]) this)
section
variable{R C:Nat}{l x:List Int}(r6:R<=6)(c6:C<=6)(hl:l.length=R*C)(hx:x.length=C)(hin:J1 C x=true)(N:Nat)
include r6 c6 hl hx hin
theorem Bby{M0 i:Nat}(hi:i<R):∀(d k F:Nat),k+d=C->d<F ->
 Cn.at.L1 N M0 F (R:Int) (C:Int) l x (i:Int) (i:Int) (k:Int) ((Cu R C l x).take (i*C+k))=Cn.at.L0 N M0 (R:Int) (C:Int) l x (((i+1:Nat):Int)) ((Cu R C l x).take ((i+1)*C)):=by
 intro d
 induction d with
 | zero =>
   intro k F hk hF;obtain⟨F,rfl⟩:∃G,F=G+1:=⟨F-1,by omega⟩
   obtain rfl:k=C:=by omega
   rw[Cn.at.B6,As,Beu (by omega),Bet,An (by omega) (by omega),Bft,Nat.one_mul];rfl
 | succ d ih =>
   intro k F hk hF;obtain⟨F,rfl⟩:∃G,F=G+1:=⟨F-1,by omega⟩
   have p:=S2 hin (j:=k) (by omega);obtain⟨j,hj⟩:∃j:Nat,x.getD k 0=j:=⟨(x.getD k 0).toNat,by omega⟩
   have hjC:j<C:=by omega
   obtain⟨e1,b1⟩:=X4 r6 c6 hi hjC
   have hle:(List.take (i*C+k) (Cu R C l x)).length+1<=G2:=by rw[zI];have:=Hk hi (show k<C by omega);have:R*C<=36:=Bfl r6 c6;unfold G2; omega
   have g:getD l (i*C+j) 0=C1 (C:Int) l (i:Int) (x.getD k 0):=by rw[hj]; unfold C1; rw[Oz]
   rw[Cn.at.B6,As,Beq (by omega),Bep,Beq (show(0:Int)<=(k:Int) by omega),Bev,Bep,show toNat ((k:Nat):Int)=k from Ber k,hj,e1,
    Beq (show(0:Int)<=((i*C+j:Nat):Int) by omega),Beq (show((i*C+j:Nat):Int)<((l.length:Nat):Int) by rw[hl]; omega),Bev,Bep,Beq hle,Bep,Ber,g,An (by omega) (by omega)]
   have:=ih (k+1) F (by omega) (by omega);rw[<- Nat.add_assoc] at this;unfold Cu at this ⊢;rw[Awt hi (show k<C by omega)] at this;exact this
theorem Bbz(hN:6<N):∀(d i F:Nat),i+d=R->d<F ->
 Cn.at.L0 N F (R:Int) (C:Int) l x (i:Int) ((Cu R C l x).take (i*C))=some (.agg [.int .i64 (R:Int),.int .i64 (C:Int),.ints (.own 106002 tB) .u64 (Cu R C l x)]):=by
 intro d
 induction d with
 | zero =>
   intro i F hi hF;obtain⟨F,rfl⟩:∃G,F=G+1:=⟨F-1,by omega⟩
   obtain rfl:i=R:=by omega
   rw[Cn.at.Ar,As,Beu (by omega),Bet,yO (by rw[Hd]; omega)]
 | succ d ih =>
   intro i F hi hF;obtain⟨F,rfl⟩:∃G,F=G+1:=⟨F-1,by omega⟩
   rw[Cn.at.Ar,As,Beq (by omega),Bep];have:=Bby r6 c6 hl hx hin N (M0:=F) (i:=i) (by omega) C 0 N (by omega) (by omega);rw[Bfx] at this;exact this.trans (ih (i+1) F (by omega) (by omega))
end
theorem Cn.at.Ae:Kq 132 Cn.at.spec:=Eb Cn.at.E Tryz.func132 .nil fun r c l x hp=>by obtain⟨hr,hp⟩:=Ac.1 (show(Az r c l&&Bq (((length x:Nat):Int)=c/\J1 (toNat c) x=true))=true from hp);obtain⟨hx,hin⟩:=Ak.1 hp;obtain⟨R,C,rfl,rfl,r6,c6,hl⟩:=Cp hr;rw[Ber] at hin;refine⟨8,.agg [.int .i64 (R:Int),.int .i64 (C:Int),.ints (.own 106002 tB) .u64 (Cu R C l x)],[106002],?_,Uu (zf.2 rfl)⟩;rw[Cn.at.ev];have:=Bbz r6 c6 hl (by omega) hin 8 (by decide) R 0 8 (by omega) (by omega);rw[Nat.zero_mul,List.take_zero] at this;exact this
theorem Aqs{R C:Nat}{l:List Int}(r6:R<=6)(c6:C<=6)(hr:Az (R:Int) (C:Int) l=true)(al:Ah l=true)(N:Nat):∀(d k F:Nat),k+d=C->d<F ->
 Cn.Jo.L0 N F (R:Int) (C:Int) l (k:Int) ((List.range k).map fun c=>Bk (Dz R C l c))=some (.ints (.own 100003 tB) .u64 (Ch R C l)):=by
 intro d
 induction d with
 | zero =>
   intro k F hk hF;obtain⟨F,rfl⟩:∃G,F=G+1:=⟨F-1,by omega⟩
   obtain rfl:k=C:=by omega
   rw[Cn.Jo.Ar,As,Beu (by omega),Bet];rfl
 | succ d ih =>
   intro k F hk hF;obtain⟨F,rfl⟩:∃G,F=G+1:=⟨F-1,by omega⟩
   have cp:(Gu (R:Int) (C:Int) l (k:Int)&&Bq (0<=(0:Int)/\(0:Int)<=(R:Int)))=true:=Ac.2 ⟨Ac.2 ⟨hr,Ak.2 (by omega)⟩,Ak.2 (by omega)⟩;have ln:(B3 (C:Int) l (k:Int) 0 R).length<=6:=by rw[E1]; exact r6
   rw[Cn.Jo.Ar,As,Beq (by omega),Bep,cp,Bep,show toNat ((R:Int)-(0:Int))=R by omega,Aqq (Pj al) ln,Bep,Beq (by rw[Bfv,Bfs]; unfold G2; omega),Bep,An (by omega) (by omega)];have:=ih (k+1) F (by omega) (by omega);rw[y7,yq] at this;exact this
theorem Cn.Jo.Ae:Kq 128 Cn.Jo.spec:=Eb Cn.Jo.E Tryz.func128 (kc Aa.Fi.Ae (kc Ai.Norm.Ae .nil)) fun r c l hp=>by obtain⟨hr,al⟩:=Ac.1 (show(Az r c l&&Ah l)=true from hp);obtain⟨R,C,rfl,rfl,r6,c6,hl⟩:=Cp hr;exact⟨8,.ints (.own 100003 tB) .u64 (Ch R C l),[100003],(Cn.Jo.ev ..).trans (Aqs r6 c6 hr al 8 C 0 8 (by omega) (by omega)),.drop _ _ _ _ (zf.2 rfl)⟩
theorem Ao9{drops:List Nat}{e:Int}:Wk drops (.tup [.agg [.int .i64 (0:Int),.int .i64 (0:Int),.nil],.agg [.int .i64 (0:Int),.int .i64 (0:Int),.nil],.nil,.int .i64 e])
 (.tup [.agg [.int .i64 (0:Int),.int .i64 (0:Int),.ints .arg .u64 []],.agg [.int .i64 (0:Int),.int .i64 (0:Int),.ints .fresh .u64 []],.ints .fresh .u64 [],.int .i64 e]) :=
 Wk.Ik (.cons (Wk.H3 (.cons .int (.cons .int (.cons (.nil _ _) .nil)))) (.cons (Wk.H3 (.cons .int (.cons .int (.cons (.nil _ _) .nil)))) (.cons (.nil _ _) (.cons .int .nil))))
theorem Apd{r c:Int}{l:List Int}{e:Int}(h:Jy r c l=e)(he:e≠0):Cn.A2.out [.i r,.i c,.l l] =
 .tup [.agg [.int .i64 (0:Int),.int .i64 (0:Int),.ints .arg .u64 []],.agg [.int .i64 (0:Int),.int .i64 (0:Int),.ints .fresh .u64 []],.ints .fresh .u64 [],.int .i64 e]:=by
 show DV.tup [.agg [.int .i64 (Iw r c l).1,.int .i64 (Iw r c l).2.1,.ints .arg .u64 (Iw r c l).2.2.1],.agg [.int .i64 (I8 r c l).1,.int .i64 (I8 r c l).2.1,.ints .fresh .u64 (I8 r c l).2.2.1],.ints .fresh .u64 (M9 r c l),.int .i64 (Jy r c l)]=_;unfold Iw I8 M9;rw[h,Bfc he,Bfc he,Bfc he];rfl
theorem A22{R C:Nat}{l:List Int}(h:Jy (R:Int) (C:Int) l=0):Cn.A2.out [.i (R:Int),.i (C:Int),.l l] =
 .tup [.agg [.int .i64 (R:Int),.int .i64 (C:Int),.ints .arg .u64 (Gv R C l)],.agg [.int .i64 (C:Int),.int .i64 (C:Int),.ints .fresh .u64 (Gw R C l)],.ints .fresh .u64 (Ch R C (Gv R C l)),.int .i64 0]:=by
 show DV.tup [.agg [.int .i64 (Iw (R:Int) (C:Int) l).1,.int .i64 (Iw (R:Int) (C:Int) l).2.1,.ints .arg .u64 (Iw (R:Int) (C:Int) l).2.2.1],.agg [.int .i64 (I8 (R:Int) (C:Int) l).1,.int .i64 (I8 (R:Int) (C:Int) l).2.1,.ints .fresh .u64 (I8 (R:Int) (C:Int) l).2.2.1],.ints .fresh .u64 (M9 (R:Int) (C:Int) l),.int .i64 (Jy (R:Int) (C:Int) l)]=_;unfold Iw I8 M9;rw[h,Bfb (by decide),Bfb (by decide),Bfb (by decide)];rfl
section
variable{R C:Nat}{l:List Int}(r6:R<=6)(c6:C<=6)(hl:l.length=R*C)(al:Ah l=true)(N:Nat)
include r6 c6 hl al
omit r6 c6 in
theorem V6:Jk R C (A4 l (-(Dp l)),Iz C,true):=⟨⟨by rw[Mh]; exact hl,Aa1 al⟩,(show(Iz C).length=C*C from B5 _ _ _),(show Ah (Iz C)=true from I3 fun i k=>Atw _ _)⟩
theorem A25(hc:Ci (R:Int) (C:Int) l=0)(he:(Dj R C l).2.2=0) :
 Cn.A2.C20 N (R:Int) (C:Int) (Dp l) (C:Int) (C:Int) (Dj R C l).2.1 (Dj R C l).1 (Na C)=some (.tup [.agg [.int .i64 (R:Int),.int .i64 (C:Int),.ints .arg .u64 (Gv R C l)],.agg [.int .i64 (C:Int),.int .i64 (C:Int),.ints .fresh .u64 (Gw R C l)],.ints .fresh .u64 (Ch R C (Gv R C l)),.int .i64 0])/\Jy (R:Int) (C:Int) l=0 \/
 Cn.A2.C20 N (R:Int) (C:Int) (Dp l) (C:Int) (C:Int) (Dj R C l).2.1 (Dj R C l).1 (Na C)=some (.tup [.agg [.int .i64 (0:Int),.int .i64 (0:Int),.nil],.agg [.int .i64 (0:Int),.int .i64 (0:Int),.nil],.nil,.int .i64 2])/\Jy (R:Int) (C:Int) l=2:=by
 have hi:Jk R C ((Dj R C l).1,(Dj R C l).2.1,true):=Jk.Ec 60 (V6 hl al);have rc:R*C<=36:=Bfl r6 c6;have cc:C*C<=36:=Bfl c6 c6;have hW:Ah (Gv R C l)=true:=Aa1 (Oi hi.1.2);have hV:Ah (Gw R C l)=true:=Oi hi.2.2;have lW:(Gv R C l).length=R*C:=by unfold Gv; rw[Mh,Hd]
 have lV:(Gw R C l).length=C*C:=Hd ..;have oW:By (Gv R C l)=true:=Gz hW (by omega);have oV:By (Gw R C l)=true:=Gz hV (by omega)
 have eE:Jy (R:Int) (C:Int) l=if (Ds (Gv R C l)&&Ds (Gw R C l))=true then 0 else 2:=by unfold Jy;rw[Bfb (by rw[hc]; decide),Ber,Ber,Bfb (by rw[he]; decide)]
 rw[Cn.A2.A87];simp only[Ber];show(_\/_);rw[show A4 (Cu R C (Dj R C l).1 (Fv (Ch R C (Dj R C l).1) (Na C))) (Dp l)=Gv R C l from rfl,show Cu C C (Dj R C l).2.1 (Fv (Ch R C (Dj R C l).1) (Na C))=Gw R C l from rfl,oW,oV,Bf1,Bep,Bep,Ep r6 c6 lW,hW,Bev,Bep,eE];cases Ds (Gv R C l) with
 | true =>
   cases Ds (Gw R C l) with
   | true=>exact .inl ⟨rfl,rfl⟩
   | false=>exact .inr ⟨rfl,rfl⟩
 | false=>exact .inr ⟨rfl,rfl⟩
omit r6 al in
theorem Apc(p6 p3 p3_1:Int)(v w:List Int):∀(d k F:Nat),k+d=C->d<F ->
 Cn.A2.L0 N F (R:Int) (C:Int) p6 p3 p3_1 v w (k:Int) (Na k)=Cn.A2.C18 N (R:Int) (C:Int) p6 p3 p3_1 v w (Na C):=by
 intro d
 induction d with
 | zero =>
   intro k F hk hF;obtain⟨F,rfl⟩:∃G,F=G+1:=⟨F-1,by omega⟩
   obtain rfl:k=C:=by omega
   rw[Cn.A2.Ar,As,Beu (by omega),Bet]
 | succ d ih =>
   intro k F hk hF;obtain⟨F,rfl⟩:∃G,F=G+1:=⟨F-1,by omega⟩
   rw[Cn.A2.Ar,As,Beq (by omega),Bep,Beq (by rw[Q2]; unfold G2; omega),Bep,An (by omega) (by omega)];have:=ih (k+1) F (by omega) (by omega);unfold Na at this ⊢;rw[y7,yq] at this;exact this
theorem A26 :
 Cn.A2.C18 N (R:Int) (C:Int) (Dp l) (C:Int) (C:Int) (Dj R C l).2.1 (Dj R C l).1 (Na C)=Cn.A2.C20 N (R:Int) (C:Int) (Dp l) (C:Int) (C:Int) (Dj R C l).2.1 (Dj R C l).1 (Na C):=by
 have hi:Jk R C ((Dj R C l).1,(Dj R C l).2.1,true):=Jk.Ec 60 (V6 hl al);have rc:R*C<=36:=Bfl r6 c6;have ek:=Yh (Bi l)
 have n1:(By (Ch R C (Dj R C l).1)&&Bq (J1 (length (Ch R C (Dj R C l).1)) (Na C)=true/\length (Na C)<=6))=true :=Ac.2 ⟨Gz (Ah8 ..) (by rw[Tt]; omega),Ak.2 ⟨by rw[Tt]; exact Zd C,by rw[Q2]; exact c6⟩⟩
 have ps:Bq (((length (Fv (Ch R C (Dj R C l).1) (Na C)):Nat):Int)=(C:Int)/\J1 C (Fv (Ch R C (Dj R C l).1) (Na C))=true)=true :=Ak.2 ⟨by rw[Aaz,Q2],Amd (Zd C)⟩
 have og:(By (Cu R C (Dj R C l).1 (Fv (Ch R C (Dj R C l).1) (Na C)))&&Bq (length (Cu R C (Dj R C l).1 (Fv (Ch R C (Dj R C l).1) (Na C)))<=1000/\-2300<=Dp l/\Dp l<=2300))=true :=Ac.2 ⟨Gz (Oi hi.1.2) (by rw[Hd]; omega),Ak.2 ⟨by rw[Hd]; omega,by unfold Dp; omega,by unfold Dp; omega⟩⟩
 rw[Cn.A2.Asb];simp only[Ber];rw[n1,Bep,Ep r6 c6 hi.1.1,ps,Bev,Bep,og,Bep,Ep c6 c6 hi.2.1,Bev,Bep]
end
theorem Cn.A2.Ae:Cn.A2.Kn:=Cn.A2.Ei (kc D2.Check.Ae (kc compare.Tc.Ae (kc Aa.Hv.Ae (kc Cn.at.Ae (kc Cn.Jo.Ae (kc Cn.rounds.Ae (kc Cn.Bx.Ae (kc Ai.Ck.Ae (kc Ai.Finite.Ae (kc Ai.Norm.Ae (kc Ai.Cc.Ae .nil))))))))))) Bj.A8.Ae fun r c l hp=>by
 have al:Ah l=true:=hp;by_cases hc:Ci r c l=0
 ·have hr:Az r c l=true:=by
   unfold Ci at hc;by_cases h:Az r c l=true
   ·exact h
   ·rw[Bfb h] at hc; cases hc
  obtain⟨R,C,rfl,rfl,r6,c6,hl⟩:=Cp hr;have rc:R*C<=36:=Bfl r6 c6;have ek:=Yh (Bi l);have hS:=V6 hl al
  have ks:Ad ((0:Int)-Bs (Bi l))=-(Dp l):=by rw[An (by omega) (by omega)]; unfold Dp; omega
  have o1:By l=true:=Gz al (by omega);have c1:Bq (length l<=1000/\-2300<=-(Dp l)/\-(Dp l)<=2300)=true:=Ak.2 ⟨by omega,by unfold Dp; omega,by unfold Dp; omega⟩;have o2:(By (A4 l (-(Dp l)))&&Bq (length (A4 l (-(Dp l)))<=64))=true:=Ac.2 ⟨Gz hS.1.2 (by rw[Mh]; omega),Ak.2 (by rw[Mh]; omega)⟩;have sp:Dk (Bk (A4 l (-(Dp l)))) (-44:Int)=true:=Ac.2 ⟨Le _,Ak.2 (by decide)⟩
  have big:Cn.A2.C5 8 (R:Int) (C:Int) l (Dp l)=(bif ((Dj R C l).2.2 !=(0:Int)) then some (.tup [.agg [.int .i64 (0:Int),.int .i64 (0:Int),.nil],.agg [.int .i64 (0:Int),.int .i64 (0:Int),.nil],.nil,.int .i64 ((Dj R C l).2.2)])
   else Cn.A2.C11 8 (R:Int) (C:Int) l (Dp l) (C:Int) (C:Int) (Dj R C l).2.1 (Dj R C l).1):=by
   have rr:=Ep r6 c6 hS.1.1;have re:=Ep c6 c6 hS.2.1;rw[Cn.A2.Ao1];rw[show Ad ((0:Int)-Dp l)=-(Dp l) from ks,o1,c1,Bev,Bep,o2,Bep,Akw c6,Cn.A2.Ai9,sp,Bep];simp only[Ber];rw[rr,re,hS.1.2,hS.2.2,Hs (Le _),Ak.2 (show True/\True from⟨trivial,trivial⟩),Bev,Bev,Bev,Bep];rfl
  have pre:Bv Cn.A2.E 8 Tryz.f64 (Aj Tryz.f64) [.agg [.int .i64 (R:Int),.int .i64 (C:Int),.ints .arg .u64 l]]=Cn.A2.C5 8 (R:Int) (C:Int) l (Dp l):=by rw[Cn.A2.ev,al,Bep,hc,show((0:Int) !=0)=false from rfl,Bet,o1,Bep,Sd,Bep];rfl
  rcases Aa4 (R:=R) (n:=C) (low:=A7 (Bk (A4 l (-(Dp l)))) (-44)) 60 (A4 l (-(Dp l))) (Iz C) with he | he
  ·have he:(Dj R C l).2.2=0:=he;have hi:Jk R C ((Dj R C l).1,(Dj R C l).2.1,true):=Jk.Ec 60 hS;have c20:=A25 r6 c6 hl al 8 hc he
   have chain:Bv Cn.A2.E 8 Tryz.f64 (Aj Tryz.f64) [.agg [.int .i64 (R:Int),.int .i64 (C:Int),.ints .arg .u64 l]]=Cn.A2.C20 8 (R:Int) (C:Int) (Dp l) (C:Int) (C:Int) (Dj R C l).2.1 (Dj R C l).1 (Na C):=by rw[pre,big,he,show((0:Int) !=0)=false from rfl,Bet,Cn.A2.Ags,Ep r6 c6 hi.1.1,hi.1.2,Bev,Bep];exact(Apc c6 hl 8 (Dp l) (C:Int) (C:Int) (Dj R C l).2.1 (Dj R C l).1 C 0 8 (by omega) (by omega)).trans (A26 r6 c6 hl al 8)
   rcases c20 with ⟨h1,h2⟩ | ⟨h1,h2⟩
   ·exact⟨8,_,[],chain.trans h1,by show Wk _ _ (Cn.A2.out [.i (R:Int),.i (C:Int),.l l]); rw[A22 h2]; exact Wk.Ik (.cons (Wk.H3 (.cons .int (.cons .int (.cons .Aai .nil)))) (.cons Yt (.cons .Rd (.cons .int .nil))))⟩
   ·exact⟨8,_,[],chain.trans h1,by show Wk _ _ (Cn.A2.out [.i (R:Int),.i (C:Int),.l l]); rw[Apd h2 (by decide)]; exact Ao9⟩
  ·have he:(Dj R C l).2.2=6:=he
   have hE:Jy (R:Int) (C:Int) l=6:=by unfold Jy;rw[Bfb (by rw[hc]; decide),Ber,Ber,Bfc (by rw[he]; decide)]
   refine⟨8,_,[],(pre.trans big).trans ?_,by show Wk _ _ (Cn.A2.out [.i (R:Int),.i (C:Int),.l l]); rw[Apd hE (by decide)]; exact Ao9⟩;rw[he]; rfl
 ·have hE:Jy r c l=Ci r c l:=by unfold Jy; rw[Bfc hc]
  refine⟨8,_,[],?_,by show Wk _ _ (Cn.A2.out [.i r,.i c,.l l]); rw[Apd hE hc]; exact Ao9⟩;rw[Cn.A2.ev,al,Bep,show((Ci r c l) !=(0:Int))=true from by simpa using hc,Bep]
def A0.Br.own.E:=E0 []
theorem A0.Br.own.ev(N:Nat)(a b:Int):Bv A0.Br.own.E N f53 (Aj f53) [.int .i64 a,.int .i64 b]=cond (((decide ((0:Int)<=(Ad (a*b))))&&(decide ((Ad (a*b))<=(Ad (a*b)))))&&(decide ((Ad (a*b))<=G2))) (some (.agg [.int .i64 a,.int .i64 b,.ints (.own 10 43) .u64 (zp (toNat (Ad (a*b))) 0)])) none:=by kernel_rfl
def A0.Stack.E:=E0 []
theorem A0.Stack.ev(N:Nat)(r c:Int)(l:List Int)(p q:Int)(m:List Int):Bv A0.Stack.E N f71 (Aj f71) [.agg [.int .i64 r,.int .i64 c,.ints .arg .u64 l],.agg [.int .i64 p,.int .i64 q,.ints .arg .u64 m]]=cond (decide (0+(length l)<=G2)) (bif (decide ((length ([]++l))+(length m)<=G2)) then some (.agg [.int .i64 (Ad (r+p)),.int .i64 c,.ints (.own 20 43) .u64 (([]++l)++m)]) else none) none :=Et (Es (Co (Cb _) rfl rfl) rfl)
theorem A0.Br.own.Ae:Kq 53 A0.Br.own.spec:=Eb A0.Br.own.E Tryz.func53 .nil fun a b hp=>by
 obtain⟨ha,hb⟩:=Ac.1 (show(Bp a&&Bp b)=true from hp);obtain⟨A,rfl,hA⟩:=F5 ha;obtain⟨B,rfl,hB⟩:=F5 hb;have hm:=K3 (a:=(A:Int)) (b:=(B:Int)) (by omega) (by omega) (by omega) (by omega);have e:((A:Int)*(B:Int)).toNat=A*B:=by rw[<- Bfa,Ber]
 refine⟨0,.agg [.int .i64 (A:Int),.int .i64 (B:Int),.ints (.own 10 tB) .u64 (B0 A B fun _ _=>0)],[],?_,Wk.H3 (.cons .int (.cons .int (.cons (.keep _ _ _ _ (List.not_mem_nil)) .nil)))⟩;rw[A0.Br.own.ev,An (by omega) (by omega),Beq hm.1,Beq (yU _),Beq (show(A:Int)*(B:Int)<=(G2:Int) by unfold G2; omega),e,Afr];rfl
theorem A0.Stack.Ae:Kq 71 A0.Stack.spec:=Eb A0.Stack.E Tryz.func71 .nil fun r c l p q m hp=>by obtain⟨h1,h2⟩:=Ac.1 (show((Az r c l&&Az p q m)&&decide (q=c))=true from hp);obtain⟨hr,hm⟩:=Ac.1 h1;obtain⟨R,C,rfl,rfl,r6,c6,hl⟩:=Cp hr;obtain⟨P,Q,rfl,rfl,p6,q6,hl2⟩:=Cp hm;have h36:=Bfl r6 c6;have h36':=Bfl p6 q6;refine⟨0,.agg [.int .i64 ((R:Int)+(P:Int)),.int .i64 (C:Int),.ints (.own 20 tB) .u64 (l++m)],[20],?_,Uu (zf.2 rfl)⟩;rw[A0.Stack.ev,zV,Beq (show 0+l.length<=G2 by unfold G2; omega),Bep,Beq (show l.length+m.length<=G2 by unfold G2; omega),Bep,An (by omega) (by omega)]
theorem Apt{R P C:Nat}{l m:List Int}(hl:l.length=R*C)(hm:m.length=P*C) :
 (B0 (R+P) C fun(i k:Nat)=>Kj (R:Int) (C:Int) l (C:Int) m (i:Int) (k:Int))=l++m:=by
 have h:(l++m).length=(R+P)*C:=by rw[Bfh,hl,hm,Bft]
 conv=>rhs; rw[<- Wv h]
 refine Ef fun i k hi hk=>?_
 unfold Kj;by_cases hlt:(i:Int)<(R:Int)
 ·have:=Hk (r:=R) (c:=C) (i:=i) (k:=k) (by omega) hk;rw[Bfc hlt,T6,T6,Bez,Bez,List.getElem?_append_left (by omega)]
 ·have es:(i:Int)-(R:Int)=((i-R:Nat):Int):=by omega
  have e2:i*C=R*C+(i-R)*C:=by rw[<- Bft]; congr 1; omega
  rw[Bfb hlt,es,T6,T6,Bez,Bez,Bf3 (by omega),hl,e2];congr 2; omega
end Go.Proofs.S1
end
