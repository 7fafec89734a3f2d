/- A verified evaluator of the program's form and its use for this seat: S1PQrA, S1EqRef17, S1PRef17, S1EqRef14, S1PRef13, S1PRef14, S1EqLow, S1PLow, S1EqLse, S1PLse, S1POfS, S1EqRef20, S1PSubSt, S1PLseA, S1PRefL, S1PRef20, S1PMx, S1EqGg, S1PGg, S1EqRidge, S1PRidge, S1EqRef22, S1PRef22, S1EqLaw17, S1PLaw17, S1EqLaw22. -/
import Derived.Test.YtjbokjpbiobjpaaGreatTK
import Derived.Test.YtjbokjpbiobjpaaGreatTF
import Derived.Test.YtjbokjpbiobjpaaGreatTI
import Derived.Test.YtjbokjpbiobjpaaGreatTJ
set_option linter.unusedVariables false
set_option linter.unusedSimpArgs false
noncomputable section
open Int (toNat)
open List (length getD)
open Go.Proofs.Tryz
namespace Go.Proofs.S1
open Go Go.Den Go.Rnd Go.Proofs
open EqQr
def Ab4 (e:Int):DV:=.tup [.agg [.int .i64 0,.int .i64 0,.nil],.agg [.int .i64 0,.int .i64 0,.nil],.int .i64 e]
theorem Wi {r:Nat}:∀ {j:Nat} {ms:List (List Int × Int)},Ab7 r j ms→∀ i:Nat,i<ms.length→Ai (ms.getD i ([],0)).1=true∧Af (ms.getD i ([],0)).2=true∧(ms.getD i ([],0)).1.length+(j+i)=r
 | _,[],_,i,h=>absurd h (Nat.not_lt_zero _)
 | j,m::ms,hm,0,_=>hm.1
 | j,m::ms,hm,i+1,h=>by
   have:=Wi hm.2 i (by simpa using h)
   rw [show j+(i+1)=j+1+i by omega]
   exact this
theorem Aql {ms:List (List Int × Int)} {i:Nat} (h:i<ms.length):getD (Zu ms) i []=[.ints .arg .u64 (ms.getD i ([],0)).1,.int .u64 (ms.getD i ([],0)).2]:=by
 unfold Zu
 rw [A1r,A2y,A1y h,A1r,A1y h]; rfl
theorem Agg (ms:List (List Int × Int)):(Zu ms).length=ms.length:=by unfold Zu; rw [A2n]
theorem Acz {n i:Nat} {ms:List (List Int × Int)} (h:i<ms.length) (q:List Int):Gs n i (ms.drop i) q=E2 n n (Gs n (i+1) (ms.drop (i+1)) q) (i:Int) 0 (ms.getD i ([],0)).1 (ms.getD i ([],0)).2:=by
 rw [List.drop_eq_getElem_cons h,Gs,A1r,A1y h]; rfl
theorem Ajo {R:Nat} (h:R≤6):Nt (R:Int)=((R:Int),(R:Int),Jd R,0):=by
 unfold Nt Jd
 rw [A14 (Mn h),A1j]
theorem Ao9 {n:Nat} (h:n≤6):n*n≤36:=A2d h h
theorem Aha (N:Nat) {R C:Nat} {l:List Int} (r6:R≤6) {x:List Int × List (List Int × Int)} (hx:Jg R C l=some x) (hm:Ab7 R 0 x.2) (hxr:Ai x.1=true) (hxl:x.1.length≤36):∀ (j F:Nat),j≤x.2.length→j<F →
 qr.By.L0 N F (R:Int) (C:Int) l ((j:Int)-1) (Gs R j (x.2.drop j) (Jd R)) =
 bif Kk R C l then some (.tup [.agg [.int .i64 (R:Int),.int .i64 (R:Int),.ints .fresh .u64 (K9 R C l)],.agg [.int .i64 (R:Int),.int .i64 (C:Int),.ints .arg .u64 (Jo R C l)],.int .i64 0])
 else some (Ab4 2):=by
 have hq:K9 R C l=Gs R 0 x.2 (Jd R):=by unfold K9; rw [hx]
 have hr:Jo R C l=x.1:=by unfold Jo; rw [hx]
 have hd:Gj (R:Int) (C:Int) ([]++l)=((R:Int),(C:Int),x.1,0):=by
  unfold Gj
  rw [List.nil_append,A1j,A1j,hx,hr]; rfl
 have hmd:K6 (R:Int) (C:Int) ([]++l)=Zu x.2:=by
  unfold K6
  rw [List.nil_append,A1j,A1j,hx]
 have h36:=Ao9 r6
 intro j
 induction j with
 | zero =>
   intro F _ hF
   obtain ⟨F,rfl⟩:∃ G,F=G+1:=⟨F-1,by omega⟩
   have hb:=Sp R x.2 0 (Jd R) (Sm R) (by unfold Jd; exact Cc _ _ _)
   have ok1:Cp (Gs R 0 x.2 (Jd R))=true:=Jj hb.1 (by omega)
   have ok2:Cp x.1=true:=Jj hxr (by omega)
   have hfo:Kk R C l=(C2 (Gs R 0 x.2 (Jd R))&&C2 x.1):=by unfold Kk; rw [hx,hq,hr]; rfl
   rw [qr.By.Av,Au,A1i (by omega),A1h,List.drop_zero,ok1,A1h,hd,Ajo r6,ok2,A2t,A1h,hfo,hq,hr]
   cases C2 (Gs R 0 x.2 (Jd R)) with
   | false=>rfl
   | true=>cases C2 x.1<;>rfl
 | succ j ih =>
   intro F hj hF
   obtain ⟨F,rfl⟩:∃ G,F=G+1:=⟨F-1,by omega⟩
   have ej:(((j+1:Nat):Int))-1=(j:Int):=by omega
   have hg:=Wi hm j (by omega)
   have hb:=Sp R (x.2.drop (j+1)) (j+1) (Jd R) (Sm R) (by unfold Jd; exact Cc _ _ _)
   have hr1:=Ft r6 r6 hb.2
   have hap:H5 (R:Int) (R:Int) (j:Int) 0 (x.2.getD j ([],0)).1=true:=A1i (by omega)
   have hmg:=Aql (ms:=x.2) (i:=j) (by omega)
   rw [qr.By.Av,ej,Au,A1m (show ¬ (j:Int)<0 by omega),A1l,hmd,Agg,A1i (show (0:Int)≤(j:Int) by omega),A1i (show (j:Int)<(x.2.length:Int) by omega),A1n,A1h,A1j,hmg,Ajo r6]
   show (bif true then bif true then bif true then (bif (((A2 (R:Int) (R:Int) (Gs R (j+1) (x.2.drop (j+1)) (Jd R))&&H5 (R:Int) (R:Int) (j:Int) (0:Int) (x.2.getD j ([],0)).1)&&(Ai (Gs R (j+1) (x.2.drop (j+1)) (Jd R))&&Ai (x.2.getD j ([],0)).1))&&Af (x.2.getD j ([],0)).2) then
    qr.By.L0 N F (R:Int) (C:Int) l (Ab ((j:Int)-(1:Int))) (E2 (toNat (R:Int)) (toNat (R:Int)) (Gs R (j+1) (x.2.drop (j+1)) (Jd R)) (j:Int) (0:Int) (x.2.getD j ([],0)).1 (x.2.getD j ([],0)).2) else none) else none else none else none)=_
   rw [A1h,A1h,A1h,hr1,hap,hb.1,hg.1,hg.2.1,A1n,A1n,A1n,A1h,A1j,Am (by omega) (by omega),← Acz (by omega)]
   exact ih F (by omega) (by omega)
theorem Ahf {R C:Nat} {l:List Int} (hl:l.length=R*C) (al:Ai l=true) {x:List Int × List (List Int × Int)} (hx:Jg R C l=some x):Ai x.1=true∧x.1.length=R*C∧x.2.length=Ih R C∧Ab7 R 0 x.2 :=
 Aaq R C (Ih R C) 0 l x al hl (by unfold Ih; omega) hx
theorem Sl {r c:Int} {l:List Int} (h:B9 r c l=0):E0 r c l=if Kk r.toNat c.toNat l=true then 0 else 2:=by
 unfold E0; rw [A13 (by rw [h]; decide)]
theorem Ahb {r c:Int} {l:List Int} (h:B9 r c l≠0):E0 r c l=B9 r c l:=by unfold E0; rw [A14 h]
theorem Zf {r c:Int} {l:List Int} {e:Int} (h:E0 r c l=e) (he:e≠0):qX r c l=Ls e∧rX r c l=Ls e:=by unfold qX rX; rw [h,A14 he,A14 he]; exact ⟨rfl,rfl⟩
theorem X6 {r c:Int} {l:List Int} (h:E0 r c l=0):qX r c l=(r,r,K9 r.toNat c.toNat l,0)∧rX r c l=(r,c,Jo r.toNat c.toNat l,0):=by unfold qX rX; rw [h]; exact ⟨rfl,rfl⟩
theorem Ac6 {drops:List Nat} {e:Int} {g h:Ah2}:Wk drops (Ab4 e) (DV.tup [.agg [.int .i64 (Ls e).1,.int .i64 (Ls e).2.1,.ints g .u64 (Ls e).2.2.1],.agg [.int .i64 (Ls e).1,.int .i64 (Ls e).2.1,.ints h .u64 (Ls e).2.2.1],.int .i64 e]) :=
 Wk.Ha (.cons (Wk.Hk (.cons .int (.cons .int (.cons Ml .nil)))) (.cons (Wk.Hk (.cons .int (.cons .int (.cons Ml .nil)))) (.cons .int .nil)))
theorem qr.By.known:qr.By.Kn:=qr.By.Ac (.cons Cs.Check.known (.cons Ao.Apply.known (.cons Aa.Ep.known (.cons qr.down.known (.cons Ad.Finite.known .nil))))) fun r c l hp=>by
 have al:Ai l=true:=hp
 show ∃ N dv drops,_=some dv∧Wk drops dv (DV.tup [.agg [.int .i64 (qX r c l).1,.int .i64 (qX r c l).2.1,.ints .arg .u64 (qX r c l).2.2.1],.agg [.int .i64 (rX r c l).1,.int .i64 (rX r c l).2.1,.ints .arg .u64 (rX r c l).2.2.1],.int .i64 (E0 r c l)])
 by_cases h1:B9 r c l=0
 ·obtain ⟨hr,hf⟩:=Ej h1
  have h36:=Na hr
  obtain ⟨R,C,rfl,rfl,r6,c6,hl⟩:=Ci hr
  have d0:decide (0+l.length≤G0)=true:=A1i (by unfold G0; omega)
  cases hx:Jg R C l with
  | none =>
    have hfo:Kk R C l=false:=by unfold Kk; rw [hx]; rfl
    have he:E0 (R:Int) (C:Int) l=2:=by rw [Sl h1,A1j,A1j,hfo]; rfl
    obtain ⟨e1,e2⟩:=Zf he (by decide)
    have hd:Gj (R:Int) (C:Int) ([]++l)=Ls 2:=by
     unfold Gj
     rw [List.nil_append,A1j,A1j,hx]; rfl
    rw [e1,e2,he]
    exact ⟨0,Ab4 2,[],by rw [qr.By.ev,al,A1h,G9 h1,A1l,d0,A1h,hd,List.nil_append,hr,hf,al,A1n,A1n,A1h,show ((Ls 2).2.2.2 !=(0:Int))=true from rfl,A1h]; rfl,Ac6⟩
  | some x =>
    obtain ⟨x1,x2,x3,x4⟩:=Ahf hl al hx
    have hd:Gj (R:Int) (C:Int) ([]++l)=((R:Int),(C:Int),x.1,0):=by
     unfold Gj Jo
     rw [List.nil_append,A1j,A1j,hx]; rfl
    have hmd:K6 (R:Int) (C:Int) ([]++l)=Zu x.2:=by
     unfold K6
     rw [List.nil_append,A1j,A1j,hx]
    have hn:x.2.length≤6:=by rw [x3]; unfold Ih; omega
    have hloop:=Aha 8 r6 hx x4 x1 (by rw [x2]; exact A2d r6 c6) x.2.length 8 (A2b _) (by omega)
    rw [A1v (A2b _)] at hloop
    have hrun:=qr.By.ev 8 (R:Int) (C:Int) l
    rw [al,A1h,G9 h1,A1l,d0,A1h,hd,hmd,Agg,List.nil_append,hr,hf,al,A1n,A1n,A1h,show (((R:Int),(C:Int),x.1,(0:Int)).2.2.2 !=(0:Int))=false from rfl,A1l,Ajo r6,Am (by omega) (by omega)] at hrun
    have hrun:=hrun.trans hloop
    cases hfo:Kk R C l with
    | false =>
      have he:E0 (R:Int) (C:Int) l=2:=by rw [Sl h1,A1j,A1j,hfo]; rfl
      obtain ⟨e1,e2⟩:=Zf he (by decide)
      rw [hfo,A1l] at hrun
      rw [e1,e2,he]
      exact ⟨8,Ab4 2,[],hrun,Ac6⟩
    | true =>
      have he:E0 (R:Int) (C:Int) l=0:=by rw [Sl h1,A1j,A1j,hfo]; rfl
      obtain ⟨e1,e2⟩:=X6 he
      rw [hfo,A1h] at hrun
      rw [e1,e2,he,A1j,A1j]
      exact ⟨8,_,[],hrun,Wk.Ha (.cons (Wk.Hk (.cons .int (.cons .int (.cons (.fresh _ _) .nil)))) (.cons (Wk.Hk (.cons .int (.cons .int (.cons .X0 .nil)))) (.cons .int .nil)))⟩
 ·have he:=Ahb h1
  obtain ⟨e1,e2⟩:=Zf he h1
  rw [e1,e2,he]
  exact ⟨0,Ab4 (B9 r c l),[],by rw [qr.By.ev,al,A1h,Vw h1,A1h]; rfl,Ac6⟩
theorem Ajv {r c:Int} {l:List Int} (h:E0 r c l=0):B9 r c l=0:=by
 by_cases h1:B9 r c l=0
 ·exact h1
 ·rw [Ahb h1] at h; exact absurd h h1
theorem Aal {r c:Int} {l:List Int} (al:Ai l=true) (h:E0 r c l=0):∃ R C:Nat,r=R∧c=C∧R≤6∧C≤6∧l.length=R*C∧Ai (K9 R C l)=true∧(K9 R C l).length=R*R∧Ai (Jo R C l)=true∧(Jo R C l).length=R*C∧C2 (K9 R C l)=true∧C2 (Jo R C l)=true:=by
 have h1:=Ajv h
 rw [Sl h1] at h
 obtain ⟨R,C,rfl,rfl,r6,c6,hl⟩:=Ci (Ej h1).1
 rw [A1j,A1j] at h
 by_cases ho:Kk R C l=true
 ·unfold Kk at ho
  obtain ⟨o1,o2⟩:=Ae.1 ho
  obtain ⟨o3,o4⟩:=Ae.1 o2
  obtain ⟨q1,q2⟩:=Auh o1
  obtain ⟨g1,g2⟩:=Aug al hl o1
  exact ⟨R,C,rfl,rfl,r6,c6,hl,q1,q2,g1,g2,o3,o4⟩
 ·rw [A13 ho] at h; exact absurd h (by decide)
theorem X8 {R C:Nat} {l:List Int} (r6:R≤6) (c6:C≤6) (hl:l.length=R*C) {x y a b:Int} (hp:Ic (R:Int) (C:Int) x y a b=true) :
 Hu (R:Int) (C:Int) l x y a b=(a,b,Bv a.toNat b.toNat fun i k=>Eb (C:Int) l (x+(i:Int)) (y+(k:Int)),0):=by
 unfold Hu; rw [A14 (Ft r6 c6 hl),A14 hp]
theorem Vz {r c:Int} {l:List Int} (al:Ai l=true) (h:E0 r c l=0) :
 Hu r r (K9 r.toNat c.toNat l) 0 0 r (min r c)=D8 r c l∧Hu r c (Jo r.toNat c.toNat l) 0 0 (min r c) c=H8 r c l:=by
 obtain ⟨R,C,rfl,rfl,r6,c6,hl,q1,q2,g1,g2,_,_⟩:=Aal al h
 unfold D8 H8
 rw [h,A13 (by decide),A13 (by decide),A1j,A1j]
 have p1:Ic (R:Int) (R:Int) 0 0 (R:Int) (min (R:Int) (C:Int))=true:=A1i (by omega)
 have p2:Ic (R:Int) (C:Int) 0 0 (min (R:Int) (C:Int)) (C:Int)=true:=A1i (by omega)
 rw [X8 r6 r6 q2 p1,X8 r6 c6 g2 p2]
 exact ⟨rfl,rfl⟩
theorem Aww {r c:Int} {l:List Int} (al:Ai l=true) (h:E0 r c l=0):Ai (K9 r.toNat c.toNat l)=true∧Ai (Jo r.toNat c.toNat l)=true:=by
 obtain ⟨R,C,rfl,rfl,_,_,_,q1,_,g1,_,_,_⟩:=Aal al h
 rw [A1j,A1j]
 exact ⟨q1,g1⟩
theorem As2 {r c:Int} {l:List Int} (al:Ai l=true) (h:E0 r c l=0):Ai (D8 r c l).2.2.1=true∧Ai (H8 r c l).2.2.1=true:=by
 obtain ⟨a,b⟩:=Vz al h
 obtain ⟨q1,g1⟩:=Aww al h
 rw [← a,← b]
 exact ⟨Aku q1 _ _ _ _,Aku g1 _ _ _ _⟩
theorem qr.Fq.known:qr.Fq.Kn:=qr.Fq.Ac (.cons Aa.Part.known (.cons qr.By.known .nil)) fun r c l hp=>by
 have al:Ai l=true:=hp
 show ∃ N dv drops,_=some dv∧Wk drops dv (DV.tup [.agg [.int .i64 (D8 r c l).1,.int .i64 (D8 r c l).2.1,.ints .fresh .u64 (D8 r c l).2.2.1],.agg [.int .i64 (H8 r c l).1,.int .i64 (H8 r c l).2.1,.ints .fresh .u64 (H8 r c l).2.2.1],.int .i64 (E0 r c l)])
 by_cases h:E0 r c l=0
 ·obtain ⟨e1,e2⟩:=X6 h
  obtain ⟨t1,t2⟩:=Vz al h
  refine ⟨0,DV.tup [.agg [.int .i64 (D8 r c l).1,.int .i64 (D8 r c l).2.1,.ints .fresh .u64 (D8 r c l).2.2.1],.agg [.int .i64 (H8 r c l).1,.int .i64 (H8 r c l).2.1,.ints .fresh .u64 (H8 r c l).2.2.1],.int .i64 0],[],by rw [qr.Fq.ev,al,A1h,G9 h,A1l,e1,e2,t1,t2],by rw [h]; exact Wk.Ha (.cons (Wk.Hk (.cons .int (.cons .int (.cons .Ov .nil)))) (.cons (Wk.Hk (.cons .int (.cons .int (.cons .Ov .nil)))) (.cons .int .nil)))⟩
 ·have e1:D8 r c l=Ls (E0 r c l):=by unfold D8; rw [A14 h]
  have e2:H8 r c l=Ls (E0 r c l):=by unfold H8; rw [A14 h]
  rw [e1,e2]
  exact ⟨0,Ab4 (E0 r c l),[],by rw [qr.Fq.ev,al,A1h,Vw h,A1h]; rfl,Ac6⟩
theorem Ave {r c p:Int}:((A6 r c)||(r !=p))=decide (r<c∨r≠p):=by
 rw [Au,A1x]; simp
theorem solve.Dv.known:solve.Dv.Kn:=solve.Dv.Ac (.cons Cs.Check.known (.cons qr.Fq.known (.cons qr.Fi.known (.cons solve.Flat.known (.cons solve.Ch.known .nil))))) fun r c l p q m hp=>by
 obtain ⟨al,am⟩:=Ae.1 (show (Ai l&&Ai m)=true from hp)
 show ∃ N dv drops,_=some dv∧Wk drops dv (To (Dt r c l p q m))
 have hrun:=solve.Dv.ev 0 r c l p q m
 rw [al,A1h] at hrun
 unfold Dt
 by_cases c1:B9 r c l=0
 ·rw [G9 c1,A1l,am,A1h] at hrun
  rw [A13 (by rw [c1]; decide)]
  by_cases c2:B9 p q m=0
  ·rw [G9 c2,A1l,Ave] at hrun
   rw [A13 (by rw [c2]; decide)]
   by_cases c3:r<c∨r≠p
   ·rw [A1i c3,A1h] at hrun
    rw [A14 c3]
    exact ⟨0+4,_,[],hrun,J8⟩
   ·rw [A1m c3,A1l,A1h] at hrun
    rw [A13 c3]
    by_cases c4:E0 r c l=0
    ·obtain ⟨i1,i2⟩:=As2 al c4
     rw [G9 c4,A1l,i2,A1h] at hrun
     rw [A13 (by rw [c4]; decide)]
     by_cases c5:(Lz (H8 r c l).1 (H8 r c l).2.1 (H8 r c l).2.2.1).1=true
     ·rw [c5,A1h] at hrun
      rw [A14 c5]
      exact ⟨0+4,_,[],hrun,J8⟩
     ·have c5':(Lz (H8 r c l).1 (H8 r c l).2.1 (H8 r c l).2.2.1).1=false:=by simpa using c5
      rw [c5',A1l,i1,A1n,A1h] at hrun
      rw [A13 c5]
      unfold Aoq
      by_cases c6:(C8 (D8 r c l).1 (D8 r c l).2.1 (D8 r c l).2.2.1 p q m).2.2.2=0
      ·rw [G9 c6,A1l,Vy,A1n,A1h] at hrun
       rw [A13 (by rw [c6]; decide)]
       exact ⟨0+4,_,[],hrun,On⟩
      ·rw [Vw c6,A1h] at hrun
       rw [A14 c6]
       exact ⟨0+4,_,[],hrun,J8⟩
    ·rw [Vw c4,A1h] at hrun
     rw [A14 c4]
     exact ⟨0+4,_,[],hrun,J8⟩
  ·rw [Vw c2,A1h] at hrun
   rw [A14 c2]
   exact ⟨0+4,_,[],hrun,J8⟩
 ·rw [Vw c1,A1h] at hrun
  rw [A14 c1]
  exact ⟨0+4,_,[],hrun,J8⟩
set_option maxRecDepth 100000
namespace EqRef17
def Aj.Div.A9:List (Nat × Entry):=[(102,Aj.B.spec),(159,Aj.F.spec)]
def Aj.Div.E:Env:=Ba (A8 Aj.Div.A9) (fun _=>false) (fun _=>none) (fun _=>none)
theorem Aj.Div.ev (N:Nat) (a b:Int):Bw Aj.Div.E N f84 (An f84) [.int .u64 a,.int .u64 b]=bif (Af a) then bif (Af b) then some (.int .u64 (Gc ((Ieee.double.div (toNat a) (toNat b)).getD nanBits))) else none else none:=by kernel_rfl
abbrev _root_.Go.Proofs.S1.Aj.Div.Kn:=A4 prog 84 Aj.Div.spec
theorem Aj.Div.Ac (hk:Az prog Aj.Div.A9) (h:Hyp Aj.Div.E f84 Aj.Div.ts Aj.Div.pre Aj.Div.out):Aj.Div.Kn :=
 Al (A0 hk _ _ _) func84 (by kernel_rfl) (by kernel_rfl) h
def Aj.Finite.hint:Nat→Option Be
 | 0=>some { keep:=[0,3],objs:=[],boxes:=[] }
 | _=>none
def Aj.Finite.A9:List (Nat × Entry):=[(131,A1.Finite.spec)]
def Aj.Finite.E:Env:=Ba (A8 Aj.Finite.A9) (fun _=>false) Aj.Finite.hint (fun _=>none)
section
variable (N M:Nat) (x:List Int) (p3:Int)
def Aj.Finite.L0:Option DV:=B2 Aj.Finite.E N f92 (An f92) [1,0,1,0] [] M ⟨Gz 16 [(0,.ints .arg .u64 x),(3,.int .i64 p3)],[]⟩
theorem Aj.Finite.Av:Aj.Finite.L0 N (M+1) x p3=bif (A6 p3 (length x:Int)) then bif ((decide (0≤p3))&&(decide (p3<(length x:Int)))) then bif (Af (getD x (toNat p3) 0)) then bif (!(Ck (getD x (toNat p3) 0))) then some (.bool false) else Aj.Finite.L0 N M x (Ab (p3+1)) else none else none else some (.bool true):=by kernel_rfl
theorem Aj.Finite.ev:Bw Aj.Finite.E N f92 (An f92) [.ints .arg .u64 x] =
 Aj.Finite.L0 N N x 0:=by kernel_rfl
end
abbrev _root_.Go.Proofs.S1.Aj.Finite.Kn:=A4 prog 92 Aj.Finite.spec
theorem Aj.Finite.Ac (hk:Az prog Aj.Finite.A9) (h:Hyp Aj.Finite.E f92 Aj.Finite.ts Aj.Finite.pre Aj.Finite.out):Aj.Finite.Kn :=
 Al (A0 hk _ _ _) func92 (by kernel_rfl) (by kernel_rfl) h
def Gl.Check.A9:List (Nat × Entry):=[(92,Aj.Finite.spec),(91,Ak.Hl.spec)]
def Gl.Check.E:Env:=Ba (A8 Gl.Check.A9) (fun _=>false) (fun _=>none) (fun _=>none)
theorem Gl.Check.ev (N:Nat) (r c:Int) (l:List Int):Bw Gl.Check.E N f25 (An f25) [.agg [.int .i64 r,.int .i64 c,.ints .arg .u64 l]]=bif (!(A2 r c l)) then some (.int .i64 1) else bif (Cp l) then bif (!(C2 l)) then some (.int .i64 4) else some (.int .i64 0) else none:=by kernel_rfl
abbrev _root_.Go.Proofs.S1.Gl.Check.Kn:=A4 prog 25 Gl.Check.spec
theorem Gl.Check.Ac (hk:Az prog Gl.Check.A9) (h:Hyp Gl.Check.E f25 Gl.Check.ts Gl.Check.pre Gl.Check.out):Gl.Check.Kn :=
 Al (A0 hk _ _ _) func25 (by kernel_rfl) (by kernel_rfl) h
def A3.Check.hint:Nat→Option Be
 | 0=>some { keep:=[2,5],objs:=[],boxes:=[2] }
 | _=>none
def A3.Check.A9:List (Nat × Entry):=[(62,A1.Kind.spec),(80,Ak.At.spec),(25,Gl.Check.spec)]
def A3.Check.E:Env:=Ba (A8 A3.Check.A9) (fun _=>false) A3.Check.hint (fun _=>none)
section
variable (N M:Nat) (r c:Int) (l:List Int) (p q:Int) (m:List Int) (p5:Int)
def A3.Check.L0:Option DV:=B2 A3.Check.E N f79 (An f79) [1,1,1,1,0,1,0] [] M ⟨Gz 40 [(2,.ptr 2 0 0),(5,.int .i64 p5)],[(2,false,.box [.int .i64 r,.int .i64 c,.ints .arg .u64 l])]⟩
theorem A3.Check.Av:A3.Check.L0 N (M+1) r c l p5=bif (A6 p5 r) then bif (C0 r c l p5 p5) then bif (K4 (Eb c l p5 p5)) then bif ((A5 (Eb c l p5 p5))==(0:Int)) then some (.int .i64 5) else A3.Check.L0 N M r c l (Ab (p5+1)) else none else none else some (.int .i64 0):=by kernel_rfl
theorem A3.Check.ev:Bw A3.Check.E N f79 (An f79) [.agg [.int .i64 r,.int .i64 c,.ints .arg .u64 l],.agg [.int .i64 p,.int .i64 q,.ints .arg .u64 m]]=bif (Ai l) then bif ((B9 r c l) !=(0:Int)) then bif (Ai l) then some (.int .i64 (B9 r c l)) else none else bif (Ai m) then bif ((B9 p q m) !=(0:Int)) then bif (Ai m) then some (.int .i64 (B9 p q m)) else none else bif ((r !=c)||(r !=p)) then some (.int .i64 3) else A3.Check.L0 N N r c l (0:Int) else none else none :=
 Eq.trans (by kernel_rfl)
 (Et (Et rfl (Et (Et rfl (Ax (S8 (r !=c)) (Ax (Qx (r !=c)) (Ax (S8 (r !=c)) (Ax (Qx (r !=c)) (Ax (tt8 (r !=c)) (Ax (X2 (r !=c)) (C9 (tt5 (r !=c) (r !=p)) rfl rfl)))))))) rfl)) rfl)
end
abbrev _root_.Go.Proofs.S1.A3.Check.Kn:=A4 prog 79 A3.Check.spec
theorem A3.Check.Ac (hk:Az prog A3.Check.A9) (h:Hyp A3.Check.E f79 A3.Check.ts A3.Check.pre A3.Check.out):A3.Check.Kn :=
 Al (A0 hk _ _ _) func79 (by kernel_rfl) (by kernel_rfl) h
def A3.finite.A9:List (Nat × Entry):=[(92,Aj.Finite.spec)]
def A3.finite.E:Env:=Ba (A8 A3.finite.A9) (fun _=>false) (fun _=>none) (fun _=>none)
theorem A3.finite.ev (N:Nat) (r c:Int) (l:List Int):Bw A3.finite.E N f85 (An f85) [.agg [.int .i64 r,.int .i64 c,.ints .arg .u64 l]]=bif (Cp l) then bif (!(C2 l)) then some (.tup [.agg [.int .i64 0,.int .i64 0,.nil],.int .i64 2]) else some (.tup [.agg [.int .i64 r,.int .i64 c,.ints .arg .u64 l],.int .i64 0]) else none:=by kernel_rfl
abbrev _root_.Go.Proofs.S1.A3.finite.Kn:=A4 prog 85 A3.finite.spec
theorem A3.finite.Ac (hk:Az prog A3.finite.A9) (h:Hyp A3.finite.E f85 A3.finite.ts A3.finite.pre A3.finite.out):A3.finite.Kn :=
 Al (A0 hk _ _ _) func85 (by kernel_rfl) (by kernel_rfl) h
def A3.Ch.hint:Nat→Option Be
 | 0=>some { keep:=[2,3,4,6,7],objs:=[],boxes:=[2,3,4,6] }
 | 2=>some { keep:=[2,3,4,6,7,8],objs:=[],boxes:=[2,3,4,6] }
 | 4=>some { keep:=[2,3,4,6,7,8,9,10],objs:=[],boxes:=[2,3,4,6] }
 | _=>none
def A3.Ch.A9:List (Nat × Entry):=[(84,Aj.Div.spec),(82,Aj.Mul.spec),(81,Aj.Sub.spec),(80,Ak.At.spec),(83,Ak.Fx.spec),(35,Ak.Bb.spec),(79,A3.Check.spec),(85,A3.finite.spec)]
def A3.Ch.E:Env:=Ba (A8 A3.Ch.A9) (fun _=>false) A3.Ch.hint (fun _=>none)
section
variable (N M0 M1 M:Nat) (r c:Int) (l:List Int) (p q:Int) (m:List Int) (p9 p10 p7_2 p8_1:Int) (p6_1:List Int) (p8:Int) (p6:List Int) (p7_1 p7:Int) (p6_2:List Int)
def A3.Ch.L0:Option DV:=B2 A3.Ch.E N f101 (An f101) [1,1,1,0,1,0] [] M ⟨Gz 74 [(2,.ptr 2 0 0),(3,.ptr 3 0 0),(4,.ptr 4 0 0),(6,.ptr 6 0 0),(7,.int .i64 p7)],[(2,false,.box [.int .i64 r,.int .i64 c,.ints .arg .u64 l]),(3,false,.box [.int .i64 p,.int .i64 q,.ints .arg .u64 m]),(4,false,.box [.int .i64 0,.int .i64 0,.nil]),(6,false,.box [.int .i64 p,.int .i64 q,.ints .fresh .u64 p6_2])]⟩
def A3.Ch.L1:Option DV:=B2 A3.Ch.E N f101 (An f101) [1,1,1,0,1,0,0,1,0,0,1,0] [M0] M ⟨Gz 74 [(2,.ptr 2 0 0),(3,.ptr 3 0 0),(4,.ptr 4 0 0),(6,.ptr 6 0 0),(7,.int .i64 p7_1),(8,.int .i64 p8)],[(2,false,.box [.int .i64 r,.int .i64 c,.ints .arg .u64 l]),(3,false,.box [.int .i64 p,.int .i64 q,.ints .arg .u64 m]),(4,false,.box [.int .i64 0,.int .i64 0,.nil]),(6,false,.box [.int .i64 p,.int .i64 q,.ints .fresh .u64 p6])]⟩
def A3.Ch.L2:Option DV:=B2 A3.Ch.E N f101 (An f101) [1,1,1,0,1,0,0,1,0,0,1,0,0,1,0,0,1,0,1,0] [M0,M1] M ⟨Gz 74 [(2,.ptr 2 0 0),(3,.ptr 3 0 0),(4,.ptr 4 0 0),(6,.ptr 6 0 0),(7,.int .i64 p7_2),(8,.int .i64 p8_1),(9,.int .u64 p9),(10,.int .i64 p10)],[(2,false,.box [.int .i64 r,.int .i64 c,.ints .arg .u64 l]),(3,false,.box [.int .i64 p,.int .i64 q,.ints .arg .u64 m]),(4,false,.box [.int .i64 0,.int .i64 0,.nil]),(6,false,.box [.int .i64 p,.int .i64 q,.ints .fresh .u64 p6_1])]⟩
theorem A3.Ch.Av:A3.Ch.L0 N (M+1) r c l p q m p7 p6_2=bif (A6 p7 q) then A3.Ch.L1 N M N r c l p q m (Ab (r-1)) p6_2 p7 else bif (Ai p6_2&&A2 p q p6_2) then some (.tup [.agg [.int .i64 ((Kj p q p6_2).1),.int .i64 ((Kj p q p6_2).2.1),.ints .arg .u64 ((Kj p q p6_2).2.2.1)],.int .i64 ((Kj p q p6_2).2.2.2)]) else none:=by kernel_rfl
theorem A3.Ch.B8:A3.Ch.L1 N M0 (M+1) r c l p q m p8 p6 p7_1=bif (Em 0 p8) then bif (C0 p q m p8 p7_1) then A3.Ch.L2 N M0 M N r c l p q m (Eb q m p8 p7_1) (Ab (p8+1)) p7_1 p8 p6 else none else A3.Ch.L0 N M0 r c l p q m (Ab (p7_1+1)) p6:=by kernel_rfl
theorem A3.Ch.H7:A3.Ch.L2 N M0 M1 (M+1) r c l p q m p9 p10 p7_2 p8_1 p6_1=bif (A6 p10 r) then bif (C0 r c l p8_1 p10) then bif (C0 p q p6_1 p10 p7_2) then bif (Af (Eb c l p8_1 p10)&&Af (Eb q p6_1 p10 p7_2)) then bif (Af p9&&Af (C5 (Eb c l p8_1 p10) (Eb q p6_1 p10 p7_2))) then A3.Ch.L2 N M0 M1 M r c l p q m (Ec p9 (C5 (Eb c l p8_1 p10) (Eb q p6_1 p10 p7_2))) (Ab (p10+1)) p7_2 p8_1 p6_1 else none else none else none else none else bif (C0 r c l p8_1 p8_1) then bif (Af p9&&Af (Eb c l p8_1 p8_1)) then bif (C0 p q p6_1 p8_1 p7_2) then A3.Ch.L1 N M0 M1 r c l p q m (Ab (p8_1-1)) (List.set p6_1 (toNat (p8_1*q+p7_2)) (E4 p9 (Eb c l p8_1 p8_1))) p7_2 else none else none else none :=
 Eq.trans (by kernel_rfl)
 (Et (C9 (Cy (C0 r c l p8_1 p10)) (C9 (Cy (C0 p q p6_1 p10 p7_2)) (C9 (Cy (Af (Eb c l p8_1 p10)&&Af (Eb q p6_1 p10 p7_2))) (C9 (Cy (Af p9&&Af (C5 (Eb c l p8_1 p10) (Eb q p6_1 p10 p7_2)))) rfl rfl) rfl) rfl) rfl) (C9 (Cy (C0 r c l p8_1 p8_1)) (C9 (Cy (Af p9&&Af (Eb c l p8_1 p8_1))) (C9 (Cy (C0 p q p6_1 p8_1 p7_2)) rfl rfl) rfl) rfl))
theorem A3.Ch.ev:Bw A3.Ch.E N f101 (An f101) [.agg [.int .i64 r,.int .i64 c,.ints .arg .u64 l],.agg [.int .i64 p,.int .i64 q,.ints .arg .u64 m]]=bif (Ai l&&Ai m) then bif ((Mg r c l p q m) !=(0:Int)) then bif (Ai l&&Ai m) then some (.tup [.agg [.int .i64 0,.int .i64 0,.nil],.int .i64 (Mg r c l p q m)]) else none else bif (Bh p&&Bh q) then A3.Ch.L0 N N r c l p q m 0 (Bv (toNat p) (toNat q) (fun _ _=>0)) else none else none:=by kernel_rfl
end
abbrev _root_.Go.Proofs.S1.A3.Ch.Kn:=A4 prog 101 A3.Ch.spec
theorem A3.Ch.Ac (hk:Az prog A3.Ch.A9) (h:Hyp A3.Ch.E f101 A3.Ch.ts A3.Ch.pre A3.Ch.out):A3.Ch.Kn :=
 Al (A0 hk _ _ _) func101 (by kernel_rfl) (by kernel_rfl) h
end EqRef17
open EqRef17
theorem Aj.Div.known:Aj.Div.Kn:=Aj.Div.Ac (.cons Aj.B.known (.cons Aj.F.known .nil)) fun a b hp=>by
 obtain ⟨ha,hb⟩:=Ae.1 hp
 obtain ⟨a,rfl,hn⟩:=Bm ha
 obtain ⟨b,rfl,hm⟩:=Bm hb
 refine ⟨0,Aj.Div.out [.i a,.i b],[],?_,.int⟩
 rw [Aj.Div.ev,ha,hb,A1j,A1j]
 unfold Gc
 rw [Arr hn hm Gu]; rfl
theorem Xt (N:Nat) {x:List Int} (hx:Cp x=true):∀ (k i F:Nat),i+k=x.length→k<F→Aj.Finite.L0 N F x (i:Int)=some (.bool ((x.drop i).all Ck)):=by
 obtain ⟨hl,hu⟩:=Iq hx
 intro k
 induction k with
 | zero =>
   intro i F hi hF
   obtain ⟨F,rfl⟩:∃ G,F=G+1:=⟨F-1,by omega⟩
   rw [Aj.Finite.Av,Au,A1m (by omega),A1l,A1v (by omega)]; rfl
 | succ k ih =>
   intro i F hi hF
   obtain ⟨F,rfl⟩:∃ G,F=G+1:=⟨F-1,by omega⟩
   rw [Aj.Finite.Av,Au,A1i (show (i:Int)<(x.length:Int) by omega),A1h,A1i (show (0:Int)≤(i:Int) by omega),A1n,A1h,A1j,hu i (by omega),A1h,Hi (by omega),List.all_cons]
   cases Ck (x.getD i 0) with
   | false=>rfl
   | true =>
     rw [A2g,A1l,Am (by omega) (by omega),A2u]
     exact ih (i+1) F (by omega) (by omega)
theorem Aj.Finite.known:Aj.Finite.Kn:=Aj.Finite.Ac (.cons A1.Finite.known .nil) fun x hp=>by
 have hp:Cp x=true:=hp
 refine ⟨x.length+1,Aj.Finite.out [.l x],[],?_,.bool⟩
 show _=some (DV.bool (x.all Ck))
 rw [Aj.Finite.ev]
 exact Xt _ hp x.length 0 (x.length+1) (by omega) (by omega)
theorem Gl.Check.known:Gl.Check.Kn:=Gl.Check.Ac (.cons Aj.Finite.known (.cons Ak.Hl.known .nil)) fun r c l hp=>by
 have hp:Ai l=true:=hp
 refine ⟨0,Gl.Check.out [.i r,.i c,.l l],[],?_,.int⟩
 show _=some (DV.int .i64 (B9 r c l))
 rw [Gl.Check.ev]
 unfold B9
 by_cases h:A2 r c l=true
 ·have:=Na h
  rw [h,A2g,A1l,Jj hp (by omega),A1h,A14 rfl]
  cases C2 l<;>rfl
 ·have h':A2 r c l=false:=by simpa using h
  rw [h']; rfl
theorem Zb (N:Nat) {n:Nat} {l:List Int} (n6:n≤6) (hl:l.length=n*n) (al:Ai l=true):∀ (cnt i F:Nat),i+cnt=n→cnt<F →
 A3.Check.L0 N F (n:Int) (n:Int) l (i:Int)=some (.int .i64 (if ((List.range n).drop i).any (fun i:Nat=>decide (A5 (Eb (n:Int) l (i:Int) (i:Int))=0))=true then 5 else 0)):=by
 intro cnt
 induction cnt with
 | zero =>
   intro i F hi hF
   obtain ⟨F,rfl⟩:∃ G,F=G+1:=⟨F-1,by omega⟩
   rw [A3.Check.Av,Au,A1m (by omega),A1l,A1v (by rw [A2k]; omega)]; rfl
 | succ cnt ih =>
   intro i F hi hF
   obtain ⟨F,rfl⟩:∃ G,F=G+1:=⟨F-1,by omega⟩
   have hn:K4 (Eb (n:Int) l (i:Int) (i:Int))=true:=by
    obtain ⟨k,hk,_⟩:=Bm (Ip (c:=(n:Int)) (i:=(i:Int)) (k:=(i:Int)) al)
    rw [hk]; exact I1 k
   rw [A3.Check.Av,Au,A1i (show (i:Int)<(n:Int) by omega),A1h,D1 n6 n6 hl (show i<n by omega) (show i<n by omega),A1h,hn,A1h,Ze (by omega),List.any_cons]
   by_cases hk:A5 (Eb (n:Int) l (i:Int) (i:Int))=0
   ·have e:(A5 (Eb (n:Int) l (i:Int) (i:Int))==(0:Int))=true:=by rw [hk]; rfl
    rw [e,A1h,A1i hk]; rfl
   ·have e:(A5 (Eb (n:Int) l (i:Int) (i:Int))==(0:Int))=false:=by simpa using hk
    rw [e,A1l,A1m hk,Bool.false_or,Am (by omega) (by omega)]
    exact ih (i+1) F (by omega) (by omega)
theorem A3.Check.known:A3.Check.Kn:=A3.Check.Ac (.cons A1.Kind.known (.cons Ak.At.known (.cons Gl.Check.known .nil))) fun r c l p q m hp=>by
 obtain ⟨al,am⟩:=Ae.1 (show (Ai l&&Ai m)=true from hp)
 refine ⟨8,A3.Check.out [.i r,.i c,.l l,.i p,.i q,.l m],[],?_,.int⟩
 show _=some (DV.int .i64 (Mg r c l p q m))
 rw [A3.Check.ev,al,A1h,A1h,am,A1h,A1h,Avc]
 unfold Mg
 by_cases h1:B9 r c l=0
 ·rw [G9 h1,A1l,A13 (by rw [h1]; decide)]
  by_cases h2:B9 p q m=0
  ·rw [G9 h2,A1l,A13 (by rw [h2]; decide)]
   by_cases h3:r≠c∨r≠p
   ·rw [A1i h3,A1h,A14 h3]
   ·rw [A1m h3,A1l,A13 h3]
    obtain rfl:r=c:=Decidable.byContradiction fun h=>h3 (.inl h)
    obtain ⟨R,C,rfl,hC,r6,c6,hl⟩:=Ci (Ej h1).1
    obtain rfl:R=C:=by omega
    rw [A1j]
    exact Zb 8 r6 hl al R 0 8 (by omega) (by omega)
  ·rw [Vw h2,A1h,A14 h2]
 ·rw [Vw h1,A1h,A14 h1]
def Ams (x:MX):DV:=.tup [.agg [.int .i64 x.1,.int .i64 x.2.1,.ints .arg .u64 x.2.2.1],.int .i64 x.2.2.2]
theorem Ac7 {drops:List Nat} {x:MX}:Wk drops (Ams x) (Ams x) :=
 Wk.Ha (.cons (Wk.Hk (.cons .int (.cons .int (.cons .X0 .nil)))) (.cons .int .nil))
theorem Tj {drops:List Nat} {e:Int}:Wk drops (Ap9 e) (Ams (Ls e)) :=
 Wk.Ha (.cons (Wk.Hk (.cons .int (.cons .int (.cons (.nil _ _) .nil)))) (.cons .int .nil))
theorem A3.finite.known:A3.finite.Kn:=A3.finite.Ac (.cons Aj.Finite.known .nil) fun r c l hp=>by
 obtain ⟨al,hr⟩:=Ae.1 (show (Ai l&&A2 r c l)=true from hp)
 have:=Na hr
 show ∃ N dv drops,_=some dv∧Wk drops dv (Ams (Kj r c l))
 unfold Kj
 cases hf:C2 l with
 | true =>
   rw [A14 rfl]
   exact ⟨0,_,[],by rw [A3.finite.ev,Jj al (by omega),hf]; rfl,Ac7⟩
 | false =>
   rw [A13 (by decide)]
   exact ⟨0,_,[],by rw [A3.finite.ev,Jj al (by omega),hf]; rfl,Tj⟩
section
variable {n Q:Nat} {l m:List Int}
theorem Adt (N:Nat) (n6:n≤6) (q6:Q≤6) (hl:l.length=n*n) (al:Ai l=true) {i j k:Nat} (hi:i+k+1=n) (hj:j<Q) (M0 M1:Nat) :
 ∀ (cnt t F:Nat) (s:Int),t+cnt=n→cnt<F→i+1≤t→Af s=true →
 A3.Ch.L2 N M0 M1 F (n:Int) (n:Int) l (n:Int) (Q:Int) m s (t:Int) (j:Int) (i:Int) (Sz n Q l m j k) =
 A3.Ch.L1 N M0 M1 (n:Int) (n:Int) l (n:Int) (Q:Int) m (Ab ((i:Int)-(1:Int))) (List.set (Sz n Q l m j k) (toNat ((i:Int)*(Q:Int)+(j:Int))) (E4 (Oe (n:Int) l (i:Int) s (t:Int) ((Yn (n:Int) l (fun i=>Eb (Q:Int) m (i:Int) (j:Int)) n n).drop t)) (Eb (n:Int) l (i:Int) (i:Int)))) (j:Int):=by
 intro cnt
 induction cnt with
 | zero =>
   intro t F s ht hF hit hs
   obtain ⟨F,rfl⟩:∃ G,F=G+1:=⟨F-1,by omega⟩
   rw [A1v (by rw [Nf]; omega),Oe]
   rw [A3.Ch.H7,Au,A1m (show ¬ (t:Int)<(n:Int) by omega),A1l,D1 n6 n6 hl (show i<n by omega) (show i<n by omega),A1h,hs,Ip al,A1n,A1h,
    D1 n6 q6 (Ud (l:=l) (m:=m) j k) (show i<n by omega) hj,A1h]
 | succ cnt ih =>
   intro t F s ht hF hit hs
   obtain ⟨F,rfl⟩:∃ G,F=G+1:=⟨F-1,by omega⟩
   rw [A3.Ch.H7,Au,A1i (show (t:Int)<(n:Int) by omega),A1h,D1 n6 n6 hl (show i<n by omega) (show t<n by omega),A1h,D1 n6 q6 (Ud (l:=l) (m:=m) j k) (show t<n by omega) hj,A1h,
    Aka (show t<n by omega) hj (by omega),Ip al,Ah8,A1n,A1h,hs,Io,A1n,A1h,Am (x:=(t:Int)+1) (by omega) (by omega)]
   have:=ih (t+1) F (Ec s (C5 (Eb (n:Int) l (i:Int) (t:Int)) (upF n Q l m t j))) (by omega) (by omega) (by omega) (Oq hs (Io _ _))
   rw [Ace (by rw [Nf]; omega)]
   exact this
theorem Af5 (N:Nat) (n6:n≤6) (q6:Q≤6) (hN:7<N) (hl:l.length=n*n) (hm:m.length=n*Q) (al:Ai l=true) (am:Ai m=true) {j:Nat} (hj:j<Q) (M0:Nat):∀ (cnt k F:Nat),k+cnt=n→cnt<F →
 A3.Ch.L1 N M0 F (n:Int) (n:Int) l (n:Int) (Q:Int) m ((n:Int)-1-(k:Int)) (Sz n Q l m j k) (j:Int) =
 A3.Ch.L0 N M0 (n:Int) (n:Int) l (n:Int) (Q:Int) m ((j+1:Nat):Int) (Sz n Q l m j n):=by
 intro cnt
 induction cnt with
 | zero =>
   intro k F hk hF
   obtain ⟨F,rfl⟩:∃ G,F=G+1:=⟨F-1,by omega⟩
   obtain rfl:k=n:=by omega
   rw [A3.Ch.B8,Es,A1m (by omega),A1l,Am (by omega) (by omega)]
   rfl
 | succ cnt ih =>
   intro k F hk hF
   obtain ⟨F,rfl⟩:∃ G,F=G+1:=⟨F-1,by omega⟩
   obtain ⟨i,hi⟩:∃ i:Nat,i+k+1=n:=⟨n-k-1,by omega⟩
   have ei:(n:Int)-1-(k:Int)=(i:Int):=by omega
   have hr:=Adt (n:=n) (Q:=Q) (l:=l) (m:=m) N n6 q6 hl al hi hj M0 F (n-(i+1)) (i+1) N (Eb (Q:Int) m (i:Int) (j:Int)) (by omega) (by omega) (by omega) (Ip (c:=(Q:Int)) am)
   rw [Aj9 hi hj (Akc (show i<n by omega)).symm,Am (by omega) (by omega),show (i:Int)-1=(n:Int)-1-((k+1:Nat):Int) by omega] at hr
   rw [ei,A3.Ch.B8,Es,A1i (show (0:Int)≤(i:Int) by omega),A1h,D1 n6 q6 hm (show i<n by omega) hj,A1h,Am (x:=(i:Int)+1) (by omega) (by omega)]
   exact hr.trans (ih (k+1) F (by omega) (by omega))
theorem Af6 (N:Nat) (n6:n≤6) (q6:Q≤6) (hN:7<N) (hl:l.length=n*n) (hm:m.length=n*Q) (al:Ai l=true) (am:Ai m=true):∀ (cnt j F:Nat),j+cnt=Q→cnt<F →
 A3.Ch.L0 N F (n:Int) (n:Int) l (n:Int) (Q:Int) m (j:Int) (Sz n Q l m j 0)=some (Ams (Kj (n:Int) (Q:Int) (Sz n Q l m Q 0))):=by
 intro cnt
 induction cnt with
 | zero =>
   intro j F hj hF
   obtain ⟨F,rfl⟩:∃ G,F=G+1:=⟨F-1,by omega⟩
   obtain rfl:j=Q:=by omega
   have hr:A2 (n:Int) (j:Int) (Sz n j l m j 0)=true:=Qa _ n6 q6
   rw [A3.Ch.Av,Au,A1m (by omega),A1l,Aor,hr,A1n,A1h]
   rfl
 | succ cnt ih =>
   intro j F hj hF
   obtain ⟨F,rfl⟩:∃ G,F=G+1:=⟨F-1,by omega⟩
   have hr:=Af5 N n6 q6 hN hl hm al am (show j<Q by omega) F n 0 N (by omega) (by omega)
   rw [Afd,show (n:Int)-1-((0:Nat):Int)=(n:Int)-1 by omega] at hr
   rw [A3.Ch.Av,Au,A1i (show (j:Int)<(Q:Int) by omega),A1h,Am (x:=(n:Int)-1) (by omega) (by omega)]
   exact hr.trans (ih (j+1) F (by omega) (by omega))
end
theorem A3.Ch.known:A3.Ch.Kn:=A3.Ch.Ac (.cons Aj.Div.known (.cons Aj.Mul.known (.cons Aj.Sub.known (.cons Ak.At.known (.cons Ak.Fx.known (.cons Ak.Bb.known (.cons A3.Check.known (.cons A3.finite.known .nil)))))))) fun r c l p q m hp=>by
 have hp:(Ai l&&Ai m)=true:=hp
 obtain ⟨al,am⟩:=Ae.1 hp
 show ∃ N dv drops,_=some dv∧Wk drops dv (Ams (Ua r c l p q m))
 unfold Ua
 by_cases h:Mg r c l p q m=0
 ·obtain ⟨h1,h2,rfl,rfl⟩:=So h
  have s1:=Iz h2
  obtain ⟨R,C,rfl,hC,r6,c6,hl⟩:=Ci h1
  obtain ⟨P,Q,hP,rfl,p6,q6,hl2⟩:=Ci h2
  obtain rfl:R=C:=by omega
  obtain rfl:R=P:=by omega
  have n:=Af6 (n:=R) (Q:=Q) (l:=l) (m:=m) 8 r6 q6 (by omega) hl hl2 al am Q 0 8 (by omega) (by omega)
  rw [Afc,Akb,show ((0:Nat):Int)=0 from rfl] at n
  rw [A13 (by rw [h]; decide),A1j,A1j]
  refine ⟨8,_,[],?_,Ac7⟩
  rw [A3.Ch.ev,al,am,A1n,A1h,G9 h,A1l,s1.1,s1.2,A1n,A1h,A1j,A1j]
  exact n
 ·rw [A14 h]
  exact ⟨0,_,[],by rw [A3.Ch.ev,hp,A1h,A1h,Vw h,A1h]; rfl,Tj⟩
namespace EqRef14
def B1.By.hint:Nat→Option Be
 | 0=>some { keep:=[1,2,3,4,5],objs:=[(0,4,100004,.recs 191 3 [])],boxes:=[1,2,3] }
 | 2=>some { keep:=[2,3,4,9,10],objs:=[(0,4,100004,.recs 191 3 [])],boxes:=[2,3,9] }
 | _=>none
def B1.By.A9:List (Nat × Entry):=[(92,Aj.Finite.spec),(108,Ak.Po.spec),(33,Ak.Ep.arg.spec),(198,A7.Apply.spec),(196,A7.Dl.spec),(197,B1.Dg.spec)]
def B1.By.E:Env:=Wt (A8 B1.By.A9) (fun _=>false) B1.By.hint (fun _=>none) (Ahx [(22,[.s .u64]),(37,[.i .u64])])
section
variable (N M:Nat) (r c p10:Int) (p3_1:List Int) (p4_1:List (List DV)) (p9 l:List Int) (p5:Int) (p3:List Int) (p4:List (List DV))
def B1.By.L0:Option DV:=B2 B1.By.E N f127 (An f127) [1,1,1,0,1,0] [] M ⟨Gz 95 [(1,.ptr 1 0 0),(2,.ptr 2 0 0),(3,.ptr 3 0 0),(4,.oref 100004),(5,.int .i64 p5)],[(1,false,.box [.int .i64 r,.int .i64 c,.ints .arg .u64 l]),(2,false,.box [.int .i64 0,.int .i64 0,.nil,.int .i64 0,.int .i64 0,.nil,.bool false]),(3,false,.box [.int .i64 r,.int .i64 c,.ints .arg .u64 p3]),(100004,false,.recs 191 3 p4)]⟩
def B1.By.L1:Option DV:=B2 B1.By.E N f127 (An f127) [1,1,1,1,1,0,1,0] [] M ⟨Gz 95 [(2,.ptr 2 0 0),(3,.ptr 3 0 0),(4,.oref 100004),(9,.ptr 9 0 0),(10,.int .i64 p10)],[(2,false,.box [.int .i64 0,.int .i64 0,.nil,.int .i64 0,.int .i64 0,.nil,.bool false]),(3,false,.box [.int .i64 r,.int .i64 c,.ints .arg .u64 p3_1]),(9,false,.box [.int .i64 r,.int .i64 r,.ints .arg .u64 p9]),(100004,false,.recs 191 3 p4_1)]⟩
theorem B1.By.Av:B1.By.L0 N (M+1) r c l p5 p3 p4=bif ((A6 p5 c)&&(A6 p5 (Ab (r-1)))) then bif (Hj r c p3 p5&&Cz (0≤p5∧p5≤r)) then bif (Cp (Ct c p3 p5 p5 (toNat (r-p5)))) then bif (!(C2 (Ct c p3 p5 p5 (toNat (r-p5))))) then some (.agg [.int .i64 0,.int .i64 0,.nil,.int .i64 0,.int .i64 0,.nil,.bool false]) else bif (Cp (Ct c p3 p5 p5 (toNat (r-p5)))&&Cz (1≤length (Ct c p3 p5 p5 (toNat (r-p5)))∧length (Ct c p3 p5 p5 (toNat (r-p5)))≤64)) then bif (!(decide ((Jm (Ct c p3 p5 p5 (toNat (r-p5)))).2.2.2=0))) then some (.agg [.int .i64 0,.int .i64 0,.nil,.int .i64 0,.int .i64 0,.nil,.bool false]) else bif (((A2 r c p3&&H5 r c p5 p5 ((Jm (Ct c p3 p5 p5 (toNat (r-p5)))).1))&&(Ai p3&&Ai ((Jm (Ct c p3 p5 p5 (toNat (r-p5)))).1)))&&Af ((Jm (Ct c p3 p5 p5 (toNat (r-p5)))).2.1)) then bif (A2 r c (E2 (toNat r) (toNat c) p3 p5 p5 ((Jm (Ct c p3 p5 p5 (toNat (r-p5)))).1) ((Jm (Ct c p3 p5 p5 (toNat (r-p5)))).2.1))&&Cz (0≤p5∧p5<r∧p5<c)) then bif (decide ((length p4)+1≤Agu)) then B1.By.L0 N M r c l (Ab (p5+1)) (La (toNat r) (toNat c) (E2 (toNat r) (toNat c) p3 p5 p5 ((Jm (Ct c p3 p5 p5 (toNat (r-p5)))).1) ((Jm (Ct c p3 p5 p5 (toNat (r-p5)))).2.1)) (toNat p5) ((Jm (Ct c p3 p5 p5 (toNat (r-p5)))).2.2.1)) (p4++[[.ints .arg .u64 ((Jm (Ct c p3 p5 p5 (toNat (r-p5)))).1),.int .u64 ((Jm (Ct c p3 p5 p5 (toNat (r-p5)))).2.1),.int .u64 ((Jm (Ct c p3 p5 p5 (toNat (r-p5)))).2.2.1)]]) else none else none else none else none else none else none else bif (Bh r) then B1.By.L1 N N r c (Ab ((length p4:Int)-1)) p3 p4 (Jd (toNat r)) else none :=
 Eq.trans (by kernel_rfl)
 (Ax (Qq (A6 p5 c)) (Ax (Qq (A6 p5 c)) (Ax (Ma (A6 p5 c)) (Ax (Ma (A6 p5 c)) (Ax (Afi (A6 p5 c)) (Ax (Uf (A6 p5 c)) (C9 (tt1 (A6 p5 c) (A6 p5 (Ab (r-1)))) (Et (Et (Et rfl (Et (Et rfl (C9 (Cy (((A2 r c p3&&H5 r c p5 p5 ((Jm (Ct c p3 p5 p5 (toNat (r-p5)))).1))&&(Ai p3&&Ai ((Jm (Ct c p3 p5 p5 (toNat (r-p5)))).1)))&&Af ((Jm (Ct c p3 p5 p5 (toNat (r-p5)))).2.1))) (C9 (Cy (A2 r c (E2 (toNat r) (toNat c) p3 p5 p5 ((Jm (Ct c p3 p5 p5 (toNat (r-p5)))).1) ((Jm (Ct c p3 p5 p5 (toNat (r-p5)))).2.1))&&Cz (0≤p5∧p5<r∧p5<c))) rfl rfl) rfl)) rfl)) rfl) rfl) rfl)))))))
theorem B1.By.B8:B1.By.L1 N (M+1) r c p10 p3_1 p4_1 p9=bif (Em 0 p10) then bif ((decide (0≤p10))&&(decide (p10<(length p4_1:Int)))) then bif ((decide ((toNat p10)<(length p4_1)))&&(isC (.s .u64) (getD (getD p4_1 (toNat p10) []) 0 .undef))) then bif ((decide (0≤p10))&&(decide (p10<(length p4_1:Int)))) then bif ((decide ((toNat p10)<(length p4_1)))&&(isC (.i .u64) (getD (getD p4_1 (toNat p10) []) 1 .undef))) then bif (((A2 r r p9&&H5 r r p10 0 (Mf (getD (getD p4_1 (toNat p10) []) 0 .undef)))&&(Ai p9&&Ai (Mf (getD (getD p4_1 (toNat p10) []) 0 .undef))))&&Af (Aao (getD (getD p4_1 (toNat p10) []) 1 .undef))) then B1.By.L1 N M r c (Ab (p10-1)) p3_1 p4_1 (E2 (toNat r) (toNat r) p9 p10 0 (Mf (getD (getD p4_1 (toNat p10) []) 0 .undef)) (Aao (getD (getD p4_1 (toNat p10) []) 1 .undef))) else none else none else none else none else none else bif (Cp p9) then bif ((!(C2 p9))||(Cp p3_1)) then bif ((!(C2 p9))||(!(C2 p3_1))) then some (.agg [.int .i64 0,.int .i64 0,.nil,.int .i64 0,.int .i64 0,.nil,.bool false]) else some (.agg [.int .i64 r,.int .i64 r,.ints .arg .u64 p9,.int .i64 r,.int .i64 c,.ints .arg .u64 p3_1,.bool true]) else none else none :=
 Eq.trans (by kernel_rfl)
 (Et (C9 (Nh (decide (0≤p10)) (decide (p10<(length p4_1:Int)))) (C9 (Nh (decide ((toNat p10)<(length p4_1))) (isC (.s .u64) (getD (getD p4_1 (toNat p10) []) 0 .undef))) (C9 (Nh (decide (0≤p10)) (decide (p10<(length p4_1:Int)))) (C9 (Nh (decide ((toNat p10)<(length p4_1))) (isC (.i .u64) (getD (getD p4_1 (toNat p10) []) 1 .undef))) (C9 (Cy (((A2 r r p9&&H5 r r p10 0 (Mf (getD (getD p4_1 (toNat p10) []) 0 .undef)))&&(Ai p9&&Ai (Mf (getD (getD p4_1 (toNat p10) []) 0 .undef))))&&Af (Aao (getD (getD p4_1 (toNat p10) []) 1 .undef)))) rfl rfl) rfl) rfl) rfl) rfl) (Et (Ax (Ade (C2 p9)) (Ax (S3 (C2 p9)) (C9 (Ao0 (C2 p9) (Cp p3_1)) (Ax (S3 (C2 p9)) (Ax (Adf (C2 p9)) (C9 (Ao1 (C2 p9) (C2 p3_1)) rfl rfl))) rfl))) rfl))
theorem B1.By.ev:Bw B1.By.E N f127 (An f127) [.agg [.int .i64 r,.int .i64 c,.ints .arg .u64 l]] =
 B1.By.L0 N N r c l 0 l []:=by kernel_rfl
end
abbrev _root_.Go.Proofs.S1.B1.By.Kn:=A4 prog 127 B1.By.spec
theorem B1.By.Ac (hk:Az prog B1.By.A9) (h:Hyp B1.By.E f127 B1.By.ts B1.By.pre B1.By.out):B1.By.Kn :=
 Al (Yi hk _ _ _ _) func127 (by kernel_rfl) (by kernel_rfl) h
def B1.Fq.A9:List (Nat × Entry):=[(128,Ak.Part.spec),(127,B1.By.spec)]
def B1.Fq.E:Env:=Ba (A8 B1.Fq.A9) (fun _=>false) (fun _=>none) (fun _=>none)
theorem B1.Fq.ev (N:Nat) (r c:Int) (l:List Int):Bw B1.Fq.E N f100 (An f100) [.agg [.int .i64 r,.int .i64 c,.ints .arg .u64 l]]=bif ((A2 r c l&&C2 l)&&Ai l) then bif (!(decide (E0 r c l=0))) then some (.agg [.int .i64 ((qX r c l).1),.int .i64 ((qX r c l).2.1),.ints .arg .u64 ((qX r c l).2.2.1),.int .i64 ((rX r c l).1),.int .i64 ((rX r c l).2.1),.ints .arg .u64 ((rX r c l).2.2.1),.bool (decide (E0 r c l=0))]) else bif (A2 ((qX r c l).1) ((qX r c l).2.1) ((qX r c l).2.2.1)&&Ic ((qX r c l).1) ((qX r c l).2.1) 0 0 r (min r c)) then bif (A2 ((rX r c l).1) ((rX r c l).2.1) ((rX r c l).2.2.1)&&Ic ((rX r c l).1) ((rX r c l).2.1) 0 0 (min r c) c) then some (.agg [.int .i64 r,.int .i64 (min r c),.ints .fresh .u64 (Bv (toNat r) (toNat (min r c)) (fun j1 j2=>Eb ((qX r c l).2.1) ((qX r c l).2.2.1) ((0:Int)+j1) ((0:Int)+j2))),.int .i64 (min r c),.int .i64 c,.ints .fresh .u64 (Bv (toNat (min r c)) (toNat c) (fun j1 j2=>Eb ((rX r c l).2.1) ((rX r c l).2.2.1) ((0:Int)+j1) ((0:Int)+j2))),.bool true]) else none else none else none :=
 Eq.trans (by kernel_rfl)
 (Et (Et rfl (C9 (Cy (A2 ((qX r c l).1) ((qX r c l).2.1) ((qX r c l).2.2.1)&&Ic ((qX r c l).1) ((qX r c l).2.1) 0 0 r (min r c))) (C9 (Cy (A2 ((rX r c l).1) ((rX r c l).2.1) ((rX r c l).2.2.1)&&Ic ((rX r c l).1) ((rX r c l).2.1) 0 0 (min r c) c)) rfl rfl) rfl)) rfl)
abbrev _root_.Go.Proofs.S1.B1.Fq.Kn:=A4 prog 100 B1.Fq.spec
theorem B1.Fq.Ac (hk:Az prog B1.Fq.A9) (h:Hyp B1.Fq.E f100 B1.Fq.ts B1.Fq.pre B1.Fq.out):B1.Fq.Kn :=
 Al (A0 hk _ _ _) func100 (by kernel_rfl) (by kernel_rfl) h
def A3.Dv.A9:List (Nat × Entry):=[(45,Ak.Mul.spec),(37,Ak.Cl.spec),(25,Gl.Check.spec),(100,B1.Fq.spec),(26,A3.Flat.spec),(101,A3.Ch.spec)]
def A3.Dv.E:Env:=Ba (A8 A3.Dv.A9) (fun _=>false) (fun _=>none) (fun _=>none)
theorem A3.Dv.ev (N:Nat) (r c:Int) (l:List Int) (p q:Int) (m:List Int):Bw A3.Dv.E N f32 (An f32) [.agg [.int .i64 r,.int .i64 c,.ints .arg .u64 l],.agg [.int .i64 p,.int .i64 q,.ints .arg .u64 m]]=bif (Ai l) then bif ((B9 r c l) !=(0:Int)) then bif (Ai l) then some (.tup [.agg [.int .i64 0,.int .i64 0,.nil],.int .i64 (B9 r c l)]) else none else bif (Ai m) then bif ((B9 p q m) !=(0:Int)) then bif (Ai m) then some (.tup [.agg [.int .i64 0,.int .i64 0,.nil],.int .i64 (B9 p q m)]) else none else bif ((A6 r c)||(r !=p)) then some (.tup [.agg [.int .i64 0,.int .i64 0,.nil],.int .i64 3]) else bif ((A2 r c l&&C2 l)&&Ai l) then bif (!(decide (E0 r c l=0))) then some (.tup [.agg [.int .i64 0,.int .i64 0,.nil],.int .i64 2]) else bif ((A2 ((H8 r c l).1) ((H8 r c l).2.1) ((H8 r c l).2.2.1)&&Ai ((H8 r c l).2.2.1))&&C2 ((H8 r c l).2.2.1)) then bif (Qd ((H8 r c l).1) ((H8 r c l).2.1) ((H8 r c l).2.2.1)) then some (.tup [.agg [.int .i64 0,.int .i64 0,.nil],.int .i64 5]) else bif (A2 ((D8 r c l).1) ((D8 r c l).2.1) ((D8 r c l).2.2.1)) then bif ((A2 ((D8 r c l).2.1) ((D8 r c l).1) (Bv (toNat ((D8 r c l).2.1)) (toNat ((D8 r c l).1)) (fun j1 j2=>Eb ((D8 r c l).2.1) ((D8 r c l).2.2.1) j2 j1))&&A2 p q m)&&((Ai (Bv (toNat ((D8 r c l).2.1)) (toNat ((D8 r c l).1)) (fun j1 j2=>Eb ((D8 r c l).2.1) ((D8 r c l).2.2.1) j2 j1))&&Ai m)&&decide (((D8 r c l).1)=p))) then bif (Ai ((H8 r c l).2.2.1)&&Ai (Bv (toNat ((D8 r c l).2.1)) (toNat q) (fun j1 j2=>Je (G6 ((D8 r c l).1) (Bv (toNat ((D8 r c l).2.1)) (toNat ((D8 r c l).1)) (fun j1 j2=>Eb ((D8 r c l).2.1) ((D8 r c l).2.2.1) j2 j1)) j1) (Kv p q m j2)))) then some (.tup [.agg [.int .i64 ((Ua ((H8 r c l).1) ((H8 r c l).2.1) ((H8 r c l).2.2.1) ((D8 r c l).2.1) q (Bv (toNat ((D8 r c l).2.1)) (toNat q) (fun j1 j2=>Je (G6 ((D8 r c l).1) (Bv (toNat ((D8 r c l).2.1)) (toNat ((D8 r c l).1)) (fun j1 j2=>Eb ((D8 r c l).2.1) ((D8 r c l).2.2.1) j2 j1)) j1) (Kv p q m j2)))).1),.int .i64 ((Ua ((H8 r c l).1) ((H8 r c l).2.1) ((H8 r c l).2.2.1) ((D8 r c l).2.1) q (Bv (toNat ((D8 r c l).2.1)) (toNat q) (fun j1 j2=>Je (G6 ((D8 r c l).1) (Bv (toNat ((D8 r c l).2.1)) (toNat ((D8 r c l).1)) (fun j1 j2=>Eb ((D8 r c l).2.1) ((D8 r c l).2.2.1) j2 j1)) j1) (Kv p q m j2)))).2.1),.ints .arg .u64 ((Ua ((H8 r c l).1) ((H8 r c l).2.1) ((H8 r c l).2.2.1) ((D8 r c l).2.1) q (Bv (toNat ((D8 r c l).2.1)) (toNat q) (fun j1 j2=>Je (G6 ((D8 r c l).1) (Bv (toNat ((D8 r c l).2.1)) (toNat ((D8 r c l).1)) (fun j1 j2=>Eb ((D8 r c l).2.1) ((D8 r c l).2.2.1) j2 j1)) j1) (Kv p q m j2)))).2.2.1)],.int .i64 ((Ua ((H8 r c l).1) ((H8 r c l).2.1) ((H8 r c l).2.2.1) ((D8 r c l).2.1) q (Bv (toNat ((D8 r c l).2.1)) (toNat q) (fun j1 j2=>Je (G6 ((D8 r c l).1) (Bv (toNat ((D8 r c l).2.1)) (toNat ((D8 r c l).1)) (fun j1 j2=>Eb ((D8 r c l).2.1) ((D8 r c l).2.2.1) j2 j1)) j1) (Kv p q m j2)))).2.2.2)]) else none else none else none else none else none else none else none :=
 Eq.trans (by kernel_rfl)
 (Et (Et rfl (Et (Et rfl (Ax (S8 (A6 r c)) (Ax (Qx (A6 r c)) (Ax (S8 (A6 r c)) (Ax (Qx (A6 r c)) (Ax (tt8 (A6 r c)) (Ax (X2 (A6 r c)) (C9 (tt5 (A6 r c) (r !=p)) rfl (Et (Et rfl (Et (Et rfl (C9 (Cy (A2 ((D8 r c l).1) ((D8 r c l).2.1) ((D8 r c l).2.2.1))) (C9 (Cy ((A2 ((D8 r c l).2.1) ((D8 r c l).1) (Bv (toNat ((D8 r c l).2.1)) (toNat ((D8 r c l).1)) (fun j1 j2=>Eb ((D8 r c l).2.1) ((D8 r c l).2.2.1) j2 j1))&&A2 p q m)&&((Ai (Bv (toNat ((D8 r c l).2.1)) (toNat ((D8 r c l).1)) (fun j1 j2=>Eb ((D8 r c l).2.1) ((D8 r c l).2.2.1) j2 j1))&&Ai m)&&decide (((D8 r c l).1)=p)))) (C9 (Cy (Ai ((H8 r c l).2.2.1)&&Ai (Bv (toNat ((D8 r c l).2.1)) (toNat q) (fun j1 j2=>Je (G6 ((D8 r c l).1) (Bv (toNat ((D8 r c l).2.1)) (toNat ((D8 r c l).1)) (fun j1 j2=>Eb ((D8 r c l).2.1) ((D8 r c l).2.2.1) j2 j1)) j1) (Kv p q m j2))))) rfl rfl) rfl) rfl)) rfl)) rfl))))))))) rfl)) rfl)
abbrev _root_.Go.Proofs.S1.A3.Dv.Kn:=A4 prog 32 A3.Dv.spec
theorem A3.Dv.Ac (hk:Az prog A3.Dv.A9) (h:Hyp A3.Dv.E f32 A3.Dv.ts A3.Dv.pre A3.Dv.out):A3.Dv.Kn :=
 Al (A0 hk _ _ _) func32 (by kernel_rfl) (by kernel_rfl) h
end EqRef14
open EqRef13 EqRef14
theorem Ak.Fx.arg.known:Ak.Fx.arg.Kn:=A4.Aok (P:=_) (pre:=Ak.Fx.pre) (out:=Ak.Fx.out) Ak.Fx.known [] fun ats h=>by
 unfold Ak.Fx.arg.pre at h
 split at h
 ·exact ⟨h,Wk.Hk (.cons .int (.cons .int (.cons (.fresh _ _) .nil)))⟩
 ·cases h
theorem Ak.Ep.arg.known:Ak.Ep.arg.Kn:=A4.Aok (P:=_) (pre:=Ak.Ep.pre) (out:=Ak.Ep.out) Ak.Ep.known [] fun ats h=>by
 unfold Ak.Ep.arg.pre at h
 split at h
 ·exact ⟨h,Wk.Hk (.cons .int (.cons .int (.cons (.fresh _ _) .nil)))⟩
 ·cases h
theorem V7 (N:Nat) {x:List Int} (hx:Cp x=true):∀ (k i F:Nat),i+k=x.length→k<F→A7.Bt.L0 N F x (i:Int)=some (.bool (Dr (x.drop i))):=by
 obtain ⟨hl,hu⟩:=Iq hx
 intro k
 induction k with
 | zero =>
   intro i F hi hF
   obtain ⟨F,rfl⟩:∃ G,F=G+1:=⟨F-1,by omega⟩
   rw [A7.Bt.Av,Au,A1m (by omega),A1l,A1v (by omega)]; rfl
 | succ k ih =>
   intro i F hi hF
   obtain ⟨F,rfl⟩:∃ G,F=G+1:=⟨F-1,by omega⟩
   obtain ⟨n,hn,_⟩:=Bm (hu i (by omega))
   rw [A7.Bt.Av,Au,A1i (show (i:Int)<(x.length:Int) by omega),A1h,A1i (show (0:Int)≤(i:Int) by omega),A1n,A1h,A1j,show K4 (x.getD i 0)=true by rw [hn]; exact I1 n,A1h,Yf,Hi (by omega)]
   unfold Dr
   rw [List.all_cons]
   cases decide (A5 (x.getD i 0)=0) with
   | false=>rfl
   | true =>
     rw [A2g,A1l,A2u,Am (by omega) (by omega)]
     exact ih (i+1) F (by omega) (by omega)
theorem A7.Bt.known:A7.Bt.Kn:=A7.Bt.Ac (.cons A1.Kind.known .nil) fun x hp=>by
 refine ⟨x.length+1,.bool (Dr (x.drop 1)),[],?_,.bool⟩
 rw [A7.Bt.ev]
 by_cases h:x.length=0
 ·rw [A7.Bt.Av,Au,A1m (by omega),A1l,A1v (by omega)]; rfl
 ·exact V7 (x.length+1) hp (x.length-1) 1 (x.length+1) (by omega) (by omega)
theorem Aa7 (N:Nat) {x:List Int} (hx:Cp x=true):∀ (k i F:Nat),i+k=x.length→k<F→A7.lead.L0 N F x (i:Int)=some (.int .i64 (Qs (x.drop i) (i:Int))):=by
 obtain ⟨hl,hu⟩:=Iq hx
 intro k
 induction k with
 | zero =>
   intro i F hi hF
   obtain ⟨F,rfl⟩:∃ G,F=G+1:=⟨F-1,by omega⟩
   rw [A7.lead.Av,Au,A1m (by omega),A1l,A1v (by omega)]; rfl
 | succ k ih =>
   intro i F hi hF
   obtain ⟨F,rfl⟩:∃ G,F=G+1:=⟨F-1,by omega⟩
   obtain ⟨n,hn,_⟩:=Bm (hu i (by omega))
   rw [A7.lead.Av,Au,A1i (show (i:Int)<(x.length:Int) by omega),A1h,A1i (show (0:Int)≤(i:Int) by omega),A1n,A1h,A1j,show K4 (x.getD i 0)=true by rw [hn]; exact I1 n,A1h,Yf,Hi (by omega),Qs]
   by_cases h:A5 (x.getD i 0)=0
   ·rw [A1i h,A14 h,A2g,A1l,Am (by omega) (by omega)]
    exact ih (i+1) F (by omega) (by omega)
   ·rw [A1m h,A13 h]; rfl
theorem A7.lead.known:A7.lead.Kn:=A7.lead.Ac (.cons A1.Kind.known .nil) fun x hp=>by
 refine ⟨x.length+1,.int .i64 (Qs x 0),[],?_,.int⟩
 rw [A7.lead.ev]
 exact Aa7 (x.length+1) hp x.length 0 (x.length+1) (by omega) (by omega)
theorem Ak7:∀ (x:List Int) (i:Nat),Dr x=false→∃ j:Nat,Qs x (i:Int)=((i+j:Nat):Int)∧j<x.length∧x.getD j 0=Mj x
 | [],i,h=>by cases h
 | b::l,i,h=>by
   unfold Qs Mj
   by_cases hk:A5 b=0
   ·rw [A14 hk,A14 hk]
    have h':Dr l=false:=by
     unfold Dr at h ⊢
     rw [List.all_cons,A1i hk,A2u] at h
     exact h
    obtain ⟨j,e1,e2,e3⟩:=Ak7 l (i+1) h'
    refine ⟨j+1,?_,by simp; omega,by simpa using e3⟩
    have:((i:Int)+1)=((i+1:Nat):Int):=rfl
    rw [this,e1]; omega
   ·rw [A13 hk,A13 hk]
    exact ⟨0,rfl,by simp,rfl⟩
theorem Ad6 {x:List Int} (h:Dr (x.drop 1)=false):Dr x=false:=by
 cases x with
 | nil=>exact h
 | cons b l =>
   have h:Dr l=false:=h
   unfold Dr at h ⊢
   rw [List.all_cons,h,Bool.and_false]
theorem Aa5 (N:Nat) {x:List Int} (h64:x.length≤64):∀ (k i F:Nat),i+1+k=x.length→k<F →
 A7.Dl.L0 N F x ((i+1:Nat):Int) (I7 (i+1) fun _=>0)=some (.tup [.agg [.ints (.own 100004 tB) .u64 (I7 x.length fun _=>0),.int .u64 0,.int .u64 (x.getD 0 0)],.bool true]):=by
 intro k
 induction k with
 | zero =>
   intro i F hi hF
   obtain ⟨F,rfl⟩:∃ G,F=G+1:=⟨F-1,by omega⟩
   rw [A7.Dl.Av,Au,A1m (by omega),A1l,A1i (by omega),A1h,show i+1=x.length by omega]
 | succ k ih =>
   intro i F hi hF
   obtain ⟨F,rfl⟩:∃ G,F=G+1:=⟨F-1,by omega⟩
   rw [A7.Dl.Av,Au,A1i (by omega),A1h,A1i (by rw [Pv (by omega)]; unfold G0; omega),A1h,Am (by omega) (by omega)]
   have:=ih (i+1) F (by omega) (by omega)
   rw [J0 (i+1+1) (i+1) _ rfl,He] at this
   rw [J0 (i+1) i _ rfl]
   exact this
theorem Adx (N:Nat) {y:List Int} {mu beta d:Int} (ay:Ai y=true) (hmu:Af mu=true) (hd:Af d=true) (h64:y.length≤64):∀ (k i F:Nat),i+1+k=y.length→k<F →
 A7.Dl.L2 N F y mu beta d ((i+1:Nat):Int) (I7 (i+1) fun j=>E4 (y.getD j 0) d)=some (.tup [.agg [.ints (.own 100004 tB) .u64 (I7 y.length fun j=>E4 (y.getD j 0) d),.int .u64 (E4 (Ec mu (y.getD 0 0)) mu),.int .u64 beta],.bool true]):=by
 intro k
 induction k with
 | zero =>
   intro i F hi hF
   obtain ⟨F,rfl⟩:∃ G,F=G+1:=⟨F-1,by omega⟩
   have hy:=Ij ay 0
   rw [A7.Dl.H7,Au,A1m (by omega),A1l,A1i (show (0:Int)<(y.length:Int) by omega),A1h,A1i (show 0<y.length by omega),A1h,hmu,hy,A1n,A1h,Oq hmu hy,A1n,A1h,show i+1=y.length by omega]
 | succ k ih =>
   intro i F hi hF
   obtain ⟨F,rfl⟩:∃ G,F=G+1:=⟨F-1,by omega⟩
   rw [A7.Dl.H7,Au,A1i (show ((i+1:Nat):Int)<(y.length:Int) by omega),A1h,A1i (show (0:Int)≤((i+1:Nat):Int) by omega),A1n,A1h,A1j,A1i (show i+1<y.length by omega),A1h,Ij ay,hd,A1n,A1h,A1i (by rw [Pv (by omega)]; unfold G0; omega),A1h,Am (by omega) (by omega)]
   have:=ih (i+1) F (by omega) (by omega)
   rw [J0 (i+1+1) (i+1) _ rfl,He] at this
   rw [J0 (i+1) i _ rfl]
   exact this
theorem Za (N:Nat) {x:List Int} (hx:Cp x=true) (hl:x.length≤64):∀ (k i F:Nat),i+k=x.length→k<F →
 A7.Dl.L1 N F x (i:Int) ((x.take i).map fun b=>Bp b (-Bs (Bg x)))=A7.Dl.L1 N (F-k) x (x.length:Int) (Bo x (-Bs (Bg x))):=by
 obtain ⟨_,hu⟩:=Iq hx
 have he:=Aam (Bg x)
 intro k
 induction k with
 | zero =>
   intro i F hi hF
   rw [show i=x.length by omega,List.take_of_length_le (A2b _)]; rfl
 | succ k ih =>
   intro i F hi hF
   obtain ⟨F,rfl⟩:∃ G,F=G+1:=⟨F-1,by omega⟩
   rw [A7.Dl.B8,Au,A1i (show (i:Int)<(x.length:Int) by omega),A1h,A1i (show (0:Int)≤(i:Int) by omega),A1n,A1h,A1j,Am (x:=(0:Int)-Bs (Bg x)) (by omega) (by omega),show (0:Int)-Bs (Bg x)=-Bs (Bg x) by omega,
    show Di (getD x i 0) (-Bs (Bg x))=true from Ae.2 ⟨hu i (by omega),Ar.2 (by omega)⟩,A1h,A1i (by rw [A2n,List.length_take]; unfold G0; omega),A1h,Am (by omega) (by omega)]
   have:=ih (i+1) F (by omega) (by omega)
   rw [Yr (by omega)] at this
   rw [show F+1-(k+1)=F-k by omega]
   exact this
theorem A7.Dl.known:A7.Dl.Kn:=A7.Dl.Ac (.cons A1.Finite.known (.cons A1.De.known (.cons A1.Neg.known (.cons Bn.Ku.known (.cons Aj.Bq.known (.cons Aj.Div.known (.cons Aj.Norm.known (.cons Aj.Br.known (.cons Aj.Sub.known (.cons A7.lead.known (.cons A7.Bt.known .nil))))))))))) fun x hp=>by
 obtain ⟨hx,hl⟩:=Ae.1 (show (Cp x&&Cz (1≤length x∧length x≤64))=true from hp)
 have hl:=Ar.1 hl
 have al:=Sr hx
 have he:=Aam (Bg x)
 show ∃ N dv drops,_=some dv∧Wk drops dv (DV.tup [.agg [.ints .fresh .u64 (Jm x).1,.int .u64 (Jm x).2.1,.int .u64 (Jm x).2.2.1],.bool (decide ((Jm x).2.2.2=0))])
 have hrun:=A7.Dl.ev 66 x
 rw [hx,A1h] at hrun
 unfold Jm
 by_cases h3:Dr (x.drop 1)=true
 ·rw [h3,A1h] at hrun
  rw [A14 h3]
  exact ⟨66,_,[100004],hrun.trans (Aa5 66 (by omega) (x.length-1) 0 66 (by omega) (by omega)),Wk.Ha (.cons (Wk.Hk (.cons (.drop _ _ _ _ (List.mem_singleton.2 rfl)) (.cons .int (.cons .int .nil)))) (.cons .bool .nil))⟩
 ·rw [A13 h3]
  have h3:Dr (x.drop 1)=false:=by simpa using h3
  rw [h3,A1l,A1h,Oy,A1h] at hrun
  have hs:=Za 66 hx hl.2 x.length 0 66 (by omega) (by omega)
  have hrun:=hrun.trans hs
  obtain ⟨j,j1,j2,j3⟩:=Ak7 x 0 (Ad6 h3)
  rw [A2r] at j1
  have j1:Qs x 0=(j:Int):=j1
  have ly:=Abr x (-Bs (Bg x))
  have ay:=Abt (-Bs (Bg x)) al
  have oky:Cp (Bo x (-Bs (Bg x)))=true:=Jj ay (by omega)
  have iy:=Ij ay 0
  have gy:=R4 (x:=x) (k:=-Bs (Bg x)) (j:=0) (by omega)
  have sp:∀ mu:Int,Af mu=true→Di mu (Bs (Bg x))=true:=fun mu h=>Ae.2 ⟨h,Ar.2 (by omega)⟩
  have ny:=Yb (Bo x (-Bs (Bg x)))
  obtain ⟨F,hF⟩:∃ F,66-x.length=F+1:=⟨65-x.length,by omega⟩
  have key:∀ mu:Int,Xv x=mu→Af mu=true→A7.Dl.L2 66 66 (Bo x (-Bs (Bg x))) mu (Bp mu (Bs (Bg x))) (Ec ((Bo x (-Bs (Bg x))).getD 0 0) mu) 1 [4607182418800017408]=some (.tup [.agg [.ints (.own 100004 tB) .u64 (P6 x),.int .u64 (Qv x),.int .u64 (Eu x)],.bool true]):=by
   intro mu hmu hi
   have:=Adx 66 (y:=Bo x (-Bs (Bg x))) (mu:=mu) (beta:=Bp mu (Bs (Bg x))) (d:=Ec ((Bo x (-Bs (Bg x))).getD 0 0) mu) ay hi (Oq iy hi) (by omega) (x.length-1) 0 66 (by omega) (by omega)
   have e1:I7 (Bo x (-Bs (Bg x))).length (fun j=>E4 (getD (Bo x (-Bs (Bg x))) j 0) (Ec (getD (Bo x (-Bs (Bg x))) 0 0) mu))=P6 x:=by
    unfold P6
    rw [ly,gy,← hmu]
    exact Abv fun j hj=>by rw [R4 hj]; rfl
   have e2:E4 (Ec mu (getD (Bo x (-Bs (Bg x))) 0 0)) mu=Qv x:=by
    unfold Qv
    rw [gy,hmu]; rfl
   have e3:Bp mu (Bs (Bg x))=Eu x:=by unfold Eu; rw [hmu]
   rw [e1,e2] at this
   rw [e3] at this ⊢
   exact this
  have fin:∀ (b:Bool) (d:Option DV),Ck (Eu x)=b→(d=bif (!b) then some (.tup [.agg [.nil,.int .u64 (0:Int),.int .u64 (0:Int)],.bool false]) else some (.tup [.agg [.ints (.own 100004 tB) .u64 (P6 x),.int .u64 (Qv x),.int .u64 (Eu x)],.bool true])) →
   ∃ dv drops,d=some dv∧Wk drops dv (DV.tup [.agg [.ints .fresh .u64 (if Ck (Eu x)=true then (P6 x,Qv x,Eu x,(0:Int)) else ([],0,0,2)).1,.int .u64 (if Ck (Eu x)=true then (P6 x,Qv x,Eu x,(0:Int)) else ([],0,0,2)).2.1,.int .u64 (if Ck (Eu x)=true then (P6 x,Qv x,Eu x,(0:Int)) else ([],0,0,2)).2.2.1],.bool (decide ((if Ck (Eu x)=true then (P6 x,Qv x,Eu x,(0:Int)) else ([],0,0,2)).2.2.2=0))]):=by
   intro b d hb h
   cases b with
   | true =>
     rw [hb,A14 rfl]
     exact ⟨_,[100004],h,Wk.Ha (.cons (Wk.Hk (.cons (.drop _ _ _ _ (List.mem_singleton.2 rfl)) (.cons .int (.cons .int .nil)))) (.cons .bool .nil))⟩
   | false =>
     rw [hb,A13 (by decide)]
     exact ⟨_,[],h,Wk.Ha (.cons (Wk.Hk (.cons Ml (.cons .int (.cons .int .nil)))) (.cons .bool .nil))⟩
  have go:=fin (Ck (Eu x)) _ rfl (hrun.trans ?_)
  ·obtain ⟨dv,drops,k1,k2⟩:=go
   exact ⟨66,dv,drops,k1,k2⟩
  have hlead:=Ye al
  rw [hF,A7.Dl.B8,Au,A1m (show ¬ (x.length:Int)<(x.length:Int) by omega),A1l,oky,A1h,hx,A1h,j1,A1i (show (0:Int)≤(j:Int) by omega),A1i (show (j:Int)<(x.length:Int) by omega),A1n,A1h,A1j,j3,hlead,A1h]
  have d1:decide ((0:Int)<((Bo x (-Bs (Bg x))).length:Int))=true:=A1i (by omega)
  have d2:decide (0<(Bo x (-Bs (Bg x))).length)=true:=A1i (by omega)
  cases hn:D0 (Mj x) with
  | true =>
    have hm:Xv x=Da (Bo x (-Bs (Bg x))):=by unfold Xv; rw [A14 hn]
    have eb:Eu x=Bp (Da (Bo x (-Bs (Bg x)))) (Bs (Bg x)):=by unfold Eu; rw [hm]
    rw [A2g,A1l,sp _ ny,A1h,Hd ny,A1h,key _ hm ny,d1,A1h,d2,A1h,iy,ny,A1n,A1h,eb]
  | false =>
    have hm:Xv x=Cr (Da (Bo x (-Bs (Bg x)))):=by unfold Xv; rw [A13 (by rw [hn]; decide)]
    have my:=Zw ny
    have eb:Eu x=Bp (Cr (Da (Bo x (-Bs (Bg x))))) (Bs (Bg x)):=by unfold Eu; rw [hm]
    rw [A20,A1h,ny,A1h,sp _ my,A1h,Hd my,A1h,key _ hm my,d1,A1h,d2,A1h,iy,my,A1n,A1h,eb]
open EqRef13 EqRef14
theorem Akj {c b i:Int} {l:List Int} {n j:Nat} (h:j<n):(Ct c l b i n).getD j 0=Eb c l (i+(j:Int)) b:=by
 unfold Ct
 rw [A1r,A2y,List.getElem?_range h]; rfl
theorem Q0 (a c b:Nat):toNat ((a:Int)*(c:Int)+(b:Int))=a*c+b:=by rw [← A12,← Int.natCast_add,A1j]
section
variable {R C i k:Nat} {l v:List Int} {t:Int}
theorem Zc (N M0:Nat) (r6:R≤6) (c6:C≤6) (al:Ai l=true) (av:Ai v=true) (hv:i+v.length≤R) {c:Nat} (hc:c<C) (hk:k≤c):∀ (cnt j F:Nat),j+cnt=v.length→cnt<F →
 A7.Apply.L1 N M0 F (R:Int) (C:Int) l (i:Int) v t (j:Int) (apS R C l i k v t c j) (c:Int) (Ct (C:Int) l (c:Int) (i:Int) (R-i)) (Rp (C:Int) l (i:Int) v t (c:Int)) =
 A7.Apply.L0 N M0 (R:Int) (C:Int) l (i:Int) v t ((c+1:Nat):Int) (apS R C l i k v t (c+1) 0):=by
 intro cnt
 induction cnt with
 | zero =>
   intro j F hj hF
   obtain ⟨F,rfl⟩:∃ G,F=G+1:=⟨F-1,by omega⟩
   obtain rfl:j=v.length:=by omega
   rw [A7.Apply.B8,Au,A1m (by omega),A1l,Am (by omega) (by omega),Ahu]
   rfl
 | succ cnt ih =>
   intro j F hj hF
   obtain ⟨F,rfl⟩:∃ G,F=G+1:=⟨F-1,by omega⟩
   have e1:Ab ((i:Int)+(j:Int))=((i+j:Nat):Int):=by rw [Am (by omega) (by omega)]; omega
   have hat:C0 (R:Int) (C:Int) (apS R C l i k v t c j) ((i+j:Nat):Int) (c:Int)=true:=D1 r6 c6 (Alv c j) (by omega) hc
   have sl:=Gk (C:Int) (c:Int) (i:Int) (R-i) l
   have a1:=Ij av j
   have a2:=Ij (Nk (c:=(C:Int)) (b:=(c:Int)) (i:=(i:Int)) (n:=R-i) al) j
   have a3:Af (Rp (C:Int) l (i:Int) v t (c:Int))=true:=Io _ _
   have hx:Ec ((Ct (C:Int) l (c:Int) (i:Int) (R-i)).getD j 0) (C5 (Rp (C:Int) l (i:Int) v t (c:Int)) (v.getD j 0))=Mh (C:Int) l (i:Int) (k:Int) v t ((i+j:Nat):Int) (c:Int):=by
    rw [Ahs hk (by omega),Akj (by omega),Akj (by omega)]
   rw [A7.Apply.B8,Au,A1i (show (j:Int)<(v.length:Int) by omega),A1h,e1,sl,A1i (show (0:Int)≤(j:Int) by omega),A1i (show (j:Int)<((R-i:Nat):Int) by omega),A1n,A1h,A1h,A1j,a3,a1,A1n,A1h,a2,Io,A1n,A1h,hat,A1h,
    Q0,Alu hc hk (by omega) hx,Am (by omega) (by omega)]
   exact ih (j+1) F (by omega) (by omega)
theorem Zd (N:Nat) (r6:R≤6) (c6:C≤6) (hN:7<N) (hr:A2 (R:Int) (C:Int) l=true) (al:Ai l=true) (av:Ai v=true) (ht:Af t=true) (hv:i+v.length≤R):∀ (cnt c F:Nat),c+cnt=C→k≤c→cnt<F →
 A7.Apply.L0 N F (R:Int) (C:Int) l (i:Int) v t (c:Int) (apS R C l i k v t c 0) =
 some (.agg [.int .i64 (R:Int),.int .i64 (C:Int),.ints .arg .u64 (E2 R C l (i:Int) (k:Int) v t)]):=by
 intro cnt
 induction cnt with
 | zero =>
   intro c F hc hk hF
   obtain ⟨F,rfl⟩:∃ G,F=G+1:=⟨F-1,by omega⟩
   obtain rfl:c=C:=by omega
   rw [A7.Apply.Av,Au,A1m (by omega),A1l,Alw]
 | succ cnt ih =>
   intro c F hc hk hF
   obtain ⟨F,rfl⟩:∃ G,F=G+1:=⟨F-1,by omega⟩
   have cp:Hj (R:Int) (C:Int) l (c:Int)=true:=Ae.2 ⟨hr,Ar.2 (by omega)⟩
   have e0:toNat ((R:Int)-(i:Int))=R-i:=by omega
   have st:=Afw (c:=(C:Int)) (b:=(c:Int)) (i:=(i:Int)) (l:=l) (m:=v.length) (n:=R-i) (by omega)
   have sl2:=Gk (C:Int) (c:Int) (i:Int) (R-i) l
   have sl:=Gk (C:Int) (c:Int) (i:Int) v.length l
   have sa:=Nk (c:=(C:Int)) (b:=(c:Int)) (i:=(i:Int)) (n:=v.length) al
   have ft:Pk v (Ct (C:Int) l (c:Int) (i:Int) v.length)=true:=Sj.2 ⟨by omega,by omega⟩
   rw [A7.Apply.Av,Au,A1i (by omega),A1h,cp,Ar.2 (show 0≤(i:Int)∧(i:Int)≤(R:Int) by omega),A1n,A1h,e0,A1j,st,sl2,
    A1i (show (0:Int)≤(v.length:Int) by omega),A1i (show (v.length:Int)≤((R-i:Nat):Int) by omega),A1n,A1h,ft,av,sa,A1n,A1n,A1h,ht,Sn,A1n,A1h]
   have:=Zc (t:=t) N F r6 c6 al av hv (show c<C by omega) hk v.length 0 N (by omega) (by omega)
   exact this.trans (ih (c+1) F (by omega) (by omega) (by omega))
end
theorem A7.Apply.known:A7.Apply.Kn:=A7.Apply.Ac (.cons Aj.Ht.known (.cons Aj.Mul.known (.cons Aj.Sub.known (.cons Ak.Po.known (.cons Ak.Fx.arg.known .nil))))) fun r c l i k v t hp=>by
 obtain ⟨h1,ht⟩:=Ae.1 (show (((A2 r c l&&H5 r c i k v)&&(Ai l&&Ai v))&&Af t)=true from hp)
 obtain ⟨h2,h3⟩:=Ae.1 h1
 obtain ⟨hr,hb⟩:=Ae.1 h2
 obtain ⟨al,av⟩:=Ae.1 h3
 have hb:=A17 hb
 obtain ⟨R,C,rfl,rfl,r6,c6,hl⟩:=Ci hr
 obtain ⟨i,rfl⟩:∃ j:Nat,i=j:=⟨i.toNat,by omega⟩
 obtain ⟨k,rfl⟩:∃ j:Nat,k=j:=⟨k.toNat,by omega⟩
 refine ⟨8,A7.Apply.out [.i (R:Int),.i (C:Int),.l l,.i (i:Int),.i (k:Int),.l v,.i t],[],?_,Wk.Hk (.cons .int (.cons .int (.cons .X0 .nil)))⟩
 show _=some (DV.agg [.int .i64 (R:Int),.int .i64 (C:Int),.ints .arg .u64 (E2 (toNat (R:Int)) (toNat (C:Int)) l (i:Int) (k:Int) v t)])
 rw [A7.Apply.ev,A1j,A1j]
 have:=Zd (R:=R) (C:=C) (i:=i) (k:=k) (l:=l) (v:=v) (t:=t) 8 r6 c6 (by omega) hr al av ht (by omega) (C-k) k 8 (by omega) (by omega) (by omega)
 rw [Aht hl] at this
 exact this
theorem Aml (N:Nat) {R C j:Nat} {l:List Int} {x:Int} (r6:R≤6) (c6:C≤6) (hj:j<C):∀ (cnt i F:Nat),i+cnt=R→j<i→cnt<F →
 B1.Dg.L0 N F (R:Int) (C:Int) (j:Int) (i:Int) (clS R C l j x i)=some (.agg [.int .i64 (R:Int),.int .i64 (C:Int),.ints .arg .u64 (La R C l j x)]):=by
 intro cnt
 induction cnt with
 | zero =>
   intro i F hi hji hF
   obtain ⟨F,rfl⟩:∃ G,F=G+1:=⟨F-1,by omega⟩
   obtain rfl:i=R:=by omega
   rw [B1.Dg.Av,Au,A1m (by omega),A1l,Alq]
 | succ cnt ih =>
   intro i F hi hji hF
   obtain ⟨F,rfl⟩:∃ G,F=G+1:=⟨F-1,by omega⟩
   have hat:C0 (R:Int) (C:Int) (clS R C l j x i) (i:Int) (j:Int)=true:=D1 r6 c6 (Alp i) (by omega) hj
   rw [B1.Dg.Av,Au,A1i (by omega),A1h,hat,A1h,Q0,Alo hj hji,Am (by omega) (by omega)]
   exact ih (i+1) F (by omega) (by omega) (by omega)
theorem B1.Dg.known:B1.Dg.Kn:=B1.Dg.Ac (.cons Ak.Fx.arg.known .nil) fun r c l j b hp=>by
 obtain ⟨hr,hj⟩:=Ae.1 (show (A2 r c l&&Cz (0≤j∧j<r∧j<c))=true from hp)
 have hj:=Ar.1 hj
 obtain ⟨R,C,rfl,rfl,r6,c6,hl⟩:=Ci hr
 obtain ⟨j,rfl⟩:∃ i:Nat,j=i:=⟨j.toNat,by omega⟩
 refine ⟨8,.agg [.int .i64 (R:Int),.int .i64 (C:Int),.ints .arg .u64 (La R C l j b)],[],?_,?_⟩
 ·rw [B1.Dg.ev,D1 r6 c6 hl (by omega) (by omega),A1h,Q0,Wx hl (by omega),Am (by omega) (by omega)]
  exact Aml 8 r6 c6 (by omega) (R-(j+1)) (j+1) 8 (by omega) (by omega) (by omega)
 ·show Wk _ _ (DV.agg [.int .i64 (R:Int),.int .i64 (C:Int),.ints .arg .u64 (La (toNat (R:Int)) (toNat (C:Int)) l (toNat (j:Int)) b)])
  rw [A1j,A1j,A1j]
  exact Wk.Hk (.cons .int (.cons .int (.cons .X0 .nil)))
def W3 (rows:List (List DV)) (ms:List (List Int × Int)):Prop:=rows.length=ms.length∧∀ i,i<ms.length→∃ b:Int,rows.getD i []=[.ints .arg .u64 (ms.getD i ([],0)).1,.int .u64 (ms.getD i ([],0)).2,.int .u64 b]
theorem W3.A0t {rows:List (List DV)} {ms:List (List Int × Int)} (h:W3 rows ms) (v:List Int) (t b:Int):W3 (rows++[[.ints .arg .u64 v,.int .u64 t,.int .u64 b]]) (ms++[(v,t)]):=by
 refine ⟨by rw [A19,A19,h.1]; rfl,fun i hi=>?_⟩
 rw [A19] at hi
 by_cases hlt:i<ms.length
 ·obtain ⟨b',hb⟩:=h.2 i hlt
  refine ⟨b',?_⟩
  rw [A1r,List.getElem?_append_left (by rw [h.1]; exact hlt),← A1r,hb,A1r (l:=ms++_),List.getElem?_append_left hlt,← A1r]
 ·have he:i=ms.length:=by
   have:i<ms.length+1:=hi
   omega
  refine ⟨b,?_⟩
  rw [A1r,A2v (by rw [h.1]; omega),A1r (l:=ms++_),A2v (by omega),he,h.1,Nat.sub_self]
  rfl
def Aqa:DV:=.agg [.int .i64 0,.int .i64 0,.nil,.int .i64 0,.int .i64 0,.nil,.bool false]
theorem Aqn {x:List Int} (h0:x.length≠0) (h:x.length≤64) (hf:C2 x=true):Cf x=Jm x:=by
 unfold Cf; rw [A13 (by omega),A14 hf]
theorem Aa8 (N:Nat) {R C:Nat} (l0:List Int) (r6:R≤6) (c6:C≤6):∀ (cnt j F:Nat) (l:List Int) (rows:List (List DV)) (ms:List (List Int × Int)),j+cnt=Ih R C→cnt<F→l.length=R*C→Ai l=true→ms.length=j→W3 rows ms →
 (J4 R C cnt j l=none→B1.By.L0 N F (R:Int) (C:Int) l0 (j:Int) l rows=some Aqa) ∧
 (∀ x,J4 R C cnt j l=some x→∃ rows',W3 rows' (ms++x.2)∧B1.By.L0 N F (R:Int) (C:Int) l0 (j:Int) l rows=B1.By.L1 N N (R:Int) (C:Int) (Ab ((rows'.length:Int)-1)) x.1 rows' (Jd R)):=by
 intro cnt
 induction cnt with
 | zero =>
   intro j F l rows ms hj hF hl al hms hrows
   obtain ⟨F,rfl⟩:∃ G,F=G+1:=⟨F-1,by omega⟩
   unfold Ih at hj
   have hlt:(A6 (j:Int) (C:Int)&&A6 (j:Int) (Ab ((R:Int)-1)))=false:=by
    rw [Au,Au,Am (by omega) (by omega),Bool.and_eq_false_iff,A10,A10]; omega
   refine ⟨fun h=>(by cases h),fun x hx=>?_⟩
   cases hx
   refine ⟨rows,by rw [List.append_nil]; exact hrows,?_⟩
   rw [B1.By.Av,hlt,A1l,Mn r6,A1h,A1j]
 | succ cnt ih =>
   intro j F l rows ms hj hF hl al hms hrows
   obtain ⟨F,rfl⟩:∃ G,F=G+1:=⟨F-1,by omega⟩
   have hj0:=hj
   unfold Ih at hj
   have hr:=Ft r6 c6 hl
   have hlt:(A6 (j:Int) (C:Int)&&A6 (j:Int) (Ab ((R:Int)-1)))=true:=by
    rw [Au,Au,Am (by omega) (by omega),A1i (by omega),A1i (by omega)]; rfl
   have cp:Hj (R:Int) (C:Int) l (j:Int)=true:=Ae.2 ⟨hr,Ar.2 (by omega)⟩
   have ec:Ct (C:Int) l (j:Int) (j:Int) (toNat ((R:Int)-(j:Int)))=Ev R C l j:=by unfold Ev; rw [show toNat ((R:Int)-(j:Int))=R-j by omega]
   have ca:Ai (Ev R C l j)=true:=Nk al
   have cl:(Ev R C l j).length=R-j:=Gk _ _ _ _ _
   have cok:=Jj ca (by omega)
   rw [B1.By.Av,hlt,A1h,cp,Ar.2 (show 0≤(j:Int)∧(j:Int)≤(R:Int) by omega),A1n,A1h,ec,cok,A1h,A1j,A1j,A1j]
   unfold J4
   by_cases hf:C2 (Ev R C l j)=true
   ·have hmk:=Aqn (x:=Ev R C l j) (by omega) (by omega) hf
    rw [hf,A2g,A1l,Ar.2 (show 1≤(Ev R C l j).length∧(Ev R C l j).length≤64 by omega),A1n,A1h,← hmk]
    by_cases he:(Cf (Ev R C l j)).2.2.2=0
    ·have hml:=Vb he
     have hma:=Vc ca
     have hap:H5 (R:Int) (C:Int) (j:Int) (j:Int) (Cf (Ev R C l j)).1=true:=A1i (by omega)
     have hlen:=Lk R C l (j:Int) (j:Int) (Cf (Ev R C l j)).1 (Cf (Ev R C l j)).2.1
     have hn:=ih (j+1) F (Wj R C l j) (rows++[[.ints .arg .u64 (Cf (Ev R C l j)).1,.int .u64 (Cf (Ev R C l j)).2.1,.int .u64 (Cf (Ev R C l j)).2.2.1]]) (ms++[((Cf (Ev R C l j)).1,(Cf (Ev R C l j)).2.1)]) (by omega) (by omega) (Oc _ _ _ _) (Va al j) (by rw [A19,hms]; rfl) (hrows.A0t _ _ _)
     rw [A14 he,A1i he,A2g,A1l,hr,hap,al,hma.1,hma.2.1,A1n,A1n,A1n,A1h,Ft r6 c6 hlen,Ar.2 (show 0≤(j:Int)∧(j:Int)<(R:Int)∧(j:Int)<(C:Int) by omega),A1n,A1h,A1i (show rows.length+1≤Agu by rw [hrows.1]; unfold Agu; omega),A1h,Am (by omega) (by omega)]
     refine ⟨fun h=>?_,fun x hx=>?_⟩
     ·rw [Option.map_eq_none_iff] at h
      exact hn.1 h
     ·rw [Option.map_eq_some_iff] at hx
      obtain ⟨y,hy,rfl⟩:=hx
      obtain ⟨rows',h1,h2⟩:=hn.2 y hy
      refine ⟨rows',?_,h2⟩
      rw [List.append_assoc] at h1
      exact h1
    ·rw [A13 he,A1m he,A20,A1h]
     exact ⟨fun _=>rfl,fun x hx=>(by cases hx)⟩
   ·have hf':C2 (Ev R C l j)=false:=by simpa using hf
    have he:(Cf (Ev R C l j)).2.2.2≠0:=by
     unfold Cf
     rw [A13 (by omega),A13 hf]
     exact (by decide:(4:Int)≠0)
    rw [hf',A20,A1h,A13 he]
    exact ⟨fun _=>rfl,fun x hx=>(by cases hx)⟩
theorem Aa9 (N:Nat) {R C:Nat} {L:List Int} (r6:R≤6) {ms:List (List Int × Int)} {rows:List (List DV)} (hrows:W3 rows ms) (hm:Ab7 R 0 ms) (aL:Cp L=true) (hn:ms.length≤6):∀ (j F:Nat),j≤ms.length→j<F →
 B1.By.L1 N F (R:Int) (C:Int) ((j:Int)-1) L rows (Gs R j (ms.drop j) (Jd R)) =
 bif (C2 (Gs R 0 ms (Jd R))&&C2 L) then some (.agg [.int .i64 (R:Int),.int .i64 (R:Int),.ints .arg .u64 (Gs R 0 ms (Jd R)),.int .i64 (R:Int),.int .i64 (C:Int),.ints .arg .u64 L,.bool true]) else some Aqa:=by
 have h36:=Ao9 r6
 intro j
 induction j with
 | zero =>
   intro F _ hF
   obtain ⟨F,rfl⟩:∃ G,F=G+1:=⟨F-1,by omega⟩
   have hb:=Sp R ms 0 (Jd R) (Sm R) (by unfold Jd; exact Cc _ _ _)
   have ok1:Cp (Gs R 0 ms (Jd R))=true:=Jj hb.1 (by omega)
   rw [B1.By.B8,Es,A1m (by omega),A1l,List.drop_zero,ok1,A1h,aL,A2t,A1h]
   cases C2 (Gs R 0 ms (Jd R)) with
   | false=>rfl
   | true=>cases C2 L<;>rfl
 | succ j ih =>
   intro F hj hF
   obtain ⟨F,rfl⟩:∃ G,F=G+1:=⟨F-1,by omega⟩
   have ej:(((j+1:Nat):Int))-1=(j:Int):=by omega
   have hg:=Wi hm j (by omega)
   have hb:=Sp R (ms.drop (j+1)) (j+1) (Jd R) (Sm R) (by unfold Jd; exact Cc _ _ _)
   have hr1:=Ft r6 r6 hb.2
   have hap:H5 (R:Int) (R:Int) (j:Int) 0 (ms.getD j ([],0)).1=true:=A1i (by omega)
   obtain ⟨b,hrow⟩:=hrows.2 j (by omega)
   rw [B1.By.B8,ej,Es,A1i (show (0:Int)≤(j:Int) by omega),A1h,hrows.1,A1i (show (j:Int)<(ms.length:Int) by omega),A1n,A1h,A1j,A1i (show j<ms.length by omega),hrow,A1j]
   show (bif true then bif true then bif true then (bif (((A2 (R:Int) (R:Int) (Gs R (j+1) (ms.drop (j+1)) (Jd R))&&H5 (R:Int) (R:Int) (j:Int) (0:Int) (ms.getD j ([],0)).1)&&(Ai (Gs R (j+1) (ms.drop (j+1)) (Jd R))&&Ai (ms.getD j ([],0)).1))&&Af (ms.getD j ([],0)).2) then
    B1.By.L1 N F (R:Int) (C:Int) (Ab ((j:Int)-(1:Int))) L rows (E2 R R (Gs R (j+1) (ms.drop (j+1)) (Jd R)) (j:Int) (0:Int) (ms.getD j ([],0)).1 (ms.getD j ([],0)).2) else none) else none else none else none)=_
   rw [A1h,A1h,A1h,hr1,hap,hb.1,hg.1,hg.2.1,A1n,A1n,A1n,A1h,Am (by omega) (by omega),← Acz (by omega)]
   exact ih F (by omega) (by omega)
theorem Avl {drops:List Nat} {e:Int}:Wk drops Aqa (DV.agg [.int .i64 (Ls e).1,.int .i64 (Ls e).2.1,.ints .arg .u64 (Ls e).2.2.1,.int .i64 (Ls e).1,.int .i64 (Ls e).2.1,.ints .arg .u64 (Ls e).2.2.1,.bool false]) :=
 Wk.Hk (.cons .int (.cons .int (.cons Ml (.cons .int (.cons .int (.cons Ml (.cons .bool .nil)))))))
theorem B1.By.known:B1.By.Kn:=B1.By.Ac (.cons Aj.Finite.known (.cons Ak.Po.known (.cons Ak.Ep.arg.known (.cons A7.Apply.known (.cons A7.Dl.known (.cons B1.Dg.known .nil)))))) fun r c l hp=>by
 obtain ⟨h1,al⟩:=Ae.1 (show ((A2 r c l&&C2 l)&&Ai l)=true from hp)
 obtain ⟨hr,hf⟩:=Ae.1 h1
 have hc:B9 r c l=0:=Arz hr hf
 obtain ⟨R,C,rfl,rfl,r6,c6,hl⟩:=Ci hr
 show ∃ N dv drops,_=some dv∧Wk drops dv (DV.agg [.int .i64 (qX (R:Int) (C:Int) l).1,.int .i64 (qX (R:Int) (C:Int) l).2.1,.ints .arg .u64 (qX (R:Int) (C:Int) l).2.2.1,.int .i64 (rX (R:Int) (C:Int) l).1,.int .i64 (rX (R:Int) (C:Int) l).2.1,.ints .arg .u64 (rX (R:Int) (C:Int) l).2.2.1,.bool (decide (E0 (R:Int) (C:Int) l=0))])
 have hfe:=Sl hc
 rw [A1j,A1j] at hfe
 have hrun:=B1.By.ev 8 (R:Int) (C:Int) l
 obtain ⟨d1,d2⟩:=Aa8 8 l r6 c6 (Ih R C) 0 8 l [] [] (by omega) (by unfold Ih; omega) hl al rfl ⟨rfl,fun i h=>absurd h (Nat.not_lt_zero _)⟩
 have bad:∀ d:Option DV,E0 (R:Int) (C:Int) l=2→d=some Aqa→∃ dv drops,d=some dv∧Wk drops dv (DV.agg [.int .i64 (qX (R:Int) (C:Int) l).1,.int .i64 (qX (R:Int) (C:Int) l).2.1,.ints .arg .u64 (qX (R:Int) (C:Int) l).2.2.1,.int .i64 (rX (R:Int) (C:Int) l).1,.int .i64 (rX (R:Int) (C:Int) l).2.1,.ints .arg .u64 (rX (R:Int) (C:Int) l).2.2.1,.bool (decide (E0 (R:Int) (C:Int) l=0))]):=fun d he h=>by
  obtain ⟨e1,e2⟩:=Zf he (by decide)
  rw [e1,e2,he]
  exact ⟨Aqa,[],h,Avl⟩
 cases hx:Jg R C l with
 | none =>
   have hfo:Kk R C l=false:=by unfold Kk; rw [hx]; rfl
   rw [hfo,A13 (by decide)] at hfe
   obtain ⟨dv,drops,k1,k2⟩:=bad _ hfe (hrun.trans (d1 hx))
   exact ⟨8,dv,drops,k1,k2⟩
 | some x =>
   obtain ⟨x1,x2,x3,x4⟩:=Ahf hl al hx
   obtain ⟨rows,hrows,hd⟩:=d2 x hx
   rw [List.nil_append] at hrows
   have h36:=A2d r6 c6
   have hn:x.2.length≤6:=by rw [x3]; unfold Ih; omega
   have hb:=Aa9 8 (C:=C) r6 hrows x4 (Jj x1 (by omega)) hn x.2.length 8 (A2b _) (by omega)
   rw [A1v (A2b _)] at hb
   rw [hrows.1,Am (by omega) (by omega)] at hd
   have hd:=hd.trans hb
   have hq:K9 R C l=Gs R 0 x.2 (Jd R):=by unfold K9; rw [hx]
   have hrr:Jo R C l=x.1:=by unfold Jo; rw [hx]
   have hfo:Kk R C l=(C2 (Gs R 0 x.2 (Jd R))&&C2 x.1):=by unfold Kk; rw [hx,hq,hrr]; rfl
   rw [← hfo,← hq,← hrr] at hd
   cases hk:Kk R C l with
   | false =>
     rw [hk,A13 (by decide)] at hfe
     rw [hk,A1l] at hd
     obtain ⟨dv,drops,k1,k2⟩:=bad _ hfe (hrun.trans hd)
     exact ⟨8,dv,drops,k1,k2⟩
   | true =>
     rw [hk,A14 rfl] at hfe
     rw [hk,A1h] at hd
     obtain ⟨e1,e2⟩:=X6 hfe
     rw [e1,e2,hfe,A1j,A1j]
     exact ⟨8,_,[],hrun.trans hd,Wk.Hk (.cons .int (.cons .int (.cons .X0 (.cons .int (.cons .int (.cons .X0 (.cons .bool .nil)))))))⟩
namespace EqLow
def A3.Flat.hint:Nat→Option Be
 | 0=>some { keep:=[1,3,4],objs:=[],boxes:=[1] }
 | 2=>some { keep:=[1,3,5],objs:=[],boxes:=[1] }
 | _=>none
def A3.Flat.A9:List (Nat × Entry):=[(94,Bn.G1.spec),(93,Bn.Max.spec),(95,Bn.Order.spec),(96,Aj.Br.spec),(80,Ak.At.spec)]
def A3.Flat.E:Env:=Ba (A8 A3.Flat.A9) (fun _=>false) A3.Flat.hint (fun _=>none)
section
variable (N M:Nat) (r c:Int) (l:List Int) (p5 p3_1 p3 p4:Int)
def A3.Flat.L0:Option DV:=B2 A3.Flat.E N f26 (An f26) [1,1,0,1,0] [] M ⟨Gz 52 [(1,.ptr 1 0 0),(3,.int .u64 p3),(4,.int .i64 p4)],[(1,false,.box [.int .i64 r,.int .i64 c,.ints .arg .u64 l])]⟩
def A3.Flat.L1:Option DV:=B2 A3.Flat.E N f26 (An f26) [1,1,1,0,1,0] [] M ⟨Gz 52 [(1,.ptr 1 0 0),(3,.int .u64 p3_1),(5,.int .i64 p5)],[(1,false,.box [.int .i64 r,.int .i64 c,.ints .arg .u64 l])]⟩
theorem A3.Flat.Av:A3.Flat.L0 N (M+1) r c l p3 p4=bif ((A6 p4 r)&&(A6 p4 c)) then bif (C0 r c l p4 p4) then bif (Af (Eb c l p4 p4)) then bif (Af p3&&Af (It (Eb c l p4 p4))) then A3.Flat.L0 N M r c l (Pf p3 (It (Eb c l p4 p4))) (Ab (p4+1)) else none else none else none else A3.Flat.L1 N N r c l 0 p3 :=
 Eq.trans (by kernel_rfl)
 (Ax (Qq (A6 p4 r)) (Ax (Qq (A6 p4 r)) (Ax (Ma (A6 p4 r)) (Ax (Afi (A6 p4 r)) (Ax (Uf (A6 p4 r)) (C9 (tt1 (A6 p4 r) (A6 p4 c)) rfl rfl))))))
theorem A3.Flat.B8:A3.Flat.L1 N (M+1) r c l p5 p3_1=bif ((A6 p5 r)&&(A6 p5 c)) then bif (Di p3_1 (-40:Int)) then bif (C0 r c l p5 p5) then bif (Af (Eb c l p5 p5)) then bif (Af (Bp p3_1 (-40:Int))&&Af (It (Eb c l p5 p5))) then bif (Em 0 (Tp (Bp p3_1 (-40:Int)) (It (Eb c l p5 p5)))) then some (.bool true) else A3.Flat.L1 N M r c l (Ab (p5+1)) p3_1 else none else none else none else none else some (.bool false) :=
 Eq.trans (by kernel_rfl)
 (Ax (Qq (A6 p5 r)) (Ax (Qq (A6 p5 r)) (Ax (Ma (A6 p5 r)) (Ax (Afi (A6 p5 r)) (Ax (Uf (A6 p5 r)) (C9 (tt1 (A6 p5 r) (A6 p5 c)) (C9 (Cy (Di p3_1 (-40:Int))) (C9 (Cy (C0 r c l p5 p5)) (C9 (Cy (Af (Eb c l p5 p5))) (C9 (Cy (Af (Bp p3_1 (-40:Int))&&Af (It (Eb c l p5 p5)))) rfl rfl) rfl) rfl) rfl) rfl))))))
theorem A3.Flat.ev:Bw A3.Flat.E N f26 (An f26) [.agg [.int .i64 r,.int .i64 c,.ints .arg .u64 l]] =
 A3.Flat.L0 N N r c l 0 0:=by kernel_rfl
end
abbrev _root_.Go.Proofs.S1.A3.Flat.Kn:=A4 prog 26 A3.Flat.spec
theorem A3.Flat.Ac (hk:Az prog A3.Flat.A9) (h:Hyp A3.Flat.E f26 A3.Flat.ts A3.Flat.pre A3.Flat.out):A3.Flat.Kn :=
 Al (A0 hk _ _ _) func26 (by kernel_rfl) (by kernel_rfl) h
end EqLow
open EqLow
section
variable {n Q:Nat} {l m:List Int}
end
namespace EqLse
end EqLse
open EqLse
theorem Uu {r c:Int} {l:List Int} (h:A2 r c l=true):0≤r∧r≤6∧0≤c∧c≤6:=by
 obtain ⟨R,C,rfl,rfl,r6,c6,_⟩:=Ci h
 omega
theorem Ale {r c:Int} {l:List Int} (al:Ai l=true):Ai (Kj r c l).2.2.1=true:=by
 unfold Kj
 split
 ·exact al
 ·exact I6
theorem Awq (r c:Int) (l:List Int) (p q:Int) (m:List Int):Ai (loX r c l p q m).2.2.1=true:=by
 unfold loX
 split
 ·exact I6
 ·exact Ale (Gq fun i k=>Yh (Aqu _ _ _ _) i)
theorem Avp (r c:Int) (l:List Int) (p q:Int) (m:List Int):Ai (Ua r c l p q m).2.2.1=true:=by
 unfold Ua
 split
 ·exact I6
 ·exact Ale (Gq fun i k=>Yh (Ah7 _ _ _ _ _) i)
theorem Al8 {r c:Int} {l:List Int} {q:Int} {m:List Int} (al:Ai l=true) (am:Ai m=true) (i k:Int):Af (Ji r c l q m i k)=true:=by
 unfold Ji
 by_cases h:i<r
 ·rw [A14 h]; exact Ol al
 ·rw [A13 h]; exact Ol am
theorem Abp {r c:Int} {l:List Int} {p q:Int} {m:List Int} (al:Ai l=true) (am:Ai m=true):Ai (D5 r c l p q m).2.2.1=true:=by
 unfold D5
 by_cases h:(A2 r c l&&A2 p q m)=true
 ·rw [A14 h]
  by_cases h2:c=q∧r+p≤6
  ·rw [A14 h2]; exact (show Ai (Bv _ _ fun i k=>Ji r c l q m i k)=true from Gq fun _ _=>Al8 al am _ _)
  ·rw [A13 h2]; exact I6
 ·rw [A13 h]; exact I6
open EqMat EqOf
namespace EqRef20
def Ak.Stack.A9:List (Nat × Entry):=[]
def Ak.Stack.E:Env:=Ba (A8 Ak.Stack.A9) (fun _=>false) (fun _=>none) (fun _=>none)
theorem Ak.Stack.ev (N:Nat) (r c:Int) (l:List Int) (p q:Int) (m:List Int):Bw Ak.Stack.E N f72 (An f72) [.agg [.int .i64 r,.int .i64 c,.ints .arg .u64 l],.agg [.int .i64 p,.int .i64 q,.ints .arg .u64 m]]=bif (decide (0+(length l)≤G0)) then bif (decide ((length ([]++l))+(length m)≤G0)) then some (.agg [.int .i64 (Ab (r+p)),.int .i64 c,.ints (.own 20 37) .u64 (([]++l)++m)]) else none else none :=
 Eq.trans (by kernel_rfl)
 (Et (C9 (Cy (decide ((length ([]++l))+(length m)≤G0))) rfl rfl) rfl)
abbrev _root_.Go.Proofs.S1.Ak.Stack.Kn:=A4 prog 72 Ak.Stack.spec
theorem Ak.Stack.Ac (hk:Az prog Ak.Stack.A9) (h:Hyp Ak.Stack.E f72 Ak.Stack.ts Ak.Stack.pre Ak.Stack.out):Ak.Stack.Kn :=
 Al (A0 hk _ _ _) func72 (by kernel_rfl) (by kernel_rfl) h
end EqRef20
open EqOf EqRef20
theorem Ak.Stack.known:Ak.Stack.Kn:=Ak.Stack.Ac .nil fun r c l p q m hp=>by
 obtain ⟨h1,h2⟩:=Ae.1 (show ((A2 r c l&&A2 p q m)&&decide (q=c))=true from hp)
 obtain ⟨hr,hm⟩:=Ae.1 h1
 obtain ⟨R,C,rfl,rfl,r6,c6,hl⟩:=Ci hr
 obtain ⟨P,Q,rfl,rfl,p6,q6,hl2⟩:=Ci hm
 have h36:=A2d r6 c6
 have h36':=A2d p6 q6
 refine ⟨0,.agg [.int .i64 ((R:Int)+(P:Int)),.int .i64 (C:Int),.ints (.own 20 tB) .u64 (l++m)],[20],?_,Ym (List.mem_singleton.2 rfl)⟩
 rw [Ak.Stack.ev,List.nil_append,A1i (show 0+l.length≤G0 by unfold G0; omega),A1h,A1i (show l.length+m.length≤G0 by unfold G0; omega),A1h,Am (by omega) (by omega)]
theorem Yw {R P C:Nat} {l m:List Int} (hl:l.length=R*C) (hm:m.length=P*C) :
 (Bv (R+P) C fun (i k:Nat)=>Ji (R:Int) (C:Int) l (C:Int) m (i:Int) (k:Int))=l++m:=by
 have h:(l++m).length=(R+P)*C:=by rw [A19,hl,hm,A2l]
 conv=>rhs; rw [← Wq h]
 refine Ed fun i k hi hk=>?_
 unfold Ji
 by_cases hlt:(i:Int)<(R:Int)
 ·have:=K3 (r:=R) (c:=C) (i:=i) (k:=k) (by omega) hk
  rw [A14 hlt,Sq,Sq,A1r,A1r,List.getElem?_append_left (by omega)]
 ·have es:(i:Int)-(R:Int)=((i-R:Nat):Int):=by omega
  have e2:i*C=R*C+(i-R)*C:=by rw [← A2l]; congr 1; omega
  rw [A13 hlt,es,Sq,Sq,A1r,A1r,A2v (by omega),hl,e2]
  congr 2; omega
open EqLse
section
variable {N:Nat} {r c p q a b u v:Int} {l m g h:List Int} {w one two done f y Q z:MX}
end
open EqRef14 EqLow
theorem Arf {c:Int} {l:List Int} {i k:Int} (h:C2 l=true):Ck (Eb c l i k)=true:=by
 unfold Eb
 rw [A1r]
 cases hx:l[(i*c+k).toNat]? with
 | none=>exact (by decide:Ck 0=true)
 | some x =>
   unfold C2 at h
   exact List.all_eq_true.1 h x (List.mem_of_getElem? hx)
theorem Ag8 {r c:Nat} {f:Nat→Nat→Int} (h:∀ i k,Ck (f i k)=true):C2 (Bv r c f)=true:=by
 unfold C2
 rw [List.all_eq_true]
 intro x hx
 obtain ⟨j,_,rfl⟩:=List.mem_map.1 hx
 exact h _ _
theorem Adi {r c:Int} {l:List Int} (al:Ai l=true) (h:E0 r c l=0):∃ R C:Nat,r=R∧c=C∧R≤6∧C≤6∧l.length=R*C ∧
 D8 r c l=((R:Int),((min R C:Nat):Int),Bv R (min R C) (fun i k=>Eb (R:Int) (K9 R C l) (0+(i:Int)) (0+(k:Int))),0) ∧
 H8 r c l=(((min R C:Nat):Int),(C:Int),Bv (min R C) C (fun i k=>Eb (C:Int) (Jo R C l) (0+(i:Int)) (0+(k:Int))),0) ∧
 Ai (K9 R C l)=true∧Ai (Jo R C l)=true∧C2 (K9 R C l)=true∧C2 (Jo R C l)=true∧(K9 R C l).length=R*R∧(Jo R C l).length=R*C:=by
 have ht:=Vz al h
 obtain ⟨R,C,rfl,rfl,r6,c6,hl,q1,q2,g1,g2,f1,f2⟩:=Aal al h
 have p1:Ic (R:Int) (R:Int) 0 0 (R:Int) (min (R:Int) (C:Int))=true:=A1i (by omega)
 have p2:Ic (R:Int) (C:Int) 0 0 (min (R:Int) (C:Int)) (C:Int)=true:=A1i (by omega)
 rw [A1j,A1j,X8 r6 r6 q2 p1,X8 r6 c6 g2 p2] at ht
 have em:min (R:Int) (C:Int)=((min R C:Nat):Int):=by omega
 rw [em,A1j,A1j,A1j] at ht
 exact ⟨R,C,rfl,rfl,r6,c6,hl,ht.1.symm,ht.2.symm,q1,g1,f1,f2,q2,g2⟩
theorem B1.Fq.known:B1.Fq.Kn:=B1.Fq.Ac (.cons Ak.Part.known (.cons B1.By.known .nil)) fun r c l hp=>by
 have h1:((A2 r c l&&C2 l)&&Ai l)=true:=hp
 obtain ⟨_,al⟩:=Ae.1 h1
 show ∃ N dv drops,_=some dv∧Wk drops dv (DV.agg [.int .i64 (D8 r c l).1,.int .i64 (D8 r c l).2.1,.ints .arg .u64 (D8 r c l).2.2.1,.int .i64 (H8 r c l).1,.int .i64 (H8 r c l).2.1,.ints .arg .u64 (H8 r c l).2.2.1,.bool (decide (E0 r c l=0))])
 have hrun:=B1.Fq.ev 0 r c l
 rw [h1,A1h] at hrun
 by_cases h:E0 r c l=0
 ·obtain ⟨e1,e2⟩:=X6 h
  obtain ⟨R,C,rfl,rfl,r6,c6,hl,t1,t2,q1,g1,f1,f2,q2,g2⟩:=Adi al h
  have p1:Ic (R:Int) (R:Int) 0 0 (R:Int) (min (R:Int) (C:Int))=true:=A1i (by omega)
  have p2:Ic (R:Int) (C:Int) 0 0 (min (R:Int) (C:Int)) (C:Int)=true:=A1i (by omega)
  have em:min (R:Int) (C:Int)=((min R C:Nat):Int):=by omega
  rw [A1i h,A2g,A1l,e1,e2,A1j,A1j,Ft r6 r6 q2,Ft r6 c6 g2,p1,p2,A1n,A1h,A1h,em,A1j] at hrun
  rw [t1,t2,h]
  exact ⟨0,_,[],hrun,Wk.Hk (.cons .int (.cons .int (.cons (.fresh _ _) (.cons .int (.cons .int (.cons (.fresh _ _) (.cons .bool .nil)))))))⟩
 ·obtain ⟨e1,e2⟩:=Zf (e:=E0 r c l) rfl h
  have e3:D8 r c l=Ls (E0 r c l):=by unfold D8; rw [A14 h]
  have e4:H8 r c l=Ls (E0 r c l):=by unfold H8; rw [A14 h]
  rw [A1m h,A20,A1h,e1,e2] at hrun
  rw [e3,e4,A1m h]
  exact ⟨0,_,[],hrun,Wk.Hk (.cons .int (.cons .int (.cons .X0 (.cons .int (.cons .int (.cons .X0 (.cons .bool .nil)))))))⟩
section
variable {n Q:Nat} {l m:List Int}
end
theorem Acp:∀ (d:List Int) (m:Int),(∀ x∈d,∃ n:Nat,x=((E3 n:Nat):Int))→d.foldl (fun m x=>Pf m x) m=d.foldl (fun m x=>Pf m (It x)) m
 | [],_,_=>rfl
 | x::d,m,h=>by
   obtain ⟨n,rfl⟩:=h x A2w
   have e:It ((E3 n:Nat):Int)=((E3 n:Nat):Int):=by
    unfold It
    rw [A1j]
    congr 1
    unfold E3
    omega
   rw [List.foldl_cons,List.foldl_cons,e]
   exact Acp d _ fun y hy=>h y (A2m _ hy)
theorem Acq {c:Int} {l:List Int} {n i:Nat} (h:i<n):(J5 c l n).drop i=It (Eb c l (i:Int) (i:Int))::(J5 c l n).drop (i+1):=by
 have hl:(J5 c l n).length=n:=I5 c l n
 rw [List.drop_eq_getElem_cons (by rw [hl]; exact h)]
 congr 1
 simp [J5]
theorem Adu (N:Nat) {R C:Nat} {l:List Int} (r6:R≤6) (c6:C≤6) (hl:l.length=R*C) (al:Ai l=true):∀ (cnt i F:Nat) (g:Int),i+cnt=min R C→cnt<F→Af g=true →
 A3.Flat.L0 N F (R:Int) (C:Int) l g (i:Int)=A3.Flat.L1 N N (R:Int) (C:Int) l 0 (((J5 (C:Int) l (min R C)).drop i).foldl (fun m x=>Pf m x) g):=by
 intro cnt
 induction cnt with
 | zero =>
   intro i F g hi hF hg
   obtain ⟨F,rfl⟩:∃ G,F=G+1:=⟨F-1,by omega⟩
   have hlt:(A6 (i:Int) (R:Int)&&A6 (i:Int) (C:Int))=false:=by
    rw [Au,Au,Bool.and_eq_false_iff,A10,A10]; omega
   rw [A3.Flat.Av,hlt,A1l,A1v (by rw [I5]; omega)]
   rfl
 | succ cnt ih =>
   intro i F g hi hF hg
   obtain ⟨F,rfl⟩:∃ G,F=G+1:=⟨F-1,by omega⟩
   have hlt:(A6 (i:Int) (R:Int)&&A6 (i:Int) (C:Int))=true:=by
    rw [Au,Au,A1i (by omega),A1i (by omega)]; rfl
   rw [A3.Flat.Av,hlt,A1h,D1 r6 c6 hl (by omega) (by omega),A1h,Ip al,A1h,hg,Tv,A1n,A1h,Am (by omega) (by omega),Acq (by omega),List.foldl_cons]
   exact ih (i+1) F _ (by omega) (by omega) (Aqm hg (Tv _))
theorem Adv (N:Nat) {R C:Nat} {l:List Int} {g:Int} (r6:R≤6) (c6:C≤6) (hl:l.length=R*C) (al:Ai l=true) (hg:Af g=true):∀ (cnt i F:Nat),i+cnt=min R C→cnt<F →
 A3.Flat.L1 N F (R:Int) (C:Int) l (i:Int) g=some (.bool (((J5 (C:Int) l (min R C)).drop i).any fun x=>!(decide (Tp (Bp g (-40)) x<0)))):=by
 intro cnt
 induction cnt with
 | zero =>
   intro i F hi hF
   obtain ⟨F,rfl⟩:∃ G,F=G+1:=⟨F-1,by omega⟩
   have hlt:(A6 (i:Int) (R:Int)&&A6 (i:Int) (C:Int))=false:=by
    rw [Au,Au,Bool.and_eq_false_iff,A10,A10]; omega
   rw [A3.Flat.B8,hlt,A1l,A1v (by rw [I5]; omega)]
   rfl
 | succ cnt ih =>
   intro i F hi hF
   obtain ⟨F,rfl⟩:∃ G,F=G+1:=⟨F-1,by omega⟩
   have hlt:(A6 (i:Int) (R:Int)&&A6 (i:Int) (C:Int))=true:=by
    rw [Au,Au,A1i (by omega),A1i (by omega)]; rfl
   have sp:Di g (-40:Int)=true:=Ae.2 ⟨hg,Ar.2 (by omega)⟩
   rw [A3.Flat.B8,hlt,A1h,sp,A1h,D1 r6 c6 hl (by omega) (by omega),A1h,Ip al,A1h,Hd hg,Tv,A1n,A1h,Es,Acq (by omega),List.any_cons,Am (by omega) (by omega)]
   by_cases h:Tp (Bp g (-40)) (It (Eb (C:Int) l (i:Int) (i:Int)))<0
   ·rw [A1m (by omega),A1l,A1i h,A2g,Bool.false_or]
    exact ih (i+1) F (by omega) (by omega)
   ·rw [A1i (by omega),A1h,A1m h]; rfl
theorem A3.Flat.known:A3.Flat.Kn:=A3.Flat.Ac (.cons Bn.G1.known (.cons Bn.Max.known (.cons Bn.Order.known (.cons Aj.Br.known (.cons Ak.At.known .nil))))) fun r c l hp=>by
 obtain ⟨h1,hf⟩:=Ae.1 (show ((A2 r c l&&Ai l)&&C2 l)=true from hp)
 obtain ⟨hr,al⟩:=Ae.1 h1
 obtain ⟨R,C,rfl,rfl,r6,c6,hl⟩:=Ci hr
 refine ⟨8,.bool (Qd (R:Int) (C:Int) l),[],?_,.bool⟩
 rw [A3.Flat.ev]
 have h1:=Adu 8 r6 c6 hl al (min R C) 0 8 0 (by omega) (by omega) G7
 rw [List.drop_zero,Acp _ _ (fun x hx=>by obtain ⟨j,_,rfl⟩:=List.mem_map.1 hx; exact ⟨_,rfl⟩)] at h1
 have h2:=Aad (J5 (C:Int) l (min R C)) 0 (by decide) (by decide +kernel)
 have h2:(J5 (C:Int) l (min R C)).foldl (fun m x=>Pf m (It x)) 0=Bg (J5 (C:Int) l (min R C)):=h2
 rw [h2] at h1
 have h3:=Adv 8 (g:=Bg (J5 (C:Int) l (min R C))) r6 c6 hl al (Oy _) (min R C) 0 8 (by omega) (by omega)
 rw [List.drop_zero] at h3
 unfold Qd Ard
 rw [A1j,A1j]
 exact h1.trans h3
theorem A3.Dv.known:A3.Dv.Kn:=A3.Dv.Ac (.cons Ak.Mul.known (.cons Ak.Cl.known (.cons Gl.Check.known (.cons B1.Fq.known (.cons A3.Flat.known (.cons A3.Ch.known .nil)))))) fun r c l p q m hp=>by
 obtain ⟨al,am⟩:=Ae.1 (show (Ai l&&Ai m)=true from hp)
 show ∃ N dv drops,_=some dv∧Wk drops dv (DV.tup [.agg [.int .i64 (Dt r c l p q m).1,.int .i64 (Dt r c l p q m).2.1,.ints .arg .u64 (Dt r c l p q m).2.2.1],.int .i64 (Dt r c l p q m).2.2.2])
 have hrun:=A3.Dv.ev 0 r c l p q m
 rw [al,A1h] at hrun
 unfold Dt
 by_cases c1:B9 r c l=0
 ·obtain ⟨hr,hf⟩:=Ej c1
  rw [G9 c1,A1l,am,A1h] at hrun
  rw [A13 (by rw [c1]; decide)]
  by_cases c2:B9 p q m=0
  ·rw [G9 c2,A1l,Ave] at hrun
   rw [A13 (by rw [c2]; decide)]
   by_cases c3:r<c∨r≠p
   ·rw [A1i c3,A1h] at hrun
    rw [A14 c3]
    exact ⟨0,_,[],hrun,Tj⟩
   ·rw [A1m c3,A1l,hr,hf,A1n,A2u,A1h] at hrun
    rw [A13 c3]
    by_cases c4:E0 r c l=0
    ·rw [A1i c4,A2g,A1l] at hrun
     rw [A13 (by rw [c4]; decide)]
     obtain ⟨R,C,rfl,rfl,r6,c6,hl,t1,t2,q1,g1,f1,f2,q2,g2⟩:=Adi al c4
     obtain ⟨hm1,_⟩:=Ej c2
     have hcr:C≤R:=by omega
     obtain rfl:p=(R:Int):=by omega
     have m6:min R C≤6:=by omega
     have aq:Ai (Bv R (min R C) (fun i k=>Eb (R:Int) (K9 R C l) (0+(i:Int)) (0+(k:Int))))=true:=Gq fun _ _=>Ip q1
     have ar:Ai (Bv (min R C) C (fun i k=>Eb (C:Int) (Jo R C l) (0+(i:Int)) (0+(k:Int))))=true:=Gq fun _ _=>Ip g1
     have fr:C2 (Bv (min R C) C (fun i k=>Eb (C:Int) (Jo R C l) (0+(i:Int)) (0+(k:Int))))=true:=Ag8 fun _ _=>Arf f2
     have rr:=Qa (fun i k=>Eb (C:Int) (Jo R C l) (0+(i:Int)) (0+(k:Int))) m6 c6
     have rq:=Qa (fun i k=>Eb (R:Int) (K9 R C l) (0+(i:Int)) (0+(k:Int))) r6 m6
     rw [t1,t2]
     rw [t1,t2] at hrun
     generalize Bv R (min R C) (fun i k=>Eb (R:Int) (K9 R C l) (0+(i:Int)) (0+(k:Int)))=gq at *
     generalize Bv (min R C) C (fun i k=>Eb (C:Int) (Jo R C l) (0+(i:Int)) (0+(k:Int)))=gr at *
     dsimp only at hrun ⊢
     have efl:(Lz ((min R C:Nat):Int) (C:Int) gr).1=Qd ((min R C:Nat):Int) (C:Int) gr:=by
      unfold Lz
      rw [A13 (by rw [Arz rr fr]; decide)]
     rw [efl]
     rw [rr,ar,fr,A1n,A1n,A1h] at hrun
     cases c5:Qd ((min R C:Nat):Int) (C:Int) gr with
     | true =>
       rw [c5,A1h] at hrun
       rw [A14 rfl]
       exact ⟨0,_,[],hrun,Tj⟩
     | false =>
       rw [A13 (by decide)]
       have rt:=Qa (fun i k=>Eb ((min R C:Nat):Int) gq (k:Int) (i:Int)) m6 r6
       have at':Ai (Bv (min R C) R (fun i k=>Eb ((min R C:Nat):Int) gq (k:Int) (i:Int)))=true:=Gq fun _ _=>Ip aq
       rw [c5,A1l,rq,A1h,A1j,A1j,rt,hm1,at',A1i rfl,A1n,A1n,A1n,A1h,show Ai (Bv (min R C) q.toNat fun (i j:Nat)=>Je (G6 (R:Int) (Bv (min R C) R fun (i k:Nat)=>Eb ((min R C:Nat):Int) gq (k:Int) (i:Int)) (i:Int)) (Kv (R:Int) q m (j:Int)))=true from Gq fun _ _=>Sn _ _,A1n,A1h] at hrun
       have e1:Fe (R:Int) ((min R C:Nat):Int) gq=(((min R C:Nat):Int),(R:Int),Bv (min R C) R (fun (i k:Nat)=>Eb ((min R C:Nat):Int) gq (k:Int) (i:Int)),0):=by
        unfold Fe
        rw [A14 rq,A1j,A1j]
       have e2:C8 (R:Int) ((min R C:Nat):Int) gq (R:Int) q m=(((min R C:Nat):Int),q,Bv (min R C) q.toNat (fun (i j:Nat)=>Je (G6 (R:Int) (Bv (min R C) R fun (i k:Nat)=>Eb ((min R C:Nat):Int) gq (k:Int) (i:Int)) (i:Int)) (Kv (R:Int) q m (j:Int))),0):=by
        unfold C8
        rw [e1,A13 (fun h=>h rfl)]
        unfold N2
        dsimp only
        rw [rt,hm1,A1n,A14 rfl,A14 rfl,A1j]
       unfold Aoq
       dsimp only
       rw [e2,A13 (fun h=>h rfl)]
       exact ⟨0,_,[],hrun,Ac7⟩
    ·have e2:E0 r c l=2:=by
      rw [Sl c1] at c4 ⊢
      by_cases hk:Kk r.toNat c.toNat l=true
      ·rw [A14 hk] at c4; exact absurd rfl c4
      ·rw [A13 hk]
     rw [A1m c4,A20,A1h] at hrun
     rw [A14 c4,e2]
     exact ⟨0,_,[],hrun,Tj⟩
  ·rw [Vw c2,A1h,A1h] at hrun
   rw [A14 c2]
   exact ⟨0,_,[],hrun,Tj⟩
 ·rw [Vw c1,A1h,A1h] at hrun
  rw [A14 c1]
  exact ⟨0,_,[],hrun,Tj⟩
open EqRef20
theorem Aqt {r c:Int} {l:List Int} {p q:Int} {m:List Int} (h:(loX r c l p q m).2.2.2=0) :
 ∃ (R Q:Nat) (Y:List Int),r=R∧q=Q∧R≤6∧Q≤6∧loX r c l p q m=((R:Int),(Q:Int),Y,0)∧Y.length=R*Q∧C2 Y=true∧Ai Y=true:=by
 have hin:=Awq r c l p q m
 unfold loX at h hin ⊢
 by_cases k:Mg r c l p q m=0
 ·rw [A13 (fun h=>h k)] at h hin ⊢
  obtain ⟨h1,h2,rfl,rfl⟩:=So k
  obtain ⟨R,C,rfl,hC,r6,c6,hl⟩:=Ci h1
  obtain ⟨P,Q,hP,rfl,p6,q6,hl2⟩:=Ci h2
  unfold Kj at h hin ⊢
  by_cases kf:C2 (loG (R:Int) l (Q:Int) m (R:Int).toNat (Q:Int).toNat)=true
  ·rw [A14 kf] at hin ⊢
   exact ⟨R,Q,_,rfl,rfl,r6,q6,rfl,by unfold loG; rw [Cc,A1j,A1j],kf,hin⟩
  ·rw [A13 kf] at h; exact absurd h (by decide)
 ·rw [A14 k] at h; exact absurd h k
theorem Afb {r c:Int} {l:List Int} {p q:Int} {m:List Int} (h:(Ua r c l p q m).2.2.2=0) :
 ∃ (R Q:Nat) (Y:List Int),r=R∧q=Q∧R≤6∧Q≤6∧Ua r c l p q m=((R:Int),(Q:Int),Y,0)∧Y.length=R*Q∧C2 Y=true∧Ai Y=true:=by
 have hin:=Avp r c l p q m
 unfold Ua at h hin ⊢
 by_cases k:Mg r c l p q m=0
 ·rw [A13 (fun h=>h k)] at h hin ⊢
  obtain ⟨h1,h2,rfl,rfl⟩:=So k
  obtain ⟨R,C,rfl,hC,r6,c6,hl⟩:=Ci h1
  obtain ⟨P,Q,hP,rfl,p6,q6,hl2⟩:=Ci h2
  unfold Kj at h hin ⊢
  by_cases kf:C2 (upG (R:Int) l (Q:Int) m (R:Int).toNat (Q:Int).toNat)=true
  ·rw [A14 kf] at hin ⊢
   exact ⟨R,Q,_,rfl,rfl,r6,q6,rfl,by unfold upG; rw [Cc,A1j,A1j],kf,hin⟩
  ·rw [A13 kf] at h; exact absurd h (by decide)
 ·rw [A14 k] at h; exact absurd h k
theorem Atr {r c:Int} {l:List Int} {p q:Int} {m:List Int} (h:(N2 r c l p q m).2.2.2=0):(N2 r c l p q m).2.1=q:=by
 unfold N2 at h ⊢
 by_cases k:(A2 r c l&&A2 p q m)=true
 ·rw [A14 k] at h ⊢
  by_cases k2:c=p
  ·rw [A14 k2]
  ·rw [A13 k2] at h; exact absurd h (by decide)
 ·rw [A13 k] at h; exact absurd h (by decide)
theorem Aia {r c:Int} {l:List Int} {p q:Int} {m:List Int} (h:(C8 r c l p q m).2.2.2=0):(C8 r c l p q m).2.1=q:=by
 unfold C8 at h ⊢
 by_cases k:(Fe r c l).2.2.2=0
 ·rw [A13 (fun h=>h k)] at h ⊢; exact Atr h
 ·rw [A14 k] at h; exact absurd h k
theorem Agx {r c:Int} {l:List Int} {p q:Int} {m:List Int} (al:Ai l=true) (h:(Dt r c l p q m).2.2.2=0) :
 ∃ (C Q:Nat) (Y:List Int),c=C∧q=Q∧C≤6∧Q≤6∧Dt r c l p q m=((C:Int),(Q:Int),Y,0)∧Y.length=C*Q∧C2 Y=true∧Ai Y=true:=by
 unfold Dt at h ⊢
 by_cases c1:B9 r c l=0
 ·rw [A13 (fun h=>h c1)] at h ⊢
  by_cases c2:B9 p q m=0
  ·rw [A13 (fun h=>h c2)] at h ⊢
   by_cases c3:r<c∨r≠p
   ·rw [A14 c3] at h; exact absurd h (by decide)
   ·rw [A13 c3] at h ⊢
    by_cases c4:E0 r c l=0
    ·rw [A13 (fun h=>h c4)] at h ⊢
     by_cases c5:(Lz (H8 r c l).1 (H8 r c l).2.1 (H8 r c l).2.2.1).1=true
     ·rw [A14 c5] at h; exact absurd h (by decide)
     ·rw [A13 c5] at h ⊢
      unfold Aoq at h ⊢
      by_cases c6:(C8 (D8 r c l).1 (D8 r c l).2.1 (D8 r c l).2.2.1 p q m).2.2.2=0
      ·rw [A13 (fun h=>h c6)] at h ⊢
       obtain ⟨R,Q,Y,e1,e2,r6,q6,e3,e4,e5,e6⟩:=Afb h
       rw [Aia c6] at e2
       obtain ⟨A,B,rfl,rfl,_,_,_,_,t2,_⟩:=Adi al c4
       rw [t2] at e1
       have e1':((min A B:Nat):Int)=(R:Int):=e1
       have eR:R=B:=by omega
       subst eR
       exact ⟨R,Q,Y,rfl,e2,r6,q6,e3,e4,e5,e6⟩
      ·rw [A14 c6] at h; exact absurd h c6
    ·rw [A14 c4] at h; exact absurd h c4
  ·rw [A14 c2] at h; exact absurd h c2
 ·rw [A14 c1] at h; exact absurd h c1
def W5 (R C:Nat) (x:MX):Prop:=∃ l,x=((R:Int),(C:Int),l,0)∧R≤6∧C≤6∧l.length=R*C∧Ai l=true
def FM (x:MX):Prop:=C2 x.2.2.1=true
theorem FM.of {r c e:Int} {l:List Int} (h:C2 l=true):FM (r,c,l,e):=h
theorem W5.mk {R C:Nat} {l:List Int} (r6:R≤6) (c6:C≤6) (hl:l.length=R*C) (al:Ai l=true):W5 R C ((R:Int),(C:Int),l,0):=⟨l,rfl,r6,c6,hl,al⟩
theorem W5.Awk {r c:Int} {l:List Int} (h:B9 r c l=0) (al:Ai l=true):∃ R C:Nat,r=R∧c=C∧W5 R C (r,c,l,0)∧FM (r,c,l,0):=by
 obtain ⟨R,C,rfl,rfl,r6,c6,hl⟩:=Ci (Ej h).1
 exact ⟨R,C,rfl,rfl,.mk r6 c6 hl al,(Ej h).2⟩
section
variable {R C K:Nat} {x y:MX}
theorem W5.right (h:W5 R C x):A2 x.1 x.2.1 x.2.2.1=true:=by
 obtain ⟨l,rfl,r6,c6,hl,al⟩:=h
 exact Ft r6 c6 hl
theorem W5.rows (h:W5 R C x):x.1=R:=by obtain ⟨l,rfl,_⟩:=h; rfl
theorem W5.r6 (h:W5 R C x):R≤6:=by obtain ⟨l,rfl,r6,_⟩:=h; exact r6
theorem W5.c6 (h:W5 R C x):C≤6:=by obtain ⟨l,rfl,_,c6,_⟩:=h; exact c6
theorem W5.len (h:W5 R C x):x.2.2.1.length≤36:=by
 obtain ⟨l,rfl,r6,c6,hl,_⟩:=h
 have:=A2d r6 c6
 show l.length≤36
 omega
theorem Aga {i k a b:Nat} (ha:i+a≤R) (hb:k+b≤C):Ic (R:Int) (C:Int) (i:Int) (k:Int) (a:Int) (b:Int)=true:=A1i (by omega)
theorem W5.part {i k a b:Nat} (h:W5 R C x) (ha:i+a≤R) (hb:k+b≤C):W5 a b (Zj x i k a b):=by
 have hr:=h.right
 obtain ⟨l,rfl,r6,c6,hl,al⟩:=h
 refine ⟨_,by unfold Zj Hu; dsimp only; rw [A14 hr,A14 (Aga ha hb)],by omega,by omega,by rw [Cc,A1j,A1j],Gq fun _ _=>Ip al⟩
theorem FM.part {i k a b:Nat} (h:W5 R C x) (f:FM x) (ha:i+a≤R) (hb:k+b≤C):FM (Zj x i k a b):=by
 have hr:=h.right
 obtain ⟨l,rfl,r6,c6,hl,al⟩:=h
 unfold Zj Hu
 dsimp only
 rw [A14 hr,A14 (Aga ha hb)]
 exact .of (Ag8 fun _ _=>Arf (show C2 _=true from f))
theorem W5.lo (h:W5 R R x) (g:W5 R C y) (e:(loM x y).2.2.2=0):W5 R C (loM x y)∧FM (loM x y):=by
 obtain ⟨l,rfl,r6,c6,hl,al⟩:=h
 obtain ⟨m,rfl,p6,q6,hm,am⟩:=g
 obtain ⟨P,Q,Y,e1,e2,a6,b6,e3,e4,e5,e6⟩:=Aqt e
 dsimp only at e1 e2
 obtain rfl:P=R:=by omega
 obtain rfl:Q=C:=by omega
 have e7:loM ((P:Int),(P:Int),l,0) ((P:Int),(Q:Int),m,0)=((P:Int),(Q:Int),Y,0):=e3
 rw [e7]
 exact ⟨.mk a6 b6 e4 e6,e5⟩
theorem W5.up (h:W5 R R x) (g:W5 R C y) (e:(upM x y).2.2.2=0):W5 R C (upM x y)∧FM (upM x y):=by
 obtain ⟨l,rfl,r6,c6,hl,al⟩:=h
 obtain ⟨m,rfl,p6,q6,hm,am⟩:=g
 obtain ⟨P,Q,Y,e1,e2,a6,b6,e3,e4,e5,e6⟩:=Afb e
 dsimp only at e1 e2
 obtain rfl:P=R:=by omega
 obtain rfl:Q=C:=by omega
 have e7:upM ((P:Int),(P:Int),l,0) ((P:Int),(Q:Int),m,0)=((P:Int),(Q:Int),Y,0):=e3
 rw [e7]
 exact ⟨.mk a6 b6 e4 e6,e5⟩
end
namespace EqGg
end EqGg
open EqGg
def Azb (o:Option DV) (d:DV):Prop:=∃ dv drops,o=some dv∧Wk drops dv d
theorem Agc {E:Env} {fn:Func} {ds:List DV} {d:DV} (h:Azb (Bw E 0 fn (An fn) ds) d):Asi E fn ds d:=by
 obtain ⟨dv,drops,e1,e2⟩:=h
 exact ⟨0,dv,drops,e1,e2⟩
theorem Axg {drops:List Nat} {r c:Int} {l:List Int}:Wk drops (.agg [.int .i64 r,.int .i64 c,.ints .fresh .u64 l]) (.agg [.int .i64 r,.int .i64 c,.ints .fresh .u64 l]):=Wk.Hk (.cons .int (.cons .int (.cons .Ov .nil)))
section
variable {N:Nat} {r c p q u v:Int} {l m h:List Int} {R Q T C W:MX}
end
def Aw8 (o:Option DV) (x:MX):Prop:=Azb o (To x)
theorem Atl {o:Option DV} {x:MX} (h:o=some (To x)):Aw8 o x:=⟨_,[],h,On⟩
theorem X9 {o:Option DV} {e:Int} (h:o=some (Ap9 e)):Aw8 o (Ls e):=⟨_,[],h,J8⟩
section
variable {N:Nat} {r c p q:Int} {l m:List Int} {Q L S w o y:MX}
end
namespace EqRidge
def Ad.Eg.A9:List (Nat × Entry):=[(157,Ad.Mul.spec)]
def Ad.Eg.E:Env:=Ba (A8 Ad.Eg.A9) (fun _=>false) (fun _=>none) (fun _=>none)
theorem Ad.Eg.ev (N:Nat) (i x:Int) (l:List Int):Bw Ad.Eg.E N f203 (An f203) [.int .i64 i,.cellp [.int .u64 x],.cellp [.ints .arg .u64 l]]=bif ((decide (0≤i))&&(decide (i<(length l:Int)))) then bif (Af x&&Af (getD l (toNat i) 0)) then some (.int .u64 (C5 x (getD l (toNat i) 0))) else none else none :=
 Eq.trans (by kernel_rfl)
 (C9 (Nh (decide (0≤i)) (decide (i<(length l:Int)))) (C9 (Cy (Af x&&Af (getD l (toNat i) 0))) rfl rfl) rfl)
abbrev _root_.Go.Proofs.S1.Ad.Eg.Kn:=A4 prog 203 Ad.Eg.spec
theorem Ad.Eg.Ac (hk:Az prog Ad.Eg.A9) (h:Hyp Ad.Eg.E f203 Ad.Eg.ts Ad.Eg.pre Ad.Eg.out):Ad.Eg.Kn :=
 Al (A0 hk _ _ _) func203 (by kernel_rfl) (by kernel_rfl) h
def Ad.each.B6.hint:Nat→Option Be
 | 0=>some { keep:=[1,5,7,8],objs:=[(0,5,100005,.ints 37 .u64 [])],boxes:=[] }
 | _=>none
def Ad.each.B6.A9:List (Nat × Entry):=[(203,Ad.Eg.spec)]
def Ad.each.B6.E:Env:=Ba (A8 Ad.each.B6.A9) (fun _=>false) Ad.each.B6.hint (fun _=>none)
section
variable (N M:Nat) (n x:Int) (l:List Int) (p8:Int) (p5:List Int)
def Ad.each.B6.L0:Option DV:=B2 Ad.each.B6.E N f202 (An f202) [1,1,0,1,0] [] M ⟨Gz 19 [(1,.fn 203 [] [.cellp [.int .u64 x],.cellp [.ints .arg .u64 l]]),(5,.oref 100005),(7,.int .i64 n),(8,.int .i64 p8)],[(100005,false,.ints 37 .u64 p5)]⟩
theorem Ad.each.B6.Av:Ad.each.B6.L0 N (M+1) n x l p8 p5=bif (A6 p8 n) then bif ((Cz (0≤p8∧p8<length l)&&Ai l)&&Af x) then bif (decide ((length p5)+1≤G0)) then Ad.each.B6.L0 N M n x l (Ab (p8+1)) (p5++[(C5 x (getD l (toNat p8) 0))]) else none else none else some (.ints (.own 100005 37) .u64 p5):=by kernel_rfl
theorem Ad.each.B6.ev:Bw Ad.each.B6.E N f202 (An f202) [.int .i64 n,.fn 203 [] [.cellp [.int .u64 x],.cellp [.ints .arg .u64 l]]] =
 Ad.each.B6.L0 N N n x l 0 []:=by kernel_rfl
end
abbrev _root_.Go.Proofs.S1.Ad.each.B6.Kn:=A4 prog 202 Ad.each.B6.spec
theorem Ad.each.B6.Ac (hk:Az prog Ad.each.B6.A9) (h:Hyp Ad.each.B6.E f202 Ad.each.B6.ts Ad.each.B6.pre Ad.each.B6.out):Ad.each.B6.Kn :=
 Al (A0 hk _ _ _) func202 (by kernel_rfl) (by kernel_rfl) h
def Ad.B6.A9:List (Nat × Entry):=[(202,Ad.each.B6.spec)]
def Ad.B6.E:Env:=Ba (A8 Ad.B6.A9) (fun _=>false) (fun _=>none) (fun _=>none)
theorem Ad.B6.ev (N:Nat) (x:Int) (l:List Int):Bw Ad.B6.E N f149 (An f149) [.int .u64 x,.ints .arg .u64 l]=bif (A6 64 (length l:Int)) then some (.tup [.nil,.int .i64 3]) else bif (((Cz (0≤(length l:Int)∧(length l:Int)≤64∧(length l:Int)=length l))&&Ai l)&&Af x) then some (.tup [.ints .fresh .u64 (Dk x l),.int .i64 0]) else none:=by kernel_rfl
abbrev _root_.Go.Proofs.S1.Ad.B6.Kn:=A4 prog 149 Ad.B6.spec
theorem Ad.B6.Ac (hk:Az prog Ad.B6.A9) (h:Hyp Ad.B6.E f149 Ad.B6.ts Ad.B6.pre Ad.B6.out):Ad.B6.Kn :=
 Al (A0 hk _ _ _) func149 (by kernel_rfl) (by kernel_rfl) h
def Dq.Cx.hint:Nat→Option Be
 | 0=>some { keep:=[6,7,8],objs:=[],boxes:=[] }
 | _=>none
def Dq.Cx.A9:List (Nat × Entry):=[(86,Cs.Check.spec)]
def Dq.Cx.E:Env:=Ba (A8 Dq.Cx.A9) (fun _=>false) Dq.Cx.hint (fun _=>none)
theorem Dq.Cx.ev (N:Nat) (r c:Int) (l:List Int) (p q:Int) (m:List Int) (u v:Int) (h:List Int):Bw Dq.Cx.E (N+5) f147 (An f147) [.recs .arg 3 [[.int .i64 r,.int .i64 c,.ints .arg .u64 l],[.int .i64 p,.int .i64 q,.ints .arg .u64 m],[.int .i64 u,.int .i64 v,.ints .arg .u64 h]]]=bif (Ai l) then bif ((B9 r c l) !=(0:Int)) then some (.int .i64 (B9 r c l)) else bif (Ai m) then bif ((B9 p q m) !=(0:Int)) then some (.int .i64 (B9 p q m)) else bif (Ai h) then bif ((B9 u v h) !=(0:Int)) then some (.int .i64 (B9 u v h)) else some (.int .i64 0) else none else none else none:=by kernel_rfl
abbrev _root_.Go.Proofs.S1.Dq.Cx.Kn:=A4 prog 147 Dq.Cx.spec
theorem Dq.Cx.Ac (hk:Az prog Dq.Cx.A9) (h:Hyp Dq.Cx.E f147 Dq.Cx.ts Dq.Cx.pre Dq.Cx.out):Dq.Cx.Kn :=
 Al (A0 hk _ _ _) func147 (by kernel_rfl) (by kernel_rfl) h
def Dq.Kw.A9:List (Nat × Entry):=[(126,Aa.Stack.spec),(151,Aa.Bb.spec),(147,Dq.Cx.spec),(148,soft.Finite.spec),(30,solve.Dv.spec),(150,Ad.Finite.spec),(149,Ad.B6.spec)]
def Dq.Kw.E:Env:=Ba (A8 Dq.Kw.A9) (fun _=>false) (fun _=>none) (fun _=>none)
theorem Dq.Kw.ev (N:Nat) (r c:Int) (l:List Int) (p q:Int) (m:List Int) (u v:Int) (h:List Int) (x:Int):Bw Dq.Kw.E N f66 (An f66) [.agg [.int .i64 r,.int .i64 c,.ints .arg .u64 l],.agg [.int .i64 p,.int .i64 q,.ints .arg .u64 m],.agg [.int .i64 u,.int .i64 v,.ints .arg .u64 h],.int .u64 x]=bif (Rr l m h) then bif ((Nv r c l p q m u v h) !=(0:Int)) then some (.tup [.agg [.int .i64 0,.int .i64 0,.nil],.int .i64 (Nv r c l p q m u v h)]) else bif (Af x) then bif (!(Ck x)) then some (.tup [.agg [.int .i64 0,.int .i64 0,.nil],.int .i64 4]) else bif ((((p !=r)||(q !=(1:Int)))||(v !=c))||(A6 6 (Ab (r+u)))) then some (.tup [.agg [.int .i64 0,.int .i64 0,.nil],.int .i64 3]) else bif ((Cp h&&Af x)&&Cz (length h≤64)) then bif (Cp (Dk x h)) then bif (!(C2 (Dk x h))) then some (.tup [.agg [.int .i64 0,.int .i64 0,.nil],.int .i64 2]) else bif (Ai ((D5 r c l u v (Dk x h)).2.2.1)&&Ai ((D5 p q m ((C1 u 1).1) ((C1 u 1).2.1) ((C1 u 1).2.2.1)).2.2.1)) then some (.tup [.agg [.int .i64 ((Dt ((D5 r c l u v (Dk x h)).1) ((D5 r c l u v (Dk x h)).2.1) ((D5 r c l u v (Dk x h)).2.2.1) ((D5 p q m ((C1 u 1).1) ((C1 u 1).2.1) ((C1 u 1).2.2.1)).1) ((D5 p q m ((C1 u 1).1) ((C1 u 1).2.1) ((C1 u 1).2.2.1)).2.1) ((D5 p q m ((C1 u 1).1) ((C1 u 1).2.1) ((C1 u 1).2.2.1)).2.2.1)).1),.int .i64 ((Dt ((D5 r c l u v (Dk x h)).1) ((D5 r c l u v (Dk x h)).2.1) ((D5 r c l u v (Dk x h)).2.2.1) ((D5 p q m ((C1 u 1).1) ((C1 u 1).2.1) ((C1 u 1).2.2.1)).1) ((D5 p q m ((C1 u 1).1) ((C1 u 1).2.1) ((C1 u 1).2.2.1)).2.1) ((D5 p q m ((C1 u 1).1) ((C1 u 1).2.1) ((C1 u 1).2.2.1)).2.2.1)).2.1),.ints .fresh .u64 ((Dt ((D5 r c l u v (Dk x h)).1) ((D5 r c l u v (Dk x h)).2.1) ((D5 r c l u v (Dk x h)).2.2.1) ((D5 p q m ((C1 u 1).1) ((C1 u 1).2.1) ((C1 u 1).2.2.1)).1) ((D5 p q m ((C1 u 1).1) ((C1 u 1).2.1) ((C1 u 1).2.2.1)).2.1) ((D5 p q m ((C1 u 1).1) ((C1 u 1).2.1) ((C1 u 1).2.2.1)).2.2.1)).2.2.1)],.int .i64 ((Dt ((D5 r c l u v (Dk x h)).1) ((D5 r c l u v (Dk x h)).2.1) ((D5 r c l u v (Dk x h)).2.2.1) ((D5 p q m ((C1 u 1).1) ((C1 u 1).2.1) ((C1 u 1).2.2.1)).1) ((D5 p q m ((C1 u 1).1) ((C1 u 1).2.1) ((C1 u 1).2.2.1)).2.1) ((D5 p q m ((C1 u 1).1) ((C1 u 1).2.1) ((C1 u 1).2.2.1)).2.2.1)).2.2.2)]) else none else none else none else none else none :=
 Eq.trans (by kernel_rfl)
 (Et (Et rfl (Et (Et rfl (Ax (S8 (p !=r)) (Ax (Qx (p !=r)) (Ax (Qx (p !=r)) (Ax (X2 (p !=r)) (Ax (Afg (p !=r) (q !=(1:Int))) (Ax (Aib (p !=r) (q !=(1:Int))) (Ax (Afg (p !=r) (q !=(1:Int))) (Ax (Aib (p !=r) (q !=(1:Int))) (Ax (Ass (p !=r) (q !=(1:Int))) (Ax (Asv (p !=r) (q !=(1:Int))) (Ax (Al5 (p !=r) (q !=(1:Int)) (v !=c)) (Ax (Afh (p !=r) (q !=(1:Int)) (v !=c)) (Ax (Al5 (p !=r) (q !=(1:Int)) (v !=c)) (Ax (Afh (p !=r) (q !=(1:Int)) (v !=c)) (Ax (Ava (p !=r) (q !=(1:Int)) (v !=c)) (Ax (Afh (p !=r) (q !=(1:Int)) (v !=c)) (Ax (Asw (p !=r) (q !=(1:Int)) (v !=c)) (C9 (Au9 (p !=r) (q !=(1:Int)) (v !=c) (A6 6 (Ab (r+u)))) rfl rfl))))))))))))))))))) rfl)) rfl)
abbrev _root_.Go.Proofs.S1.Dq.Kw.Kn:=A4 prog 66 Dq.Kw.spec
theorem Dq.Kw.Ac (hk:Az prog Dq.Kw.A9) (h:Hyp Dq.Kw.E f66 Dq.Kw.ts Dq.Kw.pre Dq.Kw.out):Dq.Kw.Kn :=
 Al (A0 hk _ _ _) func66 (by kernel_rfl) (by kernel_rfl) h
end EqRidge
open EqRidge
theorem Ni (x:Int) (l:List Int):(Dk x l).length=l.length:=by unfold Dk; rw [A2n]
theorem R0 (x:Int) (l:List Int):Ai (Dk x l)=true:=Ar.2 fun y hy=>by
 obtain ⟨b,_,rfl⟩:=List.mem_map.1 hy
 exact Io _ _
theorem W9 (x:Int) (l:List Int):(List.range l.length).map (fun j=>C5 x (l.getD j 0))=Dk x l:=by
 refine Vg (by rw [A2n,A2k,Ni]) fun j hj=>?_
 rw [A2n,A2k] at hj
 unfold Dk
 rw [A2y,A2y,List.getElem?_range hj,A1y hj]
 simp only [Option.map_some,A1r,A1y hj,A21]
theorem Ad.Eg.known:Ad.Eg.Kn:=Ad.Eg.Ac (.cons Ad.Mul.known .nil) fun i x l hp=>by
 obtain ⟨h1,hx⟩:=Ae.1 (show ((Cz (0≤i∧i<length l)&&Ai l)&&Af x)=true from hp)
 obtain ⟨h2,al⟩:=Ae.1 h1
 have h3:=Ar.1 h2
 refine ⟨0,Ad.Eg.out [.i i,.i x,.l l],[],?_,.int⟩
 rw [Ad.Eg.ev,A1i h3.1,A1i h3.2,A1n,A1h,hx,Qm al (by omega),A1n,A1h]
 rfl
theorem Xw (N:Nat) {x:Int} {l:List Int} (al:Ai l=true) (hx:Af x=true) (h64:l.length≤64):∀ (k i F:Nat),i+k=l.length→k<F →
 Ad.each.B6.L0 N F (l.length:Int) x l (i:Int) ((List.range i).map fun j=>C5 x (l.getD j 0))=some (.ints (.own 100005 tB) .u64 (Dk x l)):=by
 intro k
 induction k with
 | zero =>
   intro i F hi hF
   obtain ⟨F,rfl⟩:∃ G,F=G+1:=⟨F-1,by omega⟩
   obtain rfl:i=l.length:=by omega
   rw [Ad.each.B6.Av,Au,A1m (by omega),A1l,W9]
 | succ k ih =>
   intro i F hi hF
   obtain ⟨F,rfl⟩:∃ G,F=G+1:=⟨F-1,by omega⟩
   have:=ih (i+1) F (by omega) (by omega)
   rw [He] at this
   rw [Ad.each.B6.Av,Au,A1i (by omega),A1h,Ar.2 (show 0≤(i:Int)∧(i:Int)<(l.length:Int) by omega),al,hx,A1n,A1n,A1h,
    A1i (by rw [A2n,A2k]; unfold G0; omega),A1h,Am (by omega) (by omega),A1j]
   exact this
theorem Ad.each.B6.known:Ad.each.B6.Kn:=Ad.each.B6.Ac (.cons Ad.Eg.known .nil) fun n x l hp=>by
 obtain ⟨h1,hx⟩:=Ae.1 (show ((Cz (0≤n∧n≤64∧n=length l)&&Ai l)&&Af x)=true from hp)
 obtain ⟨h2,al⟩:=Ae.1 h1
 obtain ⟨h3,h4,rfl⟩:=Ar.1 h2
 refine ⟨65,.ints (.own 100005 tB) .u64 (Dk x l),[100005],?_,.drop _ _ _ _ (List.mem_singleton.2 rfl)⟩
 rw [Ad.each.B6.ev]
 exact Xw 65 al hx (by omega) l.length 0 65 (by omega) (by omega)
theorem Ad.B6.known:Ad.B6.Kn:=Ad.B6.Ac (.cons Ad.each.B6.known .nil) fun x l hp=>by
 obtain ⟨h1,h2⟩:=Ae.1 (show ((Cp l&&Af x)&&Cz (length l≤64))=true from hp)
 obtain ⟨ol,hx⟩:=Ae.1 h1
 have h2:=Ar.1 h2
 refine ⟨0,Ad.B6.out [.i x,.l l],[],?_,Wk.Ha (.cons .Ov (.cons .int .nil))⟩
 rw [Ad.B6.ev,Au,A1m (by omega),A1l,Ar.2 (show 0≤(l.length:Int)∧(l.length:Int)≤64∧(l.length:Int)=l.length by omega),Sr ol,hx,A1n,A1n,A1h]
 rfl
theorem Dq.Cx.known:Dq.Cx.Kn:=Dq.Cx.Ac (.cons Cs.Check.known .nil) fun r c l p q m u v h hp=>by
 obtain ⟨h1,ah⟩:=Ae.1 (show ((Ai l&&Ai m)&&Ai h)=true from hp)
 obtain ⟨al,am⟩:=Ae.1 h1
 refine ⟨0+5,.int .i64 (Nv r c l p q m u v h),[],?_,.int⟩
 rw [Dq.Cx.ev,al,am,ah,A1h,A1h,A1h]
 unfold Nv
 by_cases k1:B9 r c l=0
 ·rw [G9 k1,A1l,A13 (fun h=>h k1)]
  by_cases k2:B9 p q m=0
  ·rw [G9 k2,A1l,A13 (fun h=>h k2)]
   by_cases k4:B9 u v h=0
   ·rw [G9 k4,A1l,k4]
   ·rw [Vw k4,A1h]
  ·rw [Vw k2,A1h,A14 k2]
 ·rw [Vw k1,A1h,A14 k1]
theorem Wy {r c:Int} {l:List Int} {p q:Int} {m:List Int} {u v:Int} {h:List Int} (e:Nv r c l p q m u v h=0):B9 r c l=0∧B9 p q m=0∧B9 u v h=0:=by
 unfold Nv at e
 by_cases k1:B9 r c l=0
 ·rw [A13 (fun h=>h k1)] at e
  by_cases k2:B9 p q m=0
  ·rw [A13 (fun h=>h k2)] at e; exact ⟨k1,k2,e⟩
  ·rw [A14 k2] at e; exact absurd e k2
 ·rw [A14 k1] at e; exact absurd e k1
theorem Abu {r c p q u v:Int} (h:0≤r∧r≤6) (h':0≤u∧u≤6) :
 ((((p !=r)||(q !=(1:Int)))||(v !=c))||(A6 (6:Int) (Ab (r+u))))=decide (p≠r∨q≠1∨v≠c∨6<r+u):=by
 rw [Am (by omega) (by omega),Au,A1x]
 simp [or_assoc]
theorem Akx {l:List Int} (h:l.length≤36) (al:Ai l=true):Cp l=true:=Ar.2 ⟨by omega,Ar.1 al⟩
section
variable {r c p q u v x:Int} {l m h:List Int}
theorem Uv {e:Int} (k:O4 r c l p q m u v h x=e) (he:e≠0):Ea r c l p q m u v h x=Ls e:=by
 unfold Ea; rw [k,A14 he]
theorem Akm (k:O4 r c l p q m u v h x=0):Ea r c l p q m u v h x=Aq1 (Au0 r c l u v h x) (Aft p q m u):=by
 unfold Ea; rw [A13 (fun h=>h k)]
theorem Aiu (k:Nv r c l p q m u v h≠0):O4 r c l p q m u v h x=Nv r c l p q m u v h:=by unfold O4; rw [A14 k]
theorem Ait (k:Nv r c l p q m u v h=0) (k2:Ck x=false):O4 r c l p q m u v h x=4:=by
 unfold O4; rw [A13 (fun h=>h k),A14 k2]
theorem Ais (k:Nv r c l p q m u v h=0) (k2:Ck x=true) (k3:p≠r∨q≠1∨v≠c∨6<r+u):O4 r c l p q m u v h x=3:=by
 unfold O4; rw [A13 (fun h=>h k),k2,A13 (by decide),A14 k3]
theorem Air (k:Nv r c l p q m u v h=0) (k2:Ck x=true) (k3:¬ (p≠r∨q≠1∨v≠c∨6<r+u)) (k4:C2 (Dk x h)=false):O4 r c l p q m u v h x=2:=by
 unfold O4; rw [A13 (fun h=>h k),k2,A13 (by decide),A13 k3,A14 k4]
theorem Apl (k:Nv r c l p q m u v h=0) (k2:Ck x=true) (k3:¬ (p≠r∨q≠1∨v≠c∨6<r+u)) (k4:C2 (Dk x h)=true):O4 r c l p q m u v h x=0:=by
 unfold O4; rw [A13 (fun h=>h k),k2,A13 (by decide),A13 k3,k4,A13 (by decide)]
end
theorem Dq.Kw.known:Dq.Kw.Kn:=Dq.Kw.Ac (.cons Aa.Stack.known (.cons Aa.Bb.known (.cons Dq.Cx.known (.cons soft.Finite.known (.cons solve.Dv.known (.cons Ad.Finite.known (.cons Ad.B6.known .nil))))))) fun r c l p q m u v h x hp=>Agc (by
 obtain ⟨h0,hx⟩:=Ae.1 (show (Rr l m h&&Af x)=true from hp)
 obtain ⟨h1,ah⟩:=Ae.1 (show ((Ai l&&Ai m)&&Ai h)=true from h0)
 obtain ⟨al,am⟩:=Ae.1 h1
 show Aw8 _ (Ea r c l p q m u v h x)
 rw [Dq.Kw.ev,h0,A1h]
 by_cases k:Nv r c l p q m u v h=0
 ·obtain ⟨k1,k2,k3⟩:=Wy k
  rw [G9 k,A1l,hx,A1h]
  cases hf:Ck x with
  | false =>
    rw [A20,A1h,Uv (Ait k hf) (by decide)]
    exact X9 rfl
  | true =>
    have s1:=Uu (Ej k1).1
    have s3:=Uu (Ej k3).1
    rw [A2g,A1l,Abu ⟨s1.1,s1.2.1⟩ ⟨s3.1,s3.2.1⟩]
    by_cases ks:p≠r∨q≠1∨v≠c∨6<r+u
    ·rw [A1i ks,A1h,Uv (Ais k hf ks) (by decide)]
     exact X9 rfl
    ·obtain ⟨R,C,_,_,hm,_⟩:=W5.Awk k3 ah
     have hl:h.length≤36:=hm.len
     rw [A1m ks,A1l,Akx hl ah,A1n,Ar.2 (show h.length≤64 by omega),A1n,A1h,Akx (by rw [Ni]; exact hl) (R0 x h),A1h]
     cases hg:C2 (Dk x h) with
     | false =>
       rw [A20,A1h,Uv (Air k hf ks hg) (by decide)]
       exact X9 rfl
     | true =>
       have az:Ai (C1 u 1).2.2.1=true:=by
        unfold C1
        split
        ·exact (show Ai (Bv _ _ fun _ _=>0)=true from Gq fun _ _=>G7)
        ·exact I6
       rw [A2g,A1l,Akm (Apl k hf ks hg),Abp al (R0 x h),Abp am az,A1n,A1h]
       exact Atl rfl
 ·rw [Vw k,A1h,Uv (Aiu k) k]
  exact X9 rfl)
namespace EqRef22
def Aj.B6.hint:Nat→Option Be
 | 0=>some { keep:=[0,1,5,6],objs:=[(0,5,100005,.ints 37 .u64 [])],boxes:=[] }
 | _=>none
def Aj.B6.A9:List (Nat × Entry):=[(82,Aj.Mul.spec)]
def Aj.B6.E:Env:=Ba (A8 Aj.B6.A9) (fun _=>false) Aj.B6.hint (fun _=>none)
section
variable (N M:Nat) (x:Int) (l:List Int) (p6:Int) (p5:List Int)
def Aj.B6.L0:Option DV:=B2 Aj.B6.E N f154 (An f154) [1,1,0,1,0] [] M ⟨Gz 24 [(0,.int .u64 x),(1,.ints .arg .u64 l),(5,.oref 100005),(6,.int .i64 p6)],[(100005,false,.ints 37 .u64 p5)]⟩
theorem Aj.B6.Av:Aj.B6.L0 N (M+1) x l p6 p5=bif (A6 p6 (length l:Int)) then bif ((decide (0≤p6))&&(decide (p6<(length l:Int)))) then bif (Af x&&Af (getD l (toNat p6) 0)) then bif (decide ((length p5)+1≤G0)) then Aj.B6.L0 N M x l (Ab (p6+1)) (p5++[(C5 x (getD l (toNat p6) 0))]) else none else none else none else some (.ints (.own 100005 37) .u64 p5):=by kernel_rfl
theorem Aj.B6.ev:Bw Aj.B6.E N f154 (An f154) [.int .u64 x,.ints .arg .u64 l] =
 Aj.B6.L0 N N x l 0 []:=by kernel_rfl
end
abbrev _root_.Go.Proofs.S1.Aj.B6.Kn:=A4 prog 154 Aj.B6.spec
theorem Aj.B6.Ac (hk:Az prog Aj.B6.A9) (h:Hyp Aj.B6.E f154 Aj.B6.ts Aj.B6.pre Aj.B6.out):Aj.B6.Kn :=
 Al (A0 hk _ _ _) func154 (by kernel_rfl) (by kernel_rfl) h
def Cn.Cx.A9:List (Nat × Entry):=[(25,Gl.Check.spec)]
def Cn.Cx.E:Env:=Ba (A8 Cn.Cx.A9) (fun _=>false) (fun _=>none) (fun _=>none)
theorem Cn.Cx.ev (N:Nat) (r c:Int) (l:List Int) (p q:Int) (m:List Int) (u v:Int) (h:List Int):Bw Cn.Cx.E N f153 (An f153) [.agg [.int .i64 r,.int .i64 c,.ints .arg .u64 l],.agg [.int .i64 p,.int .i64 q,.ints .arg .u64 m],.agg [.int .i64 u,.int .i64 v,.ints .arg .u64 h]]=bif (Ai l) then bif ((B9 r c l) !=(0:Int)) then bif (Ai l) then some (.int .i64 (B9 r c l)) else none else bif (Ai m) then bif ((B9 p q m) !=(0:Int)) then bif (Ai m) then some (.int .i64 (B9 p q m)) else none else bif (Ai h) then some (.int .i64 (B9 u v h)) else none else none else none:=by kernel_rfl
abbrev _root_.Go.Proofs.S1.Cn.Cx.Kn:=A4 prog 153 Cn.Cx.spec
theorem Cn.Cx.Ac (hk:Az prog Cn.Cx.A9) (h:Hyp Cn.Cx.E f153 Cn.Cx.ts Cn.Cx.pre Cn.Cx.out):Cn.Cx.Kn :=
 Al (A0 hk _ _ _) func153 (by kernel_rfl) (by kernel_rfl) h
def Cn.L7.A9:List (Nat × Entry):=[(72,Ak.Stack.spec),(35,Ak.Bb.spec)]
def Cn.L7.E:Env:=Ba (A8 Cn.L7.A9) (fun _=>false) (fun _=>none) (fun _=>none)
theorem Cn.L7.ev (N:Nat) (p q:Int) (m:List Int) (u v:Int) (h:List Int):Bw Cn.L7.E N f73 (An f73) [.agg [.int .i64 p,.int .i64 q,.ints .arg .u64 m],.agg [.int .i64 u,.int .i64 v,.ints .arg .u64 h]]=bif (Bh u&&Bh 1) then bif ((A2 p q m&&A2 u 1 (Bv (toNat u) (toNat 1) (fun _ _=>0)))&&decide ((1:Int)=q)) then some (.agg [.int .i64 (p+u),.int .i64 q,.ints .fresh .u64 (m++(Bv (toNat u) (toNat 1) (fun _ _=>0)))]) else none else none :=
 Eq.trans (by kernel_rfl)
 (C9 (Cy (Bh u&&Bh 1)) (C9 (Cy ((A2 p q m&&A2 u 1 (Bv (toNat u) (toNat 1) (fun _ _=>0)))&&decide ((1:Int)=q))) rfl rfl) rfl)
abbrev _root_.Go.Proofs.S1.Cn.L7.Kn:=A4 prog 73 Cn.L7.spec
theorem Cn.L7.Ac (hk:Az prog Cn.L7.A9) (h:Hyp Cn.L7.E f73 Cn.L7.ts Cn.L7.pre Cn.L7.out):Cn.L7.Kn :=
 Al (A0 hk _ _ _) func73 (by kernel_rfl) (by kernel_rfl) h
def Cn.Dh.A9:List (Nat × Entry):=[(131,A1.Finite.spec),(92,Aj.Finite.spec),(154,Aj.B6.spec),(153,Cn.Cx.spec)]
def Cn.Dh.E:Env:=Ba (A8 Cn.Dh.A9) (fun _=>false) (fun _=>none) (fun _=>none)
theorem Cn.Dh.ev (N:Nat) (r c:Int) (l:List Int) (p q:Int) (m:List Int) (u v:Int) (h:List Int) (x:Int):Bw Cn.Dh.E N f71 (An f71) [.agg [.int .i64 r,.int .i64 c,.ints .arg .u64 l],.agg [.int .i64 p,.int .i64 q,.ints .arg .u64 m],.agg [.int .i64 u,.int .i64 v,.ints .arg .u64 h],.int .u64 x]=bif (Rr l m h) then bif ((Nv r c l p q m u v h) !=(0:Int)) then bif (Rr l m h) then some (.int .i64 (Nv r c l p q m u v h)) else none else bif (Af x) then bif (!(Ck x)) then some (.int .i64 4) else bif ((((p !=r)||(q !=(1:Int)))||(v !=c))||(A6 6 (Ab (r+u)))) then some (.int .i64 3) else bif ((Cp h&&Af x)&&Cz (length h≤64)) then bif (Cp (Dk x h)) then bif (!(C2 (Dk x h))) then some (.int .i64 2) else some (.int .i64 0) else none else none else none else none :=
 Eq.trans (by kernel_rfl)
 (Et (Et rfl (Et (Et rfl (Ax (S8 (p !=r)) (Ax (Qx (p !=r)) (Ax (Qx (p !=r)) (Ax (X2 (p !=r)) (Ax (Afg (p !=r) (q !=(1:Int))) (Ax (Aib (p !=r) (q !=(1:Int))) (Ax (Afg (p !=r) (q !=(1:Int))) (Ax (Aib (p !=r) (q !=(1:Int))) (Ax (Ass (p !=r) (q !=(1:Int))) (Ax (Asv (p !=r) (q !=(1:Int))) (Ax (Al5 (p !=r) (q !=(1:Int)) (v !=c)) (Ax (Afh (p !=r) (q !=(1:Int)) (v !=c)) (Ax (Al5 (p !=r) (q !=(1:Int)) (v !=c)) (Ax (Afh (p !=r) (q !=(1:Int)) (v !=c)) (Ax (Ava (p !=r) (q !=(1:Int)) (v !=c)) (Ax (Afh (p !=r) (q !=(1:Int)) (v !=c)) (Ax (Asw (p !=r) (q !=(1:Int)) (v !=c)) (C9 (Au9 (p !=r) (q !=(1:Int)) (v !=c) (A6 6 (Ab (r+u)))) rfl rfl))))))))))))))))))) rfl)) rfl)
abbrev _root_.Go.Proofs.S1.Cn.Dh.Kn:=A4 prog 71 Cn.Dh.spec
theorem Cn.Dh.Ac (hk:Az prog Cn.Dh.A9) (h:Hyp Cn.Dh.E f71 Cn.Dh.ts Cn.Dh.pre Cn.Dh.out):Cn.Dh.Kn :=
 Al (A0 hk _ _ _) func71 (by kernel_rfl) (by kernel_rfl) h
end EqRef22
open EqRef22
theorem Y9 (N:Nat) {x:Int} {l:List Int} (al:Ai l=true) (hx:Af x=true) (h64:l.length≤64):∀ (k i F:Nat),i+k=l.length→k<F →
 Aj.B6.L0 N F x l (i:Int) ((List.range i).map fun j=>C5 x (l.getD j 0))=some (.ints (.own 100005 tB) .u64 (Dk x l)):=by
 intro k
 induction k with
 | zero =>
   intro i F hi hF
   obtain ⟨F,rfl⟩:∃ G,F=G+1:=⟨F-1,by omega⟩
   obtain rfl:i=l.length:=by omega
   rw [Aj.B6.Av,Au,A1m (by omega),A1l,W9]
 | succ k ih =>
   intro i F hi hF
   obtain ⟨F,rfl⟩:∃ G,F=G+1:=⟨F-1,by omega⟩
   have:=ih (i+1) F (by omega) (by omega)
   rw [He] at this
   rw [Aj.B6.Av,Au,A1i (by omega),A1h,A1i (show (0:Int)≤(i:Int) by omega),A1n,A1h,A1j,hx,Qm al (by omega),A1n,A1h,
    A1i (by rw [A2n,A2k]; unfold G0; omega),A1h,Am (by omega) (by omega)]
   exact this
theorem Aj.B6.known:Aj.B6.Kn:=Aj.B6.Ac (.cons Aj.Mul.known .nil) fun x l hp=>by
 obtain ⟨h1,h2⟩:=Ae.1 (show ((Cp l&&Af x)&&Cz (length l≤64))=true from hp)
 obtain ⟨ol,hx⟩:=Ae.1 h1
 have h2:=Ar.1 h2
 refine ⟨65,.ints (.own 100005 tB) .u64 (Dk x l),[100005],?_,.drop _ _ _ _ (List.mem_singleton.2 rfl)⟩
 rw [Aj.B6.ev]
 exact Y9 65 (Sr ol) hx h2 l.length 0 65 (by omega) (by omega)
theorem Cn.Cx.known:Cn.Cx.Kn:=Cn.Cx.Ac (.cons Gl.Check.known .nil) fun r c l p q m u v h hp=>by
 obtain ⟨h1,ah⟩:=Ae.1 (show ((Ai l&&Ai m)&&Ai h)=true from hp)
 obtain ⟨al,am⟩:=Ae.1 h1
 refine ⟨0,.int .i64 (Nv r c l p q m u v h),[],?_,.int⟩
 rw [Cn.Cx.ev,al,am,ah]
 simp only [A1h]
 unfold Nv
 by_cases k1:B9 r c l=0
 ·rw [G9 k1,A1l,A13 (fun h=>h k1)]
  by_cases k2:B9 p q m=0
  ·rw [G9 k2,A1l,A13 (fun h=>h k2)]
  ·rw [Vw k2,A1h,A14 k2]
 ·rw [Vw k1,A1h,A14 k1]
theorem Cn.L7.known:Cn.L7.Kn:=Cn.L7.Ac (.cons Ak.Stack.known (.cons Ak.Bb.known .nil)) fun p q m u v h hp=>Agc (by
 obtain ⟨h1,hq⟩:=Ae.1 (show ((A2 p q m&&Bh u)&&decide (q=1))=true from hp)
 obtain ⟨hr,hu⟩:=Ae.1 h1
 obtain rfl:=A17 hq
 obtain ⟨U,rfl,hU⟩:=Ew hu
 have e1:Bv (toNat (U:Int)) (toNat (1:Int)) (fun _ _=>0)=List.replicate (toNat (U:Int)) 0:=by
  rw [Qb,A1j]
  show List.replicate (U*1) (0:Int)=_
  rw [A2q]
 have e2:A2 (U:Int) 1 (List.replicate (toNat (U:Int)) 0)=true:=Ft (r:=U) (c:=1) hU (by decide) (by rw [List.length_replicate,A1j,A2q])
 rw [Cn.L7.ev,e1,e2,hr,hu,show Bh 1=true from rfl,A1i rfl]
 exact ⟨_,[],rfl,Axg⟩)
theorem Cn.Dh.known:Cn.Dh.Kn:=Cn.Dh.Ac (.cons A1.Finite.known (.cons Aj.Finite.known (.cons Aj.B6.known (.cons Cn.Cx.known .nil)))) fun r c l p q m u v h x hp=>by
 obtain ⟨h0,hx⟩:=Ae.1 (show (Rr l m h&&Af x)=true from hp)
 obtain ⟨h1,ah⟩:=Ae.1 (show ((Ai l&&Ai m)&&Ai h)=true from h0)
 refine ⟨0,.int .i64 (O4 r c l p q m u v h x),[],?_,.int⟩
 rw [Cn.Dh.ev,h0,A1h]
 by_cases k:Nv r c l p q m u v h=0
 ·obtain ⟨k1,k2,k3⟩:=Wy k
  rw [G9 k,A1l,hx,A1h]
  cases hf:Ck x with
  | false=>rw [A20,A1h,Ait k hf]
  | true =>
    have s1:=Uu (Ej k1).1
    have s3:=Uu (Ej k3).1
    rw [A2g,A1l,Abu ⟨s1.1,s1.2.1⟩ ⟨s3.1,s3.2.1⟩]
    by_cases ks:p≠r∨q≠1∨v≠c∨6<r+u
    ·rw [A1i ks,A1h,Ais k hf ks]
    ·have hl:=Na (Ej k3).1
     rw [A1m ks,A1l,Akx hl ah,A1n,Ar.2 (show h.length≤64 by omega),A1n,A1h,Akx (by rw [Ni]; exact hl) (R0 x h),A1h]
     cases hg:C2 (Dk x h) with
     | false=>rw [A20,A1h,Air k hf ks hg]
     | true=>rw [A2g,A1l,Apl k hf ks hg]
 ·rw [Vw k,A1h,A1h,Aiu k]
theorem Amj {r c:Int} {l:List Int} {p q:Int} {m:List Int} {u v:Int} {h:List Int} {x:Int} (e:O4 r c l p q m u v h x=0) :
 B9 r c l=0∧B9 p q m=0∧B9 u v h=0∧Ck x=true∧p=r∧q=1∧v=c∧r+u≤6∧C2 (Dk x h)=true:=by
 by_cases k:Nv r c l p q m u v h=0
 ·obtain ⟨k1,k2,k3⟩:=Wy k
  cases hf:Ck x with
  | false=>rw [Ait k hf] at e; exact absurd e (by decide)
  | true =>
    by_cases ks:p≠r∨q≠1∨v≠c∨6<r+u
    ·rw [Ais k hf ks] at e; exact absurd e (by decide)
    ·cases hg:C2 (Dk x h) with
     | false=>rw [Air k hf ks hg] at e; exact absurd e (by decide)
     | true=>exact ⟨k1,k2,k3,rfl,by omega,by omega,by omega,by omega,rfl⟩
 ·rw [Aiu k] at e; exact absurd e k
theorem Ar8 {R U C:Nat} {l h:List Int} {x:Int} (hR:R+U≤6) (c6:C≤6) (hl:l.length=R*C) (hh:h.length=U*C) :
 Au0 (R:Int) (C:Int) l (U:Int) (C:Int) h x=((R:Int)+(U:Int),(C:Int),l++Dk x h,0):=by
 unfold Au0 D5
 rw [Ft (by omega) c6 hl,Ft (by omega) c6 (show (Dk x h).length=U*C by rw [Ni]; exact hh),A1n,A14 rfl,A14 ⟨rfl,by omega⟩,
  show ((R:Int)+(U:Int)).toNat=R+U by omega,A1j,Yw hl (by rw [Ni]; exact hh)]
theorem Amb {R U:Nat} {m:List Int} (hR:R+U≤6) (hm:m.length=R*1) :
 Aft (R:Int) 1 m (U:Int)=((R:Int)+(U:Int),1,m++List.replicate (toNat (U:Int)) 0,0):=by
 have ez:C1 (U:Int) 1=((U:Int),1,List.replicate U 0,0):=by
  unfold C1
  rw [show (Bh (U:Int)&&Bh 1)=true by rw [Mn (show U≤6 by omega)]; rfl,A14 rfl,Qb]
  show ((U:Int),(1:Int),List.replicate ((U:Int).toNat*1) (0:Int),(0:Int))=_
  rw [A2q,A1j]
 have hz:(List.replicate U (0:Int)).length=U*1:=by rw [List.length_replicate,A2q]
 unfold Aft
 rw [ez]
 unfold D5
 dsimp only
 rw [show A2 (R:Int) 1 m=true from Ft (c:=1) (by omega) (by decide) hm,show A2 (U:Int) 1 (List.replicate U (0:Int))=true from Ft (c:=1) (by omega) (by decide) hz,A1n,A14 rfl,A14 ⟨rfl,by omega⟩,
  show ((R:Int)+(U:Int)).toNat=R+U by omega,show (1:Int).toNat=1 from rfl,A1j]
 have:=Yw (R:=R) (P:=U) (C:=1) hm hz
 rw [show ((1:Nat):Int)=1 from rfl] at this
 rw [this]
namespace EqLaw17
end EqLaw17
open EqLaw17
namespace EqLaw22
def Cq.one.A9:List (Nat × Entry):=[]
def Cq.one.E:Env:=Ba (A8 Cq.one.A9) (fun _=>false) (fun _=>none) (fun _=>none)
theorem Cq.one.ev (N:Nat) (b:Int):Bw Cq.one.E N f152 (An f152) [.int .u64 b]=some (.agg [.int .i64 1,.int .i64 1,.ints (.own 4 37) .u64 [b]]):=by kernel_rfl
abbrev _root_.Go.Proofs.S1.Cq.one.Kn:=A4 prog 152 Cq.one.spec
theorem Cq.one.Ac (hk:Az prog Cq.one.A9) (h:Hyp Cq.one.E f152 Cq.one.ts Cq.one.pre Cq.one.out):Cq.one.Kn :=
 Al (A0 hk _ _ _) func152 (by kernel_rfl) (by kernel_rfl) h
def Cq.G5.A9:List (Nat × Entry):=[(152,Cq.one.spec),(66,Dq.Kw.spec)]
def Cq.G5.E:Env:=Ba (A8 Cq.G5.A9) (fun _=>false) (fun _=>none) (fun _=>none)
theorem Cq.G5.ev (N:Nat):Bw Cq.G5.E N f68 (An f68) []=bif (Rr ([(4607182418800017408:Int)]) ([(4611686018427387904:Int)]) []&&Af 4607182418800017408) then bif ((!((((Ea 1 1 ([(4607182418800017408:Int)]) 1 1 ([(4611686018427387904:Int)]) 0 1 [] 4607182418800017408).2.2.2)==(0:Int))&&((length ((Ea 1 1 ([(4607182418800017408:Int)]) 1 1 ([(4611686018427387904:Int)]) 0 1 [] 4607182418800017408).2.2.1):Int)==(1:Int))))||(decide ((0:Int)<(length ((Ea 1 1 ([(4607182418800017408:Int)]) 1 1 ([(4611686018427387904:Int)]) 0 1 [] 4607182418800017408).2.2.1):Int)))) then some (.bool (bif (bif (((Ea 1 1 ([(4607182418800017408:Int)]) 1 1 ([(4611686018427387904:Int)]) 0 1 [] 4607182418800017408).2.2.2)==(0:Int)) then ((length ((Ea 1 1 ([(4607182418800017408:Int)]) 1 1 ([(4611686018427387904:Int)]) 0 1 [] 4607182418800017408).2.2.1):Int)==(1:Int)) else false) then ((getD ((Ea 1 1 ([(4607182418800017408:Int)]) 1 1 ([(4611686018427387904:Int)]) 0 1 [] 4607182418800017408).2.2.1) 0 0)==(4611686018427387904:Int)) else false)) else none else none :=
 Eq.trans (by kernel_rfl)
 (Et (Ax (Qq (((Ea 1 1 ([(4607182418800017408:Int)]) 1 1 ([(4611686018427387904:Int)]) 0 1 [] 4607182418800017408).2.2.2)==(0:Int))) (Ax (Ma (((Ea 1 1 ([(4607182418800017408:Int)]) 1 1 ([(4611686018427387904:Int)]) 0 1 [] 4607182418800017408).2.2.2)==(0:Int))) (Ax (Ma (((Ea 1 1 ([(4607182418800017408:Int)]) 1 1 ([(4611686018427387904:Int)]) 0 1 [] 4607182418800017408).2.2.2)==(0:Int))) (Ax (Ma (((Ea 1 1 ([(4607182418800017408:Int)]) 1 1 ([(4611686018427387904:Int)]) 0 1 [] 4607182418800017408).2.2.2)==(0:Int))) (Ax (Uf (((Ea 1 1 ([(4607182418800017408:Int)]) 1 1 ([(4611686018427387904:Int)]) 0 1 [] 4607182418800017408).2.2.2)==(0:Int))) (Ax (Avv (((Ea 1 1 ([(4607182418800017408:Int)]) 1 1 ([(4611686018427387904:Int)]) 0 1 [] 4607182418800017408).2.2.2)==(0:Int)) ((length ((Ea 1 1 ([(4607182418800017408:Int)]) 1 1 ([(4611686018427387904:Int)]) 0 1 [] 4607182418800017408).2.2.1):Int)==(1:Int))) (Ax (Aoz (((Ea 1 1 ([(4607182418800017408:Int)]) 1 1 ([(4611686018427387904:Int)]) 0 1 [] 4607182418800017408).2.2.2)==(0:Int)) ((length ((Ea 1 1 ([(4607182418800017408:Int)]) 1 1 ([(4611686018427387904:Int)]) 0 1 [] 4607182418800017408).2.2.1):Int)==(1:Int))) (C9 (Az4 (((Ea 1 1 ([(4607182418800017408:Int)]) 1 1 ([(4611686018427387904:Int)]) 0 1 [] 4607182418800017408).2.2.2)==(0:Int)) ((length ((Ea 1 1 ([(4607182418800017408:Int)]) 1 1 ([(4611686018427387904:Int)]) 0 1 [] 4607182418800017408).2.2.1):Int)==(1:Int)) (decide ((0:Int)<(length ((Ea 1 1 ([(4607182418800017408:Int)]) 1 1 ([(4611686018427387904:Int)]) 0 1 [] 4607182418800017408).2.2.1):Int)))) (Ax (Aoz (((Ea 1 1 ([(4607182418800017408:Int)]) 1 1 ([(4611686018427387904:Int)]) 0 1 [] 4607182418800017408).2.2.2)==(0:Int)) ((length ((Ea 1 1 ([(4607182418800017408:Int)]) 1 1 ([(4611686018427387904:Int)]) 0 1 [] 4607182418800017408).2.2.1):Int)==(1:Int))) (Ax (Aoz (((Ea 1 1 ([(4607182418800017408:Int)]) 1 1 ([(4611686018427387904:Int)]) 0 1 [] 4607182418800017408).2.2.2)==(0:Int)) ((length ((Ea 1 1 ([(4607182418800017408:Int)]) 1 1 ([(4611686018427387904:Int)]) 0 1 [] 4607182418800017408).2.2.1):Int)==(1:Int))) (Ax (Avw (((Ea 1 1 ([(4607182418800017408:Int)]) 1 1 ([(4611686018427387904:Int)]) 0 1 [] 4607182418800017408).2.2.2)==(0:Int)) ((length ((Ea 1 1 ([(4607182418800017408:Int)]) 1 1 ([(4611686018427387904:Int)]) 0 1 [] 4607182418800017408).2.2.1):Int)==(1:Int))) rfl))) rfl)))))))) rfl)
abbrev _root_.Go.Proofs.S1.Cq.G5.Kn:=A4 prog 68 Cq.G5.spec
theorem Cq.G5.Ac (hk:Az prog Cq.G5.A9) (h:Unit→Hyp Cq.G5.E f68 Cq.G5.ts Cq.G5.pre Cq.G5.out):Cq.G5.Kn :=
 Al (A0 hk _ _ _) func68 (by kernel_rfl) (by kernel_rfl) (h ())
def Cq.Dn.A9:List (Nat × Entry):=[(68,Cq.G5.spec),(72,Ak.Stack.spec),(35,Ak.Bb.spec),(32,A3.Dv.spec),(71,Cn.Dh.spec),(73,Cn.L7.spec),(66,Dq.Kw.spec)]
def Cq.Dn.E:Env:=Ba (A8 Cq.Dn.A9) (fun _=>false) (fun _=>none) (fun _=>none)
theorem Cq.Dn.ev (N:Nat) (r c:Int) (l:List Int) (p q:Int) (m:List Int) (u v:Int) (h:List Int):Bw Cq.Dn.E N f20 (An f20) [.agg [.int .i64 r,.int .i64 c,.ints .arg .u64 l,.int .i64 p,.int .i64 q,.ints .arg .u64 m,.int .i64 u,.int .i64 v,.ints .arg .u64 h]]=bif (Rr l m h&&Af 0) then bif (Rr l m h&&Af 0) then bif ((O4 r c l p q m u v h 0) !=(0:Int)) then some (.bool (bif (bif (((Ea r c l p q m u v h 0).2.2.2) !=(0:Int)) then ((length ((Ea r c l p q m u v h 0).2.2.1):Int)==(0:Int)) else false) then true else false)) else bif (Bh u&&Bh v) then bif ((A2 r c l&&A2 u v (Bv (toNat u) (toNat v) (fun _ _=>0)))&&decide (v=c)) then bif ((A2 p q m&&Bh u)&&decide (q=1)) then bif (Ai (l++(Bv (toNat u) (toNat v) (fun _ _=>0)))&&Ai (m++List.replicate (toNat u) 0)) then some (.bool (bif (bif (((Ea r c l p q m u v h 0).2.2.2)==((Dt (r+u) c (l++(Bv (toNat u) (toNat v) (fun _ _=>0))) (p+u) 1 (m++List.replicate (toNat u) 0)).2.2.2)) then (bif (((Ea r c l p q m u v h 0).2.2.2) !=(0:Int)) then true else (((Ea r c l p q m u v h 0).1)==c)) else false) then true else false)) else none else none else none else none else none else none :=
 Eq.trans (by kernel_rfl)
 (Et (Et (Et (Ax (Qq (((Ea r c l p q m u v h 0).2.2.2) !=(0:Int))) (Ax (Ma (((Ea r c l p q m u v h 0).2.2.2) !=(0:Int))) (Ax (Ma (((Ea r c l p q m u v h 0).2.2.2) !=(0:Int))) (Ax (Ma (((Ea r c l p q m u v h 0).2.2.2) !=(0:Int))) (Ax (Uf (((Ea r c l p q m u v h 0).2.2.2) !=(0:Int))) (Ax (Avv (((Ea r c l p q m u v h 0).2.2.2) !=(0:Int)) ((length ((Ea r c l p q m u v h 0).2.2.1):Int)==(0:Int))) (Ax (Avw (((Ea r c l p q m u v h 0).2.2.2) !=(0:Int)) ((length ((Ea r c l p q m u v h 0).2.2.1):Int)==(0:Int))) rfl))))))) (C9 (Cy (Bh u&&Bh v)) (C9 (Cy ((A2 r c l&&A2 u v (Bv (toNat u) (toNat v) (fun _ _=>0)))&&decide (v=c))) (C9 (Cy ((A2 p q m&&Bh u)&&decide (q=1))) (C9 (Cy (Ai (l++(Bv (toNat u) (toNat v) (fun _ _=>0)))&&Ai (m++List.replicate (toNat u) 0))) (Ax (Qq (((Ea r c l p q m u v h 0).2.2.2)==((Dt (r+u) c (l++(Bv (toNat u) (toNat v) (fun _ _=>0))) (p+u) 1 (m++List.replicate (toNat u) 0)).2.2.2))) (Ax (Ma (((Ea r c l p q m u v h 0).2.2.2)==((Dt (r+u) c (l++(Bv (toNat u) (toNat v) (fun _ _=>0))) (p+u) 1 (m++List.replicate (toNat u) 0)).2.2.2))) (Ax (Ma (((Ea r c l p q m u v h 0).2.2.2)==((Dt (r+u) c (l++(Bv (toNat u) (toNat v) (fun _ _=>0))) (p+u) 1 (m++List.replicate (toNat u) 0)).2.2.2))) (Ax (As0 (((Ea r c l p q m u v h 0).2.2.2)==((Dt (r+u) c (l++(Bv (toNat u) (toNat v) (fun _ _=>0))) (p+u) 1 (m++List.replicate (toNat u) 0)).2.2.2)) (((Ea r c l p q m u v h 0).2.2.2) !=(0:Int))) (Ax (As1 (((Ea r c l p q m u v h 0).2.2.2)==((Dt (r+u) c (l++(Bv (toNat u) (toNat v) (fun _ _=>0))) (p+u) 1 (m++List.replicate (toNat u) 0)).2.2.2)) (((Ea r c l p q m u v h 0).2.2.2) !=(0:Int))) (Ax (As0 (((Ea r c l p q m u v h 0).2.2.2)==((Dt (r+u) c (l++(Bv (toNat u) (toNat v) (fun _ _=>0))) (p+u) 1 (m++List.replicate (toNat u) 0)).2.2.2)) (((Ea r c l p q m u v h 0).2.2.2) !=(0:Int))) (Ax (As1 (((Ea r c l p q m u v h 0).2.2.2)==((Dt (r+u) c (l++(Bv (toNat u) (toNat v) (fun _ _=>0))) (p+u) 1 (m++List.replicate (toNat u) 0)).2.2.2)) (((Ea r c l p q m u v h 0).2.2.2) !=(0:Int))) (Ax (As1 (((Ea r c l p q m u v h 0).2.2.2)==((Dt (r+u) c (l++(Bv (toNat u) (toNat v) (fun _ _=>0))) (p+u) 1 (m++List.replicate (toNat u) 0)).2.2.2)) (((Ea r c l p q m u v h 0).2.2.2) !=(0:Int))) (Ax (Aym (((Ea r c l p q m u v h 0).2.2.2)==((Dt (r+u) c (l++(Bv (toNat u) (toNat v) (fun _ _=>0))) (p+u) 1 (m++List.replicate (toNat u) 0)).2.2.2)) (((Ea r c l p q m u v h 0).2.2.2) !=(0:Int))) (Ax (Ayq (((Ea r c l p q m u v h 0).2.2.2)==((Dt (r+u) c (l++(Bv (toNat u) (toNat v) (fun _ _=>0))) (p+u) 1 (m++List.replicate (toNat u) 0)).2.2.2)) (((Ea r c l p q m u v h 0).2.2.2) !=(0:Int))) (Ax (Uf (((Ea r c l p q m u v h 0).2.2.2)==((Dt (r+u) c (l++(Bv (toNat u) (toNat v) (fun _ _=>0))) (p+u) 1 (m++List.replicate (toNat u) 0)).2.2.2))) (Ax (Ayo (((Ea r c l p q m u v h 0).2.2.2)==((Dt (r+u) c (l++(Bv (toNat u) (toNat v) (fun _ _=>0))) (p+u) 1 (m++List.replicate (toNat u) 0)).2.2.2)) (((Ea r c l p q m u v h 0).2.2.2) !=(0:Int)) (((Ea r c l p q m u v h 0).1)==c)) (Ax (Ayp (((Ea r c l p q m u v h 0).2.2.2)==((Dt (r+u) c (l++(Bv (toNat u) (toNat v) (fun _ _=>0))) (p+u) 1 (m++List.replicate (toNat u) 0)).2.2.2)) (((Ea r c l p q m u v h 0).2.2.2) !=(0:Int)) (((Ea r c l p q m u v h 0).1)==c)) rfl))))))))))))) rfl) rfl) rfl) rfl)) rfl) rfl)
abbrev _root_.Go.Proofs.S1.Cq.Dn.Kn:=A4 prog 20 Cq.Dn.spec
theorem Cq.Dn.Ac (hk:Az prog Cq.Dn.A9) (h:Hyp Cq.Dn.E f20 Cq.Dn.ts Cq.Dn.pre Cq.Dn.out):Cq.Dn.Kn :=
 Al (A0 hk _ _ _) func20 (by kernel_rfl) (by kernel_rfl) h
end EqLaw22
end Go.Proofs.S1
end
