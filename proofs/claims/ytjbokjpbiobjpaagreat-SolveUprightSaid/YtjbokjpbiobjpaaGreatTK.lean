/- A verified evaluator of the program's form and its use for this seat: S1PQr, S1PQrA, S1EqLaw17, S1PLaw17, S1EqRefA, S1PRefA, S1PRefAa, S1EqRefB, S1PRefB, S1PRefBa, S1EqRefC, S1PRefC, S1PRefCa, S1EqRefE, S1PRefV, LdxL, S1EqLdx, S1PLdx, S1PLdxA, S1EqRef08, S1EqRef13, S1PRef08, S1EqRef14, S1PRef13, S1EqTame, S1PTame, S1EqRefM. -/
import Derived.Test.YtjbokjpbiobjpaaGreatTJ
import Derived.Test.YtjbokjpbiobjpaaGreatTE
import Derived.Test.YtjbokjpbiobjpaaGreatTF
import Derived.Test.YtjbokjpbiobjpaaGreatTI
set_option linter.unusedVariables false
set_option linter.unusedSimpArgs false
noncomputable section
open Int (toNat)
open List (length getD)
open Go.Proofs.Tryz
namespace Go.Proofs.S1
open Go Go.Den Go.Cv Go.Proofs
open EqQr
def clS (R C:Nat) (l:List Int) (j:Nat) (x:Int) (i:Nat):List Int:=Di R C fun a b=>if b=j∧j≤a∧a<i then (if a=j then x else 0) else Co (C:Int) l (a:Int) (b:Int)
section
variable {R C j:Nat} {l:List Int} {x:Int}
theorem Axj (i:Nat):(clS R C l j x i).length=R*C:=Cf _ _ _
theorem Ad5 (hl:l.length=R*C) (hj:j<C):List.set l (j*C+j) x=clS R C l j x (j+1):=by
 unfold clS
 conv=>lhs; rw [← Adx hl]
 rw [Wb hj]
 refine F9 fun a b ha hb=>?_
 by_cases h:a=j∧b=j
 ·rw [A58 h,A58 (by omega),A58 h.1]
 ·rw [A57 h,A57 (by omega)]
theorem Axi {i:Nat} (hj:j<C) (hi:j<i):List.set (clS R C l j x i) (i*C+j) 0=clS R C l j x (i+1):=by
 unfold clS
 rw [Wb hj]
 refine F9 fun a b ha hb=>?_
 by_cases h:a=i∧b=j
 ·rw [A58 h,A58 (by omega),A57 (by omega)]
 ·rw [A57 h]
  by_cases h2:b=j∧j≤a∧a<i
  ·rw [A58 h2,A58 (show b=j∧j≤a∧a<i+1 by omega)]
  ·rw [A57 h2,A57 (by omega)]
theorem Axk:clS R C l j x R=Po R C l j x:=by
 unfold clS Po
 refine F9 fun a b ha hb=>?_
 by_cases h:b=j∧j≤a
 ·rw [A58 h,A58 (by omega)]
 ·rw [A57 h,A57 (by omega)]
end
theorem Aa0 {C i j:Nat} (hi:i≤6) (hC:C≤6) (hj:j≤6):Ac (Ac ((i:Int)*(C:Int))+(j:Int))=((i*C+j:Nat):Int):=by
 have h36:=A6h hi hC
 rw [Ap (x:=(i:Int)*(C:Int)) (by rw [← A56]; omega) (by rw [← A56]; omega),← A56,Ap (by omega) (by omega)]
 omega
section
variable {R C:Nat}
theorem Abw (N M0:Nat) (l0:List Int) (r6:R≤6) (c6:C≤6) {j:Nat} (hj:j<C) (l:List Int) (x:Int) (v:List Int) (t:Int) (ms:List (List DV)) (hms:ms.length≤100):∀ (cnt i F:Nat),i+cnt=R→j<i→cnt<F →
 qr.down.L0 N M0 F (R:Int) (C:Int) l0 (i:Int) (clS R C l j x i) (j:Int) v t ms=qr.down.L1 N M0 (R:Int) (C:Int) l0 ((j+1:Nat):Int) (ms++[[.ints .arg .u64 v,.int .u64 t]]) (Po R C l j x):=by
 intro cnt
 induction cnt with
 | zero =>
   intro i F hi hji hF
   obtain ⟨F,rfl⟩:∃ G,F=G+1:=⟨F-1,by omega⟩
   obtain rfl:i=R:=by omega
   rw [qr.down.Ax,Aw,A5q (by omega),A5p,A5m (by unfold Abb; omega),A5l,Ap (by omega) (by omega),Axk]
   rfl
 | succ cnt ih =>
   intro i F hi hji hF
   obtain ⟨F,rfl⟩:∃ G,F=G+1:=⟨F-1,by omega⟩
   have hlen:=Axj (R:=R) (C:=C) (l:=l) (j:=j) (x:=x) i
   have hp:=Ls (show i<R by omega) hj
   rw [qr.down.Ax,Aw,A5m (by omega),A5l,Aa0 (by omega) c6 (by omega),A5m (by omega),A5m (by omega),A5r,A5l,A5n,A5m (by omega),A5l,Axi hj hji,Ap (by omega) (by omega)]
   exact ih (i+1) F (by omega) (by omega) (by omega)
def Uc (r c:Nat) (ms:List (List DV)):Option (List Int × List (List Int × Int))→DV
 | none=>.tup [.agg [.int .i64 0,.int .i64 0,.nil],.nil,.int .i64 2]
 | some x=>.tup [.agg [.int .i64 (r:Int),.int .i64 (c:Int),.ints (.own 106002 tB) .u64 x.1],.recs (.own 100006 tMR) 2 (ms++Aa2 x.2),.int .i64 0]
theorem Aph (N:Nat) (hN:7<N) (l0:List Int) (r6:R≤6) (c6:C≤6):∀ (cnt j F:Nat) (l:List Int) (ms:List (List DV)),j+cnt=Fj R C→cnt<F→l.length=R*C→Ak l=true→ms.length=j →
 qr.down.L1 N F (R:Int) (C:Int) l0 (j:Int) ms l=some (Uc R C ms (I9 R C cnt j l)):=by
 intro cnt
 induction cnt with
 | zero =>
   intro j F l ms hj hF hl al hms
   obtain ⟨F,rfl⟩:∃ G,F=G+1:=⟨F-1,by omega⟩
   unfold Fj at hj
   have hlt:(Ba (j:Int) (C:Int)&&Ba (j:Int) (Ac ((R:Int)-1)))=false:=by
    rw [Aw,Aw,Ap (by omega) (by omega),Bool.and_eq_false_iff,A54,A54]; omega
   rw [qr.down.Cy,hlt,A5p]
   simp [I9,Uc,Aa2]
 | succ cnt ih =>
   intro j F l ms hj hF hl al hms
   obtain ⟨F,rfl⟩:∃ G,F=G+1:=⟨F-1,by omega⟩
   have hj0:=hj
   unfold Fj at hj
   have hr:=E0 r6 c6 hl
   have hlt:(Ba (j:Int) (C:Int)&&Ba (j:Int) (Ac ((R:Int)-1)))=true:=by
    rw [Aw,Aw,Ap (by omega) (by omega),A5m (by omega),A5m (by omega)]; rfl
   have cp:Gw (R:Int) (C:Int) l (j:Int)=true:=Ag.2 ⟨hr,As.2 (by omega)⟩
   have ec:By (C:Int) l (j:Int) (j:Int) (toNat ((R:Int)-(j:Int)))=De R C l j:=by unfold De; rw [show toNat ((R:Int)-(j:Int))=R-j by omega]
   have ca:Ak (De R C l j)=true:=Oa al
   have cl:(De R C l j).length=R-j:=J1 _ _ _ _ _
   rw [qr.down.Cy,hlt,A5l,cp,As.2 (show 0≤(j:Int)∧(j:Int)≤(R:Int) by omega),A5r,A5l,ec,Mz ca (by omega),A5l]
   unfold I9
   by_cases he:(Bu (De R C l j)).2.2.2=0
   ·have hml:=P5 he
    have hma:=Zh ca
    have hap:Q8 (R:Int) (C:Int) (j:Int) (j:Int) (Bu (De R C l j)).1=true:=A5m (by omega)
    have hp:=Ls (show j<R by omega) (show j<C by omega)
    have hlen:=Pq R C l (j:Int) (j:Int) (Bu (De R C l j)).1 (Bu (De R C l j)).2.1
    have hg:=Abw N F l0 r6 c6 (show j<C by omega) (Ga R C l (j:Int) (j:Int) (Bu (De R C l j)).1 (Bu (De R C l j)).2.1) (Bu (De R C l j)).2.2.1 (Bu (De R C l j)).1 (Bu (De R C l j)).2.1 ms (by omega) (R-(j+1)) (j+1) N (by omega) (by omega) (by omega)
    have hn:=ih (j+1) F (Ov R C l j) (ms++[[.ints .arg .u64 (Bu (De R C l j)).1,.int .u64 (Bu (De R C l j)).2.1]]) (by omega) (by omega) (Sa _ _ _ _) (Tj al j) (by rw [A6d,hms]; rfl)
    rw [Ox he,A5p,hr,hap,al,hma.1,hma.2.1,A5r,A5r,A5r,A5l,Aa0 (by omega) c6 (by omega),A5n,A5n,A5n,A5m (by omega),A5m (by omega),A5r,A5l,A5m (by omega),A5l,
     Ad5 hlen (by omega),Ap (by omega) (by omega),A58 he]
    refine (hg.trans hn).trans ?_
    show some (Uc R C _ (I9 R C cnt (j+1) (Ov R C l j)))=some (Uc R C ms _)
    cases I9 R C cnt (j+1) (Ov R C l j) with
    | none=>rfl
    | some x=>simp [Uc,Aa2]
   ·rw [neI he,A5l,A57 he]; rfl
theorem Akx (N:Nat) (hN:7<N) {l:List Int} (r6:R≤6) (c6:C≤6) (hl:l.length=R*C) (al:Ak l=true) (h0:Fj R C≠0) :
 qr.down.L2 N N (R:Int) (C:Int) l=some (Uc R C [] (Im R C l)):=by
 obtain ⟨cnt,hc⟩:∃ cnt,Fj R C=cnt+1:=⟨Fj R C-1,by omega⟩
 obtain ⟨F,rfl⟩:∃ G,N=G+1:=⟨N-1,by omega⟩
 have hj:=hc
 unfold Fj at hj
 have hr:=E0 r6 c6 hl
 have hlt:(Ba (0:Int) (C:Int)&&Ba (0:Int) (Ac ((R:Int)-1)))=true:=by
  rw [Aw,Aw,Ap (by omega) (by omega),A5m (by omega),A5m (by omega)]; rfl
 have cp:Gw (R:Int) (C:Int) l (0:Int)=true:=Ag.2 ⟨hr,As.2 (by omega)⟩
 have ec:By (C:Int) l (0:Int) (0:Int) (toNat ((R:Int)-(0:Int)))=De R C l 0:=by unfold De; rw [show toNat ((R:Int)-(0:Int))=R-0 by omega]; rfl
 have ca:Ak (De R C l 0)=true:=Oa al
 have cl:(De R C l 0).length=R-0:=J1 _ _ _ _ _
 unfold Im
 rw [hc,qr.down.J0,hlt,A5l,cp,As.2 (show 0≤(0:Int)∧(0:Int)≤(R:Int) by omega),A5r,A5l,ec,Mz ca (by omega),A5l]
 unfold I9
 by_cases he:(Bu (De R C l 0)).2.2.2=0
 ·have hml:=P5 he
  have hma:=Zh ca
  have hap:Q8 (R:Int) (C:Int) (0:Int) (0:Int) (Bu (De R C l 0)).1=true:=A5m (by omega)
  have hp:=Ls (show 0<R by omega) (show 0<C by omega)
  have hlen:=Pq R C l (0:Int) (0:Int) (Bu (De R C l 0)).1 (Bu (De R C l 0)).2.1
  have hg:=Abw (F+1) F l r6 c6 (show 0<C by omega) (Ga R C l (0:Int) (0:Int) (Bu (De R C l 0)).1 (Bu (De R C l 0)).2.1) (Bu (De R C l 0)).2.2.1 (Bu (De R C l 0)).1 (Bu (De R C l 0)).2.1 [] (Nat.zero_le _) (R-1) 1 (F+1) (by omega) (by omega) (by omega)
  have hn:=Aph (R:=R) (C:=C) (F+1) hN l r6 c6 cnt 1 F (Ov R C l 0) [[.ints .arg .u64 (Bu (De R C l 0)).1,.int .u64 (Bu (De R C l 0)).2.1]] (by omega) (by unfold Fj at hc; omega) (Sa _ _ _ _) (Tj al 0) rfl
  have mc:=Aa0 (i:=0) (C:=C) (j:=0) (by omega) c6 (by omega)
  have mc:Ac (Ac ((0:Int)*(C:Int))+(0:Int))=((0*C+0:Nat):Int):=mc
  rw [Ox he,A5p,hr,hap,al,hma.1,hma.2.1,A5r,A5r,A5r,A5l,mc,A5n,A5n,A5n,A5m (by omega),A5m (by omega),A5r,A5l,A5m (by omega),A5l,
   Ad5 hlen (by omega),A58 he]
  refine (hg.trans hn).trans ?_
  show some (Uc R C _ (I9 R C cnt 1 (Ov R C l 0)))=some (Uc R C [] _)
  cases I9 R C cnt (0+1) (Ov R C l 0) with
  | none=>rfl
  | some x=>simp [Uc,Aa2]
 ·rw [neI he,A5l,A57 he]; rfl
end
theorem qr.down.known:qr.down.Kn:=qr.down.Ae (.cons Al.Apply.known (.cons Al.Kq.known (.cons Aa.Dt.known .nil))) fun r c l hp=>by
 obtain ⟨h1,al⟩:=Ag.1 (show ((Be r c l&&Fm l)&&Ak l)=true from hp)
 obtain ⟨hr,hf⟩:=Ag.1 h1
 obtain ⟨R,C,rfl,rfl,r6,c6,hl⟩:=Ef hr
 by_cases h0:Fj R C=0
 ·have hx:Im R C l=some (l,[]):=by unfold Im; rw [h0]; rfl
  refine ⟨8,.tup [.agg [.int .i64 (R:Int),.int .i64 (C:Int),.ints .arg .u64 l],.recs (.own 100006 tMR) 2 [],.int .i64 0],[100006],?_,?_⟩
  ·unfold Fj at h0
   have hlt:(Ba (0:Int) (C:Int)&&Ba (0:Int) (Ac ((R:Int)-1)))=false:=by
    rw [Aw,Aw,Ap (by omega) (by omega),Bool.and_eq_false_iff,A54,A54]; omega
   rw [qr.down.ev,show (8:Nat)=7+1 from rfl,qr.down.J0,hlt,A5p]
  ·show Wk _ _ (DV.tup [.agg [.int .i64 (G0 (R:Int) (C:Int) l).1,.int .i64 (G0 (R:Int) (C:Int) l).2.1,.ints .arg .u64 (G0 (R:Int) (C:Int) l).2.2.1],.recs .fresh 2 (P4 (R:Int) (C:Int) l),.int .i64 (G0 (R:Int) (C:Int) l).2.2.2])
   unfold G0 P4 Hq
   rw [A5n,A5n,hx]
   exact Wk.Jc (.cons (Wk.M9 (.cons .int (.cons .int (.cons .Auj .nil)))) (.cons (.dropR _ _ _ _ (List.mem_singleton.2 rfl)) (.cons .int .nil)))
 ·refine ⟨8,Uc R C [] (Im R C l),[106002,100006],?_,?_⟩
  ·rw [qr.down.ev]
   exact Akx 8 (by omega) r6 c6 hl al h0
  ·show Wk _ _ (DV.tup [.agg [.int .i64 (G0 (R:Int) (C:Int) l).1,.int .i64 (G0 (R:Int) (C:Int) l).2.1,.ints .arg .u64 (G0 (R:Int) (C:Int) l).2.2.1],.recs .fresh 2 (P4 (R:Int) (C:Int) l),.int .i64 (G0 (R:Int) (C:Int) l).2.2.2])
   unfold G0 P4 Hq
   rw [A5n,A5n]
   cases Im R C l with
   | none=>exact Wk.Jc (.cons (Wk.M9 (.cons .int (.cons .int (.cons Sy .nil)))) (.cons (.nilR _ _) (.cons .int .nil)))
   | some x=>exact Wk.Jc (.cons (Wk.M9 (.cons .int (.cons .int (.cons (.dropA _ _ _ _ A60) .nil)))) (.cons (.dropR _ _ _ _ (A6q _ A60)) (.cons .int .nil)))
open Go Go.Den Go.Cv Go.Proofs
open EqQr
def Adl (e:Int):DV:=.tup [.agg [.int .i64 0,.int .i64 0,.nil],.agg [.int .i64 0,.int .i64 0,.nil],.int .i64 e]
theorem Ado {r:Nat}:∀ {j:Nat} {ms:List (List Int × Int)},Ahp r j ms→∀ i:Nat,i<ms.length→Ak (ms.getD i ([],0)).1=true∧Ao (ms.getD i ([],0)).2=true∧(ms.getD i ([],0)).1.length+(j+i)=r
 | _,[],_,i,h=>absurd h (Nat.not_lt_zero _)
 | j,m::ms,hm,0,_=>hm.1
 | j,m::ms,hm,i+1,h=>by
   have:=Ado hm.2 i (by simpa using h)
   rw [show j+(i+1)=j+1+i by omega]
   exact this
theorem Asn {ms:List (List Int × Int)} {i:Nat} (h:i<ms.length):getD (Aa2 ms) i []=[.ints .arg .u64 (ms.getD i ([],0)).1,.int .u64 (ms.getD i ([],0)).2]:=by
 unfold Aa2
 rw [A5v,A62,A52 h,A5v,A52 h]; rfl
theorem Aho (ms:List (List Int × Int)):(Aa2 ms).length=ms.length:=by unfold Aa2; rw [A6r]
theorem Apv {n i:Nat} {ms:List (List Int × Int)} (h:i<ms.length) (q:List Int):Kl n i (ms.drop i) q=Ga n n (Kl n (i+1) (ms.drop (i+1)) q) (i:Int) 0 (ms.getD i ([],0)).1 (ms.getD i ([],0)).2:=by
 rw [List.drop_eq_getElem_cons h,Kl,A5v,A52 h]; rfl
theorem Akv {R:Nat} (h:R≤6):Q0 (R:Int)=((R:Int),(R:Int),K9 R,0):=by
 unfold Q0 K9
 rw [A58 (Avt h),A5n]
theorem Ay2 {n:Nat} (h:n≤6):n*n≤36:=A6h h h
theorem Aij (N:Nat) {R C:Nat} {l:List Int} (r6:R≤6) {x:List Int × List (List Int × Int)} (hx:Im R C l=some x) (hm:Ahp R 0 x.2) (hxr:Ak x.1=true) (hxl:x.1.length≤36):∀ (j F:Nat),j≤x.2.length→j<F →
 qr.Du.L0 N F (R:Int) (C:Int) l ((j:Int)-1) (Kl R j (x.2.drop j) (K9 R)) =
 bif Sj R C l then some (.tup [.agg [.int .i64 (R:Int),.int .i64 (R:Int),.ints .fresh .u64 (I6 R C l)],.agg [.int .i64 (R:Int),.int .i64 (C:Int),.ints .arg .u64 (Hq R C l)],.int .i64 0])
 else some (Adl 2):=by
 have hq:I6 R C l=Kl R 0 x.2 (K9 R):=by unfold I6; rw [hx]
 have hr:Hq R C l=x.1:=by unfold Hq; rw [hx]
 have hd:G0 (R:Int) (C:Int) ([]++l)=((R:Int),(C:Int),x.1,0):=by
  unfold G0
  rw [List.nil_append,A5n,A5n,hx,hr]; rfl
 have hmd:P4 (R:Int) (C:Int) ([]++l)=Aa2 x.2:=by
  unfold P4
  rw [List.nil_append,A5n,A5n,hx]
 have h36:=Ay2 r6
 intro j
 induction j with
 | zero =>
   intro F _ hF
   obtain ⟨F,rfl⟩:∃ G,F=G+1:=⟨F-1,by omega⟩
   have hb:=Wr R x.2 0 (K9 R) (Zm R) (by unfold K9; exact Cf _ _ _)
   have ok1:D7 (Kl R 0 x.2 (K9 R))=true:=Mz hb.1 (by omega)
   have ok2:D7 x.1=true:=Mz hxr (by omega)
   have hfo:Sj R C l=(Fm (Kl R 0 x.2 (K9 R))&&Fm x.1):=by unfold Sj; rw [hx,hq,hr]; rfl
   rw [qr.Du.Ax,Aw,A5m (by omega),A5l,List.drop_zero,ok1,A5l,hd,Akv r6,ok2,A6x,A5l,hfo,hq,hr]
   cases Fm (Kl R 0 x.2 (K9 R)) with
   | false=>rfl
   | true=>cases Fm x.1<;>rfl
 | succ j ih =>
   intro F hj hF
   obtain ⟨F,rfl⟩:∃ G,F=G+1:=⟨F-1,by omega⟩
   have ej:(((j+1:Nat):Int))-1=(j:Int):=by omega
   have hg:=Ado hm j (by omega)
   have hb:=Wr R (x.2.drop (j+1)) (j+1) (K9 R) (Zm R) (by unfold K9; exact Cf _ _ _)
   have hr1:=E0 r6 r6 hb.2
   have hap:Q8 (R:Int) (R:Int) (j:Int) 0 (x.2.getD j ([],0)).1=true:=A5m (by omega)
   have hmg:=Asn (ms:=x.2) (i:=j) (by omega)
   rw [qr.Du.Ax,ej,Aw,A5q (show ¬ (j:Int)<0 by omega),A5p,hmd,Aho,A5m (show (0:Int)≤(j:Int) by omega),A5m (show (j:Int)<(x.2.length:Int) by omega),A5r,A5l,A5n,hmg,Akv r6]
   show (bif true then bif true then bif true then (bif (((Be (R:Int) (R:Int) (Kl R (j+1) (x.2.drop (j+1)) (K9 R))&&Q8 (R:Int) (R:Int) (j:Int) (0:Int) (x.2.getD j ([],0)).1)&&(Ak (Kl R (j+1) (x.2.drop (j+1)) (K9 R))&&Ak (x.2.getD j ([],0)).1))&&Ao (x.2.getD j ([],0)).2) then
    qr.Du.L0 N F (R:Int) (C:Int) l (Ac ((j:Int)-(1:Int))) (Ga (toNat (R:Int)) (toNat (R:Int)) (Kl R (j+1) (x.2.drop (j+1)) (K9 R)) (j:Int) (0:Int) (x.2.getD j ([],0)).1 (x.2.getD j ([],0)).2) else none) else none else none else none)=_
   rw [A5l,A5l,A5l,hr1,hap,hb.1,hg.1,hg.2.1,A5r,A5r,A5r,A5l,A5n,Ap (by omega) (by omega),← Apv (by omega)]
   exact ih F (by omega) (by omega)
theorem Aty {R C:Nat} {l:List Int} (hl:l.length=R*C) (al:Ak l=true) {x:List Int × List (List Int × Int)} (hx:Im R C l=some x):Ak x.1=true∧x.1.length=R*C∧x.2.length=Fj R C∧Ahp R 0 x.2 :=
 Abx R C (Fj R C) 0 l x al hl (by unfold Fj; omega) hx
theorem Zl {r c:Int} {l:List Int} (h:Da r c l=0):Hb r c l=if Sj r.toNat c.toNat l=true then 0 else 2:=by
 unfold Hb; rw [A57 (by rw [h]; decide)]
theorem Ail {r c:Int} {l:List Int} (h:Da r c l≠0):Hb r c l=Da r c l:=by unfold Hb; rw [A58 h]
theorem Ajy {r c:Int} {l:List Int} {e:Int} (h:Hb r c l=e) (he:e≠0):qX r c l=Pu e∧rX r c l=Pu e:=by unfold qX rX; rw [h,A58 he,A58 he]; exact ⟨rfl,rfl⟩
theorem Al3 {r c:Int} {l:List Int} (h:Hb r c l=0):qX r c l=(r,r,I6 r.toNat c.toNat l,0)∧rX r c l=(r,c,Hq r.toNat c.toNat l,0):=by unfold qX rX; rw [h]; exact ⟨rfl,rfl⟩
theorem Aeh {drops:List Nat} {e:Int} {g h:Ai3}:Wk drops (Adl e) (DV.tup [.agg [.int .i64 (Pu e).1,.int .i64 (Pu e).2.1,.ints g .u64 (Pu e).2.2.1],.agg [.int .i64 (Pu e).1,.int .i64 (Pu e).2.1,.ints h .u64 (Pu e).2.2.1],.int .i64 e]) :=
 Wk.Jc (.cons (Wk.M9 (.cons .int (.cons .int (.cons Sy .nil)))) (.cons (Wk.M9 (.cons .int (.cons .int (.cons Sy .nil)))) (.cons .int .nil)))
theorem qr.Du.known:qr.Du.Kn:=qr.Du.Ae (.cons Cx.Check.known (.cons Al.Apply.known (.cons Aa.Hw.known (.cons qr.down.known (.cons Af.Finite.known .nil))))) fun r c l hp=>by
 have al:Ak l=true:=hp
 show ∃ N dv drops,_=some dv∧Wk drops dv (DV.tup [.agg [.int .i64 (qX r c l).1,.int .i64 (qX r c l).2.1,.ints .arg .u64 (qX r c l).2.2.1],.agg [.int .i64 (rX r c l).1,.int .i64 (rX r c l).2.1,.ints .arg .u64 (rX r c l).2.2.1],.int .i64 (Hb r c l)])
 by_cases h1:Da r c l=0
 ·obtain ⟨hr,hf⟩:=Qf h1
  have h36:=I2 hr
  obtain ⟨R,C,rfl,rfl,r6,c6,hl⟩:=Ef hr
  have d0:decide (0+l.length≤Kg)=true:=A5m (by unfold Kg; omega)
  cases hx:Im R C l with
  | none =>
    have hfo:Sj R C l=false:=by unfold Sj; rw [hx]; rfl
    have he:Hb (R:Int) (C:Int) l=2:=by rw [Zl h1,A5n,A5n,hfo]; rfl
    obtain ⟨e1,e2⟩:=Ajy he (by decide)
    have hd:G0 (R:Int) (C:Int) ([]++l)=Pu 2:=by
     unfold G0
     rw [List.nil_append,A5n,A5n,hx]; rfl
    rw [e1,e2,he]
    exact ⟨0,Adl 2,[],by rw [qr.Du.ev,al,A5l,Ox h1,A5p,d0,A5l,hd,List.nil_append,hr,hf,al,A5r,A5r,A5l,show ((Pu 2).2.2.2 !=(0:Int))=true from rfl,A5l]; rfl,Aeh⟩
  | some x =>
    obtain ⟨x1,x2,x3,x4⟩:=Aty hl al hx
    have hd:G0 (R:Int) (C:Int) ([]++l)=((R:Int),(C:Int),x.1,0):=by
     unfold G0 Hq
     rw [List.nil_append,A5n,A5n,hx]; rfl
    have hmd:P4 (R:Int) (C:Int) ([]++l)=Aa2 x.2:=by
     unfold P4
     rw [List.nil_append,A5n,A5n,hx]
    have hn:x.2.length≤6:=by rw [x3]; unfold Fj; omega
    have hloop:=Aij 8 r6 hx x4 x1 (by rw [x2]; exact A6h r6 c6) x.2.length 8 (A6f _) (by omega)
    rw [A5z (A6f _)] at hloop
    have hrun:=qr.Du.ev 8 (R:Int) (C:Int) l
    rw [al,A5l,Ox h1,A5p,d0,A5l,hd,hmd,Aho,List.nil_append,hr,hf,al,A5r,A5r,A5l,show (((R:Int),(C:Int),x.1,(0:Int)).2.2.2 !=(0:Int))=false from rfl,A5p,Akv r6,Ap (by omega) (by omega)] at hrun
    have hrun:=hrun.trans hloop
    cases hfo:Sj R C l with
    | false =>
      have he:Hb (R:Int) (C:Int) l=2:=by rw [Zl h1,A5n,A5n,hfo]; rfl
      obtain ⟨e1,e2⟩:=Ajy he (by decide)
      rw [hfo,A5p] at hrun
      rw [e1,e2,he]
      exact ⟨8,Adl 2,[],hrun,Aeh⟩
    | true =>
      have he:Hb (R:Int) (C:Int) l=0:=by rw [Zl h1,A5n,A5n,hfo]; rfl
      obtain ⟨e1,e2⟩:=Al3 he
      rw [hfo,A5l] at hrun
      rw [e1,e2,he,A5n,A5n]
      exact ⟨8,_,[],hrun,Wk.Jc (.cons (Wk.M9 (.cons .int (.cons .int (.cons (.fresh _ _) .nil)))) (.cons (Wk.M9 (.cons .int (.cons .int (.cons .Auj .nil)))) (.cons .int .nil)))⟩
 ·have he:=Ail h1
  obtain ⟨e1,e2⟩:=Ajy he h1
  rw [e1,e2,he]
  exact ⟨0,Adl (Da r c l),[],by rw [qr.Du.ev,al,A5l,neI h1,A5l]; rfl,Aeh⟩
theorem Ak6 {r c:Int} {l:List Int} (h:Hb r c l=0):Da r c l=0:=by
 by_cases h1:Da r c l=0
 ·exact h1
 ·rw [Ail h1] at h; exact absurd h h1
theorem Aik {r c:Int} {l:List Int} (al:Ak l=true) (h:Hb r c l=0):∃ R C:Nat,r=R∧c=C∧R≤6∧C≤6∧l.length=R*C∧Ak (I6 R C l)=true∧(I6 R C l).length=R*R∧Ak (Hq R C l)=true∧(Hq R C l).length=R*C∧Fm (I6 R C l)=true∧Fm (Hq R C l)=true:=by
 have h1:=Ak6 h
 rw [Zl h1] at h
 obtain ⟨R,C,rfl,rfl,r6,c6,hl⟩:=Ef (Qf h1).1
 rw [A5n,A5n] at h
 by_cases ho:Sj R C l=true
 ·unfold Sj at ho
  obtain ⟨o1,o2⟩:=Ag.1 ho
  obtain ⟨o3,o4⟩:=Ag.1 o2
  obtain ⟨q1,q2⟩:=Amt o1
  obtain ⟨g1,g2⟩:=Ams al hl o1
  exact ⟨R,C,rfl,rfl,r6,c6,hl,q1,q2,g1,g2,o3,o4⟩
 ·rw [A57 ho] at h; exact absurd h (by decide)
theorem Al7 {R C:Nat} {l:List Int} (r6:R≤6) (c6:C≤6) (hl:l.length=R*C) {x y a b:Int} (hp:Pz (R:Int) (C:Int) x y a b=true) :
 Ir (R:Int) (C:Int) l x y a b=(a,b,Di a.toNat b.toNat fun i k=>Co (C:Int) l (x+(i:Int)) (y+(k:Int)),0):=by
 unfold Ir; rw [A58 (E0 r6 c6 hl),A58 hp]
theorem Acy {r c:Int} {l:List Int} (al:Ak l=true) (h:Hb r c l=0) :
 Ir r r (I6 r.toNat c.toNat l) 0 0 r (min r c)=Jd r c l∧Ir r c (Hq r.toNat c.toNat l) 0 0 (min r c) c=N7 r c l:=by
 obtain ⟨R,C,rfl,rfl,r6,c6,hl,q1,q2,g1,g2,_,_⟩:=Aik al h
 unfold Jd N7
 rw [h,A57 (by decide),A57 (by decide),A5n,A5n]
 have p1:Pz (R:Int) (R:Int) 0 0 (R:Int) (min (R:Int) (C:Int))=true:=A5m (by omega)
 have p2:Pz (R:Int) (C:Int) 0 0 (min (R:Int) (C:Int)) (C:Int)=true:=A5m (by omega)
 rw [Al7 r6 r6 q2 p1,Al7 r6 c6 g2 p2]
 exact ⟨rfl,rfl⟩
theorem Azx {r c:Int} {l:List Int} (al:Ak l=true) (h:Hb r c l=0):Ak (I6 r.toNat c.toNat l)=true∧Ak (Hq r.toNat c.toNat l)=true:=by
 obtain ⟨R,C,rfl,rfl,_,_,_,q1,_,g1,_,_,_⟩:=Aik al h
 rw [A5n,A5n]
 exact ⟨q1,g1⟩
theorem Avk {r c:Int} {l:List Int} (al:Ak l=true) (h:Hb r c l=0):Ak (Jd r c l).2.2.1=true∧Ak (N7 r c l).2.2.1=true:=by
 obtain ⟨a,b⟩:=Acy al h
 obtain ⟨q1,g1⟩:=Azx al h
 rw [← a,← b]
 exact ⟨Al8 q1 _ _ _ _,Al8 g1 _ _ _ _⟩
theorem qr.Lz.known:qr.Lz.Kn:=qr.Lz.Ae (.cons Aa.Part.known (.cons qr.Du.known .nil)) fun r c l hp=>by
 have al:Ak l=true:=hp
 show ∃ N dv drops,_=some dv∧Wk drops dv (DV.tup [.agg [.int .i64 (Jd r c l).1,.int .i64 (Jd r c l).2.1,.ints .fresh .u64 (Jd r c l).2.2.1],.agg [.int .i64 (N7 r c l).1,.int .i64 (N7 r c l).2.1,.ints .fresh .u64 (N7 r c l).2.2.1],.int .i64 (Hb r c l)])
 by_cases h:Hb r c l=0
 ·obtain ⟨e1,e2⟩:=Al3 h
  obtain ⟨t1,t2⟩:=Acy al h
  refine ⟨0,DV.tup [.agg [.int .i64 (Jd r c l).1,.int .i64 (Jd r c l).2.1,.ints .fresh .u64 (Jd r c l).2.2.1],.agg [.int .i64 (N7 r c l).1,.int .i64 (N7 r c l).2.1,.ints .fresh .u64 (N7 r c l).2.2.1],.int .i64 0],[],by rw [qr.Lz.ev,al,A5l,Ox h,A5p,e1,e2,t1,t2],by rw [h]; exact Wk.Jc (.cons (Wk.M9 (.cons .int (.cons .int (.cons .Uv .nil)))) (.cons (Wk.M9 (.cons .int (.cons .int (.cons .Uv .nil)))) (.cons .int .nil)))⟩
 ·have e1:Jd r c l=Pu (Hb r c l):=by unfold Jd; rw [A58 h]
  have e2:N7 r c l=Pu (Hb r c l):=by unfold N7; rw [A58 h]
  rw [e1,e2]
  exact ⟨0,Adl (Hb r c l),[],by rw [qr.Lz.ev,al,A5l,neI h,A5l]; rfl,Aeh⟩
theorem A2r {r c p:Int}:((Ba r c)||(r !=p))=decide (r<c∨r≠p):=by
 rw [Aw,A51]; simp
theorem solve.G1.known:solve.G1.Kn:=solve.G1.Ae (.cons Cx.Check.known (.cons qr.Lz.known (.cons qr.Fp.known (.cons solve.Flat.known (.cons solve.Hk.known .nil))))) fun r c l p q m hp=>by
 obtain ⟨al,am⟩:=Ag.1 (show (Ak l&&Ak m)=true from hp)
 show ∃ N dv drops,_=some dv∧Wk drops dv (Aar (A7 r c l p q m))
 have hrun:=solve.G1.ev 0 r c l p q m
 rw [al,A5l] at hrun
 unfold A7
 by_cases c1:Da r c l=0
 ·rw [Ox c1,A5p,am,A5l] at hrun
  rw [A57 (by rw [c1]; decide)]
  by_cases c2:Da p q m=0
  ·rw [Ox c2,A5p,A2r] at hrun
   rw [A57 (by rw [c2]; decide)]
   by_cases c3:r<c∨r≠p
   ·rw [A5m c3,A5l] at hrun
    rw [A58 c3]
    exact ⟨0+4,_,[],hrun,N2⟩
   ·rw [A5q c3,A5p,A5l] at hrun
    rw [A57 c3]
    by_cases c4:Hb r c l=0
    ·obtain ⟨i1,i2⟩:=Avk al c4
     rw [Ox c4,A5p,i2,A5l] at hrun
     rw [A57 (by rw [c4]; decide)]
     by_cases c5:(Ok (N7 r c l).1 (N7 r c l).2.1 (N7 r c l).2.2.1).1=true
     ·rw [c5,A5l] at hrun
      rw [A58 c5]
      exact ⟨0+4,_,[],hrun,N2⟩
     ·have c5':(Ok (N7 r c l).1 (N7 r c l).2.1 (N7 r c l).2.2.1).1=false:=by simpa using c5
      rw [c5',A5p,i1,A5r,A5l] at hrun
      rw [A57 c5]
      unfold Aql
      by_cases c6:(Dw (Jd r c l).1 (Jd r c l).2.1 (Jd r c l).2.2.1 p q m).2.2.2=0
      ·rw [Ox c6,A5p,Anh,A5r,A5l] at hrun
       rw [A57 (by rw [c6]; decide)]
       exact ⟨0+4,_,[],hrun,Ue⟩
      ·rw [neI c6,A5l] at hrun
       rw [A58 c6]
       exact ⟨0+4,_,[],hrun,N2⟩
    ·rw [neI c4,A5l] at hrun
     rw [A58 c4]
     exact ⟨0+4,_,[],hrun,N2⟩
  ·rw [neI c2,A5l] at hrun
   rw [A58 c2]
   exact ⟨0+4,_,[],hrun,N2⟩
 ·rw [neI c1,A5l] at hrun
  rw [A58 c1]
  exact ⟨0+4,_,[],hrun,N2⟩
open Go Go.Den Go.Cv Go.Proofs
set_option maxRecDepth 100000
namespace EqLaw17
def D0.Hd.Bi:List (Nat × Entry):=[(30,solve.G1.spec)]
def D0.Hd.E:Env:=Bn (Bh D0.Hd.Bi) (fun _=>false) (fun _=>none) (fun _=>none)
theorem D0.Hd.ev (N:Nat):Ci D0.Hd.E N f28 (Au f28) []=bif (Ak [(4611686018427387904:Int)]&&Ak [(4616189618054758400:Int)]) then bif ((!((((A7 1 1 [(4611686018427387904:Int)] 1 1 [(4616189618054758400:Int)]).2.2.2)==(0:Int))&&((length ((A7 1 1 [(4611686018427387904:Int)] 1 1 [(4616189618054758400:Int)]).2.2.1):Int)==(1:Int))))||(decide ((0:Int)<(length ((A7 1 1 [(4611686018427387904:Int)] 1 1 [(4616189618054758400:Int)]).2.2.1):Int)))) then some (.bool (bif (bif (((A7 1 1 [(4611686018427387904:Int)] 1 1 [(4616189618054758400:Int)]).2.2.2)==(0:Int)) then ((length ((A7 1 1 [(4611686018427387904:Int)] 1 1 [(4616189618054758400:Int)]).2.2.1):Int)==(1:Int)) else false) then ((getD ((A7 1 1 [(4611686018427387904:Int)] 1 1 [(4616189618054758400:Int)]).2.2.1) 0 0)==(4611686018427387904:Int)) else false)) else none else none :=
 Eq.trans (by kernel_rfl)
 (Fe (Ay (Rt (((A7 1 1 [(4611686018427387904:Int)] 1 1 [(4616189618054758400:Int)]).2.2.2)==(0:Int))) (Ay (N6 (((A7 1 1 [(4611686018427387904:Int)] 1 1 [(4616189618054758400:Int)]).2.2.2)==(0:Int))) (Ay (N6 (((A7 1 1 [(4611686018427387904:Int)] 1 1 [(4616189618054758400:Int)]).2.2.2)==(0:Int))) (Ay (N6 (((A7 1 1 [(4611686018427387904:Int)] 1 1 [(4616189618054758400:Int)]).2.2.2)==(0:Int))) (Ay (X5 (((A7 1 1 [(4611686018427387904:Int)] 1 1 [(4616189618054758400:Int)]).2.2.2)==(0:Int))) (Ay (A1f (((A7 1 1 [(4611686018427387904:Int)] 1 1 [(4616189618054758400:Int)]).2.2.2)==(0:Int)) ((length ((A7 1 1 [(4611686018427387904:Int)] 1 1 [(4616189618054758400:Int)]).2.2.1):Int)==(1:Int))) (Ay (Aqw (((A7 1 1 [(4611686018427387904:Int)] 1 1 [(4616189618054758400:Int)]).2.2.2)==(0:Int)) ((length ((A7 1 1 [(4611686018427387904:Int)] 1 1 [(4616189618054758400:Int)]).2.2.1):Int)==(1:Int))) (C4 (A3w _ _ _) (Ay (Aqw (((A7 1 1 [(4611686018427387904:Int)] 1 1 [(4616189618054758400:Int)]).2.2.2)==(0:Int)) ((length ((A7 1 1 [(4611686018427387904:Int)] 1 1 [(4616189618054758400:Int)]).2.2.1):Int)==(1:Int))) (Ay (Aqw (((A7 1 1 [(4611686018427387904:Int)] 1 1 [(4616189618054758400:Int)]).2.2.2)==(0:Int)) ((length ((A7 1 1 [(4611686018427387904:Int)] 1 1 [(4616189618054758400:Int)]).2.2.1):Int)==(1:Int))) (Ay (A1g (((A7 1 1 [(4611686018427387904:Int)] 1 1 [(4616189618054758400:Int)]).2.2.2)==(0:Int)) ((length ((A7 1 1 [(4611686018427387904:Int)] 1 1 [(4616189618054758400:Int)]).2.2.1):Int)==(1:Int))) rfl))) rfl)))))))) rfl)
abbrev _root_.Go.Proofs.S1.D0.Hd.Kn:=A8 prog 28 D0.Hd.spec
theorem D0.Hd.Ae (hk:A4 prog D0.Hd.Bi) (h:Unit→Hyp D0.Hd.E f28 D0.Hd.ts D0.Hd.pre D0.Hd.out):D0.Hd.Kn :=
 Ar (A5 hk _ _ _) func28 (by kernel_rfl) (by kernel_rfl) (h ())
end EqLaw17
open Go Go.Den Go.Cv Go.Proofs
open EqLaw17
def Ava:List Int:=[4611686018427387904]
def Ayd:List Int:=[4616189618054758400]
theorem Ao3:A7 1 1 Ava 1 1 Ayd=(1,1,Ava,0):=by decide +kernel
theorem Axx:Ak Ava=true:=As.2 fun x hx=>by
 rw [List.mem_singleton.1 hx]; exact Ck (n:=4611686018427387904) (by decide)
theorem Auo:Ak Ayd=true:=As.2 fun x hx=>by
 rw [List.mem_singleton.1 hx]; exact Ck (n:=4616189618054758400) (by decide)
theorem D0.Hd.known:D0.Hd.Kn:=D0.Hd.Ae (.cons solve.G1.known .nil) fun _ _=>by
 refine ⟨0,D0.Hd.out [],[],?_,.bool⟩
 have h2:Ak [(4611686018427387904:Int)]=true:=Axx
 have h3:Ak [(4616189618054758400:Int)]=true:=Auo
 have h4:A7 (1:Int) (1:Int) [(4611686018427387904:Int)] (1:Int) (1:Int) [(4616189618054758400:Int)]=(1,1,Ava,0):=Ao3
 rw [D0.Hd.ev,h2,h3,h4]
 rfl
open Go Go.Den Go.Cv Go.Proofs
set_option maxRecDepth 100000
namespace EqRefA
def Ad.I4.Bi:List (Nat × Entry):=[]
def Ad.I4.E:Env:=Bn (Bh Ad.I4.Bi) (fun _=>false) (fun _=>none) (fun _=>none)
theorem Ad.I4.ev (N:Nat) (l:List Int) (i:Int):Ci Ad.I4.E N f221 (Au f221) [.ints .arg .u32 l,.int .i64 i]=bif ((Ev 0 i)&&(Ba i (length l:Int))) then bif ((decide (0≤i))&&(decide (i<(length l:Int)))) then some (.int .u64 (Bc (getD l (toNat i) 0))) else none else some (.int .u64 0) :=
 Eq.trans (by kernel_rfl)
 (Ay (Rt (Ev 0 i)) (Ay (Rt (Ev 0 i)) (Ay (N6 (Ev 0 i)) (Ay (Ank (Ev 0 i)) (Ay (X5 (Ev 0 i)) (C4 (tt1 _ _) rfl rfl))))))
abbrev _root_.Go.Proofs.S1.Ad.I4.Kn:=A8 prog 221 Ad.I4.spec
theorem Ad.I4.Ae (hk:A4 prog Ad.I4.Bi) (h:Hyp Ad.I4.E f221 Ad.I4.ts Ad.I4.pre Ad.I4.out):Ad.I4.Kn :=
 Ar (A5 hk _ _ _) func221 (by kernel_rfl) (by kernel_rfl) h
def Ad.Made.hint:Nat→Option Bf
 | 0=>some { keep:=[0,1,4,5],objs:=[],boxes:=[4] }
 | _=>none
def Ad.Made.Bi:List (Nat × Entry):=[]
def Ad.Made.E:Env:=Bn (Bh Ad.Made.Bi) (fun _=>false) Ad.Made.hint (fun _=>none)
section
variable (N M:Nat) (n:Bool) (l:List Int) (p5:Int)
def Ad.Made.L0:Option DV:=Ce Ad.Made.E N f171 (Au f171) [1,1,0,0] [] M ⟨Ik 28 [(0,.bool n),(1,.ints .arg .u32 l),(4,.ptr 4 0 0),(5,.int .i64 p5)],[(4,false,.box [.bool false,.nil])]⟩
theorem Ad.Made.Ax:Ad.Made.L0 N (M+1) n l p5=bif ((!(Ba 0 p5))||((decide (0≤(Ac (p5-1))))&&(decide ((Ac (p5-1))<(length l:Int))))) then bif ((Ba 0 p5)&&((getD l (toNat (Ac (p5-1))) 0)==(0:Int))) then Ad.Made.L0 N M n l (Ac (p5-1)) else bif (p5==(0:Int)) then some (.agg [.bool false,.nil]) else bif ((decide ((0:Int)≤p5))&&(decide (p5≤(length l:Int)))) then some (.agg [.bool n,.ints .arg .u32 (List.take (toNat p5) l)]) else none else none :=
 Eq.trans (by kernel_rfl)
 (Ay (Rt (Ba 0 p5)) (Ay (Rt (Ba 0 p5)) (Ay (N6 (Ba 0 p5)) (C4 (A1e _ _ _) (Ay (N6 (Ba 0 p5)) (Ay (N6 (Ba 0 p5)) (Ay (X5 (Ba 0 p5)) (C4 (tt1 _ _) rfl (Fe rfl (C4 (Rj _ _) rfl rfl)))))) rfl))))
theorem Ad.Made.ev:Ci Ad.Made.E N f171 (Au f171) [.bool n,.ints .arg .u32 l] =
 Ad.Made.L0 N N n l (length l:Int):=by kernel_rfl
end
abbrev _root_.Go.Proofs.S1.Ad.Made.Kn:=A8 prog 171 Ad.Made.spec
theorem Ad.Made.Ae (hk:A4 prog Ad.Made.Bi) (h:Hyp Ad.Made.E f171 Ad.Made.ts Ad.Made.pre Ad.Made.out):Ad.Made.Kn :=
 Ar (A5 hk _ _ _) func171 (by kernel_rfl) (by kernel_rfl) h
def Ad.Of.Bi:List (Nat × Entry):=[(171,Ad.Made.spec)]
def Ad.Of.E:Env:=Bn (Bh Ad.Of.Bi) (fun _=>false) (fun _=>none) (fun _=>none)
theorem Ad.Of.ev (N:Nat) (n:Int):Ci Ad.Of.E N f115 (Au f115) [.int .i64 n]=bif (Ba n 0) then bif (Ig [(Jh (Int.tmod (Bc ((Bc (Ac (0-(Ac (n+1)))))+1)) 4294967296)),(Jh (Bc (Int.tdiv (Bc ((Bc (Ac (0-(Ac (n+1)))))+1)) 4294967296)))]) then some (.agg [.bool (Az (wv true [(Jh (Int.tmod (Bc ((Bc (Ac (0-(Ac (n+1)))))+1)) 4294967296)),(Jh (Bc (Int.tdiv (Bc ((Bc (Ac (0-(Ac (n+1)))))+1)) 4294967296)))])),.ints .arg .u32 (Ah (wv true [(Jh (Int.tmod (Bc ((Bc (Ac (0-(Ac (n+1)))))+1)) 4294967296)),(Jh (Bc (Int.tdiv (Bc ((Bc (Ac (0-(Ac (n+1)))))+1)) 4294967296)))]))]) else none else bif (Ig [(Jh (Int.tmod n 4294967296)),(Jh (Ac (Int.tdiv n 4294967296)))]) then some (.agg [.bool (Az (wv false [(Jh (Int.tmod n 4294967296)),(Jh (Ac (Int.tdiv n 4294967296)))])),.ints .arg .u32 (Ah (wv false [(Jh (Int.tmod n 4294967296)),(Jh (Ac (Int.tdiv n 4294967296)))]))]) else none:=by kernel_rfl
abbrev _root_.Go.Proofs.S1.Ad.Of.Kn:=A8 prog 115 Ad.Of.spec
theorem Ad.Of.Ae (hk:A4 prog Ad.Of.Bi) (h:Hyp Ad.Of.E f115 Ad.Of.ts Ad.Of.pre Ad.Of.out):Ad.Of.Kn :=
 Ar (A5 hk _ _ _) func115 (by kernel_rfl) (by kernel_rfl) h
def Ad.H9.hint:Nat→Option Bf
 | 0=>some { keep:=[0,1,5],objs:=[],boxes:=[] }
 | _=>none
def Ad.H9.Bi:List (Nat × Entry):=[(221,Ad.I4.spec)]
def Ad.H9.E:Env:=Bn (Bh Ad.H9.Bi) (fun _=>false) Ad.H9.hint (fun _=>none)
section
variable (N M:Nat) (a b:List Int) (p5:Int)
def Ad.H9.L0:Option DV:=Ce Ad.H9.E N f176 (Au f176) [1,0,1,0] [] M ⟨Ik 29 [(0,.ints .arg .u32 a),(1,.ints .arg .u32 b),(5,.int .i64 p5)],[]⟩
theorem Ad.H9.Ax:Ad.H9.L0 N (M+1) a b p5=bif (Ev 0 p5) then bif (Ig a) then bif (Ig b) then bif (Ba (Hh a p5) (Hh b p5)) then some (.int .i64 (-1:Int)) else bif (Ig a) then bif (Ig b) then bif (Ba (Hh b p5) (Hh a p5)) then some (.int .i64 1) else Ad.H9.L0 N M a b (Ac (p5-1)) else none else none else none else none else some (.int .i64 0):=by kernel_rfl
theorem Ad.H9.ev:Ci Ad.H9.E N f176 (Au f176) [.ints .arg .u32 a,.ints .arg .u32 b] =
 Ad.H9.L0 N N a b (max (length a:Int) (length b:Int)):=by kernel_rfl
end
abbrev _root_.Go.Proofs.S1.Ad.H9.Kn:=A8 prog 176 Ad.H9.spec
theorem Ad.H9.Ae (hk:A4 prog Ad.H9.Bi) (h:Hyp Ad.H9.E f176 Ad.H9.ts Ad.H9.pre Ad.H9.out):Ad.H9.Kn :=
 Ar (A5 hk _ _ _) func176 (by kernel_rfl) (by kernel_rfl) h
def Ad.plus.hint:Nat→Option Bf
 | 0=>some { keep:=[0,1,5,6,7],objs:=[(0,5,100005,.ints 173 .u32 [])],boxes:=[] }
 | _=>none
def Ad.plus.Bi:List (Nat × Entry):=[(221,Ad.I4.spec)]
def Ad.plus.E:Env:=Bn (Bh Ad.plus.Bi) (fun _=>false) Ad.plus.hint (fun _=>none)
section
variable (N M:Nat) (a b:List Int) (p6 p7:Int) (p5:List Int)
def Ad.plus.L0:Option DV:=Ce Ad.plus.E N f174 (Au f174) [1,1,1,0,1,0] [] M ⟨Ik 37 [(0,.ints .arg .u32 a),(1,.ints .arg .u32 b),(5,.oref 100005),(6,.int .u64 p6),(7,.int .i64 p7)],[(100005,false,.ints 173 .u32 p5)]⟩
theorem Ad.plus.Ax:Ad.plus.L0 N (M+1) a b p6 p7 p5=bif (Ev p7 (max (length a:Int) (length b:Int))) then bif (Ig a) then bif (Ig b) then bif (decide ((length p5)+1≤Kg)) then Ad.plus.L0 N M a b (Bc (Int.tdiv (Bc ((Bc ((Hh a p7)+(Hh b p7)))+p6)) 4294967296)) (Ac (p7+1)) (p5++[(Jh (Int.tmod (Bc ((Bc ((Hh a p7)+(Hh b p7)))+p6)) 4294967296))]) else none else none else none else some (.ints (.own 100005 173) .u32 p5):=by kernel_rfl
theorem Ad.plus.ev:Ci Ad.plus.E N f174 (Au f174) [.ints .arg .u32 a,.ints .arg .u32 b] =
 Ad.plus.L0 N N a b 0 0 []:=by kernel_rfl
end
abbrev _root_.Go.Proofs.S1.Ad.plus.Kn:=A8 prog 174 Ad.plus.spec
theorem Ad.plus.Ae (hk:A4 prog Ad.plus.Bi) (h:Hyp Ad.plus.E f174 Ad.plus.ts Ad.plus.pre Ad.plus.out):Ad.plus.Kn :=
 Ar (A5 hk _ _ _) func174 (by kernel_rfl) (by kernel_rfl) h
def Ad.minus.hint:Nat→Option Bf
 | 0=>some { keep:=[0,1,5,6,7],objs:=[(0,5,100005,.ints 173 .u32 [])],boxes:=[] }
 | _=>none
def Ad.minus.Bi:List (Nat × Entry):=[(221,Ad.I4.spec)]
def Ad.minus.E:Env:=Bn (Bh Ad.minus.Bi) (fun _=>false) Ad.minus.hint (fun _=>none)
section
variable (N M:Nat) (a b:List Int) (p6 p7:Int) (p5:List Int)
def Ad.minus.L0:Option DV:=Ce Ad.minus.E N f177 (Au f177) [1,1,1,0,1,0] [] M ⟨Ik 36 [(0,.ints .arg .u32 a),(1,.ints .arg .u32 b),(5,.oref 100005),(6,.int .u64 p6),(7,.int .i64 p7)],[(100005,false,.ints 173 .u32 p5)]⟩
theorem Ad.minus.Ax:Ad.minus.L0 N (M+1) a b p6 p7 p5=bif (Ba p7 (length a:Int)) then bif (Ig a) then bif (Ig b) then bif (decide ((length p5)+1≤Kg)) then Ad.minus.L0 N M a b (Bc ((1:Int)-(Bc (Int.tdiv (Bc ((Bc ((Bc ((4294967296:Int)+(Hh a p7)))-(Hh b p7)))-p6)) 4294967296)))) (Ac (p7+1)) (p5++[(Jh (Int.tmod (Bc ((Bc ((Bc ((4294967296:Int)+(Hh a p7)))-(Hh b p7)))-p6)) 4294967296))]) else none else none else none else some (.ints (.own 100005 173) .u32 p5):=by kernel_rfl
theorem Ad.minus.ev:Ci Ad.minus.E N f177 (Au f177) [.ints .arg .u32 a,.ints .arg .u32 b] =
 Ad.minus.L0 N N a b 0 0 []:=by kernel_rfl
end
abbrev _root_.Go.Proofs.S1.Ad.minus.Kn:=A8 prog 177 Ad.minus.spec
theorem Ad.minus.Ae (hk:A4 prog Ad.minus.Bi) (h:Hyp Ad.minus.E f177 Ad.minus.ts Ad.minus.pre Ad.minus.out):Ad.minus.Kn :=
 Ar (A5 hk _ _ _) func177 (by kernel_rfl) (by kernel_rfl) h
def Ad.Add.Bi:List (Nat × Entry):=[(171,Ad.Made.spec),(176,Ad.H9.spec),(177,Ad.minus.spec),(174,Ad.plus.spec)]
def Ad.Add.E:Env:=Bn (Bh Ad.Add.Bi) (fun _=>false) (fun _=>none) (fun _=>none)
theorem Ad.Add.ev (N:Nat) (n:Bool) (a:List Int) (m:Bool) (b:List Int):Ci Ad.Add.E N f112 (Au f112) [.agg [.bool n,.ints .arg .u32 a],.agg [.bool m,.ints .arg .u32 b]]=bif (n==m) then bif (Ig a&&Ig b) then bif (Ig (Kb a b)) then some (.agg [.bool (Az (wv n (Kb a b))),.ints .arg .u32 (Ah (wv n (Kb a b)))]) else none else none else bif (Ig a&&Ig b) then bif (Ba (Xs (B9 a) (B9 b)) 0) then bif ((Ig b&&Ig a)&&leL a b) then bif (Ig (Is b a)) then some (.agg [.bool (Az (wv m (Is b a))),.ints .arg .u32 (Ah (wv m (Is b a)))]) else none else none else bif ((Ig a&&Ig b)&&leL b a) then bif (Ig (Is a b)) then some (.agg [.bool (Az (wv n (Is a b))),.ints .arg .u32 (Ah (wv n (Is a b)))]) else none else none else none :=
 Eq.trans (by kernel_rfl)
 (Fe (C4 (Cr _) (C4 (Cr _) rfl rfl) rfl) (Fe (Fe (C4 (Cr _) (C4 (Cr _) rfl rfl) rfl) (C4 (Cr _) (C4 (Cr _) rfl rfl) rfl)) rfl))
abbrev _root_.Go.Proofs.S1.Ad.Add.Kn:=A8 prog 112 Ad.Add.spec
theorem Ad.Add.Ae (hk:A4 prog Ad.Add.Bi) (h:Hyp Ad.Add.E f112 Ad.Add.ts Ad.Add.pre Ad.Add.out):Ad.Add.Kn :=
 Ar (A5 hk _ _ _) func112 (by kernel_rfl) (by kernel_rfl) h
def Ad.Neg.Bi:List (Nat × Entry):=[(171,Ad.Made.spec)]
def Ad.Neg.E:Env:=Bn (Bh Ad.Neg.Bi) (fun _=>false) (fun _=>none) (fun _=>none)
theorem Ad.Neg.ev (N:Nat) (n:Bool) (a:List Int):Ci Ad.Neg.E N f143 (Au f143) [.agg [.bool n,.ints .arg .u32 a]]=bif (Ig a) then some (.agg [.bool (Az (wv (!n) a)),.ints .arg .u32 (Ah (wv (!n) a))]) else none:=by kernel_rfl
abbrev _root_.Go.Proofs.S1.Ad.Neg.Kn:=A8 prog 143 Ad.Neg.spec
theorem Ad.Neg.Ae (hk:A4 prog Ad.Neg.Bi) (h:Hyp Ad.Neg.E f143 Ad.Neg.ts Ad.Neg.pre Ad.Neg.out):Ad.Neg.Kn :=
 Ar (A5 hk _ _ _) func143 (by kernel_rfl) (by kernel_rfl) h
end EqRefA
open Go Go.Den Go.Cv Go.Proofs
open EqRefA
theorem Ad.I4.known:Ad.I4.Kn:=Ad.I4.Ae .nil fun l i hp=>by
 obtain ⟨hl,hi⟩:=K1 hp
 refine ⟨0,Ad.I4.out [.l l,.i i],[],?_,.int⟩
 rw [Ad.I4.ev,E3,Aw]
 show _=some (DV.int .u64 (Hh l i))
 by_cases h0:0≤i
 ·obtain ⟨k,rfl⟩:∃ k:Nat,i=k:=⟨i.toNat,by omega⟩
  have hv:=Hz hi k
  have hg:=O8 hi k
  rw [hv,A5n,hg,A5m h0,A6y]
  by_cases h1:(k:Int)<(l.length:Int)
  ·rw [A5m h1,A5l,A5l,C5 (by omega) (by omega)]
  ·have h2:l.getD k 0=0:=by
    rw [A5v,A63 (by omega)]; rfl
   rw [h2] at hg
   rw [A5q h1,A5p,← hg]
 ·have:Hh l i=0:=by unfold Hh; rw [A57 h0]
  rw [A5q h0,Bool.false_and,A5p,this]
theorem Aei {drops:List Nat} {b:Bool} {l:List Int}:Wk drops (.agg [.bool b,.ints .arg .u32 l]) (.agg [.bool b,.ints .arg .u32 l]):=Wk.M9 (.cons .bool (.cons .Auj .nil))
theorem Aoj:Az 0=false:=rfl
theorem Ah2:Ah 0=[]:=rfl
theorem Aov (N:Nat) (n:Bool) {l:List Int} (hl:l.length<1073741824) (hi:Wa l):∀ (p F:Nat),p≤l.length→p<F→B9 l<2^(32*p) →
 ∃ dv,Ad.Made.L0 N F n l (p:Int)=some dv∧Wk [] dv (.agg [.bool (Az (wv n l)),.ints .arg .u32 (Ah (wv n l))]):=by
 have hlast:∀ p,p≤l.length→Dk (B9 l)=p→p≠0→some (DV.agg [.bool n,.ints .arg .u32 (l.take p)])=some (DV.agg [.bool (Az (wv n l)),.ints .arg .u32 (Ah (wv n l))]):=by
  intro p hp hq h0
  have h1:=Aki hi
  rw [hq] at h1
  have h2:B9 l≠0:=fun h=>by rw [h] at hq; exact h0 hq.symm
  have e:(wv n l).natAbs=B9 l:=by unfold wv H3; split<;>omega
  have e1:Ah (wv n l)=Rf (B9 l):=by unfold Ah; rw [e]
  have e2:Az (wv n l)=n:=by unfold Az wv H3; cases n<;>simp<;>omega
  rw [h1,e1,e2]
 intro p
 induction p with
 | zero =>
   intro F hp hF hv
   obtain ⟨F,rfl⟩:∃ G,F=G+1:=⟨F-1,by omega⟩
   have hz:wv n l=0:=by
    have:B9 l=0:=by rw [Nat.mul_zero,A6j] at hv; omega
    unfold wv H3; rw [this]; cases n<;>rfl
   refine ⟨.agg [.bool false,.nil],?_,?_⟩
   ·rw [Ad.Made.Ax,Aw]; rfl
   ·rw [hz,Aoj,Ah2]
    exact Wk.M9 (.cons .bool (.cons (.nil _ _) .nil))
 | succ p ih =>
   intro F hp hF hv
   obtain ⟨F,rfl⟩:∃ G,F=G+1:=⟨F-1,by omega⟩
   rw [Ad.Made.Ax,Aw,Ap (by omega) (by omega)]
   have e0:((p+1:Nat):Int)-1=(p:Int):=by omega
   have t0:decide ((0:Int)<((p+1:Nat):Int))=true:=A5m (by omega)
   have t1:decide ((0:Int)≤(p:Int))=true:=by simp
   have t2:decide ((p:Int)<(l.length:Int))=true:=by simp; omega
   have hg:=O8 hi p
   have hq:B9 l / 2^(32*p)<4294967296:=by
    rw [Nat.div_lt_iff_lt_mul (B4 _),← Nb]; exact hv
   rw [A5y hq] at hg
   rw [e0,t0,t1,t2,A5n,hg]
   simp only [A6k,A5r,Bool.false_or,A5l,A6y]
   by_cases hz:B9 l / 2^(32*p)=0
   ·have:(((B9 l / 2^(32*p):Nat):Int)==0)=true:=by rw [hz]; rfl
    rw [this,A5l]
    refine ih F (by omega) (by omega) ?_
    rcases A6i (B9 l) (2^(32*p)) with h | h
    ·exact h
    ·have:=Nat.div_pos h (B4 _); omega
   ·have:(((B9 l / 2^(32*p):Nat):Int)==0)=false:=by simp only [A6g,ne_eq]; omega
    have t3:(((p+1:Nat):Int)==0)=false:=by simp only [A6g,ne_eq]; omega
    have t4:decide (((p+1:Nat):Int)≤(l.length:Int))=true:=by simp; omega
    have t5:decide ((0:Int)≤((p+1:Nat):Int))=true:=A5m (by omega)
    rw [this,A5p,t3,A5p,t4,t5,A5r,A5l,A5n]
    have hlen:Dk (B9 l)=p+1:=by
     have a1:=Ma hv
     have a2:=Awn (n:=B9 l) (k:=p) (by
      rcases A6i (B9 l) (2^(32*p)) with h | h
      ·exact absurd (Nat.div_eq_of_lt h) hz
      ·exact h)
     omega
    exact ⟨_,hlast (p+1) hp hlen (by omega),Aei⟩
theorem Ad.Made.known:Ad.Made.Kn:=Ad.Made.Ae .nil fun n l hp=>by
 obtain ⟨hl,hi⟩:=K1 hp
 obtain ⟨dv,h1,h2⟩:=Aov (l.length+1) n hl hi l.length (l.length+1) (A6f _) (by omega) (Ku hi)
 exact ⟨l.length+1,dv,[],by rw [Ad.Made.ev]; exact h1,h2⟩
theorem Acs {a b:Int} (ha:0≤a∧a<4294967296) (hb:0≤b∧b<4294967296):Ig [a,b]=true :=
 K0 (show 2<1073741824 by decide) fun x hx=>by
  rcases List.mem_cons.1 hx with rfl | hx
  ·exact ha
  ·rcases List.mem_cons.1 hx with rfl | hx
   ·exact hb
   ·cases hx
theorem Ah0:(4294967296:Int)=((4294967296:Nat):Int):=rfl
theorem Ad.Of.known:Ad.Of.Kn:=Ad.Of.Ae (.cons Ad.Made.known .nil) fun n hp=>by
 have hp:=As.1 hp
 refine ⟨0,Ad.Of.out [.i n],[],?_,Aei⟩
 rw [Ad.Of.ev,Aw]
 show _=some (DV.agg [.bool (Az n),.ints .arg .u32 (Ah n)])
 by_cases h:n<0
 ·obtain ⟨k,rfl⟩:∃ k:Nat,n=-(k:Int):=⟨(-n).toNat,by omega⟩
  have e1:Bc (Bc (Ac (0-Ac (-(k:Int)+1)))+1)=(k:Int):=by
   rw [Ap (x:=-(k:Int)+1) (by omega) (by omega),Ap (by omega) (by omega),C5 (x:=0-(-(k:Int)+1)) (by omega) (by omega),C5 (by omega) (by omega)]; omega
  rw [A5m h,A5l,e1,Ah0,Jj,Jk,Jg (by omega) (by omega),C5 (by omega) (by omega),Jg (by omega) (by omega),
   Acs (by omega) (by omega),A5l]
  have e2:wv true [((k%4294967296:Nat):Int),((k / 4294967296:Nat):Int)]=-(k:Int):=by
   unfold wv H3 B9 B9 B9
   rw [A58 rfl,A5n,A5n]
   omega
  rw [e2]
 ·obtain ⟨k,rfl⟩:∃ k:Nat,n=(k:Int):=⟨n.toNat,by omega⟩
  rw [A5q h,A5p,Ah0,Jj,Jk,Jg (by omega) (by omega),Ap (by omega) (by omega),Jg (by omega) (by omega),
   Acs (by omega) (by omega),A5l]
  have e2:wv false [((k%4294967296:Nat):Int),((k / 4294967296:Nat):Int)]=(k:Int):=by
   unfold wv H3 B9 B9 B9
   rw [A57 (by decide),A5n,A5n]
   omega
  rw [e2]
theorem Ad.Neg.known:Ad.Neg.Kn:=Ad.Neg.Ae (.cons Ad.Made.known .nil) fun n a hp=>by
 obtain ⟨v,rfl,rfl,hv⟩:=Jw hp
 refine ⟨0,Ad.Neg.out [.b (Az v),.l (Ah v)],[],?_,Aei⟩
 rw [Ad.Neg.ev,P2 (by omega),A5l,Ayg]
 rfl
open Go Go.Den Go.Cv Go.Proofs
open EqRefA
theorem Aor (N:Nat) {a b:List Int} (ha:Ig a=true) (hb:Ig b=true):∀ (j F:Nat),j<4000000000→j<F→B9 a / 2^(32*j)=B9 b / 2^(32*j) →
 Ad.H9.L0 N F a b ((j:Int)-1)=some (.int .i64 (Xs (B9 a) (B9 b))):=by
 have ia:=(K1 ha).2
 have ib:=(K1 hb).2
 intro j
 induction j with
 | zero =>
   intro F hj hF h
   obtain ⟨F,rfl⟩:∃ G,F=G+1:=⟨F-1,by omega⟩
   rw [Nat.mul_zero,A6j,Nat.div_one,Nat.div_one] at h
   have e:Xs (B9 a) (B9 b)=0:=by unfold Xs; rw [A57 (by omega),A57 (by omega)]
   rw [Ad.H9.Ax,E3,e]
   rfl
 | succ j ih =>
   intro F hj hF h
   obtain ⟨F,rfl⟩:∃ G,F=G+1:=⟨F-1,by omega⟩
   have e0:((j+1:Nat):Int)-1=(j:Int):=by omega
   have t0:decide ((0:Int)≤(j:Int))=true:=A5m (by omega)
   rw [Nb,A59,← A6e,← A6e] at h
   have up:B9 a / 2^(32*j)<B9 b / 2^(32*j)→B9 a<B9 b:=fun k=>by
    rcases A6i (B9 a) (B9 b) with h1 | h1
    ·exact h1
    ·have:=Nat.div_le_div_right (c:=2^(32*j)) h1; omega
   have down:B9 b / 2^(32*j)<B9 a / 2^(32*j)→B9 b<B9 a:=fun k=>by
    rcases A6i (B9 b) (B9 a) with h1 | h1
    ·exact h1
    ·have:=Nat.div_le_div_right (c:=2^(32*j)) h1; omega
   rw [Ad.H9.Ax,e0,E3,t0,A5l,ha,hb,A5l,A5l,Aw,Aw,Hz ia,Hz ib,Ap (by omega) (by omega)]
   have ih:=ih F (by omega) (by omega)
   generalize B9 a / 2^(32*j)=x at *
   generalize B9 b / 2^(32*j)=y at *
   by_cases h1:x%4294967296<y%4294967296
   ·have e:Xs (B9 a) (B9 b)=-1:=by unfold Xs; rw [A58 (up (by omega))]
    rw [A5m (by omega),A5l,e]
   ·rw [A5q (by omega),A5p]
    by_cases h2:y%4294967296<x%4294967296
    ·have:=down (by omega)
     have e:Xs (B9 a) (B9 b)=1:=by unfold Xs; rw [A57 (by omega),A58 this]
     rw [A5m (by omega),A5l,e]
     rfl
    ·rw [A5q (by omega),A5p]
     exact ih (by omega)
theorem Am1 {l:List Int} (h:Wa l) {j:Nat} (hj:l.length≤j):B9 l / 2^(32*j)=0 :=
 Nat.div_eq_of_lt (A6w (Ku h) (A50 (by decide) (by omega)))
theorem Ad.H9.known:Ad.H9.Kn:=Ad.H9.Ae (.cons Ad.I4.known .nil) fun a b hp=>by
 obtain ⟨ha,hb⟩:=Ag.1 hp
 obtain ⟨la,ia⟩:=K1 ha
 obtain ⟨lb,ib⟩:=K1 hb
 refine ⟨max a.length b.length+2,Ad.H9.out [.l a,.l b],[],?_,.int⟩
 rw [Ad.H9.ev]
 have e:max (a.length:Int) (b.length:Int)=((max a.length b.length+1:Nat):Int)-1:=by omega
 rw [e]
 exact Aor _ ha hb _ _ (by omega) (by omega) (by rw [Am1 ia (by omega),Am1 ib (by omega)])
theorem Ade (N:Nat) {a b:List Int} (ha:Ig a=true) (hb:Ig b=true):∀ (k i c F:Nat),i+k=max a.length b.length+1→k<F→c≤1 →
 B9 a / 2^(32*i)+B9 b / 2^(32*i)+c=(B9 a+B9 b) / 2^(32*i) →
 Ad.plus.L0 N F a b (c:Int) (i:Int) (digits i (B9 a+B9 b))=some (.ints (.own 100005 tW) .u32 (Kb a b)):=by
 obtain ⟨la,ia⟩:=K1 ha
 obtain ⟨lb,ib⟩:=K1 hb
 intro k
 induction k with
 | zero =>
   intro i c F hi hF hc h
   obtain ⟨F,rfl⟩:∃ G,F=G+1:=⟨F-1,by omega⟩
   have t0:decide ((i:Int)≤max (a.length:Int) (b.length:Int))=false:=A5q (by omega)
   rw [Ad.plus.Ax,E3,t0,A5p]
   unfold Kb
   rw [show i=max a.length b.length+1 by omega]
 | succ k ih =>
   intro i c F hi hF hc h
   obtain ⟨F,rfl⟩:∃ G,F=G+1:=⟨F-1,by omega⟩
   have t0:decide ((i:Int)≤max (a.length:Int) (b.length:Int))=true:=A5m (by omega)
   have t1:decide ((digits i (B9 a+B9 b)).length+1≤Kg)=true:=A5m (by rw [Ec]; unfold Kg; omega)
   rw [Ad.plus.Ax,E3,t0,ha,hb,t1]
   simp only [A5l]
   rw [Hz ia,Hz ib]
   have ih:=ih (i+1)
   rw [Nb,A59 4294967296,← A6e,← A6e,← A6e,Kk] at ih
   generalize B9 a / 2^(32*i)=x at *
   generalize B9 b / 2^(32*i)=y at *
   generalize (B9 a+B9 b) / 2^(32*i)=z at *
   have e1:Bc (Bc (((x%4294967296:Nat):Int)+((y%4294967296:Nat):Int))+(c:Int))=((x%4294967296+y%4294967296+c:Nat):Int):=by
    rw [C5 (x:=((x%4294967296:Nat):Int)+((y%4294967296:Nat):Int)) (by omega) (by omega),C5 (by omega) (by omega)]; omega
   rw [e1,Ah0,Jj,Jk,Jg (by omega) (by omega),C5 (by omega) (by omega),Ap (by omega) (by omega)]
   have e2:(x%4294967296+y%4294967296+c)%4294967296=z%4294967296:=by omega
   rw [e2]
   exact ih ((x%4294967296+y%4294967296+c) / 4294967296) F (by omega) (by omega) (by omega) (by omega)
theorem Afc {i:Nat} {e:TypeId} {k:IntKind} {l:List Int}:Wk [i] (.ints (.own i e) k l) (.ints .arg k l):=.dropA i e k l (List.mem_singleton.2 rfl)
theorem Ad.plus.known:Ad.plus.Kn:=Ad.plus.Ae (.cons Ad.I4.known .nil) fun a b hp=>by
 obtain ⟨ha,hb⟩:=Ag.1 hp
 refine ⟨max a.length b.length+2,.ints (.own 100005 tW) .u32 (Kb a b),[100005],?_,Afc⟩
 rw [Ad.plus.ev]
 exact Ade _ ha hb (max a.length b.length+1) 0 0 _ (by omega) (by omega) (by omega) (by simp)
theorem Aka (N:Nat) {a b:List Int} (ha:Ig a=true) (hb:Ig b=true):∀ (k i w F:Nat),i+k=a.length→k<F→w≤1 →
 B9 a / 2^(32*i)=B9 b / 2^(32*i)+(B9 a-B9 b) / 2^(32*i)+w →
 Ad.minus.L0 N F a b (w:Int) (i:Int) (digits i (B9 a-B9 b))=some (.ints (.own 100005 tW) .u32 (Is a b)):=by
 obtain ⟨la,ia⟩:=K1 ha
 obtain ⟨lb,ib⟩:=K1 hb
 intro k
 induction k with
 | zero =>
   intro i c F hi hF hc h
   obtain ⟨F,rfl⟩:∃ G,F=G+1:=⟨F-1,by omega⟩
   have t0:decide ((i:Int)<(a.length:Int))=false:=A5q (by omega)
   rw [Ad.minus.Ax,Aw,t0,A5p]
   unfold Is
   rw [show i=a.length by omega]
 | succ k ih =>
   intro i w F hi hF hc h
   obtain ⟨F,rfl⟩:∃ G,F=G+1:=⟨F-1,by omega⟩
   have t0:decide ((i:Int)<(a.length:Int))=true:=A5m (by omega)
   have t1:decide ((digits i (B9 a-B9 b)).length+1≤Kg)=true:=A5m (by rw [Ec]; unfold Kg; omega)
   rw [Ad.minus.Ax,Aw,t0,ha,hb,t1]
   simp only [A5l]
   rw [Hz ia,Hz ib]
   have ih:=ih (i+1)
   rw [Nb,A59 4294967296,← A6e,← A6e,← A6e,Kk] at ih
   generalize B9 a / 2^(32*i)=x at *
   generalize B9 b / 2^(32*i)=y at *
   generalize (B9 a-B9 b) / 2^(32*i)=z at *
   have e1:Bc (Bc (Bc ((4294967296:Int)+((x%4294967296:Nat):Int))-((y%4294967296:Nat):Int))-(w:Int))=((4294967296+x%4294967296-y%4294967296-w:Nat):Int):=by
    rw [C5 (x:=(4294967296:Int)+((x%4294967296:Nat):Int)) (by omega) (by omega),C5 (x:=(4294967296:Int)+((x%4294967296:Nat):Int)-((y%4294967296:Nat):Int)) (by omega) (by omega),C5 (by omega) (by omega)]; omega
   have e2:(4294967296+x%4294967296-y%4294967296-w)%4294967296=z%4294967296:=by omega
   have e3:Bc ((1:Int)-(((4294967296+x%4294967296-y%4294967296-w) / 4294967296:Nat):Int))=((1-(4294967296+x%4294967296-y%4294967296-w) / 4294967296:Nat):Int):=by
    rw [C5 (by omega) (by omega)]; omega
   rw [e1,Ah0,Jj,Jk,Jg (by omega) (by omega),C5 (x:=(((4294967296+x%4294967296-y%4294967296-w) / 4294967296:Nat):Int)) (by omega) (by omega),Ap (by omega) (by omega),e2,e3]
   exact ih (1-(4294967296+x%4294967296-y%4294967296-w) / 4294967296) F (by omega) (by omega) (by omega) (by omega)
theorem Ad.minus.known:Ad.minus.Kn:=Ad.minus.Ae (.cons Ad.I4.known .nil) fun a b hp=>by
 obtain ⟨h1,hle⟩:=Ag.1 hp
 obtain ⟨ha,hb⟩:=Ag.1 h1
 have hle:=As.1 hle
 refine ⟨a.length+1,.ints (.own 100005 tW) .u32 (Is a b),[100005],?_,Afc⟩
 rw [Ad.minus.ev]
 exact Aka _ ha hb a.length 0 0 _ (by omega) (by omega) (by omega) (by simp; omega)
theorem Gr (v:Int):Wa (Ah v):=Ah1 _
theorem Ap7 {v w:Int} (h:Az v=Az w):wv (Az v) (Kb (Ah v) (Ah w))=v+w:=by
 unfold wv
 rw [Adf (Gr _) (Gr _),D4,D4]
 unfold Az at h ⊢
 unfold H3
 rw [decide_eq_decide] at h
 by_cases hv:v<0
 ·have hw:=h.1 hv
  rw [A5m hv,A58 rfl]; omega
 ·have hw:¬ w<0:=fun k=>hv (h.2 k)
  rw [A5q hv,A57 (by decide)]; omega
theorem Ali {v w:Int} (h:Az v≠Az w) (hl:w.natAbs≤v.natAbs):wv (Az v) (Is (Ah v) (Ah w))=v+w:=by
 unfold wv
 rw [Akc _ (Gr _),D4,D4]
 unfold Az at h ⊢
 unfold H3
 rw [ne_eq,decide_eq_decide] at h
 by_cases hv:v<0
 ·have hw:¬ w<0:=fun k=>h ⟨fun _=>k,fun _=>hv⟩
  rw [A5m hv,A58 rfl]; omega
 ·have hw:w<0:=by
   rcases Int.lt_or_le w 0 with k | k
   ·exact k
   ·exact absurd ⟨fun k'=>absurd k' hv,fun k'=>by omega⟩ h
  rw [A5q hv,A57 (by decide)]; omega
theorem Ad.Add.known:Ad.Add.Kn:=Ad.Add.Ae (.cons Ad.Made.known (.cons Ad.H9.known (.cons Ad.minus.known (.cons Ad.plus.known .nil)))) fun n a m b hp=>by
 obtain ⟨h1,h2⟩:=Ag.1 hp
 obtain ⟨v,rfl,rfl,hv⟩:=Jw h1
 obtain ⟨w,rfl,rfl,hw⟩:=Jw h2
 refine ⟨0,Ad.Add.out [.b (Az v),.l (Ah v),.b (Az w),.l (Ah w)],[],?_,Aei⟩
 have o1:Ig (Ah v)=true:=P2 (by omega)
 have o2:Ig (Ah w)=true:=P2 (by omega)
 rw [Ad.Add.ev,o1,o2,A5r,A5l]
 show _=some (DV.agg [.bool (Az (wv (Az v) (Ah v)+wv (Az w) (Ah w))),.ints .arg .u32 (Ah (wv (Az v) (Ah v)+wv (Az w) (Ah w)))])
 rw [Ff,Ff]
 by_cases hs:Az v=Az w
 ·have:(Az v==Az w)=true:=by simp [hs]
  have o3:Ig (Kb (Ah v) (Ah w))=true:=K0 (by rw [Qp,Cl,Cl]; omega) (Aaq _ _)
  rw [this,A5l,o3,A5l,Ap7 hs]
 ·have:(Az v==Az w)=false:=by simp [hs]
  rw [this,A5p,A5l,Aw,D4,D4,A6y,A6y]
  by_cases hl:v.natAbs<w.natAbs
  ·have e:decide (Xs v.natAbs w.natAbs<0)=true:=A5m (by unfold Xs; rw [A58 hl]; decide)
   have o3:Ig (Is (Ah w) (Ah v))=true:=K0 (by rw [T6,Cl]; omega) (Adp _ _)
   have o4:leL (Ah v) (Ah w)=true:=As.2 (by rw [D4,D4]; omega)
   rw [e,A5l,o4,A5l,o3,A5l,Ali (fun k=>hs k.symm) (by omega),Int.add_comm]
  ·have e:decide (Xs v.natAbs w.natAbs<0)=false:=A5q (by unfold Xs; rw [A57 hl]; split<;>decide)
   have o3:Ig (Is (Ah v) (Ah w))=true:=K0 (by rw [T6,Cl]; omega) (Adp _ _)
   have o4:leL (Ah w) (Ah v)=true:=As.2 (by rw [D4,D4]; omega)
   rw [e,A5p,o4,A5l,o3,A5l,Ali hs (by omega)]
open Go Go.Den Go.Cv Go.Proofs
set_option maxRecDepth 100000
namespace EqRefB
def Ad.Fv.Bi:List (Nat × Entry):=[(171,Ad.Made.spec),(174,Ad.plus.spec)]
def Ad.Fv.E:Env:=Bn (Bh Ad.Fv.Bi) (fun _=>false) (fun _=>none) (fun _=>none)
theorem Ad.Fv.ev (N:Nat) (n:Bool) (a:List Int):Ci Ad.Fv.E N f222 (Au f222) [.agg [.bool n,.ints .arg .u32 a]]=bif (Ig a&&Ig a) then bif (Ig (Kb a a)) then some (.agg [.bool (Az (wv n (Kb a a))),.ints .arg .u32 (Ah (wv n (Kb a a)))]) else none else none :=
 Eq.trans (by kernel_rfl)
 (C4 (Cr _) (C4 (Cr _) rfl rfl) rfl)
abbrev _root_.Go.Proofs.S1.Ad.Fv.Kn:=A8 prog 222 Ad.Fv.spec
theorem Ad.Fv.Ae (hk:A4 prog Ad.Fv.Bi) (h:Hyp Ad.Fv.E f222 Ad.Fv.ts Ad.Fv.pre Ad.Fv.out):Ad.Fv.Kn :=
 Ar (A5 hk _ _ _) func222 (by kernel_rfl) (by kernel_rfl) h
def Ad.Hr.hint:Nat→Option Bf
 | 0=>some { keep:=[1,2,3,4],objs:=[(0,3,100003,.ints 173 .u32 [])],boxes:=[1,2] }
 | _=>none
def Ad.Hr.Bi:List (Nat × Entry):=[(171,Ad.Made.spec),(221,Ad.I4.spec)]
def Ad.Hr.E:Env:=Bn (Bh Ad.Hr.Bi) (fun _=>false) Ad.Hr.hint (fun _=>none)
section
variable (N M:Nat) (n:Bool) (a:List Int) (p4:Int) (p3:List Int)
def Ad.Hr.L0:Option DV:=Ce Ad.Hr.E N f173 (Au f173) [1,1,0,1,0] [] M ⟨Ik 37 [(1,.ptr 1 0 0),(2,.ptr 2 0 0),(3,.oref 100003),(4,.int .i64 p4)],[(1,false,.box [.bool n,.ints .arg .u32 a]),(2,false,.box [.bool false,.nil]),(100003,false,.ints 173 .u32 p3)]⟩
theorem Ad.Hr.Ax:Ad.Hr.L0 N (M+1) n a p4 p3=bif (Ba p4 (length a:Int)) then bif (Ig a) then bif (Ig a) then bif ((decide (0≤p4))&&(decide (p4<(length p3:Int)))) then bif (decide ((toNat p4)<(length p3))) then Ad.Hr.L0 N M n a (Ac (p4+1)) (List.set p3 (toNat p4) (Jh (Bc (Int.tdiv (Bc ((Bc ((Int.tmod (Hh a (Ac (p4+1))) 2)*4294967296))+(Hh a p4))) 2)))) else none else none else none else none else bif (Ig p3) then some (.agg [.bool (Az (wv n p3)),.ints .arg .u32 (Ah (wv n p3))]) else none :=
 Eq.trans (by kernel_rfl)
 (Fe (C4 (Cr _) (C4 (Cr _) (C4 (Rj _ _) (C4 (Cr _) rfl rfl) rfl) rfl) rfl) rfl)
theorem Ad.Hr.ev:Ci Ad.Hr.E N f173 (Au f173) [.agg [.bool n,.ints .arg .u32 a]]=bif (((decide ((0:Int)≤(length a:Int)))&&(decide ((length a:Int)≤(length a:Int))))&&(decide ((length a:Int)≤Kg))) then Ad.Hr.L0 N N n a 0 (List.replicate (toNat (length a:Int)) 0) else none:=by kernel_rfl
end
abbrev _root_.Go.Proofs.S1.Ad.Hr.Kn:=A8 prog 173 Ad.Hr.spec
theorem Ad.Hr.Ae (hk:A4 prog Ad.Hr.Bi) (h:Hyp Ad.Hr.E f173 Ad.Hr.ts Ad.Hr.pre Ad.Hr.out):Ad.Hr.Kn :=
 Ar (A5 hk _ _ _) func173 (by kernel_rfl) (by kernel_rfl) h
def Ad.B6.hint:Nat→Option Bf
 | 0=>some { keep:=[1,2,4],objs:=[],boxes:=[2,4] }
 | 2=>some { keep:=[1,2,4],objs:=[],boxes:=[2,4] }
 | 4=>some { keep:=[1,2,4],objs:=[],boxes:=[2,4] }
 | 6=>some { keep:=[1,2,4],objs:=[],boxes:=[2,4] }
 | _=>none
def Ad.B6.Bi:List (Nat × Entry):=[(222,Ad.Fv.spec),(173,Ad.Hr.spec),(171,Ad.Made.spec)]
def Ad.B6.E:Env:=Bn (Bh Ad.B6.Bi) (fun _=>false) Ad.B6.hint (fun _=>none)
section
variable (N:Nat) (n:Bool) (a:List Int) (k:Int) (M:Nat) (p1_3:Int) (p2_6:Bool) (p2_7:List Int) (p1_2:Int) (p2_4:Bool) (p2_5:List Int) (p1_1:Int) (p2_2:Bool) (p2_3:List Int) (p1:Int) (p2:Bool) (p2_1:List Int)
def Ad.B6.L0:Option DV:=Ce Ad.B6.E N f178 (Au f178) [1,0,0] [] M ⟨Ik 63 [(1,.int .i64 p1),(2,.ptr 2 0 0),(4,.ptr 4 0 0)],[(2,false,.box [.bool p2,.ints .arg .u32 p2_1]),(4,false,.box [.bool false,.nil])]⟩
def Ad.B6.L1:Option DV:=Ce Ad.B6.E N f178 (Au f178) [1,1,0,0] [] M ⟨Ik 63 [(1,.int .i64 p1_1),(2,.ptr 2 0 0),(4,.ptr 4 0 0)],[(2,false,.box [.bool p2_2,.ints .arg .u32 p2_3]),(4,false,.box [.bool false,.nil])]⟩
def Ad.B6.L2:Option DV:=Ce Ad.B6.E N f178 (Au f178) [1,1,1,0,0] [] M ⟨Ik 63 [(1,.int .i64 p1_2),(2,.ptr 2 0 0),(4,.ptr 4 0 0)],[(2,false,.box [.bool p2_4,.ints .arg .u32 p2_5]),(4,false,.box [.bool false,.nil])]⟩
def Ad.B6.L3:Option DV:=Ce Ad.B6.E N f178 (Au f178) [1,1,1,1,0,0] [] M ⟨Ik 63 [(1,.int .i64 p1_3),(2,.ptr 2 0 0),(4,.ptr 4 0 0)],[(2,false,.box [.bool p2_6,.ints .arg .u32 p2_7]),(4,false,.box [.bool false,.nil])]⟩
theorem Ad.B6.Ax:Ad.B6.L0 N (M+1) p1 p2 p2_1=bif ((Ev 32 p1)&&(Ba 0 (length p2_1:Int))) then bif (decide (1+(length p2_1)≤Kg)) then bif (Ig ([(0:Int)]++p2_1)) then Ad.B6.L0 N M (Ac (p1-32)) (Az (wv p2 ([(0:Int)]++p2_1))) (Ah (wv p2 ([(0:Int)]++p2_1))) else none else none else Ad.B6.L1 N N p1 p2 p2_1 :=
 Eq.trans (by kernel_rfl)
 (Ay (Rt (Ev 32 p1)) (Ay (N6 (Ev 32 p1)) (Ay (N6 (Ev 32 p1)) (Ay (N6 (Ev 32 p1)) (Ay (X5 (Ev 32 p1)) (C4 (tt1 _ _) (C4 (Cr _) (C4 (Cr _) rfl rfl) rfl) rfl))))))
theorem Ad.B6.Cy:Ad.B6.L1 N (M+1) p1_1 p2_2 p2_3=bif ((Ba 0 p1_1)&&(Ba 0 (length p2_3:Int))) then bif (Ks p2_2 p2_3) then Ad.B6.L1 N M (Ac (p1_1-1)) (Az (2*wv p2_2 p2_3)) (Ah (2*wv p2_2 p2_3)) else none else Ad.B6.L2 N N p1_1 p2_2 p2_3 :=
 Eq.trans (by kernel_rfl)
 (Ay (Rt (Ba 0 p1_1)) (Ay (N6 (Ba 0 p1_1)) (Ay (N6 (Ba 0 p1_1)) (Ay (N6 (Ba 0 p1_1)) (Ay (X5 (Ba 0 p1_1)) (C4 (tt1 _ _) rfl rfl))))))
theorem Ad.B6.J0:Ad.B6.L2 N (M+1) p1_2 p2_4 p2_5=bif ((Ev p1_2 (-32:Int))&&(Ba 0 (length p2_5:Int))) then bif (decide ((1:Int)≤(length p2_5:Int))) then bif (Ig (List.drop 1 p2_5)) then Ad.B6.L2 N M (Ac (p1_2+32)) (Az (wv p2_4 (List.drop 1 p2_5))) (Ah (wv p2_4 (List.drop 1 p2_5))) else none else none else Ad.B6.L3 N N p1_2 p2_4 p2_5 :=
 Eq.trans (by kernel_rfl)
 (Ay (Rt (Ev p1_2 (-32:Int))) (Ay (N6 (Ev p1_2 (-32:Int))) (Ay (N6 (Ev p1_2 (-32:Int))) (Ay (N6 (Ev p1_2 (-32:Int))) (Ay (X5 (Ev p1_2 (-32:Int))) (C4 (tt1 _ _) (C4 (A1d _) (C4 (Cr _) rfl rfl) rfl) rfl))))))
theorem Ad.B6.Wx:Ad.B6.L3 N (M+1) p1_3 p2_6 p2_7=bif ((Ba p1_3 0)&&(Ba 0 (length p2_7:Int))) then bif (Ks p2_6 p2_7) then Ad.B6.L3 N M (Ac (p1_3+1)) (Az (Lk (wv p2_6 p2_7) 1)) (Ah (Lk (wv p2_6 p2_7) 1)) else none else some (.agg [.bool p2_6,.ints .arg .u32 p2_7]) :=
 Eq.trans (by kernel_rfl)
 (Ay (Rt (Ba p1_3 0)) (Ay (N6 (Ba p1_3 0)) (Ay (N6 (Ba p1_3 0)) (Ay (N6 (Ba p1_3 0)) (Ay (X5 (Ba p1_3 0)) (C4 (tt1 _ _) rfl rfl))))))
theorem Ad.B6.ev:Ci Ad.B6.E N f178 (Au f178) [.agg [.bool n,.ints .arg .u32 a],.int .i64 k] =
 Ad.B6.L0 N N k n a:=by kernel_rfl
end
abbrev _root_.Go.Proofs.S1.Ad.B6.Kn:=A8 prog 178 Ad.B6.spec
theorem Ad.B6.Ae (hk:A4 prog Ad.B6.Bi) (h:Hyp Ad.B6.E f178 Ad.B6.ts Ad.B6.pre Ad.B6.out):Ad.B6.Kn :=
 Ar (A5 hk _ _ _) func178 (by kernel_rfl) (by kernel_rfl) h
def Ad.Ri.hint:Nat→Option Bf
 | 0=>some { keep:=[3,4],objs:=[],boxes:=[] }
 | _=>none
def Ad.Ri.Bi:List (Nat × Entry):=[]
def Ad.Ri.E:Env:=Bn (Bh Ad.Ri.Bi) (fun _=>false) Ad.Ri.hint (fun _=>none)
def Ad.Ri.L0 (N M:Nat) (p3 p4:Int):Option DV:=Ce Ad.Ri.E N f223 (Au f223) [1,1,1,0,1,0] [] M ⟨Ik 29 [(3,.int .i64 p3),(4,.int .u32 p4)],[]⟩
theorem Ad.Ri.Ax (N M:Nat) (p3 p4:Int):Ad.Ri.L0 N (M+1) p3 p4=bif (Ba 0 p4) then Ad.Ri.L0 N M (Ac (p3+1)) (Jh (Int.tdiv p4 2)) else some (.int .i64 p3):=by kernel_rfl
theorem Ad.Ri.ev (N:Nat) (n:Bool) (a:List Int):Ci Ad.Ri.E N f223 (Au f223) [.agg [.bool n,.ints .arg .u32 a]]=bif ((length a:Int)==(0:Int)) then some (.int .i64 0) else bif ((decide (0≤(Ac ((length a:Int)-1))))&&(decide ((Ac ((length a:Int)-1))<(length a:Int)))) then Ad.Ri.L0 N N (Ac ((32:Int)*(Ac ((length a:Int)-1)))) (getD a (toNat (Ac ((length a:Int)-1))) 0) else none:=by kernel_rfl
abbrev _root_.Go.Proofs.S1.Ad.Ri.Kn:=A8 prog 223 Ad.Ri.spec
theorem Ad.Ri.Ae (hk:A4 prog Ad.Ri.Bi) (h:Hyp Ad.Ri.E f223 Ad.Ri.ts Ad.Ri.pre Ad.Ri.out):Ad.Ri.Kn :=
 Ar (A5 hk _ _ _) func223 (by kernel_rfl) (by kernel_rfl) h
def Ad.Xz.Bi:List (Nat × Entry):=[]
def Ad.Xz.E:Env:=Bn (Bh Ad.Xz.Bi) (fun _=>false) (fun _=>none) (fun _=>none)
theorem Ad.Xz.ev (N:Nat) (n:Bool) (a:List Int):Ci Ad.Xz.E N f172 (Au f172) [.agg [.bool n,.ints .arg .u32 a]]=bif ((!(Ba 0 (length a:Int)))||(decide ((0:Int)<(length a:Int)))) then some (.bool (bif (Ba 0 (length a:Int)) then ((Int.tmod (getD a 0 0) 2)==(1:Int)) else false)) else none :=
 Eq.trans (by kernel_rfl)
 (Ay (Rt (Ba 0 (length a:Int))) (Ay (N6 (Ba 0 (length a:Int))) (C4 (A1c _ _) (Ay (N6 (Ba 0 (length a:Int))) (Ay (N6 (Ba 0 (length a:Int))) (Ay (N6 (Ba 0 (length a:Int))) (Ay (X5 (Ba 0 (length a:Int))) rfl)))) rfl)))
abbrev _root_.Go.Proofs.S1.Ad.Xz.Kn:=A8 prog 172 Ad.Xz.spec
theorem Ad.Xz.Ae (hk:A4 prog Ad.Xz.Bi) (h:Hyp Ad.Xz.E f172 Ad.Xz.ts Ad.Xz.pre Ad.Xz.out):Ad.Xz.Kn :=
 Ar (A5 hk _ _ _) func172 (by kernel_rfl) (by kernel_rfl) h
end EqRefB
open Go Go.Den Go.Cv Go.Proofs
open EqRefB
theorem Ad.Fv.known:Ad.Fv.Kn:=Ad.Fv.Ae (.cons Ad.Made.known (.cons Ad.plus.known .nil)) fun n a hp=>by
 obtain ⟨v,rfl,rfl,hv⟩:=Jw hp
 refine ⟨0,Ad.Fv.out [.b (Az v),.l (Ah v)],[],?_,Aei⟩
 have o1:Ig (Ah v)=true:=P2 (by omega)
 have o3:Ig (Kb (Ah v) (Ah v))=true:=K0 (by rw [Qp,Cl]; omega) (Aaq _ _)
 rw [Ad.Fv.ev,o1,o3,A5r,A5l,A5l,Ap7 rfl]
 show _=some (DV.agg [.bool (Az (2*wv (Az v) (Ah v))),.ints .arg .u32 (Ah (2*wv (Az v) (Ah v)))])
 rw [Ff,Int.two_mul]
theorem Aza (l:List Int) (y x:Int) (r:List Int):∀ i,i=l.length→(l++y::r).set i x=l++x::r:=by
 induction l with
 | nil=>intro i h; subst h; rfl
 | cons z l ih =>
   intro i h
   obtain ⟨j,rfl⟩:∃ j,i=j+1:=⟨i-1,by rw [List.length_cons] at h; omega⟩
   show z::(l++y::r).set j x=z::(l++x::r)
   rw [ih j (by rw [List.length_cons] at h; omega)]
theorem Apa (N:Nat) {v:Int} (hv:Dk v.natAbs<268435456):∀ (k i F:Nat),i+k=Dk v.natAbs→k<F →
 Ad.Hr.L0 N F (Az v) (Ah v) (i:Int) (digits i (v.natAbs / 2)++List.replicate k 0)=some (.agg [.bool (Az (Lk v 1)),.ints .arg .u32 (Ah (Lk v 1))]):=by
 have o1:Ig (Ah v)=true:=P2 (by omega)
 have ia:=Gr v
 intro k
 induction k with
 | zero =>
   intro i F hi hF
   obtain ⟨F,rfl⟩:∃ G,F=G+1:=⟨F-1,by omega⟩
   have t0:decide ((i:Int)<((Ah v).length:Int))=false:=A5q (by rw [Cl]; omega)
   rw [List.replicate_zero,List.append_nil,Ad.Hr.Ax,Aw,t0,A5p]
   have o3:Ig (digits i (v.natAbs / 2))=true:=K0 (by rw [Ec]; omega) (Nz _ _)
   have e:wv (Az v) (digits i (v.natAbs / 2))=Lk v 1:=by
    unfold wv Lk
    rw [J6,A5y,Nat.pow_one]
    have:=K6 v.natAbs
    rw [show i=Dk v.natAbs by omega]
    exact A6n (Nat.div_le_self _ _) this
   rw [o3,A5l,e]
 | succ k ih =>
   intro i F hi hF
   obtain ⟨F,rfl⟩:∃ G,F=G+1:=⟨F-1,by omega⟩
   have hlen:(digits i (v.natAbs / 2)++List.replicate (k+1) (0:Int)).length=i+(k+1):=by rw [A6d,Ec,List.length_replicate]
   have t0:decide ((i:Int)<((Ah v).length:Int))=true:=A5m (by rw [Cl]; omega)
   have t1:decide ((0:Int)≤(i:Int))=true:=A5m (by omega)
   have t2:decide ((i:Int)<((digits i (v.natAbs / 2)++List.replicate (k+1) (0:Int)).length:Int))=true:=A5m (by rw [hlen]; omega)
   have t3:decide (i<(digits i (v.natAbs / 2)++List.replicate (k+1) (0:Int)).length)=true:=A5m (by rw [hlen]; omega)
   have e0:Ac ((i:Int)+1)=((i+1:Nat):Int):=by rw [Ap (by omega) (by omega)]; omega
   rw [Ad.Hr.Ax,Aw,t0,o1,A5n,t1,t2,t3,A5r]
   simp only [A5l]
   rw [e0,Hz ia,Hz ia,D4]
   have ih:=ih (i+1) F (by omega) (by omega)
   rw [Kk,A6e,A59 2,← A6e] at ih
   rw [Nb,A59 4294967296,← A6e,List.replicate_succ,Aza _ _ _ _ i (Ec _ _).symm]
   rw [List.append_assoc] at ih
   generalize v.natAbs / 2^(32*i)=x at *
   have e1:Int.tmod ((x / 4294967296%4294967296:Nat):Int) 2=((x / 4294967296%4294967296%2:Nat):Int):=Jj _ 2
   have e2:Bc (Bc (((x / 4294967296%4294967296%2:Nat):Int)*4294967296)+((x%4294967296:Nat):Int))=((x / 4294967296%4294967296%2*4294967296+x%4294967296:Nat):Int):=by
    rw [C5 (x:=((x / 4294967296%4294967296%2:Nat):Int)*4294967296) (by omega) (by omega),C5 (by omega) (by omega)]; omega
   have e3:Int.tdiv ((x / 4294967296%4294967296%2*4294967296+x%4294967296:Nat):Int) 2=(((x / 4294967296%4294967296%2*4294967296+x%4294967296) / 2:Nat):Int):=Jk _ 2
   have e4:(x / 4294967296%4294967296%2*4294967296+x%4294967296) / 2=x / 2%4294967296:=by omega
   rw [e1,e2,e3,e4,C5 (by omega) (by omega),Jg (by omega) (by omega)]
   exact ih
theorem Ad.Hr.known:Ad.Hr.Kn:=Ad.Hr.Ae (.cons Ad.Made.known (.cons Ad.I4.known .nil)) fun n a hp=>by
 obtain ⟨v,rfl,rfl,hv⟩:=Jw hp
 refine ⟨Dk v.natAbs+1,Ad.Hr.out [.b (Az v),.l (Ah v)],[],?_,Aei⟩
 show _=some (DV.agg [.bool (Az (Lk (wv (Az v) (Ah v)) 1)),.ints .arg .u32 (Ah (Lk (wv (Az v) (Ah v)) 1))])
 rw [Ad.Hr.ev,Ff,Cl,A5m (by omega),A5m (by omega),A5m (by unfold Kg; omega),A5r,A5r,A5l,A5n]
 have h:=Apa (Dk v.natAbs+1) hv (Dk v.natAbs) 0 (Dk v.natAbs+1) (by omega) (by omega)
 rw [digits,List.nil_append] at h
 exact h
def Ai6 (v:Int):Option DV:=some (.agg [.bool (Az v),.ints .arg .u32 (Ah v)])
theorem V6 (v:Int):Ba (0:Int) ((Ah v).length:Int)=decide (v≠0):=by
 rw [Aw,Cl,decide_eq_decide]
 constructor
 ·intro h e
  rw [e] at h
  exact absurd h (by decide)
 ·intro h
  have:=Js (n:=v.natAbs) (by omega)
  omega
theorem Ay4 (N:Nat):∀ (j F:Nat) (v:Int),j<F→j<2000000→Dk v.natAbs<268435456→Ad.B6.L3 N F (-(j:Int)) (Az v) (Ah v)=Ai6 (Lk v j):=by
 intro j
 induction j with
 | zero =>
   intro F v hF _ hv
   obtain ⟨F,rfl⟩:∃ G,F=G+1:=⟨F-1,by omega⟩
   rw [Ad.B6.Wx,Aw,A5q (by omega),Bool.false_and,A5p,Ahb]
   rfl
 | succ j ih =>
   intro F v hF hj hv
   obtain ⟨F,rfl⟩:∃ G,F=G+1:=⟨F-1,by omega⟩
   rw [Ad.B6.Wx,Aw,A5m (by omega),A6y,V6]
   by_cases h0:v=0
   ·rw [A5q (by omega),A5p,h0,S6]
    rfl
   ·rw [A5m h0,A5l,Ie hv,A5l,Ff,Ap (by omega) (by omega)]
    have e:-((j+1:Nat):Int)+1=-(j:Int):=by omega
    have hl:Dk (Lk v 1).natAbs<268435456:=by
     rw [Nh]
     exact A6n (Ny (Nat.div_le_self _ _)) hv
    rw [e,ih F (Lk v 1) (by omega) (by omega) hl,Ae4,Nat.add_comm]
theorem Alh (v:Int):wv (Az v) ((Ah v).drop 1)=Lk v 32:=by
 unfold wv Lk
 rw [Anf (Gr v),D4,two32]
theorem Ay5 (N:Nat):∀ (F j:Nat) (v:Int),j<F→j<N→j<2000000→Dk v.natAbs<268435456→Ad.B6.L2 N F (-(j:Int)) (Az v) (Ah v)=Ai6 (Lk v j):=by
 intro F
 induction F with
 | zero=>intro j v h; omega
 | succ F ih =>
   intro j v hF hN hj hv
   rw [Ad.B6.J0,E3,V6]
   by_cases hc:32≤j∧v≠0
   ·have o3:Ig ((Ah v).drop 1)=true:=K0 (by rw [List.length_drop,Cl]; omega) (Aic (Gr v))
    have t1:decide ((1:Int)≤((Ah v).length:Int))=true:=A5m (by
     rw [Cl]
     have:=Js (n:=v.natAbs) (by omega)
     omega)
    have hl:Dk (Lk v 32).natAbs<268435456:=by
     rw [Nh]
     exact A6n (Ny (Nat.div_le_self _ _)) hv
    rw [A5m (by omega),A5m hc.2,A5r,A5l,t1,A5l,o3,A5l,Alh,Ap (by omega) (by omega)]
    have e:-(j:Int)+32=-((j-32:Nat):Int):=by omega
    rw [e,ih (j-32) (Lk v 32) (by omega) (by omega) (by omega) hl,Ae4]
    congr 2
    omega
   ·have:(decide (-(j:Int)≤-32)&&decide (v≠0))=false:=by
     rw [Bool.and_eq_false_iff,A54,A54]
     omega
    rw [this,A5p]
    exact Ay4 N j N v hN hj hv
theorem X7 (N F:Nat) {k:Int} (hk:0≤k) (hN:0<N) (v:Int):Ad.B6.L2 N (F+1) k (Az v) (Ah v)=Ai6 v:=by
 obtain ⟨M,rfl⟩:∃ M,N=M+1:=⟨N-1,by omega⟩
 rw [Ad.B6.J0,E3,A5q (by omega),Bool.false_and,A5p,Ad.B6.Wx,Aw,A5q (by omega),Bool.false_and,A5p]
 rfl
theorem Ay6 (N:Nat) (hN:0<N):∀ (j F:Nat) (v:Int),j<F→j<2000000→Dk v.natAbs+j<268435456→Ad.B6.L1 N F (j:Int) (Az v) (Ah v)=Ai6 (v*((2^j:Nat):Int)):=by
 obtain ⟨M,rfl⟩:∃ M,N=M+1:=⟨N-1,by omega⟩
 intro j
 induction j with
 | zero =>
   intro F v hF _ hv
   obtain ⟨F,rfl⟩:∃ G,F=G+1:=⟨F-1,by omega⟩
   rw [Ad.B6.Cy,Aw,A5q (by omega),Bool.false_and,A5p,X7 _ _ (by omega) (by omega),A6j]
   congr 1
   omega
 | succ j ih =>
   intro F v hF hj hv
   obtain ⟨F,rfl⟩:∃ G,F=G+1:=⟨F-1,by omega⟩
   rw [Ad.B6.Cy,Aw,A5m (by omega),A6y,V6]
   by_cases h0:v=0
   ·rw [A5q (by omega),A5p,h0,Int.zero_mul,X7 _ _ (by omega) (by omega)]
   ·have hl:=Asy v.natAbs
    have e2:(2*v).natAbs=2*v.natAbs:=by omega
    have e:((j+1:Nat):Int)-1=(j:Int):=by omega
    rw [A5m h0,A5l,Ie (by omega),A5l,Ff,Ap (by omega) (by omega),e,ih F (2*v) (by omega) (by omega) (by rw [e2]; omega)]
    congr 1
    rw [Nat.pow_succ,A56,Int.mul_comm 2 v,Int.mul_assoc,Int.mul_comm ((2^j:Nat):Int)]
    rfl
theorem A0m (v:Int):wv (Az v) ([(0:Int)]++Ah v)=v*((2^32:Nat):Int):=by
 have e:B9 ([(0:Int)]++Ah v)=4294967296*v.natAbs:=by
  show B9 (0::Ah v)=_
  rw [B9,D4]
  exact A6v _
 unfold wv
 rw [e,two32]
 by_cases h:v<0
 ·rw [S8 h]; omega
 ·rw [S7 h]; omega
theorem Ay7 (N:Nat):∀ (F j:Nat) (v:Int),j<F→j<N→j<2000000→Dk v.natAbs+j<268435456→Ad.B6.L0 N F (j:Int) (Az v) (Ah v)=Ai6 (v*((2^j:Nat):Int)):=by
 intro F
 induction F with
 | zero=>intro j v h; omega
 | succ F ih =>
   intro j v hF hN hj hv
   rw [Ad.B6.Ax,E3,V6]
   by_cases hc:32≤j∧v≠0
   ·have o3:Ig ([(0:Int)]++Ah v)=true:=K0 (by rw [A6d,Cl]; show 1+_<_; omega) (Aib (Gr v))
    have t1:decide (1+(Ah v).length≤Kg)=true:=A5m (by rw [Cl]; unfold Kg; omega)
    have e2:(v*((2^32:Nat):Int)).natAbs=v.natAbs*4294967296:=by rw [Int.natAbs_mul,Int.natAbs_natCast,two32]
    have hl:=Awm v.natAbs
    rw [A5m (by omega),A5m hc.2,A5r,A5l,t1,A5l,o3,A5l,A0m,Ap (by omega) (by omega)]
    have e:(j:Int)-32=((j-32:Nat):Int):=by omega
    rw [e,ih (j-32) _ (by omega) (by omega) (by omega) (by rw [e2]; omega)]
    have e3:2^j=2^32*2^(j-32):=by rw [← A6a]; congr 1; omega
    rw [e3,A56,Int.mul_assoc]
   ·have:(decide ((32:Int)≤(j:Int))&&decide (v≠0))=false:=by
     rw [Bool.and_eq_false_iff,A54,A54]
     omega
    rw [this,A5p]
    exact Ay6 N (by omega) j N v hN hj hv
theorem Ajm (N j:Nat) (v:Int) (hj:0<j) (hN:j<N) (hj2:j<2000000) (hv:Dk v.natAbs<268435456):Ad.B6.L0 N N (-(j:Int)) (Az v) (Ah v)=Ai6 (Lk v j):=by
 obtain ⟨M,rfl⟩:∃ M,N=M+1:=⟨N-1,by omega⟩
 rw [Ad.B6.Ax,E3,A5q (by omega),Bool.false_and,A5p,Ad.B6.Cy,Aw,A5q (by omega),Bool.false_and,A5p]
 exact Ay5 _ _ j v hN hN hj2 hv
theorem Ad.B6.known:Ad.B6.Kn:=Ad.B6.Ae (.cons Ad.Fv.known (.cons Ad.Hr.known (.cons Ad.Made.known .nil))) fun n a k hp=>by
 obtain ⟨h1,h2⟩:=Ag.1 hp
 obtain ⟨v,rfl,rfl,hv⟩:=Qu h1
 have h2:=As.1 h2
 refine ⟨k.natAbs+1,Ad.B6.out [.b (Az v),.l (Ah v),.i k],[],?_,Aei⟩
 show _=some (DV.agg [.bool (Az (Io (wv (Az v) (Ah v)) k)),.ints .arg .u32 (Ah (Io (wv (Az v) (Ah v)) k))])
 rw [Ad.B6.ev,Ff]
 unfold Io
 by_cases h:0≤k
 ·obtain ⟨j,rfl⟩:∃ j:Nat,k=j:=⟨k.toNat,by omega⟩
  rw [A58 h,A5n,Int.natAbs_natCast]
  exact Ay7 _ _ j v (by omega) (by omega) (by omega) (by omega)
 ·obtain ⟨j,rfl⟩:∃ j:Nat,k=-(j:Int):=⟨(-k).toNat,by omega⟩
  have e:(-(-(j:Int))).toNat=j:=by omega
  rw [A57 h,e,Int.natAbs_neg,Int.natAbs_natCast]
  exact Ajm _ j v (by omega) (by omega) (by omega) (by omega)
open Go Go.Den Go.Cv Go.Proofs
open EqRefB
theorem Ao1 {t:Nat} (h:2≤t):(t / 2).log2+1=t.log2:=by
 have:=Ahy (n:=t) (m:=1) (by omega)
 rw [Nat.pow_one] at this
 exact this
theorem Asx (N:Nat):∀ (F:Nat) (t:Nat) (p:Int),t<2^32→0<t→t.log2+1<F→-1000≤p→p+t.log2<4611686018427387904 →
 Ad.Ri.L0 N F p (t:Int)=some (.int .i64 (p+t.log2+1)):=by
 intro F
 induction F with
 | zero=>intro t p _ _ h; omega
 | succ F ih =>
   intro t p ht h0 hF hp1 hp2
   have e2:Int.tdiv (t:Int) 2=((t / 2:Nat):Int):=Jk t 2
   rw [two32] at ht
   rw [Ad.Ri.Ax,Aw,A5m (by omega),A5l,e2,Jg (by omega) (by omega),Ap (by omega) (by omega)]
   by_cases h1:t=1
   ·subst h1
    obtain ⟨G,rfl⟩:∃ G,F=G+1:=⟨F-1,by omega⟩
    rw [Ad.Ri.Ax,Aw,A5q (by decide),A5p]
    have:(1:Nat).log2=0:=by decide
    rw [this]
    congr 2
    omega
   ·have hl:=Ao1 (t:=t) (by omega)
    rw [ih (t / 2) (p+1) (by rw [two32]; omega) (by omega) (by omega) (by omega) (by omega)]
    congr 2
    omega
theorem Ad.Ri.known:Ad.Ri.Kn:=Ad.Ri.Ae .nil fun n a hp=>by
 obtain ⟨v,rfl,rfl,hv⟩:=Jw hp
 refine ⟨40,Ad.Ri.out [.b (Az v),.l (Ah v)],[],?_,.int⟩
 show _=some (DV.int .i64 (Abe (wv (Az v) (Ah v))))
 rw [Ad.Ri.ev,Ff,Cl]
 unfold Abe
 by_cases h0:v=0
 ·rw [A58 h0,h0]; rfl
 ·have hn:v.natAbs≠0:=by omega
  have hl:=Js hn
  have e0:((Dk v.natAbs:Int)==0)=false:=by simp only [A6g,ne_eq]; omega
  have e1:(Dk v.natAbs:Int)-1=((Dk v.natAbs-1:Nat):Int):=by omega
  have hlen:Dk v.natAbs=v.natAbs.log2 / 32+1:=by unfold Dk; rw [A57 hn]
  have hge:2^(32*(Dk v.natAbs-1))≤v.natAbs:=A6s (A50 (by decide) (by omega)) (Nat.log2_self_le hn)
  have hq:v.natAbs / 2^(32*(Dk v.natAbs-1))<2^32:=by
   rw [Nat.div_lt_iff_lt_mul (B4 _),← A6a]
   have:=K6 v.natAbs
   have e:32+32*(Dk v.natAbs-1)=32*Dk v.natAbs:=by omega
   rw [e]; exact this
  have hlog:=Ahy hge
  have hg:=O8 (Gr v) (Dk v.natAbs-1)
  have hq':=hq
  rw [two32] at hq'
  rw [D4,A5y hq'] at hg
  have hpos:=Nat.div_pos hge (B4 _)
  have h32:(v.natAbs / 2^(32*(Dk v.natAbs-1))).log2<32:=(A61 (by omega)).2 hq
  rw [A57 h0,e0,A5p,Ap (by omega) (by omega),e1,A5m (by omega),A5m (by omega),A5r,A5l,A5n,hg,Ap (by omega) (by omega)]
  rw [Asx 40 40 _ _ hq hpos (by omega) (by omega) (by omega)]
  congr 2
  omega
theorem Ad.Xz.known:Ad.Xz.Kn:=Ad.Xz.Ae .nil fun n a hp=>by
 obtain ⟨v,rfl,rfl,hv⟩:=Jw hp
 refine ⟨0,Ad.Xz.out [.b (Az v),.l (Ah v)],[],?_,.bool⟩
 show _=some (DV.bool (Aog (wv (Az v) (Ah v))))
 rw [Ad.Xz.ev,Ff,V6]
 have hg:=O8 (Gr v) 0
 rw [D4,Nat.mul_zero,A6j,Nat.div_one] at hg
 have e2:Int.tmod ((v.natAbs%4294967296:Nat):Int) 2=((v.natAbs%4294967296%2:Nat):Int):=Jj _ 2
 unfold Aog
 by_cases h0:v=0
 ·rw [h0]; rfl
 ·have hl:=Js (n:=v.natAbs) (by omega)
  rw [hg,e2,A5m h0,Cl,A5m (by omega),A6x,A5l,A5l]
  congr 2
  rw [A51]
  simp only [beq_iff_eq,A5s]
  omega
open Go Go.Den Go.Cv Go.Proofs
set_option maxRecDepth 100000
namespace EqRefC
def Ai.Of.hint:Nat→Option Bf
 | 0=>some { keep:=[1,2,4],objs:=[],boxes:=[2,4] }
 | 2=>some { keep:=[1,2,4],objs:=[],boxes:=[2,4] }
 | _=>none
def Ai.Of.Bi:List (Nat × Entry):=[(173,Ad.Hr.spec),(171,Ad.Made.spec),(172,Ad.Xz.spec)]
def Ai.Of.E:Env:=Bn (Bh Ai.Of.Bi) (fun _=>false) Ai.Of.hint (fun _=>none)
section
variable (N:Nat) (n:Bool) (a:List Int) (e:Int) (M:Nat) (p1_1:Int) (p2_2:Bool) (p2_3:List Int) (p1:Int) (p2:Bool) (p2_1:List Int)
def Ai.Of.L0:Option DV:=Ce Ai.Of.E N f109 (Au f109) [1,1,0,0] [] M ⟨Ik 33 [(1,.int .i64 p1),(2,.ptr 2 0 0),(4,.ptr 4 0 0)],[(2,false,.box [.bool p2,.ints .arg .u32 p2_1]),(4,false,.box [.bool false,.nil,.int .i64 0])]⟩
def Ai.Of.L1:Option DV:=Ce Ai.Of.E N f109 (Au f109) [1,1,1,0,0] [] M ⟨Ik 33 [(1,.int .i64 p1_1),(2,.ptr 2 0 0),(4,.ptr 4 0 0)],[(2,false,.box [.bool p2_2,.ints .arg .u32 p2_3]),(4,false,.box [.bool false,.nil,.int .i64 0])]⟩
theorem Ai.Of.Ax:Ai.Of.L0 N (M+1) p1 p2 p2_1=bif (decide ((0:Int)<(length p2_1:Int))) then bif ((getD p2_1 0 0)==(0:Int)) then bif (decide ((1:Int)≤(length p2_1:Int))) then bif (Ig (List.drop 1 p2_1)) then Ai.Of.L0 N M (Ac (p1+32)) (Az (wv p2 (List.drop 1 p2_1))) (Ah (wv p2 (List.drop 1 p2_1))) else none else none else Ai.Of.L1 N N p1 p2 p2_1 else none :=
 Eq.trans (by kernel_rfl)
 (Fe (Fe (C4 (A1d _) (C4 (Cr _) rfl rfl) rfl) rfl) rfl)
theorem Ai.Of.Cy:Ai.Of.L1 N (M+1) p1_1 p2_2 p2_3=bif (Ks p2_2 p2_3) then bif (!(Aog (wv p2_2 p2_3))) then bif (Ks p2_2 p2_3) then Ai.Of.L1 N M (Ac (p1_1+1)) (Az (Lk (wv p2_2 p2_3) 1)) (Ah (Lk (wv p2_2 p2_3) 1)) else none else some (.agg [.bool p2_2,.ints .arg .u32 p2_3,.int .i64 p1_1]) else none:=by kernel_rfl
theorem Ai.Of.ev:Ci Ai.Of.E N f109 (Au f109) [.agg [.bool n,.ints .arg .u32 a],.int .i64 e]=bif ((length a:Int)==(0:Int)) then some (.agg [.bool false,.nil,.int .i64 0]) else Ai.Of.L0 N N e n a:=by kernel_rfl
end
abbrev _root_.Go.Proofs.S1.Ai.Of.Kn:=A8 prog 109 Ai.Of.spec
theorem Ai.Of.Ae (hk:A4 prog Ai.Of.Bi) (h:Hyp Ai.Of.E f109 Ai.Of.ts Ai.Of.pre Ai.Of.out):Ai.Of.Kn :=
 Ar (A5 hk _ _ _) func109 (by kernel_rfl) (by kernel_rfl) h
def Ai.Neg.Bi:List (Nat × Entry):=[(143,Ad.Neg.spec)]
def Ai.Neg.E:Env:=Bn (Bh Ai.Neg.Bi) (fun _=>false) (fun _=>none) (fun _=>none)
theorem Ai.Neg.ev (N:Nat) (n:Bool) (a:List Int) (e:Int):Ci Ai.Neg.E N f170 (Au f170) [.agg [.bool n,.ints .arg .u32 a,.int .i64 e]]=bif (Ks n a) then some (.agg [.bool (Az (- wv n a)),.ints .arg .u32 (Ah (- wv n a)),.int .i64 e]) else none :=
 Eq.trans (by kernel_rfl)
 (C4 (Cr _) rfl rfl)
abbrev _root_.Go.Proofs.S1.Ai.Neg.Kn:=A8 prog 170 Ai.Neg.spec
theorem Ai.Neg.Ae (hk:A4 prog Ai.Neg.Bi) (h:Hyp Ai.Neg.E f170 Ai.Neg.ts Ai.Neg.pre Ai.Neg.out):Ai.Neg.Kn :=
 Ar (A5 hk _ _ _) func170 (by kernel_rfl) (by kernel_rfl) h
def Ai.X1.Bi:List (Nat × Entry):=[]
def Ai.X1.E:Env:=Bn (Bh Ai.X1.Bi) (fun _=>false) (fun _=>none) (fun _=>none)
theorem Ai.X1.ev (N:Nat) (n:Bool) (a:List Int) (e:Int) (m:Bool) (b:List Int) (f:Int):Ci Ai.X1.E N f111 (Au f111) [.agg [.bool n,.ints .arg .u32 a,.int .i64 e],.agg [.bool m,.ints .arg .u32 b,.int .i64 f]]=bif ((length a:Int)==(0:Int)) then some (.int .i64 f) else bif ((length b:Int)==(0:Int)) then some (.int .i64 e) else some (.int .i64 (min e f)):=by kernel_rfl
abbrev _root_.Go.Proofs.S1.Ai.X1.Kn:=A8 prog 111 Ai.X1.spec
theorem Ai.X1.Ae (hk:A4 prog Ai.X1.Bi) (h:Hyp Ai.X1.E f111 Ai.X1.ts Ai.X1.pre Ai.X1.out):Ai.X1.Kn :=
 Ar (A5 hk _ _ _) func111 (by kernel_rfl) (by kernel_rfl) h
def Ai.Level.Bi:List (Nat × Entry):=[(178,Ad.B6.spec)]
def Ai.Level.E:Env:=Bn (Bh Ai.Level.Bi) (fun _=>false) (fun _=>none) (fun _=>none)
theorem Ai.Level.ev (N:Nat) (n:Bool) (a:List Int) (e f:Int):Ci Ai.Level.E N f113 (Au f113) [.agg [.bool n,.ints .arg .u32 a,.int .i64 e],.int .i64 f]=bif ((length a:Int)==(0:Int)) then some (.agg [.bool n,.ints .arg .u32 a]) else bif (Yc n a&&Azi (Ac (e-f))) then some (.agg [.bool (Az (Io (wv n a) (Ac (e-f)))),.ints .arg .u32 (Ah (Io (wv n a) (Ac (e-f))))]) else none:=by kernel_rfl
abbrev _root_.Go.Proofs.S1.Ai.Level.Kn:=A8 prog 113 Ai.Level.spec
theorem Ai.Level.Ae (hk:A4 prog Ai.Level.Bi) (h:Hyp Ai.Level.E f113 Ai.Level.ts Ai.Level.pre Ai.Level.out):Ai.Level.Kn :=
 Ar (A5 hk _ _ _) func113 (by kernel_rfl) (by kernel_rfl) h
def Ai.Add.Bi:List (Nat × Entry):=[(112,Ad.Add.spec),(113,Ai.Level.spec),(111,Ai.X1.spec),(109,Ai.Of.spec)]
def Ai.Add.E:Env:=Bn (Bh Ai.Add.Bi) (fun _=>false) (fun _=>none) (fun _=>none)
theorem Ai.Add.ev (N:Nat) (n:Bool) (a:List Int) (e:Int) (m:Bool) (b:List Int) (f:Int):Ci Ai.Add.E N f42 (Au f42) [.agg [.bool n,.ints .arg .u32 a,.int .i64 e],.agg [.bool m,.ints .arg .u32 b,.int .i64 f]]=bif (Ks n a&&Ks m b) then bif (Yc n a&&Aof (wv n a) e (Dj (wv n a) e (wv m b) f)) then bif (Yc m b&&Aof (wv m b) f (Dj (wv n a) e (wv m b) f)) then bif (Ks (Az (Io (wv n a) (e-(Dj (wv n a) e (wv m b) f)))) (Ah (Io (wv n a) (e-(Dj (wv n a) e (wv m b) f))))&&Ks (Az (Io (wv m b) (f-(Dj (wv n a) e (wv m b) f)))) (Ah (Io (wv m b) (f-(Dj (wv n a) e (wv m b) f))))) then bif (Ks (Az (wv (Az (Io (wv n a) (e-(Dj (wv n a) e (wv m b) f)))) (Ah (Io (wv n a) (e-(Dj (wv n a) e (wv m b) f))))+wv (Az (Io (wv m b) (f-(Dj (wv n a) e (wv m b) f)))) (Ah (Io (wv m b) (f-(Dj (wv n a) e (wv m b) f)))))) (Ah (wv (Az (Io (wv n a) (e-(Dj (wv n a) e (wv m b) f)))) (Ah (Io (wv n a) (e-(Dj (wv n a) e (wv m b) f))))+wv (Az (Io (wv m b) (f-(Dj (wv n a) e (wv m b) f)))) (Ah (Io (wv m b) (f-(Dj (wv n a) e (wv m b) f))))))&&Un (Dj (wv n a) e (wv m b) f)) then some (.agg [.bool (Az (mD (wv (Az (wv (Az (Io (wv n a) (e-(Dj (wv n a) e (wv m b) f)))) (Ah (Io (wv n a) (e-(Dj (wv n a) e (wv m b) f))))+wv (Az (Io (wv m b) (f-(Dj (wv n a) e (wv m b) f)))) (Ah (Io (wv m b) (f-(Dj (wv n a) e (wv m b) f)))))) (Ah (wv (Az (Io (wv n a) (e-(Dj (wv n a) e (wv m b) f)))) (Ah (Io (wv n a) (e-(Dj (wv n a) e (wv m b) f))))+wv (Az (Io (wv m b) (f-(Dj (wv n a) e (wv m b) f)))) (Ah (Io (wv m b) (f-(Dj (wv n a) e (wv m b) f))))))))),.ints .arg .u32 (Ah (mD (wv (Az (wv (Az (Io (wv n a) (e-(Dj (wv n a) e (wv m b) f)))) (Ah (Io (wv n a) (e-(Dj (wv n a) e (wv m b) f))))+wv (Az (Io (wv m b) (f-(Dj (wv n a) e (wv m b) f)))) (Ah (Io (wv m b) (f-(Dj (wv n a) e (wv m b) f)))))) (Ah (wv (Az (Io (wv n a) (e-(Dj (wv n a) e (wv m b) f)))) (Ah (Io (wv n a) (e-(Dj (wv n a) e (wv m b) f))))+wv (Az (Io (wv m b) (f-(Dj (wv n a) e (wv m b) f)))) (Ah (Io (wv m b) (f-(Dj (wv n a) e (wv m b) f))))))))),.int .i64 (eD (wv (Az (wv (Az (Io (wv n a) (e-(Dj (wv n a) e (wv m b) f)))) (Ah (Io (wv n a) (e-(Dj (wv n a) e (wv m b) f))))+wv (Az (Io (wv m b) (f-(Dj (wv n a) e (wv m b) f)))) (Ah (Io (wv m b) (f-(Dj (wv n a) e (wv m b) f)))))) (Ah (wv (Az (Io (wv n a) (e-(Dj (wv n a) e (wv m b) f)))) (Ah (Io (wv n a) (e-(Dj (wv n a) e (wv m b) f))))+wv (Az (Io (wv m b) (f-(Dj (wv n a) e (wv m b) f)))) (Ah (Io (wv m b) (f-(Dj (wv n a) e (wv m b) f))))))) (Dj (wv n a) e (wv m b) f))]) else none else none else none else none else none :=
 Eq.trans (by kernel_rfl)
 (Fe (C4 (Cr _) (C4 (Cr _) (C4 (Cr _) (C4 (Cr _) rfl rfl) rfl) rfl) rfl) rfl)
abbrev _root_.Go.Proofs.S1.Ai.Add.Kn:=A8 prog 42 Ai.Add.spec
theorem Ai.Add.Ae (hk:A4 prog Ai.Add.Bi) (h:Hyp Ai.Add.E f42 Ai.Add.ts Ai.Add.pre Ai.Add.out):Ai.Add.Kn :=
 Ar (A5 hk _ _ _) func42 (by kernel_rfl) (by kernel_rfl) h
def Ai.Sub.Bi:List (Nat × Entry):=[(42,Ai.Add.spec),(170,Ai.Neg.spec)]
def Ai.Sub.E:Env:=Bn (Bh Ai.Sub.Bi) (fun _=>false) (fun _=>none) (fun _=>none)
theorem Ai.Sub.ev (N:Nat) (n:Bool) (a:List Int) (e:Int) (m:Bool) (b:List Int) (f:Int):Ci Ai.Sub.E N f105 (Au f105) [.agg [.bool n,.ints .arg .u32 a,.int .i64 e],.agg [.bool m,.ints .arg .u32 b,.int .i64 f]]=bif (Ks m b) then bif (((Yc n a&&Yc (Az (- wv m b)) (Ah (- wv m b)))&&Rk e)&&Rk f) then some (.agg [.bool (Az (Ow (wv n a) e (wv (Az (- wv m b)) (Ah (- wv m b))) f)),.ints .arg .u32 (Ah (Ow (wv n a) e (wv (Az (- wv m b)) (Ah (- wv m b))) f)),.int .i64 (Ai1 (wv n a) e (wv (Az (- wv m b)) (Ah (- wv m b))) f)]) else none else none :=
 Eq.trans (by kernel_rfl)
 (C4 (Cr _) (C4 (Cr _) rfl rfl) rfl)
abbrev _root_.Go.Proofs.S1.Ai.Sub.Kn:=A8 prog 105 Ai.Sub.spec
theorem Ai.Sub.Ae (hk:A4 prog Ai.Sub.Bi) (h:Hyp Ai.Sub.E f105 Ai.Sub.ts Ai.Sub.pre Ai.Sub.out):Ai.Sub.Kn :=
 Ar (A5 hk _ _ _) func105 (by kernel_rfl) (by kernel_rfl) h
def Ai.Cn.Bi:List (Nat × Entry):=[(109,Ai.Of.spec)]
def Ai.Cn.E:Env:=Bn (Bh Ai.Cn.Bi) (fun _=>false) (fun _=>none) (fun _=>none)
theorem Ai.Cn.ev (N:Nat) (n:Bool) (a:List Int) (e k:Int):Ci Ai.Cn.E N f114 (Au f114) [.agg [.bool n,.ints .arg .u32 a,.int .i64 e],.int .i64 k]=bif (Ks n a&&Un (Ac (e+k))) then some (.agg [.bool (Az (mD (wv n a))),.ints .arg .u32 (Ah (mD (wv n a))),.int .i64 (eD (wv n a) (Ac (e+k)))]) else none:=by kernel_rfl
abbrev _root_.Go.Proofs.S1.Ai.Cn.Kn:=A8 prog 114 Ai.Cn.spec
theorem Ai.Cn.Ae (hk:A4 prog Ai.Cn.Bi) (h:Hyp Ai.Cn.E f114 Ai.Cn.ts Ai.Cn.pre Ai.Cn.out):Ai.Cn.Kn :=
 Ar (A5 hk _ _ _) func114 (by kernel_rfl) (by kernel_rfl) h
def Ai.Ww.Bi:List (Nat × Entry):=[(223,Ad.Ri.spec)]
def Ai.Ww.E:Env:=Bn (Bh Ai.Ww.Bi) (fun _=>false) (fun _=>none) (fun _=>none)
theorem Ai.Ww.ev (N:Nat) (n:Bool) (a:List Int) (e:Int):Ci Ai.Ww.E N f180 (Au f180) [.agg [.bool n,.ints .arg .u32 a,.int .i64 e]]=bif ((length a:Int)==(0:Int)) then some (.int .i64 0) else bif (Ks n a) then some (.int .i64 (Ac ((Abe (wv n a))+e))) else none :=
 Eq.trans (by kernel_rfl)
 (Fe rfl (C4 (Cr _) rfl rfl))
abbrev _root_.Go.Proofs.S1.Ai.Ww.Kn:=A8 prog 180 Ai.Ww.spec
theorem Ai.Ww.Ae (hk:A4 prog Ai.Ww.Bi) (h:Hyp Ai.Ww.E f180 Ai.Ww.ts Ai.Ww.pre Ai.Ww.out):Ai.Ww.Kn :=
 Ar (A5 hk _ _ _) func180 (by kernel_rfl) (by kernel_rfl) h
def Ai.Sign.Bi:List (Nat × Entry):=[]
def Ai.Sign.E:Env:=Bn (Bh Ai.Sign.Bi) (fun _=>false) (fun _=>none) (fun _=>none)
theorem Ai.Sign.ev (N:Nat) (n:Bool) (a:List Int) (e:Int):Ci Ai.Sign.E N f179 (Au f179) [.agg [.bool n,.ints .arg .u32 a,.int .i64 e]]=bif n then some (.int .i64 (-1:Int)) else some (.int .i64 (min (length a:Int) 1)):=by kernel_rfl
abbrev _root_.Go.Proofs.S1.Ai.Sign.Kn:=A8 prog 179 Ai.Sign.spec
theorem Ai.Sign.Ae (hk:A4 prog Ai.Sign.Bi) (h:Hyp Ai.Sign.E f179 Ai.Sign.ts Ai.Sign.pre Ai.Sign.out):Ai.Sign.Kn :=
 Ar (A5 hk _ _ _) func179 (by kernel_rfl) (by kernel_rfl) h
def Ai.Compare.Bi:List (Nat × Entry):=[(179,Ai.Sign.spec),(105,Ai.Sub.spec),(180,Ai.Ww.spec)]
def Ai.Compare.E:Env:=Bn (Bh Ai.Compare.Bi) (fun _=>false) (fun _=>none) (fun _=>none)
theorem Ai.Compare.ev (N:Nat) (n:Bool) (a:List Int) (e:Int) (m:Bool) (b:List Int) (f:Int):Ci Ai.Compare.E N f116 (Au f116) [.agg [.bool n,.ints .arg .u32 a,.int .i64 e],.agg [.bool m,.ints .arg .u32 b,.int .i64 f]]=bif (Ks n a) then bif (Ks m b) then bif ((Ou (wv n a)) !=(Ou (wv m b))) then bif (Ks n a) then bif (Ks m b) then some (.int .i64 (min 1 (max (-1:Int) (Ac ((Ou (wv n a))-(Ou (wv m b))))))) else none else none else bif (Ks n a&&Rk e) then bif (Ks m b&&Rk f) then bif ((Ip (wv n a) e) !=(Ip (wv m b) f)) then bif (Ks n a&&Rk e) then bif (Ks m b&&Rk f) then bif (Ks n a) then bif ((Ba (Ip (wv m b) f) (Ip (wv n a) e))==(Ba 0 (Ou (wv n a)))) then some (.int .i64 1) else some (.int .i64 (-1:Int)) else none else none else none else bif (((Yc n a&&Yc m b)&&Rk e)&&Rk f) then bif (Ks (Az (Ow (wv n a) e (- wv m b) f)) (Ah (Ow (wv n a) e (- wv m b) f))) then some (.int .i64 (Ou (wv (Az (Ow (wv n a) e (- wv m b) f)) (Ah (Ow (wv n a) e (- wv m b) f))))) else none else none else none else none else none else none :=
 Eq.trans (by kernel_rfl)
 (C4 (Cr _) (C4 (Cr _) (Fe (C4 (Cr _) (C4 (Cr _) rfl rfl) rfl) (C4 (Cr _) (C4 (Cr _) (Fe (C4 (Cr _) (C4 (Cr _) (C4 (Cr _) rfl rfl) rfl) rfl) rfl) rfl) rfl)) rfl) rfl)
abbrev _root_.Go.Proofs.S1.Ai.Compare.Kn:=A8 prog 116 Ai.Compare.spec
theorem Ai.Compare.Ae (hk:A4 prog Ai.Compare.Bi) (h:Hyp Ai.Compare.E f116 Ai.Compare.ts Ai.Compare.pre Ai.Compare.out):Ai.Compare.Kn :=
 Ar (A5 hk _ _ _) func116 (by kernel_rfl) (by kernel_rfl) h
abbrev _root_.Go.Proofs.S1.Ai.Add.q.Kn:Prop:=A8 prog 42 Ai.Add.q.spec
abbrev _root_.Go.Proofs.S1.Ai.Sub.q.Kn:Prop:=A8 prog 105 Ai.Sub.q.spec
abbrev _root_.Go.Proofs.S1.Ai.Cn.q.Kn:Prop:=A8 prog 114 Ai.Cn.q.spec
abbrev _root_.Go.Proofs.S1.Ai.Compare.q.Kn:Prop:=A8 prog 116 Ai.Compare.q.spec
abbrev _root_.Go.Proofs.S1.Ai.Of.q.Kn:Prop:=A8 prog 109 Ai.Of.q.spec
end EqRefC
open Go Go.Den Go.Cv Go.Proofs
open EqRefC
def Api (v e:Int):Option DV:=some (.agg [.bool (Az v),.ints .arg .u32 (Ah v),.int .i64 e])
theorem wdy {drops:List Nat} {b:Bool} {l:List Int} {e:Int}:Wk drops (.agg [.bool b,.ints .arg .u32 l,.int .i64 e]) (.agg [.bool b,.ints .arg .u32 l,.int .i64 e]):=Wk.M9 (.cons .bool (.cons .Auj (.cons .int .nil)))
theorem Atc (v:Int):(Ah v).getD 0 0=((v.natAbs%4294967296:Nat):Int):=by
 have hg:=O8 (Gr v) 0
 rw [D4,Nat.mul_zero,A6j,Nat.div_one] at hg
 exact hg
theorem Alx {v:Int} {k:Nat} (h:Dk v.natAbs<268435456):Dk (Lk v k).natAbs<268435456:=by
 rw [Nh]
 exact A6n (Ny (Nat.div_le_self _ _)) h
theorem Are {v:Int} {k:Nat} (h0:v≠0) (h:v.natAbs%2^k=0):Lk v k≠0∧Sz (Lk v k).natAbs+k=Sz v.natAbs:=by
 have hv:=Nat.div_add_mod v.natAbs (2^k)
 rw [h,A6t,A59] at hv
 have hq:v.natAbs / 2^k≠0:=by
  intro e; rw [e] at hv; omega
 have ht:=Aep hq k
 rw [hv] at ht
 have ha:=Nh v k
 refine ⟨by omega,?_⟩
 rw [ha]
 omega
theorem Ar5 (N:Nat):∀ (F:Nat) (v e:Int),v≠0→Sz v.natAbs<F→Dk v.natAbs<268435456→-4000000000000≤e→e+Sz v.natAbs≤400000000000000 →
 Ai.Of.L1 N F e (Az v) (Ah v)=Api (mD v) (eD v e):=by
 intro F
 induction F with
 | zero=>intro v e _ h; omega
 | succ F ih =>
   intro v e h0 hF hv h1 h2
   rw [Ai.Of.Cy,Ie hv,A5l,Ff]
   by_cases ho:v%2=1
   ·have:Aog v=true:=A5m ho
    rw [this,A6k,A5p,Azq ho,Az1 ho]
    rfl
   ·have:Aog v=false:=A5q ho
    have hm:v.natAbs%2^1=0:=by rw [Nat.pow_one]; omega
    obtain ⟨n1,n2⟩:=Are h0 hm
    rw [this,A64,A5l,A5l,Ap (by omega) (by omega),ih (Lk v 1) (e+1) n1 (by omega) (Alx hv) (by omega) (by omega),Ake hm]
    have:=Akw (e:=e) hm h0
    rw [← this]
    rfl
theorem Ar6 (N:Nat):∀ (F:Nat) (v e:Int),v≠0→Sz v.natAbs<F→Sz v.natAbs<N→Dk v.natAbs<268435456→-4000000000000≤e→e+Sz v.natAbs≤400000000000000 →
 Ai.Of.L0 N F e (Az v) (Ah v)=Api (mD v) (eD v e):=by
 intro F
 induction F with
 | zero=>intro v e _ h; omega
 | succ F ih =>
   intro v e h0 hF hN hv h1 h2
   have hl:=Js (n:=v.natAbs) (by omega)
   rw [Ai.Of.Ax,Cl,A5m (by omega),A5l,Atc]
   by_cases hz:v.natAbs%4294967296=0
   ·have e0:(((v.natAbs%4294967296:Nat):Int)==0)=true:=by rw [hz]; rfl
    have o3:Ig ((Ah v).drop 1)=true:=K0 (by rw [List.length_drop,Cl]; omega) (Aic (Gr v))
    have hm:v.natAbs%2^32=0:=by rw [two32]; exact hz
    obtain ⟨n1,n2⟩:=Are h0 hm
    rw [e0,A5l,A5m (by omega),A5l,o3,A5l,Alh,Ap (by omega) (by omega),ih (Lk v 32) (e+32) n1 (by omega) (by omega) (Alx hv) (by omega) (by omega),Ake hm]
    have:=Akw (e:=e) hm h0
    rw [← this]
    rfl
   ·have e0:(((v.natAbs%4294967296:Nat):Int)==0)=false:=by simp only [A6g,ne_eq]; omega
    rw [e0,A5p]
    exact Ar5 N N v e h0 hN hv h1 h2
theorem Aqp {v:Int} (h0:v≠0) (h:Dk v.natAbs<268435456):Sz v.natAbs<8589934592:=by
 have h1:=Aqq (n:=v.natAbs) (by omega)
 have h2:=Adr (n:=v.natAbs)
 omega
theorem Ai.Of.known:Ai.Of.Kn:=Ai.Of.Ae (.cons Ad.Hr.known (.cons Ad.Made.known (.cons Ad.Xz.known .nil))) fun n a e hp=>by
 obtain ⟨h1,h2⟩:=Ag.1 hp
 obtain ⟨v,rfl,rfl,hv⟩:=Jw h1
 have h2:=As.1 h2
 by_cases h0:v=0
 ·subst h0
  refine ⟨0,.agg [.bool false,.nil,.int .i64 (0:Int)],[],?_,?_⟩
  ·rw [Ai.Of.ev]; rfl
  ·show Wk [] _ (.agg [.bool (Az (mD (wv (Az 0) (Ah 0)))),.ints .arg .u32 (Ah (mD (wv (Az 0) (Ah 0)))),.int .i64 (eD (wv (Az 0) (Ah 0)) e)])
   rw [Ff,O4.2 rfl]
   exact Wk.M9 (.cons .bool (.cons (.nil _ _) (.cons .int .nil)))
 ·refine ⟨Sz v.natAbs+1,Ai.Of.out [.b (Az v),.l (Ah v),.i e],[],?_,wdy⟩
  have ht:=Aqp h0 hv
  have hl:=Js (n:=v.natAbs) (by omega)
  have e0:(((Ah v).length:Int)==0)=false:=by rw [Cl]; simp only [A6g,ne_eq]; omega
  show _=Api (mD (wv (Az v) (Ah v))) (eD (wv (Az v) (Ah v)) e)
  rw [Ai.Of.ev,e0,A5p,Ff]
  exact Ar6 _ _ v e h0 (by omega) (by omega) hv (by omega) (by omega)
theorem Ai.Neg.known:Ai.Neg.Kn:=Ai.Neg.Ae (.cons Ad.Neg.known .nil) fun n a e hp=>by
 refine ⟨0,Ai.Neg.out [.b n,.l a,.i e],[],?_,wdy⟩
 have hp:Ks n a=true:=hp
 rw [Ai.Neg.ev,hp,A5l]
 rfl
theorem V5 (v:Int):(((Ah v).length:Int)==0)=decide (v=0):=by
 rw [Cl,A51]
 simp only [beq_iff_eq,A5s]
 constructor
 ·intro h
  rcases Int.lt_trichotomy v 0 with k | k | k
  ·have:=Js (n:=v.natAbs) (by omega); omega
  ·exact k
  ·have:=Js (n:=v.natAbs) (by omega); omega
 ·intro h; rw [h]; rfl
theorem Ai.X1.known:Ai.X1.Kn:=Ai.X1.Ae .nil fun n a e m b f hp=>by
 obtain ⟨h1,h2⟩:=Ag.1 hp
 obtain ⟨v,rfl,rfl,hv⟩:=Jw h1
 obtain ⟨w,rfl,rfl,hw⟩:=Jw h2
 refine ⟨0,Ai.X1.out [.b (Az v),.l (Ah v),.i e,.b (Az w),.l (Ah w),.i f],[],?_,.int⟩
 show _=some (DV.int .i64 (Dj (wv (Az v) (Ah v)) e (wv (Az w) (Ah w)) f))
 rw [Ai.X1.ev,Ff,Ff,V5,V5]
 unfold Dj
 by_cases h:v=0
 ·rw [A5m h,A5l,A58 h]
 ·rw [A5q h,A5p,A57 h]
  by_cases h':w=0
  ·rw [A5m h',A5l,A58 h']
  ·rw [A5q h',A5p,A57 h']
theorem Aad (k:Int):Io 0 k=0:=by
 unfold Io
 split
 ·exact Int.zero_mul _
 ·exact S6 _
theorem Ai.Level.known:Ai.Level.Kn:=Ai.Level.Ae (.cons Ad.B6.known .nil) fun n a e f hp=>by
 obtain ⟨h1,h2⟩:=Ag.1 hp
 obtain ⟨v,rfl,rfl,hv⟩:=Qu h1
 refine ⟨0,Ai.Level.out [.b (Az v),.l (Ah v),.i e,.i f],[],?_,Aei⟩
 show _=Ai6 (Io (wv (Az v) (Ah v)) (e-f))
 unfold Aof at h2
 rw [Ff] at h2
 obtain ⟨h3,h4⟩:=Ag.1 h2
 have h3:=As.1 h3
 have h4:=As.1 h4
 rw [Ai.Level.ev,Ff,V5]
 by_cases h:v=0
 ·rw [A5m h,A5l,h,Aad]; rfl
 ·have o:Azi (Ac (e-f))=true:=by rw [Ap (by omega) (by omega)]; exact As.2 (by omega)
  rw [A5q h,A5p,h1,o,A5r,A5l,Ap (by omega) (by omega)]
  rfl
theorem Asz (n k:Nat):Dk (n*2^k)≤Dk n+k:=by
 refine Ma ?_
 have h1:=K6 n
 have h2:n*2^k<2^(32*Dk n)*2^k:=(Nat.mul_lt_mul_right (B4 k)).2 h1
 rw [← A6a] at h2
 exact A6w h2 (A50 (by decide) (by omega))
theorem As0 (v k:Int):Dk (Io v k).natAbs≤Dk v.natAbs+k.toNat:=by
 unfold Io
 by_cases h:0≤k
 ·rw [A58 h,Int.natAbs_mul,Int.natAbs_natCast]
  exact Asz _ _
 ·rw [A57 h,Nh]
  exact A6s (Ny (Nat.div_le_self _ _)) (Nat.le_add_right _ _)
theorem Ah5 (v w:Int):Dk (v+w).natAbs≤max (Dk v.natAbs) (Dk w.natAbs)+1:=by
 refine Ma ?_
 have h1:=K6 v.natAbs
 have h2:=K6 w.natAbs
 have h3:2^(32*Dk v.natAbs)≤2^(32*max (Dk v.natAbs) (Dk w.natAbs)):=A50 (by decide) (by omega)
 have h4:2^(32*Dk w.natAbs)≤2^(32*max (Dk v.natAbs) (Dk w.natAbs)):=A50 (by decide) (by omega)
 rw [Nb]
 omega
theorem Aa7 {v e w f:Int} (he:-400000≤e∧e≤400000) (hf:-400000≤f∧f≤400000):-400000≤Dj v e w f∧Dj v e w f≤400000:=by
 unfold Dj
 split
 ·exact hf
 ·split
  ·exact he
  ·omega
theorem Y8 {v e l:Int} (hv:Dk v.natAbs<134217728) (h:e-l≤800000):Dk (Io v (e-l)).natAbs<140000000:=by
 have:=As0 v (e-l)
 omega
theorem Ai.Add.known:Ai.Add.Kn:=Ai.Add.Ae (.cons Ad.Add.known (.cons Ai.Level.known (.cons Ai.X1.known (.cons Ai.Of.known .nil)))) fun n a e m b f hp=>by
 obtain ⟨h1,hf⟩:=Ag.1 hp
 obtain ⟨h2,he⟩:=Ag.1 h1
 obtain ⟨h3,h4⟩:=Ag.1 h2
 obtain ⟨v,rfl,rfl,hv⟩:=Qu h3
 obtain ⟨w,rfl,rfl,hw⟩:=Qu h4
 have he:=As.1 he
 have hf:=As.1 hf
 refine ⟨0,Ai.Add.out [.b (Az v),.l (Ah v),.i e,.b (Az w),.l (Ah w),.i f],[],?_,wdy⟩
 show _=Api (Ow (wv (Az v) (Ah v)) e (wv (Az w) (Ah w)) f) (Ai1 (wv (Az v) (Ah v)) e (wv (Az w) (Ah w)) f)
 have hlo:=Aa7 (v:=v) (w:=w) he hf
 have l1:=Y8 (l:=Dj v e w f) hv (show e-Dj v e w f≤800000 by omega)
 have l2:=Y8 (l:=Dj v e w f) hw (show f-Dj v e w f≤800000 by omega)
 have l3:=Ah5 (Io v (e-Dj v e w f)) (Io w (f-Dj v e w f))
 have o1:Aof v e (Dj v e w f)=true:=Ag.2 ⟨As.2 (by omega),As.2 (by omega)⟩
 have o2:Aof w f (Dj v e w f)=true:=Ag.2 ⟨As.2 (by omega),As.2 (by omega)⟩
 have o3:Un (Dj v e w f)=true:=As.2 (by omega)
 rw [Ai.Add.ev]
 simp only [Ff]
 rw [Ie (v:=v) (by omega),Ie (v:=w) (by omega),h3,h4,o1,o2,Ie (v:=Io v (e-Dj v e w f)) (by omega),Ie (v:=Io w (f-Dj v e w f)) (by omega),Ie (v:=Io v (e-Dj v e w f)+Io w (f-Dj v e w f)) (by omega),o3]
 simp only [A5r,A5l]
 rfl
theorem Ai.Sub.known:Ai.Sub.Kn:=Ai.Sub.Ae (.cons Ai.Add.known (.cons Ai.Neg.known .nil)) fun n a e m b f hp=>by
 obtain ⟨h1,hf⟩:=Ag.1 hp
 obtain ⟨h2,he⟩:=Ag.1 h1
 obtain ⟨h3,h4⟩:=Ag.1 h2
 obtain ⟨w,rfl,rfl,hw⟩:=Qu h4
 refine ⟨0,Ai.Sub.out [.b n,.l a,.i e,.b (Az w),.l (Ah w),.i f],[],?_,wdy⟩
 show _=Api (Ow (wv n a) e (- wv (Az w) (Ah w)) f) (Ai1 (wv n a) e (- wv (Az w) (Ah w)) f)
 rw [Ai.Sub.ev]
 simp only [Ff]
 rw [Ie (v:=w) (by omega),h3,Aj2 (v:=-w) (by rw [Int.natAbs_neg]; exact hw),he,hf]
 rfl
theorem Ai.Cn.known:Ai.Cn.Kn:=Ai.Cn.Ae (.cons Ai.Of.known .nil) fun n a e k hp=>by
 obtain ⟨h1,hk⟩:=Ag.1 hp
 obtain ⟨h2,he⟩:=Ag.1 h1
 have he:=As.1 he
 have hk:=As.1 hk
 refine ⟨0,Ai.Cn.out [.b n,.l a,.i e,.i k],[],?_,wdy⟩
 have o:Un (e+k)=true:=As.2 (by omega)
 rw [Ai.Cn.ev,Ap (by omega) (by omega),h2,o]
 rfl
theorem Ah6 {v:Int} (h:Dk v.natAbs<268435456):0≤Abe v∧Abe v≤8589934593:=by
 have h2:=Adr (n:=v.natAbs)
 unfold Abe
 split
 ·omega
 ·constructor<;>omega
theorem Ai.Ww.known:Ai.Ww.Kn:=Ai.Ww.Ae (.cons Ad.Ri.known .nil) fun n a e hp=>by
 obtain ⟨h1,he⟩:=Ag.1 hp
 obtain ⟨v,rfl,rfl,hv⟩:=Jw h1
 have he:=As.1 he
 refine ⟨0,Ai.Ww.out [.b (Az v),.l (Ah v),.i e],[],?_,.int⟩
 show _=some (DV.int .i64 (Ip (wv (Az v) (Ah v)) e))
 have hb:=Ah6 hv
 rw [Ai.Ww.ev,Ff,V5,h1]
 unfold Ip
 by_cases h:v=0
 ·rw [A5m h,A5l,A58 h]
 ·rw [A5q h,A5p,A5l,A57 h,Ap (by omega) (by omega)]
theorem Ai.Sign.known:Ai.Sign.Kn:=Ai.Sign.Ae .nil fun n a e hp=>by
 obtain ⟨v,rfl,rfl,hv⟩:=Jw hp
 refine ⟨0,Ai.Sign.out [.b (Az v),.l (Ah v),.i e],[],?_,.int⟩
 show _=some (DV.int .i64 (Ou (wv (Az v) (Ah v))))
 rw [Ai.Sign.ev,Ff,Cl]
 unfold Ou Az
 by_cases h:v<0
 ·rw [A5m h,A5l,A58 h]
 ·rw [A5q h,A5p,A57 h]
  by_cases h':v=0
  ·rw [A58 h',h']; rfl
  ·have:=Js (n:=v.natAbs) (by omega)
   rw [A57 h']
   congr 2
   omega
open Go Go.Den Go.Cv Go.Proofs
open EqRefC
theorem Akf {v e w f:Int}:(v≠0→0≤e-Dj v e w f)∧(w≠0→0≤f-Dj v e w f):=by
 unfold Dj
 constructor
 ·intro h
  rw [A57 h]
  split<;>omega
 ·intro h
  split
  ·omega
  ·omega
theorem Aae {v k:Int} (h:v≠0→0≤k):∃ j:Nat,Io v k=v*((2^j:Nat):Int)∧(v≠0→(j:Int)=k):=by
 by_cases h0:v=0
 ·exact ⟨0,by rw [h0,Aad,Int.zero_mul],fun k=>absurd h0 k⟩
 ·have hk:=h h0
  refine ⟨k.toNat,?_,fun _=>by omega⟩
  unfold Io
  rw [A58 hk]
theorem Aaz (v:Int) (j:Nat):(v*((2^j:Nat):Int)<0↔v<0)∧(v*((2^j:Nat):Int)=0↔v=0):=by
 have hp:=B4 j
 constructor
 ·constructor
  ·intro h
   rcases Int.lt_or_le v 0 with h1 | h1
   ·exact h1
   ·have:=Int.mul_nonneg h1 (Int.natCast_nonneg (2^j)); omega
  ·intro h
   exact Int.mul_neg_of_neg_of_pos h (by omega)
 ·constructor
  ·intro h
   rcases Int.mul_eq_zero.1 h with h | h
   ·exact h
   ·omega
  ·intro h; rw [h,Int.zero_mul]
theorem Ae7 (v:Int) (j:Nat):Ou (v*((2^j:Nat):Int))=Ou v:=by
 obtain ⟨h1,h2⟩:=Aaz v j
 unfold Ou
 simp only [h1,h2]
theorem Ay9 (v:Int):Ou (mD v)=Ou v:=by
 have:=Ae7 (mD v) (Sz v.natAbs)
 rw [← Zi] at this
 exact this.symm
theorem Axg (x y:Int):Ou (x+-y)=Yw x y:=by
 unfold Ou Yw
 by_cases h:x<y
 ·rw [A58 (by omega),A58 h]
 ·rw [A57 (by omega),A57 h]
  by_cases h':y<x
  ·rw [A57 (by omega),A58 h']
  ·rw [A58 (by omega),A57 h']
theorem Awk (v e w f:Int):Dj v e (-w) f=Dj v e w f:=by
 unfold Dj
 have:(-w=0)=(w=0):=propext ⟨fun h=>by omega,fun h=>by omega⟩
 simp only [this]
theorem Aua {x y:Int} (h:Ou x≠Ou y):Yw x y=min 1 (max (-1) (Ou x-Ou y)):=by
 unfold Ou at h ⊢
 unfold Yw
 rcases Int.lt_trichotomy x 0 with h1 | h1 | h1<;>rcases Int.lt_trichotomy y 0 with h2 | h2 | h2
 all_goals
  first
  | (exfalso; apply h; simp [show x<0 by omega,show y<0 by omega]; done)
  | (exfalso; apply h; subst h1; subst h2; rfl)
  | (exfalso; apply h; rw [A57 (by omega),A57 (by omega),A57 (by omega),A57 (by omega)]; done)
  | skip
 ·rw [A58 (by omega),A58 (by omega),A57 (by omega),A58 (by omega)]; decide
 ·rw [A58 (by omega),A58 (by omega),A57 (by omega),A57 (by omega)]; decide
 ·rw [A57 (by omega),A58 (by omega),A57 (by omega),A58 (by omega),A58 (by omega)]; decide
 ·rw [A58 (by omega),A57 (by omega),A58 (by omega),A57 (by omega),A57 (by omega)]; decide
 ·rw [A57 (by omega),A58 (by omega),A57 (by omega),A57 (by omega),A58 (by omega)]; decide
 ·rw [A57 (by omega),A58 (by omega),A57 (by omega),A57 (by omega),A57 (by omega),A58 (by omega)]; decide
theorem Aa9 {a b:Nat} (ha:a≠0) (h:a.log2<b.log2):a<b:=by
 rcases A6i a b with k | k
 ·exact k
 ·have hb:b≠0:=by
   intro e; rw [e] at h
   exact absurd h (by rw [show (0:Nat).log2=0 by decide]; omega)
  have:=(Nat.le_log2 ha).2 (A6s (Nat.log2_self_le hb) k)
  omega
theorem Axf {v e w f:Int} (hs:Ou v=Ou w) (ht:Ip v e≠Ip w f) :
 Yx v e w f=if (decide (Ip w f<Ip v e)==decide (0<Ou v))=true then 1 else -1:=by
 obtain ⟨u1,u2⟩:=Akf (v:=v) (e:=e) (w:=w) (f:=f)
 obtain ⟨j,hx,hj⟩:=Aae u1
 obtain ⟨k,hy,hk⟩:=Aae u2
 unfold Yx
 rw [hx,hy]
 have z:v=0↔w=0:=by
  unfold Ou at hs
  constructor
  ·intro h; subst h
   revert hs
   simp
   split<;>simp_all
  ·intro h; subst h
   revert hs
   simp
   split<;>simp_all
 by_cases v0:v=0
 ·exfalso
  apply ht
  unfold Ip
  rw [A58 v0,A58 (z.1 v0)]
 ·have w0:w≠0:=fun h=>v0 (z.2 h)
  have hj:=hj v0
  have hk:=hk w0
  have nv:v.natAbs≠0:=by omega
  have nw:w.natAbs≠0:=by omega
  have l1:=Od v.natAbs j nv
  have l2:=Od w.natAbs k nw
  have ax:(v*((2^j:Nat):Int)).natAbs=v.natAbs*2^j:=by rw [Int.natAbs_mul,Int.natAbs_natCast]
  have ay:(w*((2^k:Nat):Int)).natAbs=w.natAbs*2^k:=by rw [Int.natAbs_mul,Int.natAbs_natCast]
  have sx:=(Aaz v j).1
  have sy:=(Aaz w k).1
  have zx:=Aj8 v0 j
  have zy:=Aj8 w0 k
  have tv:Ip v e=(v.natAbs.log2:Int)+1+e:=by unfold Ip Abe; rw [A57 v0,A57 v0]
  have tw:Ip w f=(w.natAbs.log2:Int)+1+f:=by unfold Ip Abe; rw [A57 w0,A57 w0]
  have big:Ip w f<Ip v e→w.natAbs*2^k<v.natAbs*2^j:=fun h=>Aa9 (J2 nw) (by omega)
  have lit:Ip v e<Ip w f→v.natAbs*2^j<w.natAbs*2^k:=fun h=>Aa9 (J2 nv) (by omega)
  generalize v*((2^j:Nat):Int)=x at *
  generalize w*((2^k:Nat):Int)=y at *
  by_cases hv:v<0
  ·have sv:Ou v=-1:=by unfold Ou; rw [A58 hv]
   have hw:w<0:=by
    rw [sv] at hs
    unfold Ou at hs
    rcases Int.lt_or_le w 0 with q | q
    ·exact q
    ·rw [A57 (by omega),A57 w0] at hs; omega
   rw [sv]
   unfold Yw
   by_cases h:Ip w f<Ip v e
   ·have:=big h
    rw [A5m h,A58 (by omega)]; rfl
   ·have:=lit (by omega)
    rw [A5q h,A57 (by omega),A58 (by omega)]; rfl
  ·have sv:Ou v=1:=by unfold Ou; rw [A57 hv,A57 v0]
   have hw:¬ w<0:=by
    intro q
    rw [sv] at hs
    unfold Ou at hs
    rw [A58 q] at hs; omega
   rw [sv]
   unfold Yw
   by_cases h:Ip w f<Ip v e
   ·have:=big h
    rw [A5m h,A57 (by omega),A58 (by omega)]; rfl
   ·have:=lit (by omega)
    rw [A5q h,A58 (by omega)]; rfl
theorem Avp (v e w f:Int):Ou (Ow v e (-w) f)=Yx v e w f:=by
 obtain ⟨u1,u2⟩:=Akf (v:=v) (e:=e) (w:=w) (f:=f)
 obtain ⟨k,hy,hk⟩:=Aae u2
 have hy':Io (-w) (f-Dj v e w f)=-(Io w (f-Dj v e w f)):=by
  by_cases w0:w=0
  ·rw [w0]; show Io 0 _=_; rw [Aad]; rfl
  ·unfold Io
   rw [A58 (u2 w0),A58 (u2 w0),Int.neg_mul]
 unfold Ow Alf Yx
 rw [Ay9,Awk,hy',Axg]
theorem Apl {v e w f:Int} (h:Ou v≠Ou w):Yx v e w f=min 1 (max (-1) (Ou v-Ou w)):=by
 obtain ⟨u1,u2⟩:=Akf (v:=v) (e:=e) (w:=w) (f:=f)
 obtain ⟨j,hx,hj⟩:=Aae u1
 obtain ⟨k,hy,hk⟩:=Aae u2
 have e1:=Ae7 v j
 have e2:=Ae7 w k
 unfold Yx
 rw [hx,hy,← e1,← e2]
 exact Aua (by rw [e1,e2]; exact h)
theorem Aaf (v:Int):-1≤Ou v∧Ou v≤1:=by unfold Ou; split<;>(try split)<;>omega
theorem Aut {v e w f:Int} (hv:Dk v.natAbs<134217728) (hw:Dk w.natAbs<134217728) (he:-400000≤e∧e≤400000) (hf:-400000≤f∧f≤400000):Dk (Ow v e w f).natAbs<140000001:=by
 have hlo:=Aa7 (v:=v) (w:=w) he hf
 have l1:=Y8 (l:=Dj v e w f) hv (show e-Dj v e w f≤800000 by omega)
 have l2:=Y8 (l:=Dj v e w f) hw (show f-Dj v e w f≤800000 by omega)
 have l3:=Ah5 (Io v (e-Dj v e w f)) (Io w (f-Dj v e w f))
 have l4:=Ny (Xk (Alf v e w f))
 unfold Ow
 unfold Alf at l4 ⊢
 omega
theorem Ai.Compare.known:Ai.Compare.Kn:=Ai.Compare.Ae (.cons Ai.Sign.known (.cons Ai.Sub.known (.cons Ai.Ww.known .nil))) fun n a e m b f hp=>by
 obtain ⟨h1,hf⟩:=Ag.1 hp
 obtain ⟨h2,he⟩:=Ag.1 h1
 obtain ⟨h3,h4⟩:=Ag.1 h2
 obtain ⟨v,rfl,rfl,hv⟩:=Qu h3
 obtain ⟨w,rfl,rfl,hw⟩:=Qu h4
 refine ⟨0,Ai.Compare.out [.b (Az v),.l (Ah v),.i e,.b (Az w),.l (Ah w),.i f],[],?_,.int⟩
 show _=some (DV.int .i64 (Yx (wv (Az v) (Ah v)) e (wv (Az w) (Ah w)) f))
 have bv:=Aaf v
 have bw:=Aaf w
 have hm:=Aut (v:=v) (w:=-w) hv (by rw [Int.natAbs_neg]; exact hw) (As.1 he) (As.1 hf)
 rw [Ai.Compare.ev]
 simp only [Ff]
 rw [Ie (v:=v) (by omega),Ie (v:=w) (by omega),Ie (v:=Ow v e (-w) f) (by omega),h3,h4,he,hf,Aw,Aw]
 simp only [A5r,A5l]
 by_cases hs:Ou v=Ou w
 ·have e0:(Ou v !=Ou w)=false:=by simp [hs]
  rw [e0,A5p]
  by_cases ht:Ip v e=Ip w f
  ·have e1:(Ip v e !=Ip w f)=false:=by simp [ht]
   rw [e1,A5p,Avp]
  ·have e1:(Ip v e !=Ip w f)=true:=by simp [ht]
   rw [e1,A5l,Axf hs ht]
   cases (decide (Ip w f<Ip v e)==decide (0<Ou v))<;>rfl
 ·have e0:(Ou v !=Ou w)=true:=by simp [hs]
  rw [e0,A5l,Apl hs,Ap (by omega) (by omega)]
open Go Go.Den Go.Cv Go.Proofs
set_option maxRecDepth 100000
namespace EqRefE
def A1.Value.Bi:List (Nat × Entry):=[(143,Ad.Neg.spec),(115,Ad.Of.spec),(109,Ai.Of.spec),(141,A1.Li.spec),(142,A1.Neg.spec),(140,A1.Power.spec)]
def A1.Value.E:Env:=Bn (Bh A1.Value.Bi) (fun _=>false) (fun _=>none) (fun _=>none)
theorem A1.Value.ev (N:Nat) (x:Int):Ci A1.Value.E N f63 (Au f63) [.int .u64 x]=bif (R9 x) then bif (Adw (Ac (C1 x))) then bif (R9 x) then bif (Ba 0 (Nj x)) then bif (R9 x) then bif (Adw (Ac (Bc ((C1 x)+4503599627370496)))) then bif (R9 x) then bif (Ao x) then bif (Ea x) then bif (Ks (Az ((Ac (Bc ((C1 x)+4503599627370496))))) (Ah ((Ac (Bc ((C1 x)+4503599627370496)))))) then bif (Ks (Az (- wv (Az ((Ac (Bc ((C1 x)+4503599627370496))))) (Ah ((Ac (Bc ((C1 x)+4503599627370496))))))) (Ah (- wv (Az ((Ac (Bc ((C1 x)+4503599627370496))))) (Ah ((Ac (Bc ((C1 x)+4503599627370496)))))))&&Un (Ac ((Nj x)-1075))) then some (.agg [.bool (Az (mD (wv (Az (- wv (Az ((Ac (Bc ((C1 x)+4503599627370496))))) (Ah ((Ac (Bc ((C1 x)+4503599627370496))))))) (Ah (- wv (Az ((Ac (Bc ((C1 x)+4503599627370496))))) (Ah ((Ac (Bc ((C1 x)+4503599627370496)))))))))),.ints .arg .u32 (Ah (mD (wv (Az (- wv (Az ((Ac (Bc ((C1 x)+4503599627370496))))) (Ah ((Ac (Bc ((C1 x)+4503599627370496))))))) (Ah (- wv (Az ((Ac (Bc ((C1 x)+4503599627370496))))) (Ah ((Ac (Bc ((C1 x)+4503599627370496)))))))))),.int .i64 (eD (wv (Az (- wv (Az ((Ac (Bc ((C1 x)+4503599627370496))))) (Ah ((Ac (Bc ((C1 x)+4503599627370496))))))) (Ah (- wv (Az ((Ac (Bc ((C1 x)+4503599627370496))))) (Ah ((Ac (Bc ((C1 x)+4503599627370496)))))))) (Ac ((Nj x)-1075)))]) else none else none else bif (Ks (Az ((Ac (Bc ((C1 x)+4503599627370496))))) (Ah ((Ac (Bc ((C1 x)+4503599627370496)))))&&Un (Ac ((Nj x)-1075))) then some (.agg [.bool (Az (mD (wv (Az ((Ac (Bc ((C1 x)+4503599627370496))))) (Ah ((Ac (Bc ((C1 x)+4503599627370496)))))))),.ints .arg .u32 (Ah (mD (wv (Az ((Ac (Bc ((C1 x)+4503599627370496))))) (Ah ((Ac (Bc ((C1 x)+4503599627370496)))))))),.int .i64 (eD (wv (Az ((Ac (Bc ((C1 x)+4503599627370496))))) (Ah ((Ac (Bc ((C1 x)+4503599627370496)))))) (Ac ((Nj x)-1075)))]) else none else none else none else none else none else bif (Ao x) then bif (Ea x) then bif (Ks (Az ((Ac (C1 x)))) (Ah ((Ac (C1 x))))) then bif (Ks (Az (- wv (Az ((Ac (C1 x)))) (Ah ((Ac (C1 x)))))) (Ah (- wv (Az ((Ac (C1 x)))) (Ah ((Ac (C1 x))))))&&Un (-1074:Int)) then some (.agg [.bool (Az (mD (wv (Az (- wv (Az ((Ac (C1 x)))) (Ah ((Ac (C1 x)))))) (Ah (- wv (Az ((Ac (C1 x)))) (Ah ((Ac (C1 x))))))))),.ints .arg .u32 (Ah (mD (wv (Az (- wv (Az ((Ac (C1 x)))) (Ah ((Ac (C1 x)))))) (Ah (- wv (Az ((Ac (C1 x)))) (Ah ((Ac (C1 x))))))))),.int .i64 (eD (wv (Az (- wv (Az ((Ac (C1 x)))) (Ah ((Ac (C1 x)))))) (Ah (- wv (Az ((Ac (C1 x)))) (Ah ((Ac (C1 x))))))) (-1074:Int))]) else none else none else bif (Ks (Az ((Ac (C1 x)))) (Ah ((Ac (C1 x))))&&Un (-1074:Int)) then some (.agg [.bool (Az (mD (wv (Az ((Ac (C1 x)))) (Ah ((Ac (C1 x))))))),.ints .arg .u32 (Ah (mD (wv (Az ((Ac (C1 x)))) (Ah ((Ac (C1 x))))))),.int .i64 (eD (wv (Az ((Ac (C1 x)))) (Ah ((Ac (C1 x))))) (-1074:Int))]) else none else none else none else none else none:=by kernel_rfl
abbrev _root_.Go.Proofs.S1.A1.Value.Kn:=A8 prog 63 A1.Value.spec
theorem A1.Value.Ae (hk:A4 prog A1.Value.Bi) (h:Hyp A1.Value.E f63 A1.Value.ts A1.Value.pre A1.Value.out):A1.Value.Kn :=
 Ar (A5 hk _ _ _) func63 (by kernel_rfl) (by kernel_rfl) h
abbrev _root_.Go.Proofs.S1.A1.Value.q.Kn:Prop:=A8 prog 63 A1.Value.q.spec
end EqRefE
open Go Go.Den Go.Cv Go.Proofs
open EqRefE
theorem Amj {n k:Nat} (h:n<2^(32*k)) {m:Nat} (hk:k<m):Dk n<m:=A6n (Ma h) hk
theorem Vh (m:Nat):H3 false m=(m:Int):=rfl
theorem Ahc (m:Nat):H3 true m=-(m:Int):=rfl
theorem A1.Value.known:A1.Value.Kn:=A1.Value.Ae (.cons Ad.Neg.known (.cons Ad.Of.known (.cons Ai.Of.known (.cons A1.Li.known (.cons A1.Neg.known (.cons A1.Power.known .nil)))))) fun x hp=>by
 obtain ⟨n,rfl,hn⟩:=Cb (x:=x) hp
 refine ⟨0,A1.Value.out [.i n],[],?_,wdy⟩
 show _=Api (mD (Ho n)) (eD (Ho n) (Bb n))
 have hf:=Mq n
 have hw:=Kz n
 have small:∀ k:Nat,k<2^54→Dk k<268435456:=fun k hk=>Amj (k:=2) (Nat.lt_trans hk (by decide)) (by omega)
 have o1:∀ k:Nat,k<2^54→Ks (Az (k:Int)) (Ah (k:Int))=true:=fun k hk=>Ie (by rw [Int.natAbs_natCast]; exact small k hk)
 have o2:∀ k:Nat,k<2^54→Ks (Az (-(k:Int))) (Ah (-(k:Int)))=true:=fun k hk=>Ie (by rw [Int.natAbs_neg,Int.natAbs_natCast]; exact small k hk)
 rw [A1.Value.ev]
 unfold C1 Nj Ea Ho Bb
 simp only [Ff,A5n]
 have e1:Ac ((C2 n:Nat):Int)=((C2 n:Nat):Int):=Ap (by omega) (by omega)
 have e2:Ac (Bc (((C2 n:Nat):Int)+4503599627370496))=((C2 n+2^52:Nat):Int):=by
  rw [C5 (by omega) (by omega),Ap (by omega) (by omega)]; omega
 have i1:∀ k:Nat,k<2^54→Adw (k:Int)=true:=fun k hk=>As.2 (by omega)
 rw [R8,Ck hn,e1,e2,i1 _ (by omega),i1 _ (by omega),Aw,Ap (by omega) (by omega)]
 simp only [A5l]
 unfold An Av
 by_cases h:Dx n=0
 ·have o3:Un (-1074)=true:=As.2 (by omega)
  rw [A58 h,A58 h,A5q (by omega),A5p,o1 _ (by omega),o2 _ (by omega),o3]
  cases Br n
  ·rw [A5p,Vh]; rfl
  ·rw [A5l,Ahc]; rfl
 ·have o3:Un ((Dx n:Int)-1075)=true:=As.2 (by omega)
  rw [A57 h,A57 h,A5m (by omega),A5l,o1 _ (by omega),o2 _ (by omega),o3]
  cases Br n
  ·rw [A5p,Vh]; rfl
  ·rw [A5l,Ahc]; rfl
theorem Aqr {m t:Nat} (h:m<2^t) (h0:m≠0):Sz m<t:=A6n (Aqq h0) ((A61 h0).2 h)
theorem Aek (b:Nat):(Ho (b:Int)).natAbs=An b:=by
 unfold Ho H3
 rw [A5n]
 split<;>omega
theorem Ayi (b:Nat):Dk (Ho (b:Int)).natAbs<3∧-400000≤eD (Ho (b:Int)) (Av b)∧eD (Ho (b:Int)) (Av b)≤400000:=by
 have hm:=Fi b
 have he:=Cq b
 have ha:=Aek b
 refine ⟨Amj (k:=2) (by rw [ha]; exact Nat.lt_trans hm (by decide)) (by omega),?_⟩
 unfold eD
 by_cases h:Ho (b:Int)=0
 ·rw [A58 h]; omega
 ·rw [A57 h]
  have:=Aqr (m:=(Ho (b:Int)).natAbs) (t:=53) (by rw [ha]; exact hm) (by omega)
  omega
end Go.Proofs.S1
namespace Go.Cv
open Go.Den
end Go.Cv
namespace Go.Proofs.S1
open Go Go.Den Go.Cv Go.Proofs
set_option maxRecDepth 100000
namespace EqLdx
end EqLdx
open Go Go.Den Go.Cv Go.Proofs
open EqLdx
theorem Ax1 (x:Nat):Dn x<2^64:=Nat.lt_trans (Zv x) (by decide)
theorem As6 (x:Nat):Aj (Dn x)=Aj x:=by
 have e1:Dx (Dn x)=Dx x:=by unfold Dx Dn; omega
 have e2:C2 (Dn x)=C2 x:=by unfold C2 Dn; omega
 unfold Aj
 rw [e1,e2]
theorem At9 (x y:Int):(compare x y=.lt↔x<y)∧(compare x y=.gt↔y<x)∧(compare x y=.eq↔x=y):=by
 rcases Int.lt_trichotomy x y with h | h | h
 ·rw [Ak3 h]; refine ⟨by simp [h],?_,?_⟩<;>simp<;>omega
 ·subst h
  have:compare x x=.eq:=by simp [compare,compareOfLessAndEq]
  rw [this]; simp
 ·rw [Ak4 h]; refine ⟨?_,by simp [h],?_⟩<;>simp<;>omega
theorem Zq {x:Nat} (hx:x<2^64) (h4:Aj x≠4):(Ieee.double.order (Dn x) 9218868437227405311==some .gt)=decide (Aj x=3):=by
 have k1:Aj 9218868437227405311≠4:=by decide +kernel
 have k2:It 9218868437227405311=9218868437227405311:=by decide +kernel
 have ka:It (Dn x)=((Dn x:Nat):Int):=by
  have:=Abj false (r:=Dn x) (Zv x)
  exact this
 rw [Aod (Ax1 x) (by decide) (by rw [As6]; exact h4) k1,k2,ka]
 have hl:=Azt h4
 rw [A51,beq_iff_eq,A5o,(At9 _ _).2.1,A5s]
 constructor
 ·intro h
  refine Decidable.byContradiction fun h3=>?_
  have:=V7 h3 h4
  rw [Fc] at this
  unfold Dn at h
  omega
 ·intro h3
  have:=Qw h3
  rw [Fc] at this
  unfold Dn
  omega
open Go Go.Den Go.Cv Go.Proofs
open EqLdx
open Go Go.Den Go.Cv Go.Proofs
set_option maxRecDepth 100000
namespace EqRef08
end EqRef08
open Go Go.Den Go.Cv Go.Proofs
set_option maxRecDepth 100000
namespace EqRef13
def Hs.Ll.Bi:List (Nat × Entry):=[(180,Ai.Ww.spec),(131,A1.Finite.spec),(62,A1.Kind.spec),(63,A1.Value.spec)]
def Hs.Ll.E:Env:=Bn (Bh Hs.Ll.Bi) (fun _=>false) (fun _=>none) (fun _=>none)
theorem Hs.Ll.ev (N:Nat) (a:Int):Ci Hs.Ll.E N f132 (Au f132) [.int .u64 a]=bif (Ao a) then bif ((!(Dm a))||(R9 a)) then bif ((!(Dm a))||((A3 a)==(0:Int))) then some (.int .i64 0) else bif (Ao a) then bif (Ks (Az (mD (Ho a))) (Ah (mD (Ho a)))&&Rk (eD (Ho a) (Bb a))) then some (.int .i64 (Ac ((Ip (wv (Az (mD (Ho a))) (Ah (mD (Ho a)))) (eD (Ho a) (Bb a)))-1))) else none else none else none else none :=
 Eq.trans (by kernel_rfl)
 (Fe (Ay (Agx (Dm a)) (C4 (Aqy _ _) (Ay (Wz (Dm a)) (Ay (Agy (Dm a)) (C4 (Ayz _ _) rfl rfl))) rfl)) rfl)
abbrev _root_.Go.Proofs.S1.Hs.Ll.Kn:=A8 prog 132 Hs.Ll.spec
theorem Hs.Ll.Ae (hk:A4 prog Hs.Ll.Bi) (h:Hyp Hs.Ll.E f132 Hs.Ll.ts Hs.Ll.pre Hs.Ll.out):Hs.Ll.Kn :=
 Ar (A5 hk _ _ _) func132 (by kernel_rfl) (by kernel_rfl) h
end EqRef13
open Go Go.Den Go.Cv Go.Proofs
open EqRef08 EqRef13
theorem Awc (b:Nat):Yc (Az (mD (Ho (b:Int)))) (Ah (mD (Ho (b:Int))))=true∧Ks (Az (mD (Ho (b:Int)))) (Ah (mD (Ho (b:Int))))=true∧Rk (eD (Ho (b:Int)) (Av b))=true:=by
 obtain ⟨v1,v2,v3⟩:=Ayi b
 have hl:Dk (mD (Ho (b:Int))).natAbs<3:=A6n (Ny (Xk _)) v1
 exact ⟨Aj2 (by omega),Ie (by omega),As.2 ⟨v2,v3⟩⟩
theorem Hs.Ll.known:Hs.Ll.Kn:=Hs.Ll.Ae (.cons Ai.Ww.known (.cons A1.Finite.known (.cons A1.Kind.known (.cons A1.Value.known .nil)))) fun a hp=>by
 obtain ⟨b,rfl,hb⟩:=Cb (x:=a) hp
 refine ⟨0,.int .i64 (Bj (b:Int)),[],?_,.int⟩
 have kk:A3 (b:Int)=(Aj b:Int):=rfl
 have hf:Dm (b:Int)=H0 b:=rfl
 have pe:Bb (b:Int)=Av b:=rfl
 obtain ⟨_,o2,o3⟩:=Awc b
 have hE:=Cq b
 have hM:=Fi b
 rw [Hs.Ll.ev,Ck hb,A5l,R8,A6x,A5l,kk,hf,pe,o2,o3,Ff,A5r,A5l,A5l]
 unfold Bj
 rw [A5n]
 unfold Eu
 cases hfin:H0 b with
 | false=>rfl
 | true =>
   by_cases h0:Aj b=0
   ·rw [h0]; rfl
   ·have k0:(((Aj b:Nat):Int)==(0:Int))=false:=by rw [A6g]; omega
    obtain ⟨f4,f3⟩:=Iu hfin
    have hm:An b≠0:=fun hz=>h0 ((Dc f3 f4).1 hz)
    have hv:Ho (b:Int)≠0:=by
     intro h
     have:=Aek b
     rw [h] at this
     exact hm this.symm
    have hl:(An b).log2≤52:=by have:=(A61 hm).2 (show An b<2^53 by omega); omega
    have ht:Ip (mD (Ho (b:Int))) (eD (Ho (b:Int)) (Av b))=((An b).log2:Int)+1+Av b:=by
     unfold Ip Abe
     rw [A57 (fun h=>hv (O4.1 h)),A57 (fun h=>hv (O4.1 h))]
     unfold eD
     rw [A57 hv]
     have hs:=Zi (Ho (b:Int))
     have ha:An b=(mD (Ho (b:Int))).natAbs*2^Sz (Ho (b:Int)).natAbs:=by
      have e:=congrArg Int.natAbs hs
      rw [Int.natAbs_mul,Int.natAbs_natCast] at e
      rw [← Aek b]
      exact e
     have hmd:(mD (Ho (b:Int))).natAbs≠0:=fun h=>hv (O4.1 (Int.natAbs_eq_zero.1 h))
     have hlog:=Od (mD (Ho (b:Int))).natAbs (Sz (Ho (b:Int)).natAbs) hmd
     rw [← ha] at hlog
     rw [hlog]
     omega
    rw [k0,A58 ⟨rfl,h0⟩,ht,Ap (by omega) (by omega)]
    show some (DV.int .i64 _)=_
    congr 2; omega
open Go Go.Den Go.Cv Go.Proofs
set_option maxRecDepth 100000
namespace EqRef14
end EqRef14
open Go Go.Den Go.Cv Go.Proofs
open EqRef13 EqRef14
open Go Go.Den Go.Cv Go.Proofs
set_option maxRecDepth 100000
namespace EqTame
def Bq.Ew.hint:Nat→Option Bf
 | 0=>some { keep:=[0,1,5],objs:=[],boxes:=[] }
 | _=>none
def Bq.Ew.Bi:List (Nat × Entry):=[(131,A1.Finite.spec),(62,A1.Kind.spec),(132,Hs.Ll.spec)]
def Bq.Ew.E:Env:=Bn (Bh Bq.Ew.Bi) (fun _=>false) Bq.Ew.hint (fun _=>none)
section
variable (N M:Nat) (x:List Int) (k p5:Int)
def Bq.Ew.L0:Option DV:=Ce Bq.Ew.E N f53 (Au f53) [1,0,1,0] [] M ⟨Ik 43 [(0,.ints .arg .u64 x),(1,.int .i64 k),(5,.int .i64 p5)],[]⟩
theorem Bq.Ew.Ax:Bq.Ew.L0 N (M+1) x k p5=bif (Ba p5 (length x:Int)) then bif ((decide (0≤p5))&&(decide (p5<(length x:Int)))) then bif (Ao (getD x (toNat p5) 0)) then bif (!(Dm (getD x (toNat p5) 0))) then some (.bool false) else bif ((decide (0≤p5))&&(decide (p5<(length x:Int)))) then bif (R9 (getD x (toNat p5) 0)) then bif ((!((A3 (getD x (toNat p5) 0)) !=(0:Int)))||((decide (0≤p5))&&(decide (p5<(length x:Int))))) then bif ((!((A3 (getD x (toNat p5) 0)) !=(0:Int)))||(Ao (getD x (toNat p5) 0))) then bif ((!(((A3 (getD x (toNat p5) 0)) !=(0:Int))&&(!(Ba (Bj (getD x (toNat p5) 0)) (Ac ((0:Int)-k))))))||((decide (0≤p5))&&(decide (p5<(length x:Int))))) then bif ((!(((A3 (getD x (toNat p5) 0)) !=(0:Int))&&(!(Ba (Bj (getD x (toNat p5) 0)) (Ac ((0:Int)-k))))))||(Ao (getD x (toNat p5) 0))) then bif (((A3 (getD x (toNat p5) 0)) !=(0:Int))&&((Ba (Bj (getD x (toNat p5) 0)) (Ac ((0:Int)-k)))||(Ev k (Bj (getD x (toNat p5) 0))))) then some (.bool false) else Bq.Ew.L0 N M x k (Ac (p5+1)) else none else none else none else none else none else none else none else none else some (.bool true) :=
 Eq.trans (by kernel_rfl)
 (Fe (Fe (Fe (Fe rfl (Fe (Fe (Ay (Rt ((A3 (getD x (toNat p5) 0)) !=(0:Int))) (Ay (Rt ((A3 (getD x (toNat p5) 0)) !=(0:Int))) (C4 (A1e _ _ _) (Ay (N6 ((A3 (getD x (toNat p5) 0)) !=(0:Int))) (C4 (A1c _ _) (Ay (Rt ((A3 (getD x (toNat p5) 0)) !=(0:Int))) (Ay (N6 ((A3 (getD x (toNat p5) 0)) !=(0:Int))) (Ay (Ank ((A3 (getD x (toNat p5) 0)) !=(0:Int))) (Ay (N6 ((A3 (getD x (toNat p5) 0)) !=(0:Int))) (Ay (Aqz ((A3 (getD x (toNat p5) 0)) !=(0:Int)) (Ba (Bj (getD x (toNat p5) 0)) (Ac ((0:Int)-k)))) (Ay (Aqz ((A3 (getD x (toNat p5) 0)) !=(0:Int)) (Ba (Bj (getD x (toNat p5) 0)) (Ac ((0:Int)-k)))) (C4 (A16 _ _ _ _) (Ay (A11 ((A3 (getD x (toNat p5) 0)) !=(0:Int)) (Ba (Bj (getD x (toNat p5) 0)) (Ac ((0:Int)-k)))) (C4 (A17 _ _ _) (Ay (Aqz ((A3 (getD x (toNat p5) 0)) !=(0:Int)) (Ba (Bj (getD x (toNat p5) 0)) (Ac ((0:Int)-k)))) (Ay (A10 ((A3 (getD x (toNat p5) 0)) !=(0:Int)) (Ba (Bj (getD x (toNat p5) 0)) (Ac ((0:Int)-k)))) (Ay (A19 ((A3 (getD x (toNat p5) 0)) !=(0:Int)) (Ba (Bj (getD x (toNat p5) 0)) (Ac ((0:Int)-k)))) (Ay (X5 ((A3 (getD x (toNat p5) 0)) !=(0:Int))) (C4 (A18 _ _ _) rfl rfl))))) rfl)) rfl))))))) rfl)) rfl))) rfl) rfl)) rfl) rfl) rfl)
theorem Bq.Ew.ev:Ci Bq.Ew.E N f53 (Au f53) [.ints .arg .u64 x,.int .i64 k] =
 Bq.Ew.L0 N N x k 0:=by kernel_rfl
end
abbrev _root_.Go.Proofs.S1.Bq.Ew.Kn:=A8 prog 53 Bq.Ew.spec
theorem Bq.Ew.Ae (hk:A4 prog Bq.Ew.Bi) (h:Hyp Bq.Ew.E f53 Bq.Ew.ts Bq.Ew.pre Bq.Ew.out):Bq.Ew.Kn :=
 Ar (A5 hk _ _ _) func53 (by kernel_rfl) (by kernel_rfl) h
def Aq.Ew.Bi:List (Nat × Entry):=[(53,Bq.Ew.spec),(91,Bo.G7.spec)]
def Aq.Ew.E:Env:=Bn (Bh Aq.Ew.Bi) (fun _=>false) (fun _=>none) (fun _=>none)
theorem Aq.Ew.ev (N:Nat) (r c:Int) (l:List Int) (k:Int):Ci Aq.Ew.E N f39 (Au f39) [.agg [.int .i64 r,.int .i64 c,.ints .arg .u64 l],.int .i64 k]=bif ((!(Be r c l))||(D7 l&&Cz (0≤k∧k≤1000))) then some (.bool (bif (Be r c l) then (Mb l k) else false)) else none :=
 Eq.trans (by kernel_rfl)
 (Ay (Rt (Be r c l)) (Ay (N6 (Be r c l)) (Ay (Rt (Be r c l)) (C4 (A31 _ _) (Ay (X5 (Be r c l)) rfl) rfl))))
abbrev _root_.Go.Proofs.S1.Aq.Ew.Kn:=A8 prog 39 Aq.Ew.spec
theorem Aq.Ew.Ae (hk:A4 prog Aq.Ew.Bi) (h:Hyp Aq.Ew.E f39 Aq.Ew.ts Aq.Ew.pre Aq.Ew.out):Aq.Ew.Kn :=
 Ar (A5 hk _ _ _) func39 (by kernel_rfl) (by kernel_rfl) h
end EqTame
open Go Go.Den Go.Cv Go.Proofs
open EqTame
theorem Ann {k b:Int} (hk:0≤k∧k≤1000):((A3 b !=(0:Int))&&((Ba (Bj b) (Ac ((0:Int)-k)))||(Ev k (Bj b))))=!(decide (A3 b=0)||(decide (-k≤Bj b)&&decide (Bj b<k))):=by
 rw [Ap (by omega) (by omega),Aw,E3,A51]
 simp only [A5w,Bool.or_eq_true,Bool.not_eq_true',Bool.or_eq_false_iff,Bool.and_eq_false_iff,A5s,A54,bne_iff_ne,ne_eq]
 omega
theorem Anl (N:Nat) {x:List Int} (ax:Ak x=true) (hx:x.length<4611686018427387904) {k:Int} (hk:0≤k∧k≤1000):∀ (t d:List Int) (F:Nat),x=d++t→t.length<F →
 Bq.Ew.L0 N F x k (d.length:Int)=some (.bool (t.all (Ac0 k))):=by
 intro t
 induction t with
 | nil =>
   intro d F hy hF
   obtain ⟨F,rfl⟩:∃ G,F=G+1:=⟨F-1,by omega⟩
   rw [List.append_nil] at hy
   subst hy
   rw [Bq.Ew.Ax,Aw,A5q (by omega),A5p]
   rfl
 | cons b t ih =>
   intro d F hy hF
   obtain ⟨F,rfl⟩:∃ G,F=G+1:=⟨F-1,by omega⟩
   have hl:d.length<x.length:=by rw [hy,A6d,List.length_cons]; omega
   have hb:getD x d.length 0=b:=by rw [hy,A5v,A6z (A6f _),Nat.sub_self]; rfl
   have ib:Ao b=true:=by rw [← hb]; exact Jy ax hl
   obtain ⟨n,hn,_⟩:=Cb ib
   have nb:R9 b=true:=by rw [hn]; exact R8 n
   rw [Bq.Ew.Ax,Aw,A5m (show (d.length:Int)<(x.length:Int) by omega),A5m (show (0:Int)≤(d.length:Int) by omega),A5n,hb,ib,nb,Ann hk]
   simp only [A5l,A5r,A6x]
   show (bif !Dm b then some (DV.bool false) else _)=some (DV.bool ((Dm b&&(decide (A3 b=0)||(decide (-k≤Bj b)&&decide (Bj b<k))))&&t.all (Ac0 k)))
   cases Dm b with
   | false=>rfl
   | true =>
     rw [A6k,A5p,A6y]
     cases (decide (A3 b=0)||(decide (-k≤Bj b)&&decide (Bj b<k))) with
     | false=>rfl
     | true =>
       have:=ih (d++[b]) F (by rw [hy,List.append_assoc]; rfl) (by simp only [List.length_cons] at hF; omega)
       rw [A6d] at this
       rw [A6k,A5p,A6y,Ap (by omega) (by omega)]
       exact this
theorem Bq.Ew.known:Bq.Ew.Kn:=Bq.Ew.Ae (.cons A1.Finite.known (.cons A1.Kind.known (.cons Hs.Ll.known .nil))) fun x k hp=>by
 obtain ⟨ox,hk⟩:=Ag.1 (show (D7 x&&Cz (0≤k∧k≤1000))=true from hp)
 refine ⟨x.length+1,.bool (Mb x k),[],?_,.bool⟩
 rw [Bq.Ew.ev]
 exact Anl (x.length+1) (Xy ox) (As.1 ox).1 (As.1 hk) x [] (x.length+1) rfl (by omega)
theorem Aq.Ew.known:Aq.Ew.Kn:=Aq.Ew.Ae (.cons Bq.Ew.known (.cons Bo.G7.known .nil)) fun r c l k hp=>by
 obtain ⟨al,hk⟩:=Ag.1 (show (Ak l&&Cz (0≤k∧k≤1000))=true from hp)
 refine ⟨0,.bool (Be r c l&&Mb l k),[],?_,.bool⟩
 rw [Aq.Ew.ev,hk]
 cases hr:Be r c l with
 | false=>rfl
 | true =>
   rw [Mz al (by have:=I2 hr; omega)]
   rfl
open Go Go.Den Go.Cv Go.Proofs
set_option maxRecDepth 100000
namespace EqRefM
def Ad.single.hint:Nat→Option Bf
 | 0=>some { keep:=[0,1,5,6,7],objs:=[(0,5,100005,.ints 173 .u32 [])],boxes:=[] }
 | _=>none
def Ad.single.Bi:List (Nat × Entry):=[]
def Ad.single.E:Env:=Bn (Bh Ad.single.Bi) (fun _=>false) Ad.single.hint (fun _=>none)
section
variable (N M:Nat) (a:List Int) (x p6 p7:Int) (p5:List Int)
def Ad.single.L0:Option DV:=Ce Ad.single.E N f175 (Au f175) [1,1,1,0,1,0] [] M ⟨Ik 39 [(0,.ints .arg .u32 a),(1,.int .u32 x),(5,.oref 100005),(6,.int .u64 p6),(7,.int .i64 p7)],[(100005,false,.ints 173 .u32 p5)]⟩
theorem Ad.single.Ax:Ad.single.L0 N (M+1) a x p6 p7 p5=bif (Ba p7 (length a:Int)) then bif ((decide (0≤p7))&&(decide (p7<(length a:Int)))) then bif (decide ((length p5)+1≤Kg)) then Ad.single.L0 N M a x (Bc (Int.tdiv (Bc ((Bc ((Bc (getD a (toNat p7) 0))*(Bc x)))+p6)) 4294967296)) (Ac (p7+1)) (p5++[(Jh (Int.tmod (Bc ((Bc ((Bc (getD a (toNat p7) 0))*(Bc x)))+p6)) 4294967296))]) else none else none else bif (decide ((length p5)+1≤Kg)) then some (.ints (.own 38 173) .u32 (p5++[(Jh p6)])) else none:=by kernel_rfl
theorem Ad.single.ev:Ci Ad.single.E N f175 (Au f175) [.ints .arg .u32 a,.int .u32 x] =
 Ad.single.L0 N N a x 0 0 []:=by kernel_rfl
end
abbrev _root_.Go.Proofs.S1.Ad.single.Kn:=A8 prog 175 Ad.single.spec
theorem Ad.single.Ae (hk:A4 prog Ad.single.Bi) (h:Hyp Ad.single.E f175 Ad.single.ts Ad.single.pre Ad.single.out):Ad.single.Kn :=
 Ar (A5 hk _ _ _) func175 (by kernel_rfl) (by kernel_rfl) h
def Ad.Mul.hint:Nat→Option Bf
 | 0=>some { keep:=[2,3,4,5,6],objs:=[(0,5,100005,.ints 173 .u32 [])],boxes:=[2,3,4] }
 | _=>none
def Ad.Mul.Bi:List (Nat × Entry):=[(171,Ad.Made.spec),(174,Ad.plus.own.spec),(175,Ad.single.spec)]
def Ad.Mul.E:Env:=Bn (Bh Ad.Mul.Bi) (fun n=>Nat.beq n 29) Ad.Mul.hint (fun _=>none)
section
variable (N M:Nat) (n:Bool) (a:List Int) (m:Bool) (b:List Int) (p6:Int) (p5:List Int)
def Ad.Mul.L0:Option DV:=Ce Ad.Mul.E N f110 (Au f110) [1,1,0,1,0] [] M ⟨Ik 37 [(2,.ptr 2 0 0),(3,.ptr 3 0 0),(4,.ptr 4 0 0),(5,.oref 100005),(6,.int .i64 p6)],[(2,false,.box [.bool n,.ints .arg .u32 a]),(3,false,.box [.bool m,.ints .arg .u32 b]),(4,false,.box [.bool false,.nil]),(100005,false,.ints 173 .u32 p5)]⟩
theorem Ad.Mul.Ax:Ad.Mul.L0 N (M+1) n a m b p6 p5=bif (Ev 0 p6) then bif (decide (1+(length p5)≤Kg)) then bif ((decide (0≤p6))&&(decide (p6<(length b:Int)))) then bif (Ig a&&As9 (getD b (toNat p6) 0)) then bif (Ig ([(0:Int)]++p5)&&Ig (singleL a (getD b (toNat p6) 0))) then Ad.Mul.L0 N M n a m b (Ac (p6-1)) (Kb ([(0:Int)]++p5) (singleL a (getD b (toNat p6) 0))) else none else none else none else none else bif (Ig p5) then some (.agg [.bool (Az (wv (!(n==m)) p5)),.ints .arg .u32 (Ah (wv (!(n==m)) p5))]) else none :=
 Eq.trans (by kernel_rfl)
 (Fe (Fe (C4 (Rj _ _) (C4 (Cr _) (C4 (Cr _) rfl rfl) rfl) rfl) rfl) rfl)
theorem Ad.Mul.ev:Ci Ad.Mul.E N f110 (Au f110) [.agg [.bool n,.ints .arg .u32 a],.agg [.bool m,.ints .arg .u32 b]] =
 Ad.Mul.L0 N N n a m b (Ac ((length b:Int)-1)) []:=by kernel_rfl
end
abbrev _root_.Go.Proofs.S1.Ad.Mul.Kn:=A8 prog 110 Ad.Mul.spec
theorem Ad.Mul.Ae (hk:A4 prog Ad.Mul.Bi) (h:Hyp Ad.Mul.E f110 Ad.Mul.ts Ad.Mul.pre Ad.Mul.out):Ad.Mul.Kn :=
 Ar (A5 hk _ _ _) func110 (by kernel_rfl) (by kernel_rfl) h
def Ai.Mul.Bi:List (Nat × Entry):=[(110,Ad.Mul.spec),(109,Ai.Of.spec)]
def Ai.Mul.E:Env:=Bn (Bh Ai.Mul.Bi) (fun _=>false) (fun _=>none) (fun _=>none)
theorem Ai.Mul.ev (N:Nat) (n:Bool) (a:List Int) (e:Int) (m:Bool) (b:List Int) (f:Int):Ci Ai.Mul.E N f41 (Au f41) [.agg [.bool n,.ints .arg .u32 a,.int .i64 e],.agg [.bool m,.ints .arg .u32 b,.int .i64 f]]=bif (okM n a&&okM m b) then bif (Ks (Az (wv n a*wv m b)) (Ah (wv n a*wv m b))&&Un (Ac (e+f))) then some (.agg [.bool (Az (mD (wv (Az (wv n a*wv m b)) (Ah (wv n a*wv m b))))),.ints .arg .u32 (Ah (mD (wv (Az (wv n a*wv m b)) (Ah (wv n a*wv m b))))),.int .i64 (eD (wv (Az (wv n a*wv m b)) (Ah (wv n a*wv m b))) (Ac (e+f)))]) else none else none :=
 Eq.trans (by kernel_rfl)
 (C4 (Cr _) (C4 (Cr _) rfl rfl) rfl)
abbrev _root_.Go.Proofs.S1.Ai.Mul.Kn:=A8 prog 41 Ai.Mul.spec
theorem Ai.Mul.Ae (hk:A4 prog Ai.Mul.Bi) (h:Hyp Ai.Mul.E f41 Ai.Mul.ts Ai.Mul.pre Ai.Mul.out):Ai.Mul.Kn :=
 Ar (A5 hk _ _ _) func41 (by kernel_rfl) (by kernel_rfl) h
abbrev _root_.Go.Proofs.S1.Ai.Mul.q.Kn:Prop:=A8 prog 41 Ai.Mul.q.spec
abbrev _root_.Go.Proofs.S1.Ad.plus.own.Kn:Prop:=A8 prog 174 Ad.plus.own.spec
theorem _root_.Go.Proofs.S1.Ad.plus.own.call:∀ (args:Array Value) (w:World),(callFunc 174 args).run prog w=.ok (.enter 174 args) w:=Q4 func174 (by kernel_rfl) (show f174.body=some (Au f174) by kernel_rfl)
theorem _root_.Go.Proofs.S1.Ad.plus.meets {E:Env} (he:Kp prog E) {ts:List AT} {pre:List Atom→Bool} {out:List Atom→DV} (h:∀ ats ds,F3 ts ats ds→pre ats=true→∃ fuel d drops,Ci E fuel f174 (Au f174) ds=some d∧Wk drops d (out ats)):Ys prog 174 (entry ts pre out):=Sb he func174 (show f174.body=some (Au f174) by kernel_rfl) h
end EqRefM
end Go.Proofs.S1
end
