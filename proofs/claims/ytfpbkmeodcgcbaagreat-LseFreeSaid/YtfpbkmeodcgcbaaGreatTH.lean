/- A verified evaluator of the program's form and its use for this seat: S1EqSum, S1PSum. -/
import Derived.Test.YtfpbkmeodcgcbaaGreatTE
import Derived.Test.YtfpbkmeodcgcbaaGreatTF
import Derived.Test.YtfpbkmeodcgcbaaGreatTG
set_option linter.unusedVariables false
set_option linter.unusedSimpArgs false
open Option renaming some->xM,none->xN
open Bool renaming true->wg,false->wy
open Nat renaming or_comm->xq
open Bool renaming or_eq_false_iff->yD
noncomputable section
open Go.Proofs.Tryz
namespace Go.Proofs.S1
open Go Go.Den Go.CI Go.Proofs
set_option maxRecDepth 100000
def sum.right.E:=E0 []
theorem sum.right.ev(N:Nat)(m d:Int):BX sum.right.E N f168 (Br f168) [.int .u64 m,.int .i64 d]=cond (BI 63 d) (bif ((Cr .u64 (D7 .u64 m 63) 63) !=m) then xM (.int .u64 (Ht .u64 (D7 .u64 m 63) 1)) else xM (.int .u64 (D7 .u64 m 63))) (bif (decide (0<=d)) then cond (decide (0<=d)) (bif ((Cr .u64 (D7 .u64 m d) d) !=m) then xM (.int .u64 (Ht .u64 (D7 .u64 m d) 1)) else xM (.int .u64 (D7 .u64 m d))) xN else xN):=by kernel_rfl
def sum.G1.E:=E0 [(99,soft.Finite.Bk),(133,soft.Kind.Bk)]
theorem sum.G1.ev(N:Nat)(a b:Int):BX sum.G1.E N f167 (Br f167) [.int .u64 a,.int .u64 b]=cond (Bo a) (bif ((B8 a)==(4:Int)) then xM (.Cw [.int .u64 9221120237041090560,.int .u8 0]) else bif (Bo b) then cond ((B8 b)==(4:Int)) (xM (.Cw [.int .u64 9221120237041090560,.int .u8 0])) (bif (Bo a) then cond (CO a) (xM (.Cw [.int .u64 b,.int .u8 0])) (bif (Bo b) then cond ((CO b)||(a==b)) (xM (.Cw [.int .u64 a,.int .u8 0])) (xM (.Cw [.int .u64 9221120237041090560,.int .u8 16])) else xN) else xN) else xN) xN :=Et (DJ (DJ rfl (DJ (DJ rfl (DJ (DJ rfl (DJ (B4 (O1 (CO b)) (B4 (O1 (CO b)) (B4 (tt8 (CO b)) (B4 (SM (CO b)) (C0 (tt5 _ _) rfl rfl))))) rfl)) rfl)) rfl)) rfl)
def sum.Add.E:=E0 [(99,soft.Finite.Bk),(163,soft.DG.Bk),(162,soft.Fh.Bk),(159,soft.Sign.Bk),(168,sum.right.Bk),(167,sum.G1.Bk)]
theorem sum.Add.ev(N:Nat)(a b:Int):BX sum.Add.E N f140 (Br f140) [.int .u64 a,.int .u64 b]=cond (Bo a) (bif ((!(CO a))||(Bo b)) then cond ((!(CO a))||(!(CO b))) (bif ((Bo a&&Bo b)&&(!(CO a)||!(CO b))) then xM (.Cw [.int .u64 (EN a b),.int .u8 (SB a b)]) else xN) (bif (Bo a) then cond (Bo b) (bif (Bo a) then cond (Bo b) (bif (BI (BO a) (BO b)) then cond (Bo (Cr .u64 (Ci a) 9)&&CE (0<=(Be ((BO b)-(BO a)))/\(Be ((BO b)-(BO a)))<1000000)) (bif ((DI b)==(DI a)) then cond (Ep (BQ ((Cr .u64 (Ci b) 9)+(EX (Cr .u64 (Ci a) 9) (Be ((BO b)-(BO a)))))) (Be ((BO b)-9)) wy) (xM (.Cw [.int .u64 (EJ (DI b) (BQ ((Cr .u64 (Ci b) 9)+(EX (Cr .u64 (Ci a) 9) (Be ((BO b)-(BO a)))))) (Be ((BO b)-9)) wy),.int .u8 (EI (DI b) (BQ ((Cr .u64 (Ci b) 9)+(EX (Cr .u64 (Ci a) 9) (Be ((BO b)-(BO a)))))) (Be ((BO b)-9)) wy)])) xN else bif (BI (EX (Cr .u64 (Ci a) 9) (Be ((BO b)-(BO a)))) (Cr .u64 (Ci b) 9)) then cond (Ep (BQ ((Cr .u64 (Ci b) 9)-(EX (Cr .u64 (Ci a) 9) (Be ((BO b)-(BO a)))))) (Be ((BO b)-9)) wy) (xM (.Cw [.int .u64 (EJ (DI b) (BQ ((Cr .u64 (Ci b) 9)-(EX (Cr .u64 (Ci a) 9) (Be ((BO b)-(BO a)))))) (Be ((BO b)-9)) wy),.int .u8 (EI (DI b) (BQ ((Cr .u64 (Ci b) 9)-(EX (Cr .u64 (Ci a) 9) (Be ((BO b)-(BO a)))))) (Be ((BO b)-9)) wy)])) xN else bif (BI (Cr .u64 (Ci b) 9) (EX (Cr .u64 (Ci a) 9) (Be ((BO b)-(BO a))))) then cond (Ep (BQ ((EX (Cr .u64 (Ci a) 9) (Be ((BO b)-(BO a))))-(Cr .u64 (Ci b) 9))) (Be ((BO b)-9)) wy) (xM (.Cw [.int .u64 (EJ (DI a) (BQ ((EX (Cr .u64 (Ci a) 9) (Be ((BO b)-(BO a))))-(Cr .u64 (Ci b) 9))) (Be ((BO b)-9)) wy),.int .u8 (EI (DI a) (BQ ((EX (Cr .u64 (Ci a) 9) (Be ((BO b)-(BO a))))-(Cr .u64 (Ci b) 9))) (Be ((BO b)-9)) wy)])) xN else xM (.Cw [.int .u64 0,.int .u8 0])) xN else bif (Bo (Cr .u64 (Ci b) 9)&&CE (0<=(Be ((BO a)-(BO b)))/\(Be ((BO a)-(BO b)))<1000000)) then cond ((DI a)==(DI b)) (bif (Ep (BQ ((Cr .u64 (Ci a) 9)+(EX (Cr .u64 (Ci b) 9) (Be ((BO a)-(BO b)))))) (Be ((BO a)-9)) wy) then xM (.Cw [.int .u64 (EJ (DI a) (BQ ((Cr .u64 (Ci a) 9)+(EX (Cr .u64 (Ci b) 9) (Be ((BO a)-(BO b)))))) (Be ((BO a)-9)) wy),.int .u8 (EI (DI a) (BQ ((Cr .u64 (Ci a) 9)+(EX (Cr .u64 (Ci b) 9) (Be ((BO a)-(BO b)))))) (Be ((BO a)-9)) wy)]) else xN) (bif (BI (EX (Cr .u64 (Ci b) 9) (Be ((BO a)-(BO b)))) (Cr .u64 (Ci a) 9)) then cond (Ep (BQ ((Cr .u64 (Ci a) 9)-(EX (Cr .u64 (Ci b) 9) (Be ((BO a)-(BO b)))))) (Be ((BO a)-9)) wy) (xM (.Cw [.int .u64 (EJ (DI a) (BQ ((Cr .u64 (Ci a) 9)-(EX (Cr .u64 (Ci b) 9) (Be ((BO a)-(BO b)))))) (Be ((BO a)-9)) wy),.int .u8 (EI (DI a) (BQ ((Cr .u64 (Ci a) 9)-(EX (Cr .u64 (Ci b) 9) (Be ((BO a)-(BO b)))))) (Be ((BO a)-9)) wy)])) xN else bif (BI (Cr .u64 (Ci a) 9) (EX (Cr .u64 (Ci b) 9) (Be ((BO a)-(BO b))))) then cond (Ep (BQ ((EX (Cr .u64 (Ci b) 9) (Be ((BO a)-(BO b))))-(Cr .u64 (Ci a) 9))) (Be ((BO a)-9)) wy) (xM (.Cw [.int .u64 (EJ (DI b) (BQ ((EX (Cr .u64 (Ci b) 9) (Be ((BO a)-(BO b))))-(Cr .u64 (Ci a) 9))) (Be ((BO a)-9)) wy),.int .u8 (EI (DI b) (BQ ((EX (Cr .u64 (Ci b) 9) (Be ((BO a)-(BO b))))-(Cr .u64 (Ci a) 9))) (Be ((BO a)-9)) wy)])) xN else xM (.Cw [.int .u64 0,.int .u8 0])) else xN) xN else xN) xN else xN) else xN) xN:=
 Et (DJ (B4 (WN (CO a)) (C0 (Ad9 _ _) (B4 (PA (CO a)) (B4 (WO (CO a)) (C0 (AfN _ _) rfl rfl))) rfl)) rfl)
def sum.Sub.E:=E0 [(142,soft.DO.Bk),(140,sum.Add.Bk)]
theorem sum.Sub.ev(N:Nat)(a b:Int):BX sum.Sub.E N f117 (Br f117) [.int .u64 a,.int .u64 b]=cond (Bo b) (bif (Bo a&&Bo (CM b)) then xM (.Cw [.int .u64 (EN a (CM b)),.int .u8 (SB a (CM b))]) else xN) xN:=by kernel_rfl
open Go Go.Den Go.CI Go.Proofs
theorem AlH(q:Nat):q ||| 1=2*(q / 2)+1:=by
 have e:q%2 ||| (q / 2*2^1)=q / 2*2^1+q%2:=Lc (Nat.mod_lt _ (by decide))
 have e1:1 ||| (q / 2*2^1)=q / 2*2^1+1:=Lc (k:=1) (by decide)
 have hq:q / 2*2^1+q%2=q:=by omega
 rw[hq] at e;rcases Nat.mod_two_eq_zero_or_one q with h | h
 ·rw[h,Nat.zero_or] at e;rw[e,xq] at e1;omega
 ·rw[h] at e
  have:q ||| 1=q:=by
   conv=>lhs; rw[<- e]
   rw[xq 1,Nat.or_assoc,Nat.or_self,xq,e]
  omega
theorem TC{n s:Nat}(hn:n<2^64)(hs:s<=63):
 (bif ((Cr .u64 (D7 .u64 (n:Int) (s:Int)) (s:Int)) !=(n:Int)) then
  xM (DV.int .u64 (Ht .u64 (D7 .u64 (n:Int) (s:Int)) (1:Int)))
 else xM (.int .u64 (D7 .u64 (n:Int) (s:Int))))=xM (.int .u64 ((F7 n s:Nat):Int)):=by
 have hq:n / 2^s<=n:=Nat.div_le_self _ _;have hm:n / 2^s*2^s<=n:=Nat.div_mul_le_self _ _;have hd:=Nat.div_add_mod n (2^s);rw[A1] at hd;rw[Hd .u64 n s (by show s<=64; omega),Ff _ s (by omega),Ao (by omega)];have h1:Ht .u64 ((n / 2^s:Nat):Int) (1:Int)=((n / 2^s ||| 1:Nat):Int):=Ri (by omega) (by decide);rw[h1,AlH];unfold F7;by_cases h:n%2^s=0
 ·have:((((n / 2^s*2^s:Nat):Int)) !=(n:Int))=wy:=by simp only[bne_eq_false_iff_eq]; omega
  rw[this,Az h,Af]
 ·have:((((n / 2^s*2^s:Nat):Int)) !=(n:Int))=wg:=by simp only[bne_iff_ne,ne_eq]; omega
  rw[this,Ay h,Aa]
theorem sum.right.Bi:Kq 168 sum.right.Bk:=D6 sum.right.E Tryz.func168 .nil fun m d hp=>by
 obtain⟨h1,h2⟩:=Bf.1 hp;obtain⟨n,rfl,hn⟩:=BR h1;have h2:=Bt.1 h2;obtain⟨d,rfl⟩:∃k:Nat,d=k:=⟨d.toNat,by omega⟩
 refine⟨0,sum.right.out [.i n,.i d],[],?_,.int⟩;rw[sum.right.ev,Bw];show _=xM (DV.int .u64 (EX n d));unfold EX;rw[Ad,Ad];by_cases h:63<d
 ·have:decide ((63:Int)<(d:Int))=wg:=by simp; omega
  rw[this,Aa,Nat.min_eq_right (by omega)];exact TC hn (A7 63)
 ·have:decide ((63:Int)<(d:Int))=wy:=by simp; omega
  have h0:decide ((0:Int)<=(d:Int))=wg:=by simp
  rw[this,Af,h0,Aa,Aa,Nat.min_eq_left (by omega)];exact TC hn (by omega)
theorem AbS:((Jt:Nat):Int)=9221120237041090560:=rfl
theorem sum.G1.Bi:Kq 167 sum.G1.Bk:=D6 sum.G1.E Tryz.func167 (kc soft.Finite.Bi (kc soft.Kind.Bi .nil)) fun a b hp=>by
 obtain⟨h1,h2⟩:=Bf.1 hp;obtain⟨ha,hb⟩:=Bf.1 h1;obtain⟨a,rfl,hn⟩:=BR ha;obtain⟨b,rfl,hm⟩:=BR hb;refine⟨0,sum.G1.out [.i a,.i b],[],?_,Wk.Gx (.cons .int (.cons .int .nil))⟩;rw[sum.G1.ev,ha,hb];show _=xM (DV.Cw [.int .u64 (EN a b),.int .u8 (SB a b)]);unfold EN SB Em B8 CO;simp only[Ad,Aa];unfold CO at h2;simp only[Ad] at h2;by_cases a4:Bj a=4
 ·simp[a4,AbS]
 ·have e4:((Bj a:Int)==4)=wy:=by simp; omega
  rw[e4,Af];by_cases b4:Bj b=4
  ·simp[b4,AbS]
  ·have f4:((Bj b:Int)==4)=wy:=by simp; omega
   rw[f4,Af];have ka:=Uy a;have kb:=Uy b;by_cases a3:Bj a=3
   ·have fa:F9 a=wy:=by rw[ka]; simp[a3]
    rw[fa,Af];by_cases b3:Bj b=3
    ·have fb:F9 b=wy:=by rw[kb]; simp[b3]
     rw[fb];by_cases hab:a=b
     ·subst hab; simp[a3]
     ·have hab':((a:Int)==(b:Int))=wy:=by simp; omega
      rw[hab'];simp[a3,b3,hab,AbS]
    ·have fb:F9 b=wg:=by rw[kb]; simp[b3,b4]
     rw[fb];simp[a3,b3,b4]
   ·have fa:F9 a=wg:=by rw[ka]; simp[a3,a4]
    have b3:Bj b=3:=by rw[fa,kb] at h2;simp[b4] at h2;exact h2
    rw[fa,Aa];simp[a3,b3,a4]
def Aci(na nb:Bool)(X r:Nat)(e:Int):Nat × Nat :=if na=nb then FY na (X+r) e wy else if r<X then FY na (X-r) e wy else if X<r then FY nb (r-X) e wy else (0,0)
theorem RH{na:Bool}{m:Int}{n:Nat}{e e':Int}(h:m=n)(he:e'=e)(hn:n<2^64)(h1:-1100<=e)(h2:e<=1000):
 (cond (Ep m e' wy) (xM (DV.Cw [.int .u64 (EJ na m e' wy),.int .u8 (EI na m e' wy)])) xN)
  = xM (.Cw [.int .u64 (((FY na n e wy).1:Nat):Int),.int .u8 (((FY na n e wy).2:Nat):Int)]):=by
 subst h; subst he;have hp:Ep (n:Int) e' wy=wg:=Bt.2 ⟨by omega,by omega,by omega,.inl (by omega),fun h=>by cases h⟩;rw[hp,Aa];unfold EJ EI;rw[Ad]
theorem Aae(na nb:Bool){X r:Nat}{e e':Int}(hX:X<2^62)(hr:r<=2^62)(h:e'=e)(h1:-1100<=e)(h2:e<=1000):
 (bif (na==nb) then
  bif Ep (BQ ((X:Int)+(r:Int))) e' wy then xM (DV.Cw [.int .u64 (EJ na (BQ ((X:Int)+(r:Int))) e' wy),.int .u8 (EI na (BQ ((X:Int)+(r:Int))) e' wy)]) else xN
 else bif BI (r:Int) (X:Int) then
  bif Ep (BQ ((X:Int)-(r:Int))) e' wy then xM (DV.Cw [.int .u64 (EJ na (BQ ((X:Int)-(r:Int))) e' wy),.int .u8 (EI na (BQ ((X:Int)-(r:Int))) e' wy)]) else xN
 else bif BI (X:Int) (r:Int) then
  bif Ep (BQ ((r:Int)-(X:Int))) e' wy then xM (DV.Cw [.int .u64 (EJ nb (BQ ((r:Int)-(X:Int))) e' wy),.int .u8 (EI nb (BQ ((r:Int)-(X:Int))) e' wy)]) else xN
 else xM (.Cw [.int .u64 (0:Int),.int .u8 (0:Int)]))=
  xM (.Cw [.int .u64 (((Aci na nb X r e).1:Nat):Int),.int .u8 (((Aci na nb X r e).2:Nat):Int)]):=by
 unfold Aci;rw[Bw,Bw];by_cases hs:na=nb
 ·have:(na==nb)=wg:=by simp[hs]
  rw[this,Aa,Az hs];exact RH (by rw[Di (by omega) (by omega)]; omega) h (by omega) h1 h2
 ·have:(na==nb)=wy:=by simp[hs]
  rw[this,Af,Ay hs];by_cases hl:r<X
  ·have:decide ((r:Int)<(X:Int))=wg:=by simp; omega
   rw[this,Aa,Az hl];exact RH (by rw[Di (by omega) (by omega)]; omega) h (by omega) h1 h2
  ·have:decide ((r:Int)<(X:Int))=wy:=by simp; omega
   rw[this,Af,Ay hl];by_cases hg:X<r
   ·have:decide ((X:Int)<(r:Int))=wg:=by simp; omega
    rw[this,Aa,Az hg];exact RH (by rw[Di (by omega) (by omega)]; omega) h (by omega) h1 h2
   ·have:decide ((X:Int)<(r:Int))=wy:=by simp; omega
    rw[this,Af,Ay hg];rfl
theorem Adw{a b:Nat}(ha:F9 a=wg)(hb:F9 b=wg)(hle:By b<=By a):
 ∃X r:Nat,X<2^62/\r<=2^62/\Cr .u64 (Ci a) (9:Int)=(X:Int)/\EX (Cr .u64 (Ci b) (9:Int)) (Be (BO a-BO b))=(r:Int)
  /\ Be (BO a-9)=By a-9
  /\ (Bo (Cr .u64 (Ci b) (9:Int))&&CE (0<=(Be ((BO a)-(BO b)))/\(Be ((BO a)-(BO b)))<1000000))=wg
  /\ Aci (DI a) (DI b) X r (By a-9)=Em a b:=by
 obtain⟨d,hd⟩:∃d:Nat,By a=By b+d:=⟨(By a-By b).toNat,by omega⟩
 have hx:=E1 a;have hy:=E1 b;have ea:=C4 a;have eb:=C4 b;have C:=Aad (Mx:=Bs a) (My:=Bs b) hd hx hy (fun h=>VS (by omega))
 have sh:∀m:Nat,m<2^53->Cr .u64 (m:Int) (9:Int)=((m*2^9:Nat):Int):=fun m hm=>by have:=Ff m 9 (by decide);rw[Ao (by omega)] at this;exact this
 have h2:Be (BO a-BO b)=(d:Int):=by unfold BO;rw[Ad,Ad,Bq (by omega) (by omega)]; omega
 have s1:Cr .u64 (Ci a) (9:Int)=((Bs a*2^9:Nat):Int):=by unfold Ci; rw[Ad]; exact sh _ hx
 have s2:Cr .u64 (Ci b) (9:Int)=((Bs b*2^9:Nat):Int):=by unfold Ci; rw[Ad]; exact sh _ hy
 refine⟨Bs a*2^9,F7 (Bs b*2^9) (min d 63),by omega,C.small,s1,?_,?_,?_,?_⟩
 ·rw[s2,h2]; unfold EX; rw[Ad,Ad]
 ·unfold BO; rw[Ad,Bq (by omega) (by omega)]
 ·rw[s2,h2,Cq (by omega),AR];exact Bt.2 ⟨by omega,by omega⟩
 ·unfold DI;rw[Ad,Ad,Aac ha hb hd];rfl
theorem sum.Add.Bi:Kq 140 sum.Add.Bk:=D6 sum.Add.E Tryz.func140 (kc soft.Finite.Bi (kc soft.DG.Bi (kc soft.Fh.Bi (kc soft.Sign.Bi (kc sum.right.Bi (kc sum.G1.Bi .nil)))))) fun a b hp=>by
 obtain⟨ha,hb⟩:=Bf.1 hp;obtain⟨a,rfl,hn⟩:=BR ha;obtain⟨b,rfl,hm⟩:=BR hb;refine⟨0,sum.Add.out [.i a,.i b],[],?_,Wk.Gx (.cons .int (.cons .int .nil))⟩;rw[sum.Add.ev,ha,hb];show _=xM (DV.Cw [.int .u64 (EN a b),.int .u8 (SB a b)]);rw[AQ,Aa,Aa];by_cases hf:(!(CO a)||!(CO b))=wg
 ·rw[hf]; rfl
 ·have hf:(!(CO a)||!(CO b))=wy:=by simpa using hf
  rw[hf,Af,Aa,Aa,Aa,Aa]
  have fa:F9 a=wg:=by have:=(yD.1 hf).1;unfold CO at this;simpa using this
  have fb:F9 b=wg:=by have:=(yD.1 hf).2;unfold CO at this;simpa using this
  have xa:=C4 a;have xb:=C4 b;rw[Bw];by_cases hl:By a<By b
  ·obtain⟨X,r,hX,hr,e1,e2,e3,e4,e5⟩:=Adw fb fa (by omega);have:decide (BO a<BO b)=wg:=by unfold BO; simpa using hl
   rw[this,Aa,e4,Aa,e1,e2,Aae _ _ hX hr e3 (by omega) (by omega),e5,Si];rfl
  ·obtain⟨X,r,hX,hr,e1,e2,e3,e4,e5⟩:=Adw fa fb (by omega);have:decide (BO a<BO b)=wy:=by unfold BO; simpa using hl
   rw[this,Af,e4,Aa,e1,e2,Aae _ _ hX hr e3 (by omega) (by omega),e5];rfl
theorem sum.Sub.Bi:Kq 117 sum.Sub.Bk:=D6 sum.Sub.E Tryz.func117 (kc soft.DO.Bi (kc sum.Add.Bi .nil)) fun a b hp=>by
 obtain⟨ha,hb⟩:=Bf.1 hp;obtain⟨b,rfl,hm⟩:=BR hb;refine⟨0,sum.Sub.out [.i a,.i b],[],?_,Wk.Gx (.cons .int (.cons .int .nil))⟩;have:Bo (CM (b:Int))=wg:=by unfold CM; rw[Ad]; exact Cq (OL hm)
 rw[sum.Sub.ev,ha,hb,this];unfold EN SB CM;rw[Ad];rfl
end Go.Proofs.S1
end
