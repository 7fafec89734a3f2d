/- A verified evaluator of the program's form and its use for this seat: S1PQ, S1PQa, S1PQb, FacW, FacX, FacY, FroV, UpV, UpW, UpX, GradV, S1PExaA, S1PExaB, LeaV, LeaW, LeaX, LeaY, LeaZ, UprV, UprW, UprX, S1EqLaw17P, S1PLaw17P, S1EqGg, S1PGg, S1EqRidge, S1PRidge, S1EqRef22, S1PRef22, RidU, SimL, SimM. -/
import Derived.Test.YtfpbkmeodcgcbaaGreatTG
import Derived.Test.YtfpbkmeodcgcbaaGreatTM
import Derived.Test.YtfpbkmeodcgcbaaGreatTK
import Derived.Test.YtfpbkmeodcgcbaaGreatTN
import Derived.Test.YtfpbkmeodcgcbaaGreatTE
import Derived.Test.YtfpbkmeodcgcbaaGreatTF
set_option linter.unusedVariables false
set_option linter.unusedSimpArgs false
open Option renaming some->xM,none->xN
open Bool renaming true->wg,false->wy
open Int renaming toNat->wz
open List renaming length->vA,getD->vB
open List renaming getElem_mem->ya,getElem?_range->yA,mem_of_mem_drop->yn,range->zg,mem_map->zu,length_cons->zt,mem_cons->zL,all_eq_true->zE,mem_range->zO,any_eq_false->wZ,map_congr_left->y8,all_cons->z9
open Int renaming zero_add->xf,sub_zero->xe,natCast_add->yy
open Rat renaming mul_nonneg->ze,mul_le_mul_of_nonneg_right->zd,le_of_lt->zc,natCast_add->yz,le_trans->zo,le_total->yV,natCast_mul->zU,le_of_mul_le_mul_right->zZ,mul_eq_zero->xx,add_zero->xh,le_refl->zY,mul_le_mul_of_nonneg_left->zl
open Nat renaming mul_le_mul_left->yg,eq_zero_or_pos->yv,div_lt_of_lt_mul->xS,mod_lt->zv,zero_mul->zI
open Classical renaming choose->wU,choose_spec->ud,not_forall->vN
noncomputable section
open Go.Proofs.Tryz
namespace Go.Proofs.S1
open Go Go.Den Go.CI Go.Proofs
theorem _root_.Go.CI.Dq.val{x:Rat}(h:Dq x):((mQ x:Int):Rat)*tw (eQ x)=x:=h.parts.1.symm
theorem wq{drops:List Nat}{m m' e e':Int}(h1:m=m')(h2:e=e'):Wk drops (.agg [.bool (BB m),.Bh .arg .u32 (Bn m),.int .i64 e]) (.agg [.bool (BB m'),.Bh .arg .u32 (Bn m'),.int .i64 e']):=by subst h1 h2;exact wdy
theorem ok4{a b c d:Bool}(h1:a=wg)(h2:b=wg)(h3:c=wg)(h4:d=wg):(((a&&b)&&c)&&d)=wg:=by rw[h1,h2,h3,h4]; rfl
theorem Bx.Add.q.Bi:Bx.Add.q.Kn:=DR.SD (P:=_) (pre:=Bx.Add.pre) (out:=Bx.Add.out) Bx.Add.Bi [] fun ats h=>by
 unfold Bx.Add.q.pre at h;split at h
 ·rename_i n a e m b f;obtain⟨h1,h2⟩:=Bf.1 h;obtain⟨x,hx,rfl,rfl,rfl⟩:=K9 h1;obtain⟨y,hy,rfl,rfl,rfl⟩:=K9 h2;refine⟨ok4 hx.Rr hy.Rr hx.MU hy.MU,?_⟩;have:=AnG (mQ x) (eQ x) (mQ y) (eQ y);rw[hx.val,hy.val] at this;show Wk [] (DV.agg [.bool (BB (Ly (wv _ _) _ (wv _ _) _)),.Bh .arg .u32 (Bn (Ly (wv _ _) _ (wv _ _) _)),.int .i64 (Aag (wv _ _) _ (wv _ _) _)]) (DV.agg [.bool (BB (mQ (vQ _ _ _+vQ _ _ _))),.Bh .arg .u32 (Bn (mQ (vQ _ _ _+vQ _ _ _))),.int .i64 (eQ (vQ _ _ _+vQ _ _ _))]);rw[EE,EE,L7 hx,L7 hy];exact wq this.1 this.2
 ·cases h
theorem Bx.Sub.q.Bi:Bx.Sub.q.Kn:=DR.SD (P:=_) (pre:=Bx.Sub.pre) (out:=Bx.Sub.out) Bx.Sub.Bi [] fun ats h=>by
 unfold Bx.Sub.q.pre at h;split at h
 ·rename_i n a e m b f;obtain⟨h1,h2⟩:=Bf.1 h;obtain⟨x,hx,rfl,rfl,rfl⟩:=K9 h1;obtain⟨y,hy,rfl,rfl,rfl⟩:=K9 h2;refine⟨ok4 hx.Rr hy.Rr hx.MU hy.MU,?_⟩;have:=AnG (mQ x) (eQ x) (-(mQ y)) (eQ y)
  have e:((mQ x:Int):Rat)*tw (eQ x)+((-(mQ y):Int):Rat)*tw (eQ y)=x-y:=by rw[hx.val,Rat.intCast_neg];have:=hy.val;grind
  rw[e] at this;show Wk [] (DV.agg [.bool (BB (Ly (wv _ _) _ (-(wv _ _)) _)),.Bh .arg .u32 (Bn (Ly (wv _ _) _ (-(wv _ _)) _)),.int .i64 (Aag (wv _ _) _ (-(wv _ _)) _)]) (DV.agg [.bool (BB (mQ (vQ _ _ _-vQ _ _ _))),.Bh .arg .u32 (Bn (mQ (vQ _ _ _-vQ _ _ _))),.int .i64 (eQ (vQ _ _ _-vQ _ _ _))]);rw[EE,EE,L7 hx,L7 hy];exact wq this.1 this.2
 ·cases h
theorem Bx.Mul.q.Bi:Bx.Mul.q.Kn:=DR.SD (P:=_) (pre:=Bx.Mul.pre) (out:=Bx.Mul.out) Bx.Mul.Bi [] fun ats h=>by
 unfold Bx.Mul.q.pre at h;split at h
 ·rename_i n a e m b f;obtain⟨h1,h2⟩:=Bf.1 h;obtain⟨x,hx,rfl,rfl,rfl⟩:=K9 h1;obtain⟨y,hy,rfl,rfl,rfl⟩:=K9 h2;refine⟨show((okM _ _&&okM _ _)&&(MU _&&MU _))=wg by rw[hx.okM,hy.okM,hx.MU,hy.MU]; rfl,?_⟩;have:=AoK (mQ x) (eQ x) (mQ y) (eQ y);rw[hx.val,hy.val] at this;show Wk [] (DV.agg [.bool (BB (mD (wv _ _*wv _ _))),.Bh .arg .u32 (Bn (mD (wv _ _*wv _ _))),.int .i64 (eD (wv _ _*wv _ _) _)]) (DV.agg [.bool (BB (mQ (vQ _ _ _*vQ _ _ _))),.Bh .arg .u32 (Bn (mQ (vQ _ _ _*vQ _ _ _))),.int .i64 (eQ (vQ _ _ _*vQ _ _ _))]);rw[EE,EE,L7 hx,L7 hy];exact wq this.1 this.2
 ·cases h
theorem Bx.Dx.q.Bi:Bx.Dx.q.Kn:=DR.SD (P:=_) (pre:=Bx.Dx.pre) (out:=Bx.Dx.out) Bx.Dx.Bi [] fun ats h=>by
 unfold Bx.Dx.q.pre at h;split at h
 ·rename_i n a e k;obtain⟨h1,h2⟩:=Bf.1 h;obtain⟨x,hx,rfl,rfl,rfl⟩:=K9 h1;have hk:=Bt.1 h2;have ok:MU k=wg:=Bt.2 (by omega);refine⟨show((IS _ _&&MU _)&&MU _)=wg by rw[hx.IS,hx.MU,ok]; rfl,?_⟩;have:=AlJ (mQ x) (eQ x+k)
  have e:((mQ x:Int):Rat)*tw (eQ x+k)=x*tw k:=by rw[Ex];have:=hx.val;grind
  rw[e] at this;show Wk [] (DV.agg [.bool (BB (mD (wv _ _))),.Bh .arg .u32 (Bn (mD (wv _ _))),.int .i64 (eD (wv _ _) _)]) (DV.agg [.bool (BB (mQ (vQ _ _ _*tw k))),.Bh .arg .u32 (Bn (mQ (vQ _ _ _*tw k))),.int .i64 (eQ (vQ _ _ _*tw k))]);rw[EE,L7 hx];exact wq this.1 this.2
 ·cases h
theorem Bx.Compare.q.Bi:Bx.Compare.q.Kn:=DR.SD (P:=_) (pre:=Bx.Compare.pre) (out:=Bx.Compare.out) Bx.Compare.Bi [] fun ats h=>by
 unfold Bx.Compare.q.pre at h;split at h
 ·rename_i n a e m b f;obtain⟨h1,h2⟩:=Bf.1 h;obtain⟨x,hx,rfl,rfl,rfl⟩:=K9 h1;obtain⟨y,hy,rfl,rfl,rfl⟩:=K9 h2;refine⟨ok4 hx.Rr hy.Rr hx.MU hy.MU,?_⟩;show Wk [] (DV.int .i64 (Rb (wv _ _) _ (wv _ _) _)) (DV.int .i64 (AbE (vQ _ _ _) (vQ _ _ _)));rw[EE,EE,L7 hx,L7 hy,AoR hx hy];exact .int
 ·cases h
theorem Bx.Of.q.Bi:Bx.Of.q.Kn:=DR.SD (P:=_) (pre:=Bx.Of.pre) (out:=Bx.Of.out) Bx.Of.Bi [] fun ats h=>by
 unfold Bx.Of.q.pre at h;split at h
 ·rename_i n a e;obtain⟨h1,h2⟩:=Bf.1 h;have hk:=Bt.1 h2;have ok:PJ e=wg:=Bt.2 (by omega);refine⟨show(IS _ _&&PJ _)=wg by rw[h1,ok]; rfl,?_⟩;have:=AlJ (wv n a) e;show Wk [] (DV.agg [.bool (BB (mD (wv _ _))),.Bh .arg .u32 (Bn (mD (wv _ _))),.int .i64 (eD (wv _ _) _)]) (DV.agg [.bool (BB (mQ (vQ _ _ _))),.Bh .arg .u32 (Bn (mQ (vQ _ _ _))),.int .i64 (eQ (vQ _ _ _))]);exact wq this.1 this.2
 ·cases h
theorem BJ.Value.q.Bi:BJ.Value.q.Kn:=DR.SD (P:=_) (pre:=BJ.Value.pre) (out:=BJ.Value.out) BJ.Value.Bi [] fun ats h=>by
 unfold BJ.Value.q.pre at h;split at h
 ·rename_i x;refine⟨h,?_⟩;have:=AlJ (E8 x) (BO x)
  have e:((E8 x:Int):Rat)*tw (BO x)=DW x:=by unfold E8 BO DW vR;rw[Xg]
  rw[e] at this;show Wk [] (DV.agg [.bool (BB (mD (E8 x))),.Bh .arg .u32 (Bn (mD (E8 x))),.int .i64 (eD (E8 x) (BO x))]) (DV.agg [.bool (BB (mQ (DW x))),.Bh .arg .u32 (Bn (mQ (DW x))),.int .i64 (eQ (DW x))]);exact wq this.1 this.2
 ·cases h
theorem QE:mQ 0=0/\eQ 0=0:=by
 have h:(0:Rat)=((0:Int):Rat)*tw 0:=by have:((0:Int):Rat)=0:=rfl;rw[this]; grind
 obtain⟨h1,h2⟩:=Wd h;exact⟨h1.trans (Jc.2 rfl),h2⟩
theorem AaU:BB (mQ 0)=wy:=by rw[QE.1]; rfl
theorem XI:Bn (mQ 0)=[]:=by rw[QE.1]; rfl
theorem AcZ:Dq 0:=(Dg.zero 0 0 0).dq (by decide) (by decide) (by decide)
theorem WI:vQ wy [] 0=0:=by have:=L7 AcZ;rw[AaU,XI,QE.2] at this;exact this
theorem Tg:S5 wy [] 0=wg:=by have:=XW AcZ;rw[AaU,XI,QE.2] at this;exact this
def dqO(x:Rat):DV:=.agg [.bool (BB (mQ x)),.Bh .arg .u32 (Bn (mQ x)),.int .i64 (eQ x)]
theorem wqO{drops:List Nat}{x:Rat}:Wk drops (dqO x) (dqO x):=wdy
theorem wqN{drops:List Nat}:Wk drops (.agg [.bool wy,.nil,.int .i64 0]) (dqO 0):=by unfold dqO;rw[AaU,XI,QE.2];exact Wk.Gt (.cons .bool (.cons (.nil _ _) (.cons .int .nil)))
theorem Aa5{n k:Nat}{f:Nat->Rat}{g t m:Nat}(h:∀i,Dg g t m (f i))(hg:g<=40000)(ht:t<=40000)(hn:n<=k)(hm:k*m<=1073741824):Dq (F6 n f):=(Dg.LZ hn fun i _=>h i).dq hg ht hm
theorem P4(x:Int):Dq (DW x):=(Dg.wv x).dq (by decide) (by decide) (by decide)
theorem XV(x y:Int):Dq (DW x*DW y):=(Dg.wv2 x y).dq (by decide) (by decide) (by decide)
section
variable{x:Bb}(ax:Bg x=wg)(hx:x.length<=64)
include ax hx
theorem WV(N:Nat):∀k i F,i+k=x.length->k<F->Bv.D0.q.L1 N F x (i:Int) (BB (mQ (F6 i fun j=>DW (x.getD j 0)*DW (x.getD j 0)))) (Bn (mQ (F6 i fun j=>DW (x.getD j 0)*DW (x.getD j 0)))) (eQ (F6 i fun j=>DW (x.getD j 0)*DW (x.getD j 0)))=xM (dqO (Im x)):=by
 intro k
 induction k with
 | zero =>
   intro i F hi hF;obtain⟨F,rfl⟩:∃G,F=G+1:=⟨F-1,by omega⟩
   obtain rfl:i=x.length:=by omega
   rw[Bv.D0.q.BZ,Bw,Ag (by omega),Af];rfl
 | succ k ih =>
   intro i F hi hF;obtain⟨F,rfl⟩:∃G,F=G+1:=⟨F-1,by omega⟩
   have d1:=P4 (x.getD i 0);have d2:=XV (x.getD i 0) (x.getD i 0);have d3:Dq (F6 i fun j=>DW (x.getD j 0)*DW (x.getD j 0)):=Aa5 (k:=64) (m:=1) (fun j=>Dg.wv2 _ _) (by decide) (by decide) (by omega) (by decide);have e1:(i:Int)+1=((i+1:Nat):Int):=by omega
   have hu:=GS ax (show i<x.length by omega);rw[Bv.D0.q.BZ,Bw,Ac (show(i:Int)<(x.length:Int) by omega),Ac (show(0:Int)<=(i:Int) by omega),Ad,Bq (by omega) (by omega),e1];simp only[hu,E7 d1,E7 d2,E7 d3,EL d1,EL d2,EL d3,Ah,Aa];exact ih (i+1) F (by omega) (by omega)
end
theorem Ve(N F:Nat){x:Bb}(h0:0<x.length)(ax:Bg x=wg):Bv.D0.q.L0 N (F+1) x=Bv.D0.q.L1 N F x 1 (BB (mQ (0+DW (x.getD 0 0)*DW (x.getD 0 0)))) (Bn (mQ (0+DW (x.getD 0 0)*DW (x.getD 0 0)))) (eQ (0+DW (x.getD 0 0)*DW (x.getD 0 0))):=by have d1:=P4 (x.getD 0 0);have d2:=XV (x.getD 0 0) (x.getD 0 0);have hu:=GS ax h0;rw[Bv.D0.q.B1,Bw,Ac (show(0:Int)<(x.length:Int) by omega)];simp only[hu,WI,E7 d1,E7 d2,Tg,EL d1,EL d2,Ah,Aa]
theorem Bv.D0.q.Bi:Kq 30 Bv.D0.q.Bk:=D6 Bv.D0.q.E Tryz.func30 (kc Bx.Add.q.Bi (kc Bx.Mul.q.Bi (kc BJ.Value.q.Bi .nil))) fun x hp=>by
 obtain⟨ox,h⟩:=Bf.1 (show(CW x&&CE (x.length<=64))=wg from hp);have hx:=Bt.1 h;have ax:=OZ ox;show ∃N dv drops,_=xM dv/\Wk drops dv (dqO (Im x));by_cases h0:x.length=0
 ·refine⟨1,.agg [.bool wy,.nil,.int .i64 0],[],?_,?_⟩
  ·rw[Bv.D0.q.ev,Bv.D0.q.B1,Bw,Ag (by omega),Af]
  ·have:Im x=0:=by unfold Im; rw[h0]; rfl
   rw[this]; exact wqN
 ·exact⟨66,_,[],(Bv.D0.q.ev 66 x).trans ((Ve 66 65 (by omega) ax).trans (WV ax hx 66 (x.length-1) 1 65 (by omega) (by omega))),wqO⟩
theorem B6.I7.Bi:Kq 8 B6.I7.Bk:=D6 B6.I7.E Tryz.func8 (kc Bv.D0.q.Bi .nil) fun r c l hp=>by obtain⟨al,hr⟩:=Bf.1 (show(Bg l&&B5 r c l)=wg from hp);have hl:=Hf hr;show ∃N dv drops,_=xM dv/\Wk drops dv (dqO (Im l));refine⟨0,_,[],?_,wqO⟩;rw[B6.I7.ev,GN al (by omega),show CE (l.length<=64)=wg from Bt.2 (by omega)];rfl
section
variable{x y:Bb}(ax:Bg x=wg)(ay:Bg y=wg)(hx:x.length<=64)(hy:x.length=y.length)
include ax ay hx hy
theorem AeT(N:Nat):∀k i F,i+k=x.length->k<F->B6.FL.q.L1 N F x y (i:Int) (BB (mQ (F6 i fun j=>DW (x.getD j 0)*DW (y.getD j 0)))) (Bn (mQ (F6 i fun j=>DW (x.getD j 0)*DW (y.getD j 0)))) (eQ (F6 i fun j=>DW (x.getD j 0)*DW (y.getD j 0)))=xM (dqO (XT x y)):=by
 intro k
 induction k with
 | zero =>
   intro i F hi hF;obtain⟨F,rfl⟩:∃G,F=G+1:=⟨F-1,by omega⟩
   obtain rfl:i=x.length:=by omega
   rw[B6.FL.q.BZ,Bw,Ag (by omega),Af];rfl
 | succ k ih =>
   intro i F hi hF;obtain⟨F,rfl⟩:∃G,F=G+1:=⟨F-1,by omega⟩
   have d1:=P4 (x.getD i 0);have d4:=P4 (y.getD i 0);have d2:=XV (x.getD i 0) (y.getD i 0);have d3:Dq (F6 i fun j=>DW (x.getD j 0)*DW (y.getD j 0)):=Aa5 (k:=64) (m:=1) (fun j=>Dg.wv2 _ _) (by decide) (by decide) (by omega) (by decide);have e1:(i:Int)+1=((i+1:Nat):Int):=by omega
   have hu:=GS ax (show i<x.length by omega);have hv:=GS ay (show i<y.length by omega);rw[B6.FL.q.BZ,Bw,Ac (show(i:Int)<(x.length:Int) by omega),Ac (show(i:Int)<(y.length:Int) by omega),Ac (show(0:Int)<=(i:Int) by omega),Ad,Bq (by omega) (by omega),e1];simp only[hu,hv,E7 d1,E7 d2,E7 d3,E7 d4,EL d1,EL d2,EL d3,EL d4,Ah,Aa];exact ih (i+1) F (by omega) (by omega)
end
theorem Ab9(N F:Nat){x y:Bb}(h0:0<x.length)(h1:0<y.length)(ax:Bg x=wg)(ay:Bg y=wg):B6.FL.q.L0 N (F+1) x y=B6.FL.q.L1 N F x y 1 (BB (mQ (0+DW (x.getD 0 0)*DW (y.getD 0 0)))) (Bn (mQ (0+DW (x.getD 0 0)*DW (y.getD 0 0)))) (eQ (0+DW (x.getD 0 0)*DW (y.getD 0 0))):=by have d1:=P4 (x.getD 0 0);have d4:=P4 (y.getD 0 0);have d2:=XV (x.getD 0 0) (y.getD 0 0);have hu:=GS ax h0;have hv:=GS ay h1;rw[B6.FL.q.B1,Bw,Ac (show(0:Int)<(x.length:Int) by omega),Ac (show(0:Int)<(y.length:Int) by omega)];simp only[hu,hv,WI,E7 d1,E7 d2,E7 d4,Tg,EL d1,EL d2,EL d4,Ah,Aa]
theorem B6.FL.q.Bi:Kq 40 B6.FL.q.Bk:=D6 B6.FL.q.E Tryz.func40 (kc Bx.Add.q.Bi (kc Bx.Mul.q.Bi (kc BJ.Value.q.Bi .nil))) fun x y hp=>by
 obtain⟨h1,h⟩:=Bf.1 (show((Bg x&&Bg y)&&CE (x.length=y.length/\x.length<=64))=wg from hp);obtain⟨ax,ay⟩:=Bf.1 h1;obtain⟨hy,hx⟩:=Bt.1 h;show ∃N dv drops,_=xM dv/\Wk drops dv (dqO (XT x y));by_cases h0:x.length=0
 ·refine⟨1,.agg [.bool wy,.nil,.int .i64 0],[],?_,?_⟩
  ·rw[B6.FL.q.ev,B6.FL.q.B1,Bw,Ag (by omega),Af]
  ·have:XT x y=0:=by unfold XT; rw[h0]; rfl
   rw[this]; exact wqN
 ·exact⟨66,_,[],(B6.FL.q.ev 66 x y).trans ((Ab9 66 65 (by omega) (by omega) ax ay).trans (AeT ax ay hx hy 66 (x.length-1) 1 65 (by omega) (by omega))),wqO⟩
open Go Go.Den Go.CI Go.Proofs
theorem TB{y:List (List DV)}{n i:Nat}(h:N2 y n=wg)(hi:i<n):∃z,Dg 2148 4300 100 z/\y.getD i []=dyR z:=by
 obtain⟨_,h2,h3⟩:=Bt.1 h
 have:y.getD i []∈y:=by rw[Al,As (by omega)]; exact ya (by omega)
 exact h3 _ this
theorem Aif{z:Rat}(h:Dg 2148 4300 100 z):Dq z:=h.dq (by decide) (by decide) (by decide)
theorem Aie{x:Int}{z:Rat}(h:Dg 2148 4300 100 z):Dq (DW x*z):=by have:=(Dg.wv x).mul h;exact this.dq (by decide) (by decide) (by decide)
section
variable{x:Bb}{y:List (List DV)}(ax:Bg x=wg)(hy:N2 y x.length=wg)
include ax hy
omit ax in
theorem AiZ(i:Nat)(hi:i<=x.length):Dq (F6 i fun j=>DW (x.getD j 0)*Ph (y.getD j [])):=by
 obtain⟨h1,h2,h3⟩:=Bt.1 hy
 have h:∀j,j<i->Dg 3222 6400 100 (DW (x.getD j 0)*Ph (y.getD j [])):=fun j hj=>by obtain⟨z,hz,e⟩:=TB hy (show j<x.length by omega);rw[e,SV (Aif hz)];exact(Dg.wv _).mul hz
 exact(Dg.LZ (k:=64) (by omega) h).dq (by decide) (by decide) (by decide)
theorem AdE(N:Nat):∀k i F,i+k=x.length->k<F->B6.FN.L1 N F x y (i:Int) (BB (mQ (F6 i fun j=>DW (x.getD j 0)*Ph (y.getD j [])))) (Bn (mQ (F6 i fun j=>DW (x.getD j 0)*Ph (y.getD j [])))) (eQ (F6 i fun j=>DW (x.getD j 0)*Ph (y.getD j [])))=xM (dqO (M9 x y)):=by
 intro k
 induction k with
 | zero =>
   intro i F hi hF;obtain⟨F,rfl⟩:∃G,F=G+1:=⟨F-1,by omega⟩
   obtain rfl:i=x.length:=by omega
   rw[B6.FN.BZ,Bw,Ag (by omega),Af];rfl
 | succ k ih =>
   intro i F hi hF;obtain⟨F,rfl⟩:∃G,F=G+1:=⟨F-1,by omega⟩
   obtain⟨z,hz,ez⟩:=TB hy (show i<x.length by omega);obtain⟨h1,h2,h3⟩:=Bt.1 hy;have d1:=P4 (x.getD i 0);have d4:=Aif hz;have d2:=Aie (x:=x.getD i 0) hz;have d3:=AiZ hy i (by omega);have e1:(i:Int)+1=((i+1:Nat):Int):=by omega
   have hu:=GS ax (show i<x.length by omega);have c0:vB (dyR z) 0 .undef=.bool (BB (mQ z)):=rfl;have c1:vB (dyR z) 1 .undef=.Bh .arg .u32 (Bn (mQ z)):=rfl;have c2:vB (dyR z) 2 .undef=.int .i64 (eQ z):=rfl;have b0:Wl .b (.bool (BB (mQ z)))=wg:=rfl;have b1:Wl (.s .u32) (.Bh .arg .u32 (Bn (mQ z)))=wg:=rfl;have b2:Wl (.i .i64) (.int .i64 (eQ z))=wg:=rfl;have v0:J3 (.bool (BB (mQ z)))=BB (mQ z):=rfl;have v1:GC (.Bh .arg .u32 (Bn (mQ z)))=Bn (mQ z):=rfl;have v2:JT (.int .i64 (eQ z))=eQ z:=rfl
   have es:(F6 i fun j=>DW (x.getD j 0)*Ph (y.getD j []))+DW (x.getD i 0)*z=F6 (i+1) fun j=>DW (x.getD j 0)*Ph (y.getD j []):=by show _=(F6 i fun j=>DW (x.getD j 0)*Ph (y.getD j []))+DW (x.getD i 0)*Ph (y.getD i []);rw[ez,SV d4]
   rw[B6.FN.BZ,Bw,Ac (show(i:Int)<(x.length:Int) by omega),Ac (show(i:Int)<(y.length:Int) by omega),Ac (show(0:Int)<=(i:Int) by omega),Ad,Bq (by omega) (by omega),e1,ez,c0,c1,c2,b0,b1,b2,v0,v1,v2];simp only[hu,E7 d1,E7 d2,E7 d3,E7 d4,EL d1,EL d2,EL d3,EL d4,Ah,Aa,es];exact ih (i+1) F (by omega) (by omega)
end
theorem Aax(N F:Nat){x:Bb}{y:List (List DV)}(ax:Bg x=wg)(hy:N2 y x.length=wg)(h0:0<x.length):B6.FN.L0 N (F+1) x y=B6.FN.L1 N F x y 1 (BB (mQ (F6 1 fun j=>DW (x.getD j 0)*Ph (y.getD j [])))) (Bn (mQ (F6 1 fun j=>DW (x.getD j 0)*Ph (y.getD j [])))) (eQ (F6 1 fun j=>DW (x.getD j 0)*Ph (y.getD j []))):=by
 obtain⟨_,h2,_⟩:=Bt.1 hy;obtain⟨z,hz,ez⟩:=TB hy (show 0<x.length by omega);have d1:=P4 (x.getD 0 0);have d4:=Aif hz;have d2:=Aie (x:=x.getD 0 0) hz;have hu:=GS ax (show 0<x.length by omega);have c0:vB (dyR z) 0 .undef=.bool (BB (mQ z)):=rfl;have c1:vB (dyR z) 1 .undef=.Bh .arg .u32 (Bn (mQ z)):=rfl;have c2:vB (dyR z) 2 .undef=.int .i64 (eQ z):=rfl;have b0:Wl .b (.bool (BB (mQ z)))=wg:=rfl;have b1:Wl (.s .u32) (.Bh .arg .u32 (Bn (mQ z)))=wg:=rfl;have b2:Wl (.i .i64) (.int .i64 (eQ z))=wg:=rfl;have v0:J3 (.bool (BB (mQ z)))=BB (mQ z):=rfl;have v1:GC (.Bh .arg .u32 (Bn (mQ z)))=Bn (mQ z):=rfl;have v2:JT (.int .i64 (eQ z))=eQ z:=rfl
 have es:0+DW (x.getD 0 0)*z=F6 1 fun j=>DW (x.getD j 0)*Ph (y.getD j []):=by show _=0+DW (x.getD 0 0)*Ph (y.getD 0 []);rw[ez,SV d4]
 rw[B6.FN.B1,Bw,Ac (show(0:Int)<(x.length:Int) by omega),Ac (show(0:Int)<(y.length:Int) by omega),ez,c0,c1,c2,b0,b1,b2,v0,v1,v2];simp only[hu,WI,E7 d1,E7 d2,E7 d4,Tg,EL d1,EL d2,EL d4,Ah,Aa,es]
theorem B6.FN.Bi:B6.FN.Kn:=B6.FN.DF (kc Bx.Add.q.Bi (kc Bx.Mul.q.Bi (kc BJ.Value.q.Bi .nil))) fun x y hp=>by
 obtain⟨ax,hy⟩:=Bf.1 (show(Bg x&&N2 y x.length)=wg from hp);obtain⟨hx,h2,h3⟩:=Bt.1 hy;show ∃N dv drops,_=xM dv/\Wk drops dv (dqO (M9 x y));by_cases h0:x.length=0
 ·refine⟨1,.agg [.bool wy,.nil,.int .i64 0],[],?_,?_⟩
  ·rw[B6.FN.ev,B6.FN.B1,Bw,Ag (by omega),Af]
  ·have:M9 x y=0:=by unfold M9; rw[h0]; rfl
   rw[this]; exact wqN
 ·exact⟨66,_,[],(B6.FN.ev 66 x y).trans ((Aax 66 65 ax hy (by omega)).trans (AdE ax hy 66 (x.length-1) 1 65 (by omega) (by omega))),wqO⟩
theorem AlY{y:Rat}{k:Nat}(h:Ds y)(hk:k<=2000):Dq (y*tw (-(k:Int)))/\Dq (y*tw (-(k:Int))+tw (-4000)):=by obtain⟨g,t,n,h1,h2,h3,h⟩:=h;have s:=h.scale k;refine⟨s.dq (by omega) (by omega) (by omega),?_⟩;have a:=s.up (20000-(g+k));rw[show g+k+(20000-(g+k))=20000 by omega] at a;have b:=(Dg.tw 4000).up 16000;have c:=(a.wide (s:=40000) (by omega)).add (b.wide (s:=40000) (by omega));exact c.dq (by omega) (by omega) (by omega)
theorem B6.HX.Bi:Kq 11 B6.HX.Bk:=D6 B6.HX.E Tryz.func11 (kc Bp.Of.Bi (kc Bx.Add.q.Bi (kc Bx.Compare.q.Bi (kc Bx.Of.q.Bi (kc Bx.Dx.q.Bi .nil))))) fun n a e m b f k hp=>by
 obtain⟨h1,h2⟩:=Bf.1 (show((dsB n a e&&dsB m b f)&&CE (0<=k/\k<=1000))=wg from hp);obtain⟨h3,h4⟩:=Bf.1 h1;obtain⟨x,hx,rfl,rfl,rfl⟩:=AcY h3;obtain⟨y,hy,rfl,rfl,rfl⟩:=AcY h4;have hk:=Bt.1 h2;obtain⟨j,rfl⟩:∃j:Nat,k=j:=⟨k.toNat,by omega⟩
 have dx:=hx.dq;have dy:=hy.dq;obtain⟨l1,l2⟩:=AlY (k:=2*j) hy (by omega);have ej:(-2*(j:Int))=-((2*j:Nat):Int):=by omega
 have e1:Be ((0:Int)-Be ((2:Int)*(j:Int)))=-((2*j:Nat):Int):=by rw[Bq (x:=2*(j:Int)) (by omega) (by omega),Bq (by omega) (by omega)]; omega
 have t4:Dq (tw (-4000)):=(Dg.tw 4000).dq (by decide) (by decide) (by decide)
 have v1:vQ (BB 1) (Bn 1) (-4000)=tw (-4000):=by unfold vQ;rw[EE];have:((1:Int):Rat)=1:=rfl;rw[this]; grind
 refine⟨0,B6.HX.out [.b (BB (mQ x)),.l (Bn (mQ x)),.i (eQ x),.b (BB (mQ y)),.l (Bn (mQ y)),.i (eQ y),.i (j:Int)],[],?_,.bool⟩;show _=xM (DV.bool (decide (vQ (BB (mQ x)) (Bn (mQ x)) (eQ x)<=vQ (BB (mQ y)) (Bn (mQ y)) (eQ y)*tw (-2*(j:Int))+tw (-4000))));have i1:Wm (1:Int)=wg:=Bt.2 (by decide);have w1:IS (BB (1:Int)) (Bn (1:Int))=wg:=Hj (by decide);have c1:CE (-5000<=(-4000:Int)/\(-4000:Int)<=5000)=wg:=Bt.2 (by decide);have c2:CE (-2000<=-((2*j:Nat):Int)/\-((2*j:Nat):Int)<=2000)=wg:=Bt.2 (by omega);rw[B6.HX.ev,e1,ej];simp only[E7 dx,E7 dy,v1,E7 l1,E7 l2,E7 t4,EL dx,EL dy,EL l1,EL l2,EL t4,i1,w1,c1,c2,Ah,Aa,DX];congr 2;exact decide_eq_decide.2 (Akx _ _)
section
variable{C K:Nat}{l m h:Bb}
theorem Ajo{R:Nat}(hl:l.length=R*C){i j:Nat}(hi:i<R)(hj:j<C):(Ee (C:Int) l (i:Int)).getD j 0=Cc (C:Int) l (i:Int) (j:Int):=by rw[NU hl hi,Al,AW,yA hj];rfl
theorem HF{R:Nat}(hl:l.length=R*C){i:Nat}(hi:i<R):(Ee (C:Int) l (i:Int)).length=C:=by rw[NU hl hi,AK,AH]
theorem Ant{i:Int}(al:Bg l=wg):Bg (Ee (C:Int) l i)=wg:=by
 refine Bt.2 fun z hz=>?_
 unfold Ee at hz;exact Bt.1 al z (List.mem_of_mem_take (yn hz))
theorem YM{b n j:Nat}(hj:j<n):(Cb (K:Int) m (b:Int) 0 n).getD j 0=Cc (K:Int) m (j:Int) (b:Int):=by rw[Xj hj,xf]
theorem AcJ{R:Nat}(hl:l.length=R*C){i k:Nat}(hi:i<R):XT (Ee (C:Int) l (i:Int)) (Cb (K:Int) m (k:Int) 0 C)-DW (Cc (K:Int) h (i:Int) (k:Int))=Px C l m h K i k:=by unfold XT Px;rw[HF hl hi,IC C fun j hj=>by rw[Ajo hl hi hj,YM hj]]
theorem AnC(x y:Bb)(hx:x.length<=64):Dq (XT x y):=Aa5 (k:=64) (m:=1) (fun j=>Dg.wv2 _ _) (by decide) (by decide) hx (by decide)
theorem An4{i k:Nat}(hC:C<=6):Dq (Px C l m h K i k):=(Dg.lk hC).dq (by decide) (by decide) (by decide)
def EY(C:Nat)(l m h:Bb)(K k i:Nat):List (List DV):=(zg i).map fun j=>dyR (Px C l m h K j k)
theorem RP(k i:Nat):(EY C l m h K k i).length=i:=by unfold EY; rw[AK,AH]
theorem Uw(k i:Nat):EY C l m h K k i++[dyR (Px C l m h K i k)]=EY C l m h K k (i+1):=by unfold EY;rw[List.range_succ,List.map_append];rfl
theorem AeC{k i j:Nat}(hj:j<i):(EY C l m h K k i).getD j []=dyR (Px C l m h K j k):=by unfold EY;rw[Al,AW,yA hj];rfl
theorem Ah1{k i:Nat}(hC:C<=6)(hi:i<=64):N2 (EY C l m h K k i) i=wg:=by refine Bt.2 ⟨hi,RP k i,fun r hr=>?_⟩;unfold EY at hr;obtain⟨j,_,rfl⟩:=zu.1 hr;exact⟨_,((Dg.lk hC).mono (by decide)).wide (by decide),rfl⟩
def OR(R C:Nat)(l m h:Bb)(K k j:Nat):Rat:=(F6 R fun i=>DW (Cc (C:Int) l (i:Int) (j:Int))*Px C l m h K i k)*(F6 R fun i=>DW (Cc (C:Int) l (i:Int) (j:Int))*Px C l m h K i k)
theorem XO{R j k:Nat}(hC:C<=6):M9 (Cb (C:Int) l (j:Int) 0 R) (EY C l m h K k R)=F6 R fun i=>DW (Cc (C:Int) l (i:Int) (j:Int))*Px C l m h K i k:=by unfold M9;rw[FF];exact IC R fun i hi=>by rw[YM hi,AeC hi,SV (An4 hC)]
theorem AhE{R j k:Nat}(hR:R<=6)(hC:C<=6):Dg 6444 12600 1764 (OR R C l m h K k j):=(Dg.grow hR hC).mul (Dg.grow hR hC)
theorem AhD{R:Nat}(hR:R<=6)(hC:C<=6){j k:Nat}(hj:j<=6)(hk:k<=6):Dg 6444 12600 74088 ((F6 k fun a=>F6 C fun b=>OR R C l m h K a b)+F6 j fun b=>OR R C l m h K k b) :=(Dg.LZ (m:=10584) hk fun a _=>Dg.LZ (m:=1764) hC fun b _=>AhE hR hC).add (Dg.LZ (m:=1764) hj fun b _=>AhE hR hC)
end
section
variable{R C K:Nat}{l m h:Bb}(r6:R<=6)(c6:C<=6)(k6:K<=6)(hl:l.length=R*C)(hm:m.length=C*K)(hh:h.length=R*K)(al:Bg l=wg)(am:Bg m=wg)(ah:Bg h=wg)
include r6 c6 k6 hl hm hh al am ah
theorem Zx{i k:Nat}(hi:i<R)(hk:k<K):KY (R:Int) (C:Int) l (i:Int)=wg/\(EM (C:Int) (K:Int) m (k:Int)&&CE (0<=(0:Int)/\(0:Int)<=(C:Int)))=wg /\
 ((Bg (Ee (C:Int) l (i:Int))&&Bg (Cb (K:Int) m (k:Int) 0 C))&&CE (vA (Ee (C:Int) l (i:Int))=vA (Cb (K:Int) m (k:Int) 0 C)/\vA (Ee (C:Int) l (i:Int))<=64))=wg /\
 Db (R:Int) (K:Int) h (i:Int) (k:Int)=wg/\Bo (Cc (K:Int) h (i:Int) (k:Int))=wg /\
 Dq (XT (Ee (C:Int) l (i:Int)) (Cb (K:Int) m (k:Int) 0 C)):=by
 refine⟨?_,?_,?_,Dl r6 k6 hh hi hk,FT ah,AnC _ _ (by rw[HF hl hi]; omega)⟩
 ·unfold KY;rw[D8 r6 c6 hl,AR];exact Bt.2 ⟨by omega,by omega⟩
 ·unfold EM;rw[D8 c6 k6 hm,AR,Bf];exact⟨Bt.2 ⟨by omega,by omega⟩,Bt.2 ⟨by decide,by omega⟩⟩
 ·rw[Ant al,HU am,Ah,AR];exact Bt.2 ⟨by rw[HF hl hi,FF],by rw[HF hl hi]; omega⟩
theorem Akg(N M0:Nat){k:Nat}(hk:k<K):∀d i F,i+d=R->d<F ->
 B6.BD.L1 N M0 F (R:Int) (C:Int) l (C:Int) (K:Int) m (R:Int) (K:Int) h (i:Int) (EY C l m h K k i) (k:Int)=B6.BD.L3 N M0 N (R:Int) (C:Int) l (C:Int) (K:Int) m (R:Int) (K:Int) h (k:Int) (EY C l m h K k R):=by
 intro d
 induction d with
 | zero =>
   intro i F hi hF;obtain⟨F,rfl⟩:∃G,F=G+1:=⟨F-1,by omega⟩
   obtain rfl:i=R:=by omega
   rw[B6.BD.BZ,Bw,Ag (by omega),Af]
 | succ d ih =>
   intro i F hi hF;obtain⟨F,rfl⟩:∃G,F=G+1:=⟨F-1,by omega⟩
   obtain⟨p1,p2,p3,p4,p5,p6⟩:=Zx r6 c6 k6 hl hm hh al am ah (show i<R by omega) hk;have dw:=P4 (Cc (K:Int) h (i:Int) (k:Int));have e1:(i:Int)+1=((i+1:Nat):Int):=by omega
   have eC:wz ((C:Int)-0)=C:=by rw[xe,Ad]
   have lk:=AcJ (C:=C) (K:=K) (m:=m) (h:=h) (k:=k) hl (show i<R by omega);have ll:decide ((EY C l m h K k i).length+1<=QL)=wg:=Ac (by rw[RP]; unfold QL; omega);rw[B6.BD.BZ,Bw,Ac (show(i:Int)<(R:Int) by omega),Aa,p1,Aa,p2,Aa,eC,p3,Aa,p4,Aa,p5,Aa,EL p6,EL dw,Ah,Aa,ll,Aa,E7 p6,E7 dw,lk,Bq (by omega) (by omega),e1];exact(congrArg (fun z=>B6.BD.L1 N M0 F (R:Int) (C:Int) l (C:Int) (K:Int) m (R:Int) (K:Int) h ((i+1:Nat):Int) z (k:Int)) (Uw k i)).trans (ih (i+1) F (by omega) (by omega))
theorem Akf(N M0:Nat){k:Nat}(hk:k<K)(s:Rat):∀d i F,i+d=R->d<F ->
 B6.BD.L2 N M0 F (R:Int) (C:Int) l (C:Int) (K:Int) m (R:Int) (K:Int) h (i:Int) (EY C l m h K k i) (k:Int) (BB (mQ s)) (Bn (mQ s)) (eQ s)=B6.BD.L5 N M0 N (R:Int) (C:Int) l (C:Int) (K:Int) m (R:Int) (K:Int) h (k:Int) (BB (mQ s)) (Bn (mQ s)) (eQ s) (EY C l m h K k R):=by
 intro d
 induction d with
 | zero =>
   intro i F hi hF;obtain⟨F,rfl⟩:∃G,F=G+1:=⟨F-1,by omega⟩
   obtain rfl:i=R:=by omega
   rw[B6.BD.EU,Bw,Ag (by omega),Af]
 | succ d ih =>
   intro i F hi hF;obtain⟨F,rfl⟩:∃G,F=G+1:=⟨F-1,by omega⟩
   obtain⟨p1,p2,p3,p4,p5,p6⟩:=Zx r6 c6 k6 hl hm hh al am ah (show i<R by omega) hk;have dw:=P4 (Cc (K:Int) h (i:Int) (k:Int));have e1:(i:Int)+1=((i+1:Nat):Int):=by omega
   have eC:wz ((C:Int)-0)=C:=by rw[xe,Ad]
   have lk:=AcJ (C:=C) (K:=K) (m:=m) (h:=h) (k:=k) hl (show i<R by omega);have ll:decide ((EY C l m h K k i).length+1<=QL)=wg:=Ac (by rw[RP]; unfold QL; omega);rw[B6.BD.EU,Bw,Ac (show(i:Int)<(R:Int) by omega),Aa,p1,Aa,p2,Aa,eC,p3,Aa,p4,Aa,p5,Aa,EL p6,EL dw,Ah,Aa,ll,Aa,E7 p6,E7 dw,lk,Bq (by omega) (by omega),e1];exact(congrArg (fun z=>B6.BD.L2 N M0 F (R:Int) (C:Int) l (C:Int) (K:Int) m (R:Int) (K:Int) h ((i+1:Nat):Int) z (k:Int) (BB (mQ s)) (Bn (mQ s)) (eQ s)) (Uw k i)).trans (ih (i+1) F (by omega) (by omega))
omit k6 hm hh am ah in
theorem Abu{j k:Nat}(hj:j<C):(EM (R:Int) (C:Int) l (j:Int)&&CE (0<=(0:Int)/\(0:Int)<=(R:Int)))=wg /\
 (Bg (Cb (C:Int) l (j:Int) 0 R)&&N2 (EY C l m h K k R) (vA (Cb (C:Int) l (j:Int) 0 R)))=wg/\Dq (F6 R fun i=>DW (Cc (C:Int) l (i:Int) (j:Int))*Px C l m h K i k)/\Dq (OR R C l m h K k j):=by
 refine⟨?_,?_,(Dg.grow r6 c6).dq (by decide) (by decide) (by decide),(AhE r6 c6).dq (by decide) (by decide) (by decide)⟩
 ·unfold EM;rw[D8 r6 c6 hl,AR,Bf];exact⟨Bt.2 ⟨by omega,by omega⟩,Bt.2 ⟨by decide,by omega⟩⟩
 ·rw[HU al,FF,Ah1 c6 (by omega)]; rfl
omit hh am ah in
theorem AcM(N M0:Nat){k:Nat}(hk:k<K):∀d j F,j+d=C->d<F->∀s,s=(F6 k fun a=>F6 C fun b=>OR R C l m h K a b)+F6 j (fun b=>OR R C l m h K k b) ->
 B6.BD.L4 N M0 F (R:Int) (C:Int) l (C:Int) (K:Int) m (R:Int) (K:Int) h (j:Int) (BB (mQ s)) (Bn (mQ s)) (eQ s) (k:Int) (EY C l m h K k R)=
 B6.BD.L6 N M0 (R:Int) (C:Int) l (C:Int) (K:Int) m (R:Int) (K:Int) h ((k+1:Nat):Int) (BB (mQ (F6 (k+1) fun a=>F6 C fun b=>OR R C l m h K a b))) (Bn (mQ (F6 (k+1) fun a=>F6 C fun b=>OR R C l m h K a b))) (eQ (F6 (k+1) fun a=>F6 C fun b=>OR R C l m h K a b)):=by
 intro d
 induction d with
 | zero =>
   intro j F hj hF s hs;obtain⟨F,rfl⟩:∃G,F=G+1:=⟨F-1,by omega⟩
   obtain rfl:j=C:=by omega
   have e:s=F6 (k+1) fun a=>F6 j fun b=>OR R j l m h K a b:=hs
   rw[B6.BD.Ad0,Bw,Ag (by omega),Af,Bq (by omega) (by omega),e];rfl
 | succ d ih =>
   intro j F hj hF s hs;obtain⟨F,rfl⟩:∃G,F=G+1:=⟨F-1,by omega⟩
   obtain⟨p1,p2,p3,p4⟩:=Abu (k:=k) r6 c6 hl al (show j<C by omega);have ds:Dq s:=by rw[hs]; exact(AhD r6 c6 (by omega) (by omega)).dq (by decide) (by decide) (by decide)
   have e1:(j:Int)+1=((j+1:Nat):Int):=by omega
   have eR:wz ((R:Int)-0)=R:=by rw[xe,Ad]
   have eg:(F6 R fun i=>DW (Cc (C:Int) l (i:Int) (j:Int))*Px C l m h K i k)*(F6 R fun i=>DW (Cc (C:Int) l (i:Int) (j:Int))*Px C l m h K i k)=OR R C l m h K k j:=rfl;rw[B6.BD.Ad0,Bw,Ac (show(j:Int)<(C:Int) by omega),Aa,p1,Aa,eR,p2,Aa,XO c6,EL p3,Ah,Aa,E7 p3,eg,XW ds,EL p4,Ah,Aa,L7 ds,E7 p4,Bq (by omega) (by omega),e1];refine ih (j+1) F (by omega) (by omega) _ ?_;rw[hs];show _=_+(F6 j (fun b=>OR R C l m h K k b)+OR R C l m h K k j)
   grind
omit hh am ah in
theorem Ake(N M0 F:Nat){k:Nat}(hk:k<K)(hF:C<F):∀s,s=(F6 k fun a=>F6 C fun b=>OR R C l m h K a b) ->
 B6.BD.L5 N M0 F (R:Int) (C:Int) l (C:Int) (K:Int) m (R:Int) (K:Int) h (k:Int) (BB (mQ s)) (Bn (mQ s)) (eQ s) (EY C l m h K k R)=
 B6.BD.L6 N M0 (R:Int) (C:Int) l (C:Int) (K:Int) m (R:Int) (K:Int) h ((k+1:Nat):Int) (BB (mQ (F6 (k+1) fun a=>F6 C fun b=>OR R C l m h K a b))) (Bn (mQ (F6 (k+1) fun a=>F6 C fun b=>OR R C l m h K a b))) (eQ (F6 (k+1) fun a=>F6 C fun b=>OR R C l m h K a b)):=by
 intro s hs;obtain⟨F,rfl⟩:∃G,F=G+1:=⟨F-1,by omega⟩
 by_cases h0:C=0
 ·have e:s=F6 (k+1) fun a=>F6 C fun b=>OR R C l m h K a b:=by
   rw[hs];show _=_+F6 C _;subst h0;show _=_+(0:Rat)
   grind
  rw[B6.BD.Adz,Bw,Ag (by omega),Af,Bq (by omega) (by omega),e];rfl
 ·obtain⟨p1,p2,p3,p4⟩:=Abu (k:=k) r6 c6 hl al (show 0<C by omega)
  have ds:Dq s:=by
   have:=(AhD (l:=l) (m:=m) (h:=h) (K:=K) r6 c6 (j:=0) (k:=k) (by omega) (by omega)).dq (by decide) (by decide) (by decide)
   have e:s=(F6 k fun a=>F6 C fun b=>OR R C l m h K a b)+F6 0 fun b=>OR R C l m h K k b:=by rw[hs]; show _=_+(0:Rat); grind
   rw[e]; exact this
  have eR:wz ((R:Int)-0)=R:=by rw[xe,Ad]
  have p1:(EM (R:Int) (C:Int) l 0&&CE (0<=(0:Int)/\(0:Int)<=(R:Int)))=wg:=p1;have p2:(Bg (Cb (C:Int) l 0 0 R)&&N2 (EY C l m h K k R) (vA (Cb (C:Int) l 0 0 R)))=wg:=p2;have g0:M9 (Cb (C:Int) l 0 0 R) (EY C l m h K k R)=F6 R fun i=>DW (Cc (C:Int) l (i:Int) ((0:Nat):Int))*Px C l m h K i k:=XO (j:=0) c6
  have eg:(F6 R fun i=>DW (Cc (C:Int) l (i:Int) ((0:Nat):Int))*Px C l m h K i k)*(F6 R fun i=>DW (Cc (C:Int) l (i:Int) ((0:Nat):Int))*Px C l m h K i k)=OR R C l m h K k 0:=rfl;rw[B6.BD.Adz,Bw,Ac (show(0:Int)<(C:Int) by omega),Aa,p1,Aa,eR,p2,Aa,g0,EL p3,Ah,Aa,E7 p3,eg,XW ds,EL p4,Ah,Aa,L7 ds,E7 p4];refine AcM r6 c6 k6 hl hm al N M0 hk (C-1) 1 F (by omega) (by omega) _ ?_;rw[hs];show _=_+((0:Rat)+OR R C l m h K k 0)
  grind
theorem Akd(N:Nat)(hN:7<N):∀d k F,k+d=K->d<F ->
 B6.BD.L6 N F (R:Int) (C:Int) l (C:Int) (K:Int) m (R:Int) (K:Int) h (k:Int) (BB (mQ (F6 k fun a=>F6 C fun b=>OR R C l m h K a b))) (Bn (mQ (F6 k fun a=>F6 C fun b=>OR R C l m h K a b))) (eQ (F6 k fun a=>F6 C fun b=>OR R C l m h K a b))=
 xM (dqO (F6 K fun a=>F6 C fun b=>OR R C l m h K a b)):=by
 intro d
 induction d with
 | zero =>
   intro k F hk hF;obtain⟨F,rfl⟩:∃G,F=G+1:=⟨F-1,by omega⟩
   obtain rfl:k=K:=by omega
   rw[B6.BD.Ady,Bw,Ag (by omega),Af];rfl
 | succ d ih =>
   intro k F hk hF;obtain⟨F,rfl⟩:∃G,F=G+1:=⟨F-1,by omega⟩
   rw[B6.BD.Ady,Bw,Ac (show(k:Int)<(K:Int) by omega),Aa]
   exact(Akf r6 c6 k6 hl hm hh al am ah N F (show k<K by omega) _ R 0 N (by omega) (by omega)).trans
    ((Ake r6 c6 k6 hl hm al N F N (by omega) (by omega) _ rfl).trans (ih (k+1) F (by omega) (by omega)))
theorem Akh(N:Nat)(hN:7<N):∀d k F,k+d=K->d<F->(F6 k fun a=>F6 C fun b=>OR R C l m h K a b)=0 ->
 ∃dv,B6.BD.L0 N F (R:Int) (C:Int) l (C:Int) (K:Int) m (R:Int) (K:Int) h (k:Int)=xM dv/\Wk [] dv (dqO (F6 K fun a=>F6 C fun b=>OR R C l m h K a b)):=by
 intro d
 induction d with
 | zero =>
   intro k F hk hF h0;obtain⟨F,rfl⟩:∃G,F=G+1:=⟨F-1,by omega⟩
   obtain rfl:k=K:=by omega
   refine⟨_,by rw[B6.BD.B1,Bw,Ag (by omega),Af],?_⟩;rw[h0]; exact wqN
 | succ d ih =>
   intro k F hk hF h0;obtain⟨F,rfl⟩:∃G,F=G+1:=⟨F-1,by omega⟩
   rw[B6.BD.B1,Bw,Ac (show(k:Int)<(K:Int) by omega),Aa];have hL1:B6.BD.L1 N F N (R:Int) (C:Int) l (C:Int) (K:Int) m (R:Int) (K:Int) h 0 [] (k:Int)=B6.BD.L3 N F N (R:Int) (C:Int) l (C:Int) (K:Int) m (R:Int) (K:Int) h (k:Int) (EY C l m h K k R):=Akg r6 c6 k6 hl hm hh al am ah N F (show k<K by omega) R 0 N (by omega) (by omega);rw[hL1];obtain⟨G,hG⟩:∃G,N=G+1:=⟨N-1,by omega⟩
   have hL3:B6.BD.L3 N F N (R:Int) (C:Int) l (C:Int) (K:Int) m (R:Int) (K:Int) h (k:Int) (EY C l m h K k R)=B6.BD.L3 N F (G+1) (R:Int) (C:Int) l (C:Int) (K:Int) m (R:Int) (K:Int) h (k:Int) (EY C l m h K k R):=congrArg (fun z=>B6.BD.L3 N F z (R:Int) (C:Int) l (C:Int) (K:Int) m (R:Int) (K:Int) h (k:Int) (EY C l m h K k R)) hG;rw[hL3,B6.BD.Ro];by_cases c0:C=0
   ·rw[Bw,Ag (by omega),Af,Bq (by omega) (by omega)];refine ih (k+1) F (by omega) (by omega) ?_;show _+F6 C _=0;rw[h0];subst c0;show 0+(0:Rat)=0;grind
   ·obtain⟨p1,p2,p3,p4⟩:=Abu (k:=k) r6 c6 hl al (show 0<C by omega);have eR:wz ((R:Int)-0)=R:=by rw[xe,Ad]
    have p1:(EM (R:Int) (C:Int) l 0&&CE (0<=(0:Int)/\(0:Int)<=(R:Int)))=wg:=p1;have p2:(Bg (Cb (C:Int) l 0 0 R)&&N2 (EY C l m h K k R) (vA (Cb (C:Int) l 0 0 R)))=wg:=p2;have g0:M9 (Cb (C:Int) l 0 0 R) (EY C l m h K k R)=F6 R fun i=>DW (Cc (C:Int) l (i:Int) ((0:Nat):Int))*Px C l m h K i k:=XO (j:=0) c6
    have eg:(F6 R fun i=>DW (Cc (C:Int) l (i:Int) ((0:Nat):Int))*Px C l m h K i k)*(F6 R fun i=>DW (Cc (C:Int) l (i:Int) ((0:Nat):Int))*Px C l m h K i k)=OR R C l m h K k 0:=rfl
    have es:(0:Rat)+OR R C l m h K k 0=(F6 k fun a=>F6 C fun b=>OR R C l m h K a b)+F6 1 fun b=>OR R C l m h K k b:=by
     rw[h0];show _=0+((0:Rat)+OR R C l m h K k 0)
     grind
    rw[Bw,Ac (show(0:Int)<(C:Int) by omega),Aa,p1,Aa,eR,p2,Aa,g0,EL p3,Ah,Aa,E7 p3,eg,Tg,EL p4,Ah,Aa,WI,E7 p4];have h4:=AcM r6 c6 k6 hl hm al N F (show k<K by omega) (C-1) 1 G (by omega) (by omega) _ es;have h6:=Akd r6 c6 k6 hl hm hh al am ah N hN d (k+1) F (by omega) (by omega);exact⟨_,h4.trans h6,wqO⟩
end
theorem AhC(R C K:Nat)(l m h:Bb):Jr R C K l m h=F6 K fun a=>F6 C fun b=>OR R C l m h K a b:=rfl
theorem B6.BD.Bi:B6.BD.Kn:=B6.BD.DF (kc Bx.Add.q.Bi (kc Bx.Mul.q.Bi (kc Bx.Sub.q.Bi (kc BJ.Value.q.Bi (kc B3.At.Bi (kc B3.P7.Bi (kc B3.Row.Bi (kc B6.FL.q.Bi (kc B6.FN.Bi .nil))))))))) fun r c l p q m u v h hp=>by
 obtain⟨h1,h2⟩:=Bf.1 (show(((B5 r c l&&B5 p q m)&&(B5 u v h&&(Bg l&&(Bg m&&Bg h))))&&decide (p=c/\u=r/\v=q))=wg from hp);obtain⟨h3,h4⟩:=Bf.1 h1;obtain⟨hl,hm⟩:=Bf.1 h3;obtain⟨hh,h5⟩:=Bf.1 h4;obtain⟨al,h6⟩:=Bf.1 h5;obtain⟨am,ah⟩:=Bf.1 h6;obtain⟨rfl,rfl,rfl⟩:=A3 h2;obtain⟨R,C,rfl,rfl,r6,c6,ll⟩:=CU hl;obtain⟨P,K,eP,rfl,_,k6,lm⟩:=CU hm;obtain rfl:P=C:=by omega
 obtain⟨U,V,eU,eV,_,_,lh⟩:=CU hh;obtain rfl:U=R:=by omega
 obtain rfl:V=K:=by omega
 obtain⟨dv,e,w⟩:=Akh r6 c6 k6 ll lm lh al am ah 8 (by omega) V 0 8 (by omega) (by omega) rfl;refine⟨8,dv,[],(B6.BD.ev 8 _ _ _ _ _ _ _ _ _).trans e,?_⟩;show Wk [] dv (dqO (Jr (wz (U:Int)) (wz (P:Int)) (wz (V:Int)) l m h));rw[Ad,Ad,Ad,AhC];exact w
end Go.Proofs.S1
namespace Go.CI
open Go.Den
theorem AjC{k:Nat}{x:Bb}(hk:k+4<=1000)(hx:Bl k x)(hl:x.length<=7)(h0:x.length≠0):(BV x).2.2.2=0:=by
 unfold BV;have hf:=hx.Is;rw[Ay (by omega),Az hf];unfold I2;by_cases h3:CX (x.drop 1)=wg
 ·rw[Az h3]
 ·rw[Ay h3];have hs:=OX h3;obtain⟨m1,-⟩:=VZ hf hl hs
  have hb:Bd (k+4) (DK x).toNat:=by unfold DK;rw[DD];exact Bd.scale (by omega) m1 (by have:=AhU hx hs; omega)
  rw[Az (show CO (DK x)=wg from hb.fin)]
theorem Adb{r c:Nat}(hr:r<=7):∀(n j k:Nat) (l:Bb),Bl k l->Bg l=wg->k+11*n<=990->j+n<r->∃x,FZ r c n j l=xM x
 | 0,_,_,l,_,_,_,_=>⟨(l,[]),rfl⟩
 | n+1,j,k,l,hl,al,hk,hj=>by
   have h1:(BV (CT r c l j)).2.2.2=0:=by
    have e:(CT r c l j).length=r-j:=by unfold CT; rw[FF]
    exact AjC (k:=k) (by omega) (T6 hl) (by omega) (by omega)
   obtain⟨b1,-⟩:=XC (by omega) hl al hr h1;obtain⟨x,hx⟩:=Adb (c:=c) hr n (j+1) (k+11) _ b1 (LL al j) (by omega) (by omega);refine⟨(x.1,((BV (CT r c l j)).1,(BV (CT r c l j)).2.1)::x.2),?_⟩;unfold FZ;rw[Az h1,hx];rfl
theorem Aia{r c:Nat}(h:r≠0):0+Er r c<r:=by unfold Er; omega
theorem Amd{r c:Nat}{l:Bb}(hr:r<=6)(h:Bl 60 l)(al:Bg l=wg):∃x,Gw r c l=xM x:=by
 unfold Gw;by_cases h0:r=0
 ·have:Er r c=0:=by unfold Er; omega
  rw[this]; exact⟨_,rfl⟩
 ·have h5:Er r c<=5:=by unfold Er; omega
  exact Adb (by omega) _ 0 60 l h al (by omega) (Aia h0)
def dl(a m:Nat):Rat:=if a=m then 1 else 0
section
variable{r c j k b K:Nat}{q v:Bb}{t:Int}{s:Rat}
theorem Alz(hn:j+(k+1)=r)(hr:r<=6)(hb:b<r)(aq:Bg q=wg)(hq:Bl K q)(hK:K<=900)(vl:v.length=k+1)(mb1:Bl 1 v)(mb2:Bd 5 t.toNat)(M:Mi r (vx j (rv v)) (vR t.toNat))(hs:Ln r (cl r q b) s):
 Ln r (fun i=>cl r (Eh r r q (j:Int) 0 v t) b i-vH r (vx j (rv v)) (vR t.toNat) (cl r q b) i) (120*uR*s+100*Cv):=by
 subst hn;have hsb:=hs.behind;have vv:=M.vv;rw[Afw] at vv;have A:=W6 (c:=((j+(k+1):Nat):Int)) (i:=(j:Int)) (b:=(b:Int)) (t:=t) (s:=s) vl (by omega) hK aq hq mb1 mb2 vv M.tb (hsb.congr fun m hm=>T5 hm);refine Ln.tail (s:=120*uR*s+100*Cv) (fun i hi=>?_) ?_
 ·rw[V1,Az hi];unfold cl;rw[Sf (by omega) hb];unfold FB;rw[Ay (by omega)]; grind
 ·refine A.congr fun m hm=>?_
  rw[V1,Ay (by omega),Nat.add_sub_cancel_left];have e:vH (k+1) (rv v) (vR t.toNat) (fun m=>cl (j+(k+1)) q b (j+m)) m=vH (k+1) (rv v) (vR t.toNat) (rv (Cb ((j+(k+1):Nat):Int) q (b:Int) (j:Int) (k+1))) m:=Qf (fun m hm=>(T5 hm).symm) hm;rw[e];unfold cl;rw[Sf (by omega) hb];unfold FB;rw[Az (by omega),show(((j+m:Nat):Int)-(j:Int)).toNat=m by omega,yy j m]
end
structure Ai5(r c n:Nat)(l R Q:Bb):Prop where
 q1:∀m,m<r->Ln r (cl r Q m) (1+1000*uR*(n:Rat))
 q2:∀a m,a<r->m<r->av ((sm r fun i=>cl r Q a i*cl r Q m i)-dl a m)<=1000*uR*(n:Rat)
 f1:∀b s,b<c->tw (-900)<=s->Ln r (cl c l b) s->Ln r (cl c R b) ((1+1000*uR*(n:Rat))*s)
 f2:∀b s,b<c->tw (-900)<=s->Ln r (cl c l b) s->Ln r (fun i=>cl c l b i-sm r fun m=>cl r Q m i*cl c R b m) (1400*uR*(n:Rat)*s)
theorem UP{r a i:Nat}(ha:a<r)(hi:i<r):cl r (Fe r) a i=dl a i:=by
 unfold cl Fe;rw[G2 hi ha];unfold Hc dl;by_cases h:a=i
 ·rw[Az (by omega),Az h]; exact Aaq
 ·rw[Ay (by omega),Ay h]; exact Ho wy
theorem AhM(r c:Nat)(l:Bb):Ai5 r c 0 l l (Fe r):=by
 have z:((0:Nat):Rat)=0:=rfl
 have d:∀a m,a<r->m<r->(sm r fun i=>cl r (Fe r) a i*cl r (Fe r) m i)=dl a m:=fun a m ha hm=>by
  rw[Aa3 (k:=a) ha fun i hi h=>by rw[UP ha hi];unfold dl;rw[Ay (by omega)]; grind]
  rw[UP ha ha,UP hm ha];unfold dl;rw[Az rfl];by_cases h:a=m
  ·rw[Az h,Az h.symm]; grind
  ·rw[Ay h,Ay (fun e=>h e.symm)]; grind
 refine⟨fun m hm=>⟨by rw[z]; grind,?_⟩,fun a m ha hm=>?_,fun b s hb hs h=>h.mono (by rw[z]; grind),fun b s hb hs h=>?_⟩
 ·have:=d m m hm hm;unfold sq;rw[this,z];unfold dl;rw[Az rfl]; grind
 ·rw[d a m ha hm,z]
  have:av (dl a m-dl a m)=0:=by rw[Rat.sub_self]; decide
  rw[this]; grind
 ·refine((Ln.zero r).congr fun i hi=>?_).mono (by rw[z]; grind)
  rw[Aa3 (k:=i) hi fun m hm hne=>by rw[UP hm hi];unfold dl;rw[Ay hne]; grind]
  rw[UP hi hi];unfold dl;rw[Az rfl]; grind
open Go.Den
theorem Amf{s:Rat}(h:tw (-900)<=s):100*Cv<=uR*s:=by
 have h1:100*Cv<=uR*tw (-900):=by decide +kernel
 have h2:=Hp h;grind
theorem AoJ{u N s:Rat}(hu:0<=u)(hu2:u<=1 / 1000000)(hN:0<=N)(hN5:N<=5)(hs:0<=s):(1+250*u)*(1400*u*N*((1+456*u)*s))<=1400*u*N*s+20*u*s:=by have U:=ze hu hs;have p1:=DP hN5 hu2 (by decide) hu;have p2:=zd p1 U;have p3:=DP hu2 hu2 (by decide +kernel) hu;have p4:=zd p3 U;have p5:=zd hu2 (ze (ze hN hu) U);grind
theorem Anx{u N s:Rat}(hu:0<=u)(hu2:u<=1 / 1000000)(hN5:N<=5)(hs:0<=s):(1+1000*u*N)*((1+456*u)*s)<=(1+1000*u*(N+1))*s:=by have U:=ze hu hs;have p1:=DP hN5 hu2 (by decide) hu;have p2:=zd p1 U;grind
theorem AoI{u N:Rat}(hu:0<=u)(hu2:u<=1 / 1000000)(hN:0<=N)(hN5:N<=5):1000*u*N<=1 / 100/\0<=u*N:=by have p1:=DP hN5 hu2 (by decide) hu;have:=ze hu hN;grind
section
variable{r c n:Nat}{l l1 R Q Q':Bb}{w:Nat->Rat}{t:Rat}
theorem AhK(n4:n<=5)(r9:r<=9)(M:Mi r w t)
 (hl:∀b s,b<c->Ln r (cl c l b) s->Ln r (fun i=>cl c l1 b i-vH r w t (cl c l b) i) (205*uR*s+100*Cv))
 (hQ:∀b s,b<r->Ln r (cl r Q' b) s->Ln r (fun i=>cl r Q b i-vH r w t (cl r Q' b) i) (120*uR*s+100*Cv))
 (ih:Ai5 r c n l1 R Q'):Ai5 r c (n+1) l R Q:=by
 have u0:=zc E5;have us:=Gb;have e0:=Ek;have N1:((n+1:Nat):Rat)=(n:Rat)+1:=yz n 1;have N0:(0:Rat)<=(n:Rat):=Jw n;have N5:(n:Rat)<=5:=CR n4;obtain⟨s1,s2⟩:=AoI u0 us N0 N5;have e1:100*Cv<=uR:=by decide +kernel
 have hx:120*uR*(1+1000*uR*(n:Rat))+100*Cv<=123*uR:=by have:=Hp s1;grind
 have e:=fun b (hb:b<r)=>(hQ b _ hb (ih.q1 b hb)).mono hx
 have hh:=fun b (hb:b<r)=>WJ M (ih.q1 b hb)
 have q1:∀m,m<r->Ln r (cl r Q m) (1+1000*uR*((n:Rat)+1)):=fun m hm=>by refine(((e m hm).add (hh m hm)).congr fun i _=>by grind).mono ?_;have:=Hp s1;grind
 have s1':=fun(b:Nat) (s:Rat) (hb:b<c) (hs:tw (-900)<=s) (h:Ln r (cl c l b) s)=>by have h1:=(hl b s hb h).mono (t:=206*uR*s) (by have:=Amf hs; grind);have h2:Ln r (cl c l1 b) ((1+456*uR)*s):=((h1.add (WJ M h)).congr fun i _=>by grind).mono (by grind);exact And.intro h1 h2
 have ss:=fun(s:Rat) (hs:tw (-900)<=s)=>by have t0:=DC (-900);have:=ze u0 (show 0<=s by grind);exact(show 0<=s/\0<=uR*s/\tw (-900)<=(1+456*uR)*s by grind)
 refine⟨by rw[N1]; exact q1,fun a m ha hm=>?_,fun b s hb hs h=>?_,fun b s hb hs h=>?_⟩
 ·rw[N1];have d:=Af6 (r:=r) (v:=w) (t:=t) (a:=cl r Q' a) (cl r Q' m);have i2:=ih.q2 a m ha hm;have da:=M.lv.dot (ih.q1 a ha);have dm:=M.lv.dot (ih.q1 m hm);have x1:=(hh a ha).dot (e m hm);have x2:=(e a ha).dot (q1 m hm)
  have es:(sm r fun i=>cl r Q a i*cl r Q m i)=(sm r fun i=>vH r w t (cl r Q' a) i*vH r w t (cl r Q' m) i)+((sm r fun i=>vH r w t (cl r Q' a) i*(cl r Q m i-vH r w t (cl r Q' m) i))+(sm r fun i=>(cl r Q a i-vH r w t (cl r Q' a) i)*cl r Q m i)):=by rw[<- Gn,<- Gn];exact BY r fun i _=>by grind
  rw[es,d];clear es d
  have k1:av (t*(t*sq r w-2)*((sm r fun i=>w i*cl r Q' a i)*sm r fun i=>w i*cl r Q' m i))<=220*uR*(24 / 10):=by
   have b1:av (sm r fun i=>w i*cl r Q' a i)<=3 / 2*(101 / 100):=by have:=IQ da; grind
   have b2:av (sm r fun i=>w i*cl r Q' m i)<=3 / 2*(101 / 100):=by have:=IQ dm; grind
   have b3:=DP b1 b2 (by decide +kernel) (Ef _);rw[<- DN] at b3;have b4:=DP M.tt b3 (by grind) (Ef _);rw[<- DN] at b4;have:220*uR*(3 / 2*(101 / 100)*(3 / 2*(101 / 100)))<=220*uR*(24 / 10):=by grind
   exact zo b4 this
  have x1':=IQ x1;have x2':=IQ x2
  have n1:(1+250*uR)*(1+1000*uR*(n:Rat))*(123*uR)<=126*uR:=by
   have h1:(1+250*uR)*(1+1000*uR*(n:Rat))<=102 / 100:=by have:=Hp s1;grind
   have:=zd h1 (show 0<=123*uR by grind);grind
  have n2:123*uR*(1+1000*uR*((n:Rat)+1))<=126*uR:=by
   have h1:1+1000*uR*((n:Rat)+1)<=102 / 100:=by grind
   have:=zd h1 (show 0<=123*uR by grind);grind
  generalize (sm r fun i=>cl r Q' a i*cl r Q' m i)=A at *
  generalize t*(t*sq r w-2)*((sm r fun i=>w i*cl r Q' a i)*sm r fun i=>w i*cl r Q' m i)=B at *
  generalize (sm r fun i=>vH r w t (cl r Q' a) i*(cl r Q m i-vH r w t (cl r Q' m) i))=C at *
  generalize (sm r fun i=>(cl r Q a i-vH r w t (cl r Q' a) i)*cl r Q m i)=D at *
  have g1:=Hl (A-dl a m) (B+(C+D));have g2:=Hl B (C+D);have g3:=Hl C D;have g4:A+B+(C+D)-dl a m=A-dl a m+(B+(C+D)):=by grind
  rw[g4];clear g4 da dm x1 x2 e hh q1 s1' ss hl hQ M ih;grind
 ·rw[N1];obtain⟨z1,z2,z3⟩:=ss s hs;exact(ih.f1 b _ hb z3 (s1' b s hb hs h).2).mono (Anx u0 us N5 z1)
 ·rw[N1];obtain⟨z1,z2,z3⟩:=ss s hs;obtain⟨h1,h2⟩:=s1' b s hb hs h;have p1:=AiF M h;have p2:=WJ M h1;have p3:=WJ M (ih.f2 b _ hb z3 h2);have R1:=(ih.f1 b _ hb z3 h2).mono (Anx u0 us N5 z1);have p4:=AlR (e:=fun m i=>cl r Q m i-vH r w t (cl r Q' m) i) (show 0<=123*uR by grind) r9 e R1;have hall:=((p1.sub p2).add p3).sub p4;refine(hall.congr fun i hi=>?_).mono ?_
  ·have y1:=Af4 (r:=r) (v:=w) (t:=t) (a:=cl c l1 b) (vH r w t (cl c l b)) i;have y2:=Af4 (r:=r) (v:=w) (t:=t) (a:=cl c l1 b) (fun i=>sm r fun m=>cl r Q' m i*cl c R b m) i;have y3:=Af3 (r:=r) (v:=w) (t:=t) (fun m=>cl r Q' m) (fun m=>cl c R b m) i r
   have y4:(sm r fun m=>cl r Q m i*cl c R b m)=(sm r fun m=>vH r w t (cl r Q' m) i*cl c R b m)+(sm r fun m=>(cl r Q m i-vH r w t (cl r Q' m) i)*cl c R b m):=by rw[<- Gn];exact BY r fun m _=>by grind
   rw[y1,y2,y4,y3];grind
  ·have q1:=AoJ u0 us N0 N5 z1
   have q2:(1+250*uR)*(206*uR*s)<=210*uR*s:=by have:=zd us z2;grind
   have q3:3*(123*uR)*((1+1000*uR*((n:Rat)+1))*s)<=380*uR*s:=by
    have h1:1+1000*uR*((n:Rat)+1)<=102 / 100:=by grind
    have:=zd h1 z2;grind
   grind
end
theorem Ajg(n:Nat)(x:Nat->Rat):Ln n x (sq n x+1):=by
 have h0:=JI n x;refine⟨by grind,?_⟩;generalize sq n x=q at *
 have:=Ck q;grind
theorem Amn{r c j k:Nat}{l:Bb}(hn:j+(k+1)=r)(hr:r<=6)(al:Bg l=wg)(he:(BV (CT r c l j)).2.2.2=0):Mi r (vx j (rv (BV (CT r c l j)).1)) (vR (BV (CT r c l j)).2.1.toNat)/\(BV (CT r c l j)).1.length=k+1:=by
 have lc:(CT r c l j).length=k+1:=by unfold CT; rw[FF]; omega
 have ac:Bg (CT r c l j)=wg:=HU al;have ml:=Ld he;subst hn;exact⟨Aex (Ui lc (by omega) ac he (Ajg _ _)),by omega⟩
theorem AcS{r c:Nat}(hr:r<=6):∀(n j K:Nat) (l:Bb) (x:Bb × List (Bb × Int)),Bl K l->Bg l=wg->K+11*n<=900->(∀b i:Nat,b<j->b<i->i<r->cl c l b i=0)->j+n<=c->n=0\/j+n<r->FZ r c n j l=xM x ->
 Ai5 r c n l x.1 (Fo r j x.2 (Fe r))/\∀b i:Nat,b<j+n->b<i->i<r->cl c x.1 b i=0
 | 0,j,K,l,x,_,_,_,hz,_,_,h=>by cases h;exact⟨AhM r c l,hz⟩
 | n+1,j,K,l,x,hK,al,hK9,hz,hc,hj,h=>by
   unfold FZ at h;by_cases h1:(BV (CT r c l j)).2.2.2=0
   ·rw[Az h1,Option.map_eq_some_iff] at h;obtain⟨y,hy,rfl⟩:=h;have hj:j+(n+1)<r:=by omega
    obtain⟨k,hk⟩:∃k,j+(k+1)=r:=⟨r-j-1,by omega⟩
    obtain⟨M,ml⟩:=Amn hk hr al h1;obtain⟨b1,b2,b3,b4⟩:=XC (by omega) hK al (by omega) h1;have al1:=LL (r:=r) (c:=c) al j;obtain⟨ih1,ih2⟩:=AcS hr n (j+1) (K+11) (Kg r c l j) y b1 al1 (by omega) (AdJ (by omega) hz) (by omega) (by omega) hy;obtain⟨d1,d2,d3⟩:=UL (by omega) n (j+1) (K+11) _ y b1 al1 (by omega) hy;have qb:=UZ (n:=r) y.2 (j+1) 0 (Fe r) d2 (AcV r) (by omega);have qi:=(Nq r y.2 (j+1) (Fe r) (Nh r) (by unfold Fe; exact Ca _ _ _)).1;refine⟨?_,fun b i hb=>ih2 b i (by omega)⟩
    exact AhK (by omega) (by omega) M (fun b s hb hs=>AfT hk hr (by omega) hb al hK (by omega) h1 hz hs)
     (fun b s hb hs=>Alz hk hr hb qi qb (by omega) ml b2 b3 M hs) ih1
   ·rw[Ay h1] at h; cases h
theorem Ab1{r c:Nat}{l:Bb}(hr:r<=6)(hK:Bl 60 l)(al:Bg l=wg):
 Ai5 r c 5 l (Fc r c l) (FW r c l)/\(∀b i:Nat,b<c->b<i->i<r->cl c (Fc r c l) b i=0)/\Bl 115 (Fc r c l)/\Bl 55 (FW r c l)/\(Gw r c l).isSome=wg:=by
 obtain⟨x,hx⟩:=Amd (c:=c) hr hK al;have eR:Fc r c l=x.1:=by unfold Fc; rw[hx]
 have eQ:FW r c l=Fo r 0 x.2 (Fe r):=by unfold FW; rw[hx]
 rw[eR,eQ];unfold Gw at hx;have h5:Er r c<=5:=by unfold Er; omega
 have hz:Er r c=0\/0+Er r c<r:=by unfold Er; omega
 obtain⟨h1,h2⟩:=AcS hr (Er r c) 0 60 l x hK al (by omega) (fun b i hb=>by omega) (by unfold Er; omega) hz hx;obtain⟨d1,d2,d3⟩:=UL (by omega) (Er r c) 0 60 l x hK al (by omega) hx;have qb:=UZ (n:=r) x.2 0 0 (Fe r) d2 (AcV r) (by omega);have N:((Er r c:Nat):Rat)<=((5:Nat):Rat):=CR h5;have u0:=zc E5;have uN:=Hp N;refine⟨⟨fun m hm=>(h1.q1 m hm).mono (by grind),fun a m ha hm=>zo (h1.q2 a m ha hm) (by grind),fun b s hb hs h=>(h1.f1 b s hb hs h).mono ?_,fun b s hb hs h=>(h1.f2 b s hb hs h).mono ?_⟩,fun b i hb hbi hi=>?_,d1.mono (by omega),qb.mono (by omega),?_⟩
 ·have:=zd uN h.1;grind
 ·have:=zd uN h.1;grind
 ·by_cases hb2:b<0+Er r c
  ·exact h2 b i hb2 hbi hi
  ·exfalso;unfold Er at hb2;omega
 ·show(FZ r c (Er r c) 0 l).isSome=wg;rw[hx]; rfl
theorem SQ(f:Nat->Nat->Rat)(r:Nat):∀c,(sm c fun b=>sm r fun i=>f b i)=sm r fun i=>sm c fun b=>f b i
 | 0=>by
   show(0:Rat)=sm r fun _=>0
   rw[HC]
 | c+1=>by
   show(sm c fun b=>sm r fun i=>f b i)+(sm r fun i=>f c i)=sm r fun i=>(sm c fun b=>f b i)+f c i
   rw[SQ f r c,<- Gn]
def Fn(r c:Nat)(M:Nat->Nat->Rat)(S:Rat):Prop:=0<=S/\(sm c fun b=>sq r (M b))<=S*S
section
variable{r c:Nat}{M N:Nat->Nat->Rat}{S T t:Rat}{x y:Nat->Rat}
theorem Fn.of{s:Nat->Rat}(h:∀b,b<c->Ln r (M b) (s b))(hS:0<=S)(k:(sm c fun b=>s b*s b)<=S*S):Fn r c M S :=⟨hS,zo (NM c fun b hb=>(h b hb).2) k⟩
theorem Fn.same{x:Rat}(h:∀b,b<c->Ln r (M b) x)(hx:0<=x)(c9:c<=9):Fn r c M (3*x):=by refine Fn.of (s:=fun _=>x) h (by grind) ?_;rw[KU];have h2:(c:Rat)<=9:=CR c9;have:=zd h2 (Ck x);grind
theorem Fn.AfG(h:Fn r c M S):Fn c r (fun i b=>M b i) S:=by refine⟨h.1,?_⟩;have:=h.2;unfold sq at this ⊢;rw[SQ (fun b i=>M b i*M b i)] at this;exact this
theorem Fn.mul(h:Fn r c M S)(hx:Ln c x t):Ln r (fun i=>sm c fun b=>M b i*x b) (S*t):=by
 refine⟨ze h.1 hx.1,?_⟩
 have h1:sq r (fun i=>sm c fun b=>M b i*x b)<=sm r fun i=>sq c x*sq c (fun b=>M b i):=NM r fun i _=>by have:=cs (fun b=>M b i) x c;grind
 rw[Fq] at h1;have h2:=h.AfG.2;have h3:=DP h2 hx.2 (Ck S) (JI c x);grind
theorem Fn.Ali(h:Fn r c M S)(hy:Ln r y t):Ln c (fun b=>sm r fun i=>M b i*y i) (S*t):=h.AfG.mul hy
theorem Fn.avs(h:Fn r c M S):Fn r c (fun b i=>av (M b i)) S:=by refine⟨h.1,?_⟩;have:=h.2;unfold sq at this ⊢;rw[BY c (g:=fun b=>sm r fun i=>M b i*M b i) fun b _=>BY r fun i _=>IP _];exact this
theorem Fn.congr(h:Fn r c M S)(e:∀b i,b<c->i<r->N b i=M b i):Fn r c N S:=by refine⟨h.1,?_⟩;have:=h.2;unfold sq at this ⊢;rw[BY c (g:=fun b=>sm r fun i=>M b i*M b i) fun b hb=>BY r fun i hi=>by rw[e b i hb hi]];exact this
theorem Fn.Kd{B:Rat}(hB:0<=B)(h:∀b i,b<c->i<r->Ab (M b i) B)(c6:c<=6)(r6:r<=6):Fn r c M (6*B):=by
 refine⟨by grind,?_⟩
 have sqa:∀{y:Rat},Ab y B->y*y<=B*B:=fun {y} hy=>by
  unfold Ab at hy;rcases(yV:(0:Rat)<=y\/y<=0) with g | g
  ·exact LA g hy.2
  ·have:=LA (x:=-y) (y:=B) (by grind) (by grind);grind
 have h1:(sm c fun b=>sq r (M b))<=sm c fun _=>sm r fun _=>B*B:=NM c fun b hb=>NM r fun i hi=>sqa (h b i hb hi)
 rw[KU,KU] at h1;have h2:(c:Rat)<=6:=CR c6;have h3:(r:Rat)<=6:=CR r6;have h4:=DP h2 h3 (by decide) (Jw r);have:=zd h4 (Ck B);grind
end
theorem VL{q:Rat}(hq:0<q):∃s:Rat,0<s/\q<=s*s/\s*s<=103 / 100*q:=by
 have hd:(0:Rat)<(q.den:Rat):=by have:=q.den_pos;exact Rat.natCast_pos.2 this
 have hn:0<q.num:=by
  have h1:=Rat.num_nonneg.2 (zc hq)
  have h2:q.num≠0:=fun e=>by have:=Rat.num_eq_zero.1 e;rw[this] at hq;exact absurd hq (by decide)
  omega
 obtain⟨N,hN⟩:∃N:Nat,q.num=(N:Int):=⟨q.num.toNat,by omega⟩
 have e1:q*(q.den:Rat)=(N:Rat):=by have h:q=mkRat q.num q.den:=(Rat.mkRat_self q).symm;rw[Rat.mkRat_eq_div,hN] at h;have h2:q*(q.den:Rat)=((N:Int):Rat) / (q.den:Rat)*(q.den:Rat):=congrArg (·*(q.den:Rat)) h;rw[h2,JV (by grind)];exact Rat.intCast_natCast N
 have hN1:1<=N:=by omega
 have hD1:1<=q.den:=q.den_pos;generalize q.den=D at *
 have hs:=JR (N*D*10000)
 have h100:100<=Jm (N*D*10000):=XL (by have:=A9 hN1 hD1;omega)
 have e2:q*((100*(D:Rat))*(100*(D:Rat)))=((N*D*10000:Nat):Rat):=by rw[zU,zU];have:((10000:Nat):Rat)=10000:=rfl;rw[this];grind
 generalize N*D*10000=n at *
 generalize Jm n=r at *
 have a1:=CR (Nat.le_of_lt hs.2);have a2:=CR hs.1;have a3:=CR h100;rw[zU,yz] at a1;rw[zU] at a2;have o1:((1:Nat):Rat)=1:=rfl;have o2:((100:Nat):Rat)=100:=rfl;rw[o1] at a1;rw[o2] at a3;have hp:0<100*(D:Rat):=by grind
 generalize 100*(D:Rat)=p at *
 generalize (r:Rat)=ρ at *
 generalize (n:Rat)=ν at *
 have pp:0<p*p:=Rat.mul_pos hp hp;have hs':(ρ+1) / p*p=ρ+1:=by grind
 generalize (ρ+1) / p=s at *
 have hs0:0<s:=by
  rcases(yV:s<=0\/0<=s) with h | h
  ·have:=ze (show 0<=-s by grind) (zc hp);grind
  ·have:s≠0:=fun e=>by rw[e] at hs'; grind
   grind
 have e3:s*s*(p*p)=(ρ+1)*(ρ+1):=by
  have:s*s*(p*p)=(s*p)*(s*p):=by grind
  rw[this,hs']
 refine⟨s,hs0,?_,?_⟩
 ·refine zZ ?_ pp;rw[e2,e3]; exact a1
 ·refine zZ ?_ pp;rw[show 103 / 100*q*(p*p)=103 / 100*(q*(p*p)) by grind,e2,e3];have b1:=zd a3 (show 0<=ρ by grind);grind
theorem ZV{k a:Nat}(k3:Bj a≠3)(k4:Bj a≠4)(h:Ab (vR a) (tw k)):Bd k a:=by refine⟨k3,k4,?_⟩;rw[SJ,Xh (Mc _ _)] at h;have h2:=zd h (zc (DC 1074));rw[show(Ip a:Rat)*tw (-1074)*tw 1074=(Ip a:Rat)*(tw (-1074)*tw 1074) by grind,<- Ex,<- Ex] at h2;have e:(-1074:Int)+1074=0:=rfl;have e2:(k:Int)+1074=((k+1074:Nat):Int):=rfl;rw[e,Oz,e2,HS] at h2;exact Rat.natCast_le_natCast.1 (by grind)
theorem Lo.val{t a:Nat}(h:Lo t a):vR a≠0:=by
 intro e;have h1:av (vR a)=0:=by rw[e]; decide
 unfold vR at h1;rw[DN,DN] at h1;have s1:av (Mj (BE a))≠0:=by cases BE a<;>decide +kernel
 have p1:av (tw (By a))≠0:=by have:=DC (By a);rw[MD (zc this)]; grind
 have m1:av ((Bs a:Nat):Rat)≠0:=by rw[MD (Jw _)];intro h2;exact h.m0 (Rat.natCast_inj.1 h2)
 rcases xx.1 h1 with h2 | h2
 ·rcases xx.1 h2 with h3 | h3
  ·exact s1 h3
  ·exact m1 h3
 ·exact p1 h2
section
variable{c:Int}{l:Bb}{i:Int}{p P:Nat}
theorem QM(hl:Bl p l)(hp:p+P<=1000):∀(xs:Bb) (s j:Int) (t:Nat),Bl P xs->Bm t (p+P) s.toNat->0<t->t+xs.length<=1000->Bm (t+xs.length) (p+P) (H5 c l i s j xs).toNat
 | [],s,j,t,_,hs,_,_=>hs
 | x::xs,s,j,t,hx,hs,h0,ht=>by
   simp only[zt] at ht ⊢
   have h1:Bd (p+P) (CN (Cc c l i j) x).toNat:=by rw[IZ];exact Bd.mul (by omega) (JX hl) (hx x AU)
   have h2:Bm (t+1) (p+P) (CA s (CN (Cc c l i j) x)).toNat:=by rw[MI];exact Bm.add (by omega) (by omega) hp hs (Bm.minus (F4 (Ft _ _)) h1.bm)
   have:=QM hl hp xs _ (j+1) (t+1) (fun z hz=>hx z (AJ _ hz)) h2 (by omega) (by omega);rw[show t+(xs.length+1)=t+1+xs.length by omega];exact this
theorem Yz{b:Nat->Int}{n t:Nat}(hl:Bl p l)(hb:∀i,i<n->Bd p (b i).toNat)(hd:∀i,i<n->Lo t (Cc c l (i:Int) (i:Int)).toNat)(hp:(p+t+3)*6<=1000):∀k,k<=n->k<=6->Bl ((p+t+3)*k) (LY c l b n k)
 | 0,_,_=>fun x hx=>by cases hx
 | k+1,hk,h6=>by
   have ih:=Yz hl hb hd hp k (by omega) (by omega);have hlen:=Hx c l b n k;have e1:(p+t+3)*(k+1)=(p+t+3)*k+(p+t+3):=Nat.mul_succ _ _;have e2:(p+t+3)*k<=(p+t+3)*5:=yg _ (by omega);generalize (p+t+3)*k=P at *
   intro x hx;rw[LY] at hx;rcases zL.1 hx with hx | hx
   ·rw[hx,LR];have h1:=QM (c:=c) (i:=((n-1-k:Nat):Int)) hl (P:=P) (by omega) (LY c l b n k) (b (n-1-k)) ((n-k:Nat):Int) 1 ih ((hb (n-1-k) (by omega)).mono (by omega)).bm (by decide) (by omega);have h2:=h1.bd (j:=3) (by omega);exact(Bd.div (by omega) h2 (hd (n-1-k) (by omega))).mono (by omega)
   ·exact(ih x hx).mono (by omega)
theorem Zu(hl:Bl p l)(hp:p+P<=1000):∀(xs:Bb) (s:Int) (j t:Nat) (T A a:Rat),Bl P xs->Bm t (p+P) s.toNat->0<t->t+xs.length<=1000->av T<=A->0<=a->a+(xs.length:Rat)<=20->Nr (vR s.toNat) T (3*a*uR*A+2*a*Cv) ->
 Nr (vR (H5 c l i s (j:Int) xs).toNat) (T-sm xs.length fun m=>vR (Cc c l i ((j+m:Nat):Int)).toNat*rv xs m) (3*(a+(xs.length:Rat))*uR*(A+sm xs.length fun m=>av (vR (Cc c l i ((j+m:Nat):Int)).toNat)*av (rv xs m))+2*(a+(xs.length:Rat))*Cv)
 | [],s,j,t,T,A,a,_,_,_,_,_,_,_,h=>by
   have z:((([]:Bb).length:Nat):Rat)=0:=rfl;have e:∀f,sm ([]:Bb).length f=0:=fun f=>rfl
   rw[z,e,e,xh,xh,show T-0=T by grind];exact h
 | x::xs,s,j,t,T,A,a,hx,hs,h0,ht,hT,ha,ha2,h=>by
   have el:(((x::xs).length:Nat):Rat)=(xs.length:Rat)+1:=by rw[zt]; exact yz _ 1
   simp only[zt] at ht;rw[el] at ha2 ⊢;have hln:=Jw xs.length;have ba:=JX (c:=c) (i:=i) (j:=(j:Int)) hl;have bb:=hx x AU;have b2:=Bd.mul (show p+P<=1023 by omega) ba bb;have lt2:=F4 (Ft (Cc c l i (j:Int)) x);rw[IZ] at lt2;have b3:=Bm.add (k:=p+P) (by omega) (by omega) hp hs (Bm.minus lt2 b2.bm);have m1:=OJ ba.1 ba.2.1 bb.1 bb.2.1 b2.1 (B:=av (vR (Cc c l i (j:Int)).toNat*vR x.toNat)) (GM _);have u0:=E5;have e0:=Ek
   have m2:=Qk lt2 hs.1 hs.2.1 b2.1 b2.2.1 b3.1 (B:=A+(3*a*uR*A+2*a*Cv)+(av (vR (Cc c l i (j:Int)).toNat*vR x.toNat)+(uR*av (vR (Cc c l i (j:Int)).toNat*vR x.toNat)+Cv))) (by
    have n1:=HP (z:=0) h;have n3:=HP (z:=0) m1;have n4:=Hl (vR s.toNat) (-(vR (EA (Cc c l i (j:Int)).toNat x.toNat).1));rw[Mf] at n4;have n5:=GM (vR s.toNat+-(vR (EA (Cc c l i (j:Int)).toNat x.toNat).1));unfold Ab at *
    grind)
   obtain⟨st,sT⟩:=Ok (z:=-(vR (Cc c l i (j:Int)).toNat*vR x.toNat)) (q:=-(vR (EA (Cc c l i (j:Int)).toNat x.toNat).1)) ha (by grind) hT u0 Gb e0 h (by rw[Mf]; exact m1.neg) (by rw[Mf,show vR s.toNat+-(vR (EA (Cc c l i (j:Int)).toNat x.toNat).1)=vR s.toNat-vR (EA (Cc c l i (j:Int)).toNat x.toNat).1 by grind];exact m2)
   rw[Mf] at st sT;have es1:(CA s (CN (Cc c l i (j:Int)) x)).toNat=(Rx s.toNat (EA (Cc c l i (j:Int)).toNat x.toNat).1).1:=by rw[MI,IZ]
   have ih:=Zu hl hp xs (CA s (CN (Cc c l i (j:Int)) x)) (j+1) (t+1) (T+-(vR (Cc c l i (j:Int)).toNat*vR x.toNat)) (A+av (vR (Cc c l i (j:Int)).toNat*vR x.toNat)) (a+1) (fun z hz=>hx z (AJ _ hz)) (by rw[es1]; exact b3) (by omega) (by omega) sT (by grind) (by grind) (by rw[es1]; exact st);have ej:∀m:Nat,((j+1+m:Nat):Int)=((j+(m+1):Nat):Int):=fun m=>by omega
   have es:(sm (x::xs).length fun m=>vR (Cc c l i ((j+m:Nat):Int)).toNat*rv (x::xs) m)=vR (Cc c l i (j:Int)).toNat*vR x.toNat+sm xs.length fun m=>vR (Cc c l i ((j+1+m:Nat):Int)).toNat*rv xs m:=by rw[zt,Io];exact congrArg (fun z=>vR (Cc c l i (j:Int)).toNat*vR x.toNat+z) (BY xs.length (f:=fun m=>vR (Cc c l i ((j+(m+1):Nat):Int)).toNat*rv (x::xs) (m+1)) (g:=fun m=>vR (Cc c l i ((j+1+m:Nat):Int)).toNat*rv xs m) fun m _=>by rw[ej]; rfl)
   have es':(sm (x::xs).length fun m=>av (vR (Cc c l i ((j+m:Nat):Int)).toNat)*av (rv (x::xs) m))=av (vR (Cc c l i (j:Int)).toNat*vR x.toNat)+sm xs.length fun m=>av (vR (Cc c l i ((j+1+m:Nat):Int)).toNat)*av (rv xs m):=by rw[zt,Io,DN];exact congrArg (fun z=>av (vR (Cc c l i (j:Int)).toNat)*av (vR x.toNat)+z) (BY xs.length (f:=fun m=>av (vR (Cc c l i ((j+(m+1):Nat):Int)).toNat)*av (rv (x::xs) (m+1))) (g:=fun m=>av (vR (Cc c l i ((j+1+m:Nat):Int)).toNat)*av (rv xs m)) fun m _=>by rw[ej]; rfl)
   have eq:H5 c l i s (j:Int) (x::xs)=H5 c l i (CA s (CN (Cc c l i (j:Int)) x)) ((j+1:Nat):Int) xs:=rfl;rw[es,es',eq];generalize (sm xs.length fun m=>vR (Cc c l i ((j+1+m:Nat):Int)).toNat*rv xs m)=Z1 at *
   generalize (sm xs.length fun m=>av (vR (Cc c l i ((j+1+m:Nat):Int)).toNat)*av (rv xs m))=Z2 at *
   generalize vR (Cc c l i (j:Int)).toNat*vR x.toNat=z at *
   rw[show T-(z+Z1)=T+-z-Z1 by grind,show A+(av z+Z2)=A+av z+Z2 by grind,show a+((xs.length:Rat)+1)=a+1+(xs.length:Rat) by grind];exact ih
end
theorem Ajm(l:Bb)(d m:Nat):rv (l.drop d) m=rv l (d+m):=by unfold rv;rw[Al,Al,List.getElem?_drop]
section
variable{c n p t:Nat}{l:Bb}{b:Nat->Int}
theorem Ajp(h6:n<=6)(hl:Bl p l)(hb:∀i,i<n->Bd p (b i).toNat)(hd:∀i:Nat,i<n->Lo t (Cc (c:Int) l (i:Int) (i:Int)).toNat)(hp:(p+t+3)*6<=1000)(hz:∀m i:Nat,m<i->i<n->cl c l m i=0){i:Nat}(hi:i<n):
 Nr (sm n fun m=>cl c l m i*rv (LY (c:Int) l b n n) m) (vR (b i).toNat) (18*uR*(av (vR (b i).toNat)+sm n fun m=>av (cl c l m i)*av (rv (LY (c:Int) l b n n) m))+(12+tw p)*Cv):=by
 have ub:=Yz (c:=(c:Int)) hl hb hd hp;have ur:=WL (c:=(c:Int)) (l:=l) (b:=b) hi;obtain⟨k,hk⟩:∃k,n=i+(k+1):=⟨n-i-1,by omega⟩
 have et:=Tr (c:=(c:Int)) (l:=l) (b:=b) (n:=n) (k:=k) (by omega);rw[show n-k=i+1 by omega] at et;have ubn:=ub n (A7 n) h6;have ubk:=ub k (by omega) (by omega);have lk:(LY (c:Int) l b n k).length=k:=Hx _ _ _ _ _;have P6:(p+t+3)*k<=(p+t+3)*5:=yg _ (by omega);have xi:=No ubn i;rw[ur,et,LR] at xi;generalize hX:LY (c:Int) l b n n=X at *
 have rx:∀m,rv (LY (c:Int) l b n k) m=rv X (i+(m+1)):=fun m=>by rw[<- et,Ajm,show i+1+m=i+(m+1) by omega]
 generalize LY (c:Int) l b n k=xs at *
 generalize hP:(p+t+3)*k=P at *
 have bi:=hb i hi;have kR:(k:Rat)<=5:=CR (show k<=5 by omega);have kn:=Jw k;have z0:((0:Nat):Rat)=0:=rfl;have h1:=Zu (c:=(c:Int)) (i:=(i:Int)) hl (P:=P) (by omega) xs (b i) (i+1) 1 (vR (b i).toNat) (av (vR (b i).toNat)) 0 ubk (bi.mono (by omega)).bm (by decide) (by omega) zY zY (by rw[lk]; grind) (by unfold Nr; grind);have h2:=(QM (c:=(c:Int)) (i:=(i:Int)) hl (P:=P) (by omega) xs (b i) ((i+1:Nat):Int) 1 ubk (bi.mono (by omega)).bm (by decide) (by omega)).bd (j:=3) (by omega);have di:=hd i hi;have dn:=JX (c:=(c:Int)) (i:=(i:Int)) (j:=(i:Int)) hl;have dv:=di.val;rw[lk] at h1;generalize hs:H5 (c:Int) l (i:Int) (b i) ((i+1:Nat):Int) xs=s at *
 generalize hD:Cc (c:Int) l (i:Int) (i:Int)=D at *
 have h3:=Th h2.1 h2.2.1 di.k3 di.k4 di.k0 xi.1 (q:=vR s.toNat / vR D.toNat) (B:=av (vR s.toNat / vR D.toNat)) (JV dv) (GM _)
 have ex:rv X i=vR (JW s.toNat D.toNat).1:=by show vR (X.getD i 0).toNat=_;rw[ur,et,LR,hs]
 rw[<- ex] at h3;have ec:cl c l i i=vR D.toNat:=by unfold cl; rw[hD]
 have e1:(sm n fun m=>cl c l m i*rv X m)=vR D.toNat*rv X i+sm k fun m=>vR (Cc (c:Int) l (i:Int) ((i+1+m:Nat):Int)).toNat*rv xs m:=by rw[hk,Qp fun m hm=>by rw[hz m i hm hi]; grind,Io,AM,ec];refine congrArg (fun z=>vR D.toNat*rv X i+z) (BY k fun m _=>?_);rw[rx];unfold cl;rw[show i+1+m=i+(m+1) by omega]
 have e2:(sm n fun m=>av (cl c l m i)*av (rv X m))=av (vR D.toNat)*av (rv X i)+sm k fun m=>av (vR (Cc (c:Int) l (i:Int) ((i+1+m:Nat):Int)).toNat)*av (rv xs m):=by rw[hk,Qp fun m hm=>by rw[hz m i hm hi,show av 0=0 by decide]; grind,Io,AM,ec];refine congrArg (fun z=>av (vR D.toNat)*av (rv X i)+z) (BY k fun m _=>?_);rw[rx];unfold cl;rw[show i+1+m=i+(m+1) by omega]
 rw[e1,e2];have hn:0<=sm k fun m=>av (vR (Cc (c:Int) l (i:Int) ((i+1+m:Nat):Int)).toNat)*av (rv xs m):=Mn _ fun m _=>ze (Ef _) (Ef _)
 have h4:Ab (sm k fun m=>vR (Cc (c:Int) l (i:Int) ((i+1+m:Nat):Int)).toNat*rv xs m) (sm k fun m=>av (vR (Cc (c:Int) l (i:Int) ((i+1+m:Nat):Int)).toNat)*av (rv xs m)):=by
  have:=Qq (f:=fun m=>vR (Cc (c:Int) l (i:Int) ((i+1+m:Nat):Int)).toNat*rv xs m) (g:=fun _=>0) (d:=fun m=>av (vR (Cc (c:Int) l (i:Int) ((i+1+m:Nat):Int)).toNat)*av (rv xs m)) k fun m _=>by
   rw[<- DN];have:=GM (vR (Cc (c:Int) l (i:Int) ((i+1+m:Nat):Int)).toNat*rv xs m);unfold Nr Ab at *
   grind
  rw[HC] at this;unfold Nr Ab at *
  grind
 generalize (sm k fun m=>vR (Cc (c:Int) l (i:Int) ((i+1+m:Nat):Int)).toNat*rv xs m)=Z at *
 generalize (sm k fun m=>av (vR (Cc (c:Int) l (i:Int) ((i+1+m:Nat):Int)).toNat)*av (rv xs m))=W at *
 have dB:=IQ (UY dn);have dq:av (vR s.toNat / vR D.toNat)*av (vR D.toNat)=av (vR s.toNat):=by rw[<- DN,JV dv]
 have h5:Nr (vR D.toNat*rv X i) (vR s.toNat) (2*uR*av (vR s.toNat)+tw p*Cv):=by
  have h6:=GZ.1 h3;have h7:=DP h6 (zY (a:=av (vR D.toNat))) (zo (Ef _) h6) (Ef _);rw[<- DN] at h7
  have h8:(rv X i-vR s.toNat / vR D.toNat)*vR D.toNat=vR D.toNat*rv X i-vR s.toNat:=by have:=JV (a:=vR s.toNat) dv;grind
  rw[h8] at h7;refine GZ.2 (zo h7 ?_);have h9:=zl dB (zc Ek);generalize av (vR s.toNat / vR D.toNat)=q at *
  rw[<- dq];grind
 clear h3 dq e1 e2 ex ec ur et hz hd ub ubn ubk hl rx xi h2 di dn bi;have u0:=E5;have us:=Gb;have e0:=Ek;have an:=Ef (vR (b i).toNat);have sn:=HP (z:=0) h1;have sn2:=Hl (vR (b i).toNat) (-Z);rw[Mf] at sn2;have zn:=IQ h4;generalize vR (b i).toNat=β at *
 generalize vR s.toNat=σ at *
 generalize vR D.toNat*rv X i=ξ at *
 have pn:=ze (zc (DC p)) (zc e0);have uA:0<=uR*(av β+W):=ze (zc u0) (by grind)
 have k1:3*(0+(k:Rat))*uR*(av β+W)+2*(0+(k:Rat))*Cv<=15*(uR*(av β+W))+10*Cv:=by have g1:=zd kR uA;have g2:=zd kR (zc e0);grind
 have k2:2*uR*av σ<=3*(uR*(av β+W))+Cv:=by
  have g3:av σ<=(av β+W)+(15*(uR*(av β+W))+10*Cv):=by
   have e:β-Z=β+-Z:=by grind
   rw[e] at sn;grind
  have g4:=Hp g3;have g5:=zd us uA;have g6:=zd us (zc e0);grind
 have h1':=h1.mono k1;have dx:0<=uR*(av (vR D.toNat)*av (rv X i)):=ze (zc u0) (ze (Ef _) (Ef _));generalize av (vR D.toNat)*av (rv X i)=δ at *
 clear h1 k1 sn sn2 zn h4 hb hn;unfold Nr at *
 grind
end
theorem AkH{a:Nat}(h:Ab (vR a) Cv):vR a=0:=by
 rw[SJ,Xh (Mc _ _)] at h
 have m0:Ip a=0:=by
  rcases yv (Ip a) with h0 | h0
  ·exact h0
  ·exfalso;have h1:=CR h0;have o:((1:Nat):Rat)=1:=rfl;have h2:=zd h1 (zc (DC (-1074)));have e:tw (-1074)=2*Cv:=by decide +kernel
   have e0:=Ek;rw[e] at h h2;have h3:((1:Nat):Rat)<=(Ip a:Rat):=h1;rw[o] at h2;grind
 rw[SJ,m0];have z:((0:Nat):Rat)=0:=rfl;rw[z]; grind
theorem Tl:Ab 0 0:=by unfold Ab; grind
theorem Ac5{x:Rat}(h:Nr x 0 (uR*0)):x=0:=by unfold Nr at h; grind
theorem VV{a b:Nat}(a3:Bj a≠3)(a4:Bj a≠4)(b3:Bj b≠3)(b4:Bj b≠4)(hf:Bj (EA a b).1≠3)(h:vR a*vR b=0):vR (EA a b).1=0:=by have:=OJ a3 a4 b3 b4 hf (B:=0) (by rw[h]; exact Tl);rw[h] at this;exact AkH (by unfold Nr at this; unfold Ab; grind)
section
variable{c:Int}{l:Bb}{i:Int}{p P:Nat}
theorem Us(hl:Bl p l)(hp:p+P<=1000):∀(xs:Bb) (s j:Int) (t:Nat),Bl P xs->Bm t (p+P) s.toNat->0<t->t+xs.length<=1000->vR s.toNat=0->(∀x∈xs,vR x.toNat=0)->vR (H5 c l i s j xs).toNat=0
 | [],s,j,t,_,_,_,_,h,_=>h
 | x::xs,s,j,t,hx,hs,h0,ht,h,hz=>by
   simp only[zt] at ht;have ba:=JX (c:=c) (i:=i) (j:=j) hl;have bb:=hx x AU;have b2:=Bd.mul (show p+P<=1023 by omega) ba bb;have lt2:=F4 (Ft (Cc c l i j) x);rw[IZ] at lt2;have b3:=Bm.add (k:=p+P) (by omega) (by omega) hp hs (Bm.minus lt2 b2.bm);have es1:(CA s (CN (Cc c l i j) x)).toNat=(Rx s.toNat (EA (Cc c l i j).toNat x.toNat).1).1:=by rw[MI,IZ]
   refine Us hl hp xs (CA s (CN (Cc c l i j) x)) (j+1) (t+1) (fun z hz=>hx z (AJ _ hz)) (by rw[es1]; exact b3) (by omega) (by omega) ?_ (fun y hy=>hz y (AJ _ hy));have m0:=VV ba.1 ba.2.1 bb.1 bb.2.1 b2.1 (by rw[hz x AU]; grind);rw[es1];have e0:vR s.toNat-vR (EA (Cc c l i j).toNat x.toNat).1=0:=by rw[h,m0]; grind
   have:=Qk lt2 hs.1 hs.2.1 b2.1 b2.2.1 b3.1 (B:=0) (by rw[e0]; exact Tl);rw[e0] at this;exact Ac5 this
theorem Aca{b:Nat->Int}{n t:Nat}(hl:Bl p l)(hb:∀i,i<n->Bd p (b i).toNat)(hd:∀i,i<n->Lo t (Cc c l (i:Int) (i:Int)).toNat)(hp:(p+t+3)*6<=1000)(hz:∀i,i<n->vR (b i).toNat=0):∀k,k<=n->k<=6->∀x∈LY c l b n k,vR x.toNat=0
 | 0,_,_=>fun x hx=>by cases hx
 | k+1,hk,h6=>by
   have ih:=Aca hl hb hd hp hz k (by omega) (by omega);have ub:=Yz hl hb hd hp k (by omega) (by omega);have ub':=Yz hl hb hd hp (k+1) hk h6;have hlen:=Hx c l b n k;have e1:(p+t+3)*(k+1)=(p+t+3)*k+(p+t+3):=Nat.mul_succ _ _;have e2:(p+t+3)*k<=(p+t+3)*5:=yg _ (by omega);intro x hx;have bx:=ub' x hx;generalize (p+t+3)*k=P at *
   rw[LY] at hx;rcases zL.1 hx with hx | hx
   ·have s0:=Us (c:=c) (i:=((n-1-k:Nat):Int)) hl (P:=P) (by omega) (LY c l b n k) (b (n-1-k)) ((n-k:Nat):Int) 1 ub ((hb (n-1-k) (by omega)).mono (by omega)).bm (by decide) (by omega) (hz (n-1-k) (by omega)) ih;have h1:=(QM (c:=c) (i:=((n-1-k:Nat):Int)) hl (P:=P) (by omega) (LY c l b n k) (b (n-1-k)) ((n-k:Nat):Int) 1 ub ((hb (n-1-k) (by omega)).mono (by omega)).bm (by decide) (by omega)).bd (j:=3) (by omega);have di:=hd (n-1-k) (by omega);rw[hx,LR] at bx ⊢;have:=Th h1.1 h1.2.1 di.k3 di.k4 di.k0 bx.1 (q:=0) (B:=0) (by rw[s0]; grind) Tl;exact AkH (by unfold Nr at this; unfold Ab; grind)
   ·exact ih x hx
end
section
variable{c n p t:Nat}{l:Bb}{b:Nat->Int}{T x B:Rat}
theorem Alb(h6:n<=6)(hl:Bl p l)(hb:∀i,i<n->Bd p (b i).toNat)(hd:∀i:Nat,i<n->Lo t (Cc (c:Int) l (i:Int) (i:Int)).toNat)(hp:(p+t+3)*6<=1000)(hz:∀m i:Nat,m<i->i<n->cl c l m i=0)
 (hF:Fn n n (cl c l) T) (hx:Ln n (rv (LY (c:Int) l b n n)) x) (hB:Ln n (fun i=>vR (b i).toNat) B):
 Ln n (fun i=>(sm n fun m=>cl c l m i*rv (LY (c:Int) l b n n) m)-vR (b i).toNat) (18*uR*(B+T*x)+3*((12+tw p)*Cv)):=by
 have u0:=zc E5;have pe:0<=(12+tw p)*Cv:=ze (by have:=DC p; grind) (zc Ek);have h1:=(hB.avs.add (hF.avs.mul hx.avs)).scale (c:=18*uR) (B:=18*uR) (by unfold Ab; grind);have h2:Ln n (fun _=>(12+tw p)*Cv) (3*((12+tw p)*Cv)):=Ln.Kd pe (fun _ _=>by unfold Ab; grind) (by omega);refine Ln.Ac4 (fun i hi=>?_) (h1.add h2);exact GZ.1 (Ajp h6 hl hb hd hp hz hi)
end
theorem XX(f y:Nat->Rat)(q:Nat->Nat->Rat)(r c:Nat):(sm r fun i=>f i*sm c fun k=>q k i*y k)=sm c fun k=>(sm r fun i=>f i*q k i)*y k:=by
 have e1:(sm r fun i=>f i*sm c fun k=>q k i*y k)=sm r fun i=>sm c fun k=>f i*q k i*y k:=BY r fun i _=>by rw[<- Fq];exact BY c fun k _=>by grind
 rw[e1,<- SQ (fun k i=>f i*q k i*y k)];refine BY c fun k _=>?_
 have e2:(sm r fun i=>f i*q k i*y k)=y k*sm r fun i=>f i*q k i:=by rw[<- Fq];exact BY r fun i _=>by grind
 rw[e2]; grind
theorem Agd(f g:Nat->Rat)(n:Nat):sm n (fun i=>f i-g i)=sm n f-sm n g:=by have h:=Gn f (fun i=>-1*g i) n;rw[Fq] at h;rw[BY n (g:=fun i=>f i+-1*g i) fun i _=>by grind,h]; grind
theorem Aa4{c r:Nat}{f:Nat->Rat}(h:c<=r)(hz:∀m,c<=m->m<r->f m=0):sm r f=sm c f:=by
 obtain⟨d,rfl⟩:∃d,r=c+d:=⟨r-c,by omega⟩
 rw[Mm,BY d (g:=fun _=>0) fun m hm=>hz (c+m) (by omega) (by omega),HC];grind
section
variable{r c:Nat}{M R q:Nat->Nat->Rat}{x b c1:Nat->Rat}{S X B P e:Rat}
def Gi(c:Nat)(M:Nat->Nat->Rat)(x b:Nat->Rat)(i:Nat):Rat:=(sm c fun k=>M k i*x k)-b i
def QN(r:Nat)(M R q:Nat->Nat->Rat)(k i:Nat):Rat:=M k i-sm r fun m=>q m i*R k m
theorem AhA(c6:c<=6)(hc:c<=r)(hM:Fn r c M S)(hE:Fn r c (QN r M R q) (7000*uR*S))(hR:Fn r c R ((1+5000*uR)*S))(hz:∀k m,k<c->k<m->m<r->R k m=0)
 (q1:∀m,m<r->Ln r (q m) (1+5000*uR)) (q2:∀a m,a<r->m<r->av ((sm r fun i=>q a i*q m i)-dl a m)<=5000*uR)
 (hx:Ln c x X) (hb:Ln r b B) (hp:Ln c (fun i=>(sm c fun m=>R m i*x m)-c1 i) P) (he:Ln c (fun i=>c1 i-sm r fun j=>q i j*b j) e):
 Ln c (fun k=>sm r fun i=>M k i*Gi c M x b i) ((1+5000*uR)*S*(30000*uR*((1+5000*uR)*S*X)+P+e+3*(1+5000*uR)*(7000*uR*S*X))+7000*uR*S*(S*X+B)):=by
 have u0:=zc E5
 have colc:∀k i,k<c->M k i=(sm c fun m=>q m i*R k m)+QN r M R q k i:=fun k i hk=>by unfold QN;rw[<- Aa4 (f:=fun m=>q m i*R k m) hc fun m h1 h2=>by rw[hz k m hk (by omega) h2]; grind];grind
 have lack:∀i,Gi c M x b i=(sm c fun m=>q m i*sm c fun k=>R k m*x k)+(sm c fun k=>QN r M R q k i*x k)-b i:=fun i=>by
  unfold Gi
  have e1:(sm c fun k=>M k i*x k)=(sm c fun k=>x k*sm c fun m=>R k m*q m i)+sm c fun k=>QN r M R q k i*x k:=by
   rw[<- Gn];refine BY c fun k hk=>?_
   rw[colc k i hk,BY c (f:=fun m=>q m i*R k m) (g:=fun m=>R k m*q m i) fun m _=>by grind];grind
  have e2:=XX x (fun m=>q m i) (fun m k=>R k m) c c
  have e3:(sm c fun m=>q m i*sm c fun k=>R k m*x k)=sm c fun m=>(sm c fun k=>x k*R k m)*q m i:=BY c fun m _=>by rw[BY c (f:=fun k=>R k m*x k) (g:=fun k=>x k*R k m) fun k _=>by grind];grind
  rw[e1,e2,e3]
 have hw:Ln r (Gi c M x b) (S*X+B):=(hM.mul hx).sub hb
 have hy:Ln c (fun m=>sm c fun k=>R k m*x k) ((1+5000*uR)*S*X):=by
  have h1:=hR.mul hx;obtain⟨d,hd⟩:∃d,r=c+d:=⟨r-c,by omega⟩
  refine⟨h1.1,zo ?_ h1.2⟩;unfold sq;rw[hd,Mm];have:=Mn (f:=fun m=>(sm c fun k=>R k (c+m)*x k)*(sm c fun k=>R k (c+m)*x k)) d fun m _=>Ck _
  grind
 have hex:=hE.mul hx;have hq:Fn r c q (3*(1+5000*uR)):=Fn.same (fun m hm=>q1 m (by omega)) (by grind) (by omega)
 have hD:Fn c c (fun k m=>(sm r fun i=>q m i*q k i)-dl m k) (6*(5000*uR)):=Fn.Kd (by grind) (fun k m hk hm=>by
  have:=q2 m k (by omega) (by omega);have h2:=GM ((sm r fun i=>q m i*q k i)-dl m k);unfold Ab at *
  grind) c6 c6
 have hz2:∀m,m<c->(sm r fun i=>q m i*Gi c M x b i)=(sm c fun k=>((sm r fun i=>q m i*q k i)-dl m k)*sm c fun j=>R j k*x j)+((sm c fun k=>R k m*x k)-c1 m)+(c1 m-sm r fun j=>q m j*b j)+sm r fun i=>q m i*sm c fun k=>QN r M R q k i*x k:=fun m hm=>by
  have e1:(sm r fun i=>q m i*Gi c M x b i)=(sm r fun i=>q m i*sm c fun k=>q k i*sm c fun j=>R j k*x j)+((sm r fun i=>q m i*sm c fun k=>QN r M R q k i*x k)-sm r fun i=>q m i*b i):=by rw[<- Agd,<- Gn];exact BY r fun i _=>by rw[lack]; grind
  have e2:=XX (q m) (fun k=>sm c fun j=>R j k*x j) q r c
  have e3:(sm c fun k=>((sm r fun i=>q m i*q k i)-dl m k)*sm c fun j=>R j k*x j)=(sm c fun k=>(sm r fun i=>q m i*q k i)*sm c fun j=>R j k*x j)-sm c fun k=>dl m k*sm c fun j=>R j k*x j:=by rw[<- Agd];exact BY c fun k _=>by grind
  have e4:(sm c fun k=>dl m k*sm c fun j=>R j k*x j)=sm c fun j=>R j m*x j:=by
   rw[Aa3 (k:=m) hm fun k hk hne=>by unfold dl;rw[Ay (fun e=>hne e.symm)]; grind]
   unfold dl;rw[Az rfl]; grind
  rw[e1,e2,e3,e4]; grind
 have hzl:Ln c (fun m=>sm r fun i=>q m i*Gi c M x b i) (30000*uR*((1+5000*uR)*S*X)+P+e+3*(1+5000*uR)*(7000*uR*S*X)):=by have h1:=(hD.mul hy).add hp;have h2:=(h1.add he).add (hq.Ali hex);refine(h2.congr fun m hm=>hz2 m hm).mono ?_;grind
 have hall:=(hR.Ali (r:=r) (y:=fun m=>if m<c then sm r fun i=>q m i*Gi c M x b i else 0) (t:=30000*uR*((1+5000*uR)*S*X)+P+e+3*(1+5000*uR)*(7000*uR*S*X)) (by
  refine⟨hzl.1,zo ?_ hzl.2⟩;unfold sq
  rw[Aa4 hc fun m h1 _=>by dsimp only;rw[Ay (by omega)]; grind]
  exact NM c fun m hm=>by dsimp only;rw[Az hm]; exact zY)).add (hE.Ali hw)
 refine hall.congr fun k hk=>?_
 have e1:(sm r fun i=>M k i*Gi c M x b i)=(sm r fun i=>Gi c M x b i*sm c fun m=>q m i*R k m)+sm r fun i=>QN r M R q k i*Gi c M x b i:=by rw[<- Gn];exact BY r fun i _=>by rw[colc k i hk]; grind
 have e2:=XX (Gi c M x b) (R k) q r c
 have e3:(sm r fun m=>R k m*if m<c then sm r fun i=>q m i*Gi c M x b i else 0)=sm c fun m=>(sm r fun i=>Gi c M x b i*q m i)*R k m:=by
  rw[Aa4 hc fun m h1 _=>by rw[Ay (by omega)]; grind];refine BY c fun m hm=>?_
  rw[Az hm,BY r (f:=fun i=>q m i*Gi c M x b i) (g:=fun i=>Gi c M x b i*q m i) fun i _=>by grind];grind
 rw[e1,e2,e3]
end
end Go.CI
namespace Go.Proofs.S1
open Go Go.Den Go.CI Go.Proofs
def BL(k:Nat)(l:Bb):Prop:=∀x∈l,Bd k x.toNat
theorem Am3{x:Int}(h:Zr x)(k:Nat):Bd k x.toNat:=by
 rcases h with rfl | rfl
 ·exact Bd.zero wy k
 ·exact Bd.zero wg k
theorem Al2{x y:Int}{k:Nat}(h:Jp x y)(g:Bd k y.toNat):Bd k x.toNat:=by
 rcases h with rfl | ⟨h1,_⟩
 ·exact g
 ·exact Am3 h1 k
theorem AiY{k:Nat}{x:Int}(h:VC (k:Int) x=wg):Bd k x.toNat:=by
 unfold VC at h;rw[Am,Bool.or_eq_true,Am,Ai,Ai,Ai] at h;obtain⟨hf,h⟩:=h;refine .AlL hf fun h0=>?_
 have kn:Bj x.toNat≠0:=fun e=>by
  unfold Bj at e;unfold Bs at h0;split at e
  ·split at e<;>omega
  ·split at e
   ·omega
   ·split at e
    ·omega
    ·rw[Az (by omega)] at h0; omega
 rcases h with h | ⟨_,h⟩
 ·exact absurd (show Bj x.toNat=0 by unfold B8 at h; omega) kn
 ·unfold BK Ea at h;rw[Az ⟨hf,kn⟩] at h;exact h
theorem AdC{k:Nat}{l:Bb}(h:JG l (k:Int)=wg):BL k l/\Dc l=wg:=by unfold JG at h;rw[zE] at h;refine⟨fun x hx=>AiY (h x hx),?_⟩;unfold Dc;rw[zE];exact fun x hx=>(Bf.1 (h x hx)).1
theorem Ab0{R C:Nat}{x:MX}(h:Rn R C x)(f:FM x):XP x=x:=by have hc:=h.chk f;obtain⟨l,rfl,r6,c6,hl,al⟩:=h;unfold XP Lx;rw[Ay (fun h=>h rfl),Ay (fun h=>h hc)]
open Go Go.Den Go.CI Go.Proofs
end Go.Proofs.S1
namespace Go.CI
open Go.Den Go.Proofs.S1
theorem AcO{c n:Nat}{l:Bb}(fl:Dc l=wg)(hd:P2 (DA (c:Int) l n)=wy):∀i,i<n->B8 (Cc (c:Int) l (i:Int) (i:Int))≠0:=by
 intro i hi k0
 have fin_a:∀i:Nat,Bj (Cc (c:Int) l (i:Int) (i:Int)).toNat≠3/\Bj (Cc (c:Int) l (i:Int) (i:Int)).toNat≠4:=fun i=>by
  by_cases k:B8 (Cc (c:Int) l (i:Int) (i:Int))=0
  ·unfold B8 at k; omega
  ·exact N7 (Jf fl _ (at_mem k))
 have hdf:Dc (DA (c:Int) l n)=wg:=zE.2 fun x hx=>by obtain⟨j,_,rfl⟩:=zu.1 hx;have k:=fin_a j;show F9 (wz ((CV _:Nat):Int))=wg;rw[Ad,Hh,KM];simp[k.1,k.2]
 obtain⟨b3,b4,ba,hb⟩:=Rg hdf;have hmem:∀i:Nat,i<n->Gf (Cc (c:Int) l (i:Int) (i:Int))∈DA (c:Int) l n:=fun i hi=>zu.2 ⟨i,zO.2 hi,rfl⟩
 have hs:=wZ.1 hd _ (hmem i hi)
 have hs:Ma (BP (BA (DA (c:Int) l n)) (-40)) (Gf (Cc (c:Int) l (i:Int) (i:Int)))<0:=by
  rcases Int.lt_or_le (Ma (BP (BA (DA (c:Int) l n)) (-40)) (Gf (Cc (c:Int) l (i:Int) (i:Int)))) 0 with h | h
  ·exact h
  ·exact absurd h (by simpa using hs)
 have hsc:=DD (BA (DA (c:Int) l n)) (-40)
 have nB:BE (BA (DA (c:Int) l n)).toNat=wy:=by unfold BE;refine Ag ?_;unfold CV at ba; omega
 have a0:=FJ (show Bj (Cc (c:Int) l (i:Int) (i:Int)).toNat=0 by unfold B8 at k0; omega);unfold Ma Vo at hs;split at hs
 ·omega
 ·split at hs
  ·rename_i hlt;have e2:(Gf (Cc (c:Int) l (i:Int) (i:Int))).toNat=CV (Cc (c:Int) l (i:Int) (i:Int)).toNat:=Ad _;rw[e2] at hlt;have n2:BE (CV (Cc (c:Int) l (i:Int) (i:Int)).toNat)=wy:=Ag (by unfold CV; omega);have n1:BE (BP (BA (DA (c:Int) l n)) (-40)).toNat=wy:=by rw[hsc,OC b4,nB]
   unfold F1 at hlt;rw[n1,n2] at hlt;have hlt:(((BP (BA (DA (c:Int) l n)) (-40)).toNat%2^63:Nat):Int)<((CV (Cc (c:Int) l (i:Int) (i:Int)).toNat%2^63:Nat):Int):=hlt;unfold CV at hlt a0;omega
  ·split at hs<;>omega
theorem Akk{r c:Nat}{l:Bb}(hr:r<=6)(hK:Bl 60 l)(al:Bg l=wg){i b:Nat}(hi:i<r)(hb:b<c):Bd 62 (Cc (c:Int) (Fc r c l) (i:Int) (b:Int)).toNat:=by
 obtain⟨F,_,bR,_,_⟩:=Ab1 (c:=c) hr hK al;have t0:=DC 60;have h1:Ln r (cl c l b) (3*tw 60):=Ln.Kd (zc t0) (fun i _=>UY (JX hK)) (by omega);have h2:=(F.f1 b (3*tw 60) hb (by have:=V6 (show(-900:Int)<=60 by decide); grind) h1).at hi;have k:=JX (c:=(c:Int)) (i:=(i:Int)) (j:=(b:Int)) bR;refine ZV k.1 k.2.1 ?_;have e:tw ((62:Nat):Int)=4*tw 60:=by decide +kernel
 have u:(1+1000*uR*((5:Nat):Rat))*(3*tw 60)<=4*tw 60:=by decide +kernel
 rw[e];show Ab (cl c (Fc r c l) b i) _;unfold Ab at *
 grind
open Go.Den Go.Proofs.S1
def E4(r c:Nat)(l:Bb):Bb:=Cg c c fun i k=>Cc (c:Int) (Fc r c l) (i:Int) (k:Int)
def VA(r c:Nat)(l:Bb):Bb:=Cg r c fun i k=>Cc (r:Int) (FW r c l) (i:Int) (k:Int)
def Fy(r c q:Nat)(l m:Bb):Bb:=Cg c q fun i k=>Fu (Ee (r:Int) (Cg c r fun i k=>Cc (c:Int) (VA r c l) (k:Int) (i:Int)) (i:Int)) (Hw (r:Int) (q:Int) m (k:Int))
theorem VQ{R C a b:Nat}{l:Bb}(hr:B5 (R:Int) (C:Int) l=wg)(ha:a<=R)(hb:b<=C):EW (R:Int) (C:Int) l 0 0 (a:Int) (b:Int)=((a:Int),(b:Int),Cg a b fun i k=>Cc (C:Int) l (i:Int) (k:Int),0):=by
 unfold EW;rw[Az hr,Az (show GI (R:Int) (C:Int) 0 0 (a:Int) (b:Int)=wg from Ac (by omega)),Ad,Ad];have:(fun i k:Nat=>Cc (C:Int) l (0+(i:Int)) (0+(k:Int)))=fun i k:Nat=>Cc (C:Int) l (i:Int) (k:Int):=funext fun i=>funext fun k=>by rw[xf,xf]
 rw[this]
theorem Ad6{R C:Nat}{l:Bb}(hr:B5 (R:Int) (C:Int) l=wg):CG (R:Int) (C:Int) l=((C:Int),(R:Int),Cg C R fun i k=>Cc (C:Int) l (k:Int) (i:Int),0):=by unfold CG;rw[Az hr,Ad,Ad]
theorem AgW{R C K:Nat}{l m:Bb}(hl:B5 (R:Int) (K:Int) l=wg)(hm:B5 (K:Int) (C:Int) m=wg):E6 (R:Int) (K:Int) l (K:Int) (C:Int) m=((R:Int),(C:Int),Cg R C fun i k=>Fu (Ee (K:Int) l (i:Int)) (Hw (K:Int) (C:Int) m (k:Int)),0):=by unfold E6;rw[hl,hm,Ah,Az rfl,Az rfl,Ad,Ad]
section
variable{r c q:Nat}{l m:Bb}
theorem UF(r6:r<=6)(c6:c<=6)(hl:l.length=r*c)(al:Bg l=wg)(bA:Bl 60 l):DZ (r:Int) (c:Int) l=0/\(Fc r c l).length=r*c/\(FW r c l).length=r*r/\Bg (Fc r c l)=wg/\Bg (FW r c l)=wg:=by obtain⟨F,_,bR,bQ,hs⟩:=Ab1 (c:=c) r6 bA al;obtain⟨a1,a2⟩:=AcT al hl hs;obtain⟨a3,a4⟩:=AcU (c:=c) (l:=l) hs;refine⟨?_,a2,a4,a1,a3⟩;unfold DZ;rw[Ay (fun k=>k (Kh (D8 r6 c6 hl) bA.Is)),Ad,Ad,Az];unfold IM;rw[hs,bQ.Is,bR.Is]; rfl
theorem AiT(r6:r<=6)(c6:c<=6)(hc:c<=r)(hl:l.length=r*c)(al:Bg l=wg)(bA:Bl 60 l):GH (r:Int) (c:Int) l=((c:Int),(c:Int),E4 r c l,0):=by obtain⟨h0,hR,hQ,aR,aQ⟩:=UF r6 c6 hl al bA;unfold GH;rw[Ay (fun k=>k h0),show min (r:Int) (c:Int)=(c:Int) by omega,Ad,Ad,VQ (D8 r6 c6 hR) hc (A7 c)];rfl
theorem AiU(r6:r<=6)(c6:c<=6)(hc:c<=r)(hl:l.length=r*c)(al:Bg l=wg)(bA:Bl 60 l):E3 (r:Int) (c:Int) l=((r:Int),(c:Int),VA r c l,0):=by obtain⟨h0,hR,hQ,aR,aQ⟩:=UF r6 c6 hl al bA;unfold E3;rw[Ay (fun k=>k h0),show min (r:Int) (c:Int)=(c:Int) by omega,Ad,Ad,VQ (D8 r6 r6 hQ) (A7 r) hc];rfl
theorem AdP(r6:r<=6)(c6:c<=6)(q6:q<=6)(hm:m.length=r*q):Dh (r:Int) (c:Int) (VA r c l) (r:Int) (q:Int) m=((c:Int),(q:Int),Fy r c q l m,0):=by have h1:B5 (r:Int) (c:Int) (VA r c l)=wg:=D8 r6 c6 (Ca _ _ _);unfold Dh;rw[Ad6 h1];rw[Ay (fun k=>k rfl),AgW (D8 c6 r6 (Ca _ _ _)) (D8 r6 q6 hm)];rfl
theorem Qj{i b:Nat}(hi:i<c)(hb:b<c):cl c (E4 r c l) b i=cl c (Fc r c l) b i:=by unfold cl E4;rw[G2 hi hb]
theorem Tt(r6:r<=6)(hc:c<=r)(al:Bg l=wg)(bA:Bl 60 l):Bl 62 (E4 r c l):=fun x hx=>by
 unfold E4 Cg at hx;obtain⟨j,hj,rfl⟩:=zu.1 hx;have hj:=zO.1 hj
 have h0:0<c:=by
  rcases yv c with h | h
  ·subst h; omega
  ·exact h
 have h1:j / c<c:=xS hj;have h2:j%c<c:=zv _ h0;exact Akk r6 bA al (by omega) h2
theorem YI{i k:Nat}(hi:i<c)(hk:k<q):
 Cc (q:Int) (Fy r c q l m) (i:Int) (k:Int)=Fu ((zg r).map fun j:Nat=>Cc (r:Int) (FW r c l) (j:Int) (i:Int)) ((zg r).map fun j:Nat=>Cc (q:Int) m (j:Int) (k:Int)):=by
 unfold Fy;rw[G2 hi hk,NU (Ca _ _ _) hi]
 have e1:(zg r).map (fun k:Nat=>Cc (r:Int) (Cg c r fun i k=>Cc (c:Int) (VA r c l) (k:Int) (i:Int)) (i:Int) (k:Int))=(zg r).map fun j:Nat=>Cc (r:Int) (FW r c l) (j:Int) (i:Int):=y8 fun j hj=>by have hj:=zO.1 hj;rw[G2 hi hj];unfold VA;rw[G2 hj hi]
 rw[e1];unfold Hw;rw[Ad]
theorem Xk{n j:Nat}{f:Nat->Int}(hj:j<n):rv ((zg n).map f) j=vR (f j).toNat:=by unfold rv;rw[Al,AW,yA hj];rfl
theorem YH(r6:r<=6)(hc:c<=r)(al:Bg l=wg)(bA:Bl 60 l)(bB:Bl 60 m){i k:Nat}{B:Rat}(hi:i<c)(hk:k<q)(hB:Ln r (cl q m k) B):
 Nr (cl q (Fy r c q l m) k i) (sm r fun j=>cl r (FW r c l) i j*cl q m k j) (21*uR*((1+5000*uR)*B)+14*Cv)/\Bd 125 (Cc (q:Int) (Fy r c q l m) (i:Int) (k:Int)).toNat:=by
 obtain⟨F,_,_,bQ,_⟩:=Ab1 (c:=c) r6 bA al;have five:((5:Nat):Rat)=5:=rfl;have q1:=F.q1 i (by omega);rw[five] at q1;have l1:((zg r).map fun j:Nat=>Cc (r:Int) (FW r c l) (j:Int) (i:Int)).length=r:=by rw[AK,AH]
 have l2:((zg r).map fun j:Nat=>Cc (q:Int) m (j:Int) (k:Int)).length=r:=by rw[AK,AH]
 have L1:Ln r (rv ((zg r).map fun j:Nat=>Cc (r:Int) (FW r c l) (j:Int) (i:Int))) (1+5000*uR):=(q1.congr fun j hj=>Xk hj).mono (by grind);have L2:Ln r (rv ((zg r).map fun j:Nat=>Cc (q:Int) m (j:Int) (k:Int))) B:=hB.congr fun j hj=>Xk hj
 have b1:Bl 55 ((zg r).map fun j:Nat=>Cc (r:Int) (FW r c l) (j:Int) (i:Int)):=Sc fun j=>JX bQ
 have b2:Bl 60 ((zg r).map fun j:Nat=>Cc (q:Int) m (j:Int) (k:Int)):=Sc fun j=>JX bB
 have h:=Adc (j:=55) (k:=60) (by decide) (l1.trans l2.symm) (by omega) b1 b2 (by rw[l1]; exact L1) (by rw[l1]; exact L2);have hb:=XZ (j:=55) (k:=60) (by decide) b1 b2 (by omega);have e:=YI (r:=r) (l:=l) (m:=m) hi hk;rw[<- e] at h hb;rw[l1] at h;rw[BY r (g:=fun j=>cl r (FW r c l) i j*cl q m k j) fun j hj=>by rw[Xk hj,Xk hj]; rfl] at h;exact⟨h,hb.mono (by decide)⟩
theorem Xc(r6:r<=6)(hc:c<=r)(al:Bg l=wg)(bA:Bl 60 l)(bB:Bl 60 m){i k:Nat}(hi:i<c)(hk:k<q):Bd 62 (Cc (q:Int) (Fy r c q l m) (i:Int) (k:Int)).toNat:=by
 obtain⟨F,_,_,bQ,_⟩:=Ab1 (c:=c) r6 bA al;have five:((5:Nat):Rat)=5:=rfl;have t0:=DC 60;have h1:Ln r (cl q m k) (3*tw 60):=Ln.Kd (zc t0) (fun i _=>UY (JX bB)) (by omega);obtain⟨h2,h3⟩:=YH r6 hc al bA bB hi hk h1;have q1:=F.q1 i (by omega);have d:=q1.dot h1;refine ZV h3.1 h3.2.1 ?_;have e:tw ((62:Nat):Int)=4*tw 60:=by decide +kernel
 have u:(1+1000*uR*((5:Nat):Rat))*(3*tw 60)+(21*uR*((1+5000*uR)*(3*tw 60))+14*Cv)<=4*tw 60:=by decide +kernel
 rw[e];show Ab (cl q (Fy r c q l m) k i) _;unfold Ab Nr at *
 grind
end
section
variable{r c q:Nat}{l m:Bb}
theorem Akq(hr:0<r)(hc0:0<c)(r6:r<=6)(tA:TL 60 l)(fl:Dc (E4 r c l)=wg)(hd:P2 (DA (c:Int) (E4 r c l) c)=wy):∀i,i<c->Lo 100 (Cc (c:Int) (E4 r c l) (i:Int) (i:Int)).toNat:=by
 have k0:=AcO fl hd 0 hc0
 have e:Cc (c:Int) (E4 r c l) ((0:Nat):Int) ((0:Nat):Int)=Cc (c:Int) (Fc r c l) 0 0:=by unfold E4;rw[G2 hc0 hc0];rfl
 rw[e] at k0;have l0:=Ab3 (t:=60) (by decide) hr hc0 (by omega) tA k0;rw[<- e] at l0;exact Akr (t:=60) (by decide) fl hc0 l0 hd
theorem Abo(r6:r<=6)(c6:c<=6)(q6:q<=6)(hc:c<=r)(hl:l.length=r*c)(hm:m.length=r*q)(al:Bg l=wg)(bA:Bl 60 l)(tA:TL 60 l)(bB:Bl 60 m):
 (P2 (DA (c:Int) (E4 r c l) c)=wg->Dz (r:Int) (c:Int) l (r:Int) (q:Int) m=Gv 5) /\
 (P2 (DA (c:Int) (E4 r c l) c)=wy->(∀i,i<c->Lo 100 (Cc (c:Int) (E4 r c l) (i:Int) (i:Int)).toNat) /\
  Dz (r:Int) (c:Int) l (r:Int) (q:Int) m=((c:Int),(q:Int),Rt (c:Int) (E4 r c l) (q:Int) (Fy r c q l m) c q,0)/\Bl 990 (Rt (c:Int) (E4 r c l) (q:Int) (Fy r c q l m) c q)):=by
 obtain⟨h0,hR,hQ,aR,aQ⟩:=UF r6 c6 hl al bA;have bT:=Tt r6 hc al bA;have fT:=bT.Is;have cT:Cm (c:Int) (c:Int) (E4 r c l)=0:=Kh (D8 c6 c6 (Ca _ _ _)) fT
 have ef:(Hr (c:Int) (c:Int) (E4 r c l)).1=P2 (DA (c:Int) (E4 r c l) c):=by rw[AeM cT];unfold Li;rw[Ad,Nat.min_self]
 have start:Dz (r:Int) (c:Int) l (r:Int) (q:Int) m=if (Hr (GH (r:Int) (c:Int) l).1 (GH (r:Int) (c:Int) l).2.1 (GH (r:Int) (c:Int) l).2.2.1).1=wg then Gv 5 else Aar (E3 (r:Int) (c:Int) l) (GH (r:Int) (c:Int) l) (r:Int) (q:Int) m:=by unfold Dz;rw[Ay (fun k=>k (Kh (D8 r6 c6 hl) bA.Is)),Ay (fun k=>k (Kh (D8 r6 q6 hm) bB.Is)),Ay (by omega),Ay (fun k=>k h0)]
 rw[AiT r6 c6 hc hl al bA,AiU r6 c6 hc hl al bA] at start;dsimp only at start;rw[ef] at start;refine⟨fun h=>by rw[start,Az h],fun h=>?_⟩;rw[h,Ay (by decide)] at start;have dg:∀i,i<c->Lo 100 (Cc (c:Int) (E4 r c l) (i:Int) (i:Int)).toNat:=fun i hi=>Akq (by omega) (by omega) r6 tA fT h i hi
 have sb:∀i k:Nat,i<c->k<q->Bd 62 (Cc (q:Int) (Fy r c q l m) (i:Int) (k:Int)).toNat:=fun i k hi hk=>Xc r6 hc al bA bB hi hk
 have bS:Bl 62 (Fy r c q l m):=fun x hx=>by
  have hx':=hx;unfold Fy Cg at hx';obtain⟨j,hj,-⟩:=zu.1 hx';have hj:=zO.1 hj;obtain⟨i,hi,rfl⟩:=List.mem_iff_getElem.1 hx;have len:(Fy r c q l m).length=c*q:=Ca _ _ _;rw[len] at hi
  have hq:0<q:=by
   rcases yv q with h | h
   ·subst h; omega
   ·exact h
  have h1:i / q<c:=xS (by rw[A1]; exact hi);have h2:i%q<q:=zv _ hq;have:=sb (i / q) (i%q) h1 h2;unfold Cc at this
  have e:((i / q:Nat):Int)*(q:Int)+((i%q:Nat):Int)=(i:Int):=by have:=Nat.div_add_mod i q;rw[A1] at this;rw[<- Ax,<- yy,this]
  rw[e,Ad,Al,As (by omega)] at this;exact this
 have kt:Jo (c:Int) (c:Int) (E4 r c l) (c:Int) (q:Int) (Fy r c q l m)=0:=by unfold Jo;rw[Ay (fun k=>k cT),Ay (fun k=>k (Kh (D8 c6 q6 (Ca _ _ _)) bS.Is)),Ay (by omega),Ad,Ay];intro hn;unfold JA at hn;obtain⟨i,hi,hk⟩:=List.any_eq_true.1 hn;exact AcO fT h i (zO.1 hi) (A3 hk)
 have bU:Bl 990 (Rt (c:Int) (E4 r c l) (q:Int) (Fy r c q l m) c q):=fun x hx=>by
  unfold Rt Cg at hx;obtain⟨j,hj,rfl⟩:=zu.1 hx;have hj:=zO.1 hj
  have hq:0<q:=by
   rcases yv q with h | h
   ·subst h; omega
   ·exact h
  have h2:j%q<q:=zv _ hq;have ub:=Yz (c:=(c:Int)) (l:=E4 r c l) (b:=fun i=>Cc (q:Int) (Fy r c q l m) (i:Int) ((j%q:Nat):Int)) (n:=c) (p:=62) (t:=100) bT (fun i hi=>sb i _ hi h2) dg (by decide) c (A7 c) c6;exact(No ub _).mono (by omega)
 refine⟨dg,?_,bU⟩;rw[start];unfold Aar;dsimp only;rw[AdP r6 c6 q6 hm,Ay (fun k=>k rfl)];dsimp only;unfold Rq;rw[Ay (fun k=>k kt),Ad,Ad];unfold Hb;rw[bU.Is,Az rfl]
end
theorem Fn.scaled{r c:Nat}{M:Nat->Nat->Rat}{s:Nat->Rat}{S k:Rat}(hk:0<=k)(h:∀b,b<c->Ln r (M b) (k*s b))(hS:0<=S)(hs:(sm c fun b=>s b*s b)<=S*S):Fn r c M (k*S):=by
 refine Fn.of (s:=fun b=>k*s b) h (ze hk hS) ?_
 have e:(sm c fun b=>k*s b*(k*s b))=k*k*sm c fun b=>s b*s b:=by rw[<- Fq];exact BY c fun b _=>by grind
 rw[e];have:=zl hs (Ck k);grind
theorem Fn.front{r c d:Nat}{M:Nat->Nat->Rat}{S:Rat}(h:Fn (d+r) c M S):Fn d c M S:=by
 refine⟨h.1,zo (NM c fun b _=>?_) h.2⟩;unfold sq;rw[Mm];have:=Mn (f:=fun m=>M b (d+m)*M b (d+m)) r fun m _=>Ck _
 grind
theorem AgG{u S x B v e:Rat}(hu:0<=u)(hS:0<=S)(hx:0<=x)(hB:0<=B)(v0:0<=v)(hv:v<=101 / 100)(he:0<=e)(he2:e<=u*B):
 v*S*(30000*u*(v*S*x)+(18*u*(3*(2*B)+v*S*x)+e)+(3*(21*u*(v*B))+e)+3*v*(7000*u*S*x))+7000*u*S*(S*x+B)<=u*S*(60000*(S*x)+8000*B):=by
 have Y:=ze hu (ze (ze hS hS) hx);have Z:=ze hu (ze hS hB);have vv:=DP hv hv (by decide +kernel) v0;have y1:=zd vv Y;have z1:=zd hv Z;have z2:=zd vv Z;have w1:=zl he2 hS;have w2:=zd hv (ze hS he);grind
section
variable{r c q k:Nat}{l m:Bb}{s:Nat->Rat}{S B x:Rat}
theorem Abn(r6:r<=6)(c6:c<=6)(hc:c<=r)(hk:k<q)(al:Bg l=wg)(bA:Bl 60 l)(bB:Bl 60 m)
 (dg:∀i,i<c->Lo 100 (Cc (c:Int) (E4 r c l) (i:Int) (i:Int)).toNat)
 (hs9:∀b,b<c->tw (-900)<=s b) (hs:∀b,b<c->Ln r (cl c l b) (s b)) (hS:0<=S) (hSs:(sm c fun b=>s b*s b)<=S*S)
 (hB:Ln r (cl q m k) B) (hB8:tw (-800)<=B) (hx:Ln c (rv (LY (c:Int) (E4 r c l) (fun i=>Cc (q:Int) (Fy r c q l m) (i:Int) (k:Int)) c c)) x):
 Ln c (fun b=>sm r fun i=>cl c l b i*Gi c (cl c l) (rv (LY (c:Int) (E4 r c l) (fun i=>Cc (q:Int) (Fy r c q l m) (i:Int) (k:Int)) c c)) (cl q m k) i) (uR*S*(60000*(S*x)+8000*B)):=by
 obtain⟨F,hz,_,_,_⟩:=Ab1 (c:=c) r6 bA al;have five:((5:Nat):Rat)=5:=rfl;have u0:=zc E5;have us:=Gb;have e0:=zc Ek;have B0:=hB.1;have bT:=Tt r6 hc al bA;have q1:=F.q1;have q2:=F.q2;have f1:=fun b hb=>F.f1 b (s b) hb (hs9 b hb) (hs b hb)
 have f2:=fun b hb=>F.f2 b (s b) hb (hs9 b hb) (hs b hb)
 rw[five] at q1 q2 f1 f2;have v0:(0:Rat)<=1+5000*uR:=by grind
 have hM:Fn r c (cl c l) S:=Fn.of hs hS hSs;have hE:Fn r c (QN r (cl c l) (cl c (Fc r c l)) (cl r (FW r c l))) (7000*uR*S):=Fn.scaled (by grind) (fun b hb=>(f2 b hb).mono (by grind)) hS hSs;have hR:Fn r c (cl c (Fc r c l)) ((1+5000*uR)*S):=Fn.scaled v0 (fun b hb=>(f1 b hb).mono (by grind)) hS hSs
 have hT:Fn c c (cl c (E4 r c l)) ((1+5000*uR)*S):=by
  obtain⟨d,hd⟩:∃d,r=c+d:=⟨r-c,by omega⟩
  have h1:Fn (c+d) c (cl c (Fc r c l)) ((1+5000*uR)*S):=by rw[<- hd]; exact hR
  exact h1.front.congr fun b i hb hi=>Qj hi hb
 have sv:=fun i (hi:i<c)=>YH (k:=k) (l:=l) r6 hc al bA bB hi hk hB
 have ee:42*Cv<=3*((12+tw 62)*Cv):=by decide +kernel
 have eb:3*((12+tw 62)*Cv)<=uR*B:=by
  have h1:3*((12+tw 62)*Cv)<=uR*tw (-800):=by decide +kernel
  exact zo h1 (Hp hB8)
 have he:Ln c (fun i=>cl q (Fy r c q l m) k i-sm r fun j=>cl r (FW r c l) i j*cl q m k j) (3*(21*uR*((1+5000*uR)*B))+3*((12+tw 62)*Cv)):=by
  refine(Ln.Kd (B:=21*uR*((1+5000*uR)*B)+14*Cv) ?_ (fun i hi=>?_) (by omega)).mono (by grind)
  ·have:=ze u0 (ze v0 B0); grind
  ·have:=(sv i hi).1;unfold Nr at this; unfold Ab; grind
 have hcl:Ln c (fun i=>vR (Cc (q:Int) (Fy r c q l m) (i:Int) (k:Int)).toNat) (3*(2*B)):=by
  refine Ln.Kd (by grind) (fun i hi=>?_) (by omega);have h1:=(sv i hi).1;have h2:=(q1 i (by omega)).dot hB
  have h3:(1+1000*uR*5)*B+(21*uR*((1+5000*uR)*B)+14*Cv)<=2*B:=by have g1:=zd us B0;have g2:=DP us g1 (by decide +kernel) (ze u0 B0);grind
  show Ab (cl q (Fy r c q l m) k i) _;unfold Ab Nr at *
  grind
 have hzT:∀m i:Nat,m<i->i<c->cl c (E4 r c l) m i=0:=fun m i hm hi=>by rw[Qj hi (by omega)];exact hz m i (by omega) hm (by omega)
 have hp:=Alb (c:=c) (n:=c) (p:=62) (t:=100) (b:=fun i=>Cc (q:Int) (Fy r c q l m) (i:Int) (k:Int)) c6 bT (fun i hi=>Xc r6 hc al bA bB hi hk) dg (by decide) hzT hT hx hcl;have x0:=hx.1;generalize rv (LY (c:Int) (E4 r c l) (fun i=>Cc (q:Int) (Fy r c q l m) (i:Int) (k:Int)) c c)=X at *
 have hp':Ln c (fun i=>(sm c fun m=>cl c (Fc r c l) m i*X m)-cl q (Fy r c q l m) k i) (18*uR*(3*(2*B)+(1+5000*uR)*S*x)+3*((12+tw 62)*Cv)):=by
  refine hp.congr fun i hi=>?_
  rw[BY c (f:=fun m=>cl c (Fc r c l) m i*X m) (g:=fun m=>cl c (E4 r c l) m i*X m) fun m hm=>by rw[Qj hi hm]];rfl
 have h:=AhA c6 hc hM hE hR hz (fun m hm=>(q1 m hm).mono (by grind)) (fun a m ha hm=>zo (q2 a m ha hm) (by grind)) hx hB hp' he;refine h.mono ?_;have pe:0<=3*((12+tw 62)*Cv):=zo (by grind) ee;exact AgG u0 hS x0 B0 v0 (by grind) pe eb
end
theorem Wt{j k:Nat}(hjk:j+k<=1000):∀(x y:Bb) (s t:Nat),x.length=y.length->Bl j x->Bl k y->Bm t (j+k) s->0<t->t+x.length<=1000->vR s=0->(∀z∈y,vR z.toNat=0)->vR (J4 s x y)=0
 | [],[],s,t,_,_,_,_,_,_,h,_=>h
 | [],_::_,_,_,hl,_,_,_,_,_,_,_=>by simp at hl
 | _::_,[],_,_,hl,_,_,_,_,_,_,_=>by simp at hl
 | a::x,b::y,s,t,hl,hx,hy,hs,h0,ht,h,hz=>by
   simp only[zt] at ht hl;have ba:=hx a AU;have bb:=hy b AU;have b2:=Bd.mul (show j+k<=1023 by omega) ba bb;have b3:=Bm.add (k:=j+k) (by omega) (by omega) hjk hs b2.bm;have m0:=VV ba.1 ba.2.1 bb.1 bb.2.1 b2.1 (by rw[hz b AU]; grind);have e0:vR s+vR (EA a.toNat b.toNat).1=0:=by rw[h,m0]; grind
   have m2:=Tk hs.1 hs.2.1 b2.1 b2.2.1 b3.1 (B:=0) (by rw[e0]; exact Tl);rw[e0] at m2;exact Wt hjk x y _ (t+1) (by omega) (fun z hz=>hx z (AJ _ hz)) (fun z hz=>hy z (AJ _ hz)) b3 (by omega) (by omega) (Ac5 m2) (fun z h=>hz z (AJ _ h))
theorem Lo.lower{t a:Nat}(h:Lo t a):tw (-(t:Int))<=av (vR a):=by
 have h1:=Ahl h.m0;have h2:=zd h1 (zc (DC (By a)));rw[<- Ex] at h2;have h3:=V6 h.log
 have h4:av (vR a)=((Bs a:Nat):Rat)*tw (By a):=by
  unfold vR;rw[DN,DN,MD (Jw _),MD (zc (DC _))];have:av (Mj (BE a))=1:=by cases BE a<;>decide +kernel
  rw[this]; grind
 rw[h4];exact zo h3 h2
section
variable{r c q k:Nat}{l m:Bb}
theorem AdO(r6:r<=6)(al:Bg l=wg)(bA:Bl 60 l)(bB:Bl 60 m)(hk:k<q)(hz:∀j,j<r->cl q m k j=0){i:Nat}(hi:i<c):vR (Cc (q:Int) (Fy r c q l m) (i:Int) (k:Int)).toNat=0:=by
 obtain⟨F,_,_,bQ,_⟩:=Ab1 (c:=c) r6 bA al;rw[YI hi hk];have l1:((zg r).map fun j:Nat=>Cc (r:Int) (FW r c l) (j:Int) (i:Int)).length=r:=by rw[AK,AH]
 have l2:((zg r).map fun j:Nat=>Cc (q:Int) m (j:Int) (k:Int)).length=r:=by rw[AK,AH]
 have e:(Fu ((zg r).map fun j:Nat=>Cc (r:Int) (FW r c l) (j:Int) (i:Int)) ((zg r).map fun j:Nat=>Cc (q:Int) m (j:Int) (k:Int))).toNat=J4 0 ((zg r).map fun j:Nat=>Cc (r:Int) (FW r c l) (j:Int) (i:Int)) ((zg r).map fun j:Nat=>Cc (q:Int) m (j:Int) (k:Int)):=Ad _;rw[e]
 exact Wt (j:=55) (k:=60) (by decide) _ _ 0 1 (l1.trans l2.symm) (Sc fun j=>JX bQ) (Sc fun j=>JX bB) (Bd.zero wy (55+60)).bm (by decide) (by omega) (Ho wy) fun z hz'=>by obtain⟨j,hj,rfl⟩:=zu.1 hz';exact hz j (zO.1 hj)
def Ra(r c q:Nat)(l m:Bb)(k i:Nat):Rat:=rv (LY (c:Int) (E4 r c l) (fun i=>Cc (q:Int) (Fy r c q l m) (i:Int) (k:Int)) c c) i
theorem AeW(r6:r<=6)(c6:c<=6)(hc:c<=r)(al:Bg l=wg)(bA:Bl 60 l)(bB:Bl 60 m)(hk:k<q)
 (dg:∀i,i<c->Lo 100 (Cc (c:Int) (E4 r c l) (i:Int) (i:Int)).toNat) (hz:∀j,j<r->cl q m k j=0) (i:Nat):Ra r c q l m k i=0:=by
 have bT:=Tt r6 hc al bA;have h:=Aca (c:=(c:Int)) (l:=E4 r c l) (b:=fun i=>Cc (q:Int) (Fy r c q l m) (i:Int) (k:Int)) (n:=c) (p:=62) (t:=100) bT (fun i hi=>Xc r6 hc al bA bB hi hk) dg (by decide) (fun i hi=>AdO r6 al bA bB hk hz hi) c (A7 c) c6;unfold Ra rv;by_cases hi:i<(LY (c:Int) (E4 r c l) (fun i=>Cc (q:Int) (Fy r c q l m) (i:Int) (k:Int)) c c).length
 ·rw[Al,As hi];exact h _ (ya hi)
 ·rw[Al,AY (by omega)];exact Ho wy
theorem Akt(hk:k<q){i:Nat}(hi:i<c):cl q (Rt (c:Int) (E4 r c l) (q:Int) (Fy r c q l m) c q) k i=Ra r c q l m k i:=by unfold cl Rt;rw[G2 hi hk];rfl
end
theorem roots{r:Nat}(f:Nat->Rat):∃s,tw (-900)<=s/\Ln r f s/\s*s<=103 / 100*(sq r f+tw (-1800)):=by have t0:=DC (-1800);have q0:=JI r f;obtain⟨s,s0,h1,h2⟩:=VL (q:=sq r f+tw (-1800)) (by grind);refine⟨s,Lg (zc s0) ?_,⟨zc s0,by grind⟩,h2⟩;rw[<- Ex];have e:(-900:Int)+-900=-1800:=rfl;rw[e];grind
theorem Afb{n:Nat}{P:Nat->Rat->Prop}(h:∀b,b<n->∃s,P b s):∃s:Nat->Rat,∀b,b<n->P b (s b) :=⟨fun b=>if hb:b<n then wU (h b hb) else 0,fun b hb=>by dsimp only;rw[dif_pos hb];exact ud (h b hb)⟩
theorem AlN{u S x B A X2 B2 G t:Rat}(hu2:u*u=tw (-106))(hA:0<=A)(hX:0<=X2)(hS:S*S<=107 / 100*A)(hx:x*x<=103 / 100*(X2+t))(hB:B*B<=103 / 100*(B2+t))
 (h1:A*t<=B2) (h2:t<=B2) (ht:0<=t) (hG:G<=(u*S*(60000*(S*x)+8000*B))*(u*S*(60000*(S*x)+8000*B))):G<=tw (-70)*(A*(A*X2+B2)):=by
 have W:=ze hA hX;have a1:=DP hS hx (ze (by decide +kernel) hA) (Ck x);have a2:S*S*(x*x)<=12 / 10*(A*X2+B2):=by grind
 have a3:B*B<=3*B2:=by grind
 have d:=Ck (60000*(S*x)-8000*B);have a4:(60000*(S*x)+8000*B)*(60000*(S*x)+8000*B)<=10000000000*(A*X2+B2):=by grind
 have a5:=DP hS a4 (ze (by decide +kernel) hA) (Ck _);have a6:=zl a5 (zc (DC (-106)));rw[<- hu2] at a6;have e:(u*S*(60000*(S*x)+8000*B))*(u*S*(60000*(S*x)+8000*B))=u*u*(S*S*((60000*(S*x)+8000*B)*(60000*(S*x)+8000*B))):=by grind
 have n:tw (-106)*(107 / 100*10000000000)<=tw (-70):=by decide +kernel
 have a7:=zd n (show 0<=A*(A*X2+B2) from ze hA (by grind));have e2:u*u*(107 / 100*A*(10000000000*(A*X2+B2)))=tw (-106)*(107 / 100*10000000000)*(A*(A*X2+B2)):=by rw[hu2]; grind
 rw[e2,<- e] at a6;exact zo hG (zo a6 a7)
theorem Anw{Q T A t w:Rat}(h1:Q<=103 / 100*(T+t))(h2:T<=103 / 100*(A+6*t))(h3:1000*t<=w)(h4:w<=A)(ht:0<=t):Q<=107 / 100*A:=by grind
theorem Anv{a q A t w y:Rat}(h:a*a<=101 / 100*y*(101 / 100*y))(h2:y*y<=103 / 100*(q+t))(h3:q<=A)(n:w+t<=a*a*(8 / 10))(ht:0<=t)(hq:0<=q):w<=A:=by grind
section
variable{r c q k:Nat}{l m:Bb}
def GX(r c:Nat)(l:Bb):Rat:=sm c fun b=>sq r (cl c l b)
theorem Agc(r c:Nat)(l:Bb):0<=GX r c l:=Mn c fun _ _=>JI _ _
theorem Agb(r6:r<=6)(c6:c<=6)(bA:Bl 60 l):GX r c l<=tw 126:=by have t0:=zc (DC 60);have h:Fn r c (cl c l) (6*tw 60):=Fn.Kd t0 (fun b i _ _=>UY (JX bA)) c6 r6;refine zo h.2 ?_;decide +kernel
theorem Vs(r6:r<=6)(c6:c<=6)(hc:c<=r)(hk:k<q)(al:Bg l=wg)(bA:Bl 60 l)(bB:Bl 60 m)(tB:TL 60 m)
 (dg:∀i,i<c->Lo 100 (Cc (c:Int) (E4 r c l) (i:Int) (i:Int)).toNat):
 sq c (fun b=>sm r fun i=>cl c l b i*Gi c (cl c l) (Ra r c q l m k) (cl q m k) i)<=tw (-70)*(GX r c l*(GX r c l*sq c (Ra r c q l m k)+sq r (cl q m k))):=by
 have A0:=Agc r c l;have X0:=JI c (Ra r c q l m k);have B0:=JI r (cl q m k)
 have R0:0<=tw (-70)*(GX r c l*(GX r c l*sq c (Ra r c q l m k)+sq r (cl q m k))) :=ze (zc (DC _)) (ze A0 (by have:=ze A0 X0; grind))
 by_cases c0:c=0
 ·subst c0; exact R0
 by_cases hz:∀j,j<r->cl q m k j=0
 ·refine zo ?_ R0;have xz:=AeW r6 c6 hc al bA bB hk dg hz
  have g:∀b,(sm r fun i=>cl c l b i*Gi c (cl c l) (Ra r c q l m k) (cl q m k) i)=0:=fun b=>by
   rw[BY r (g:=fun _=>0) fun i hi=>?_]
   ·exact HC r
   ·unfold Gi;rw[hz i hi,BY c (g:=fun _=>0) fun j _=>by rw[xz]; grind];rw[HC]; grind
  unfold sq
  rw[BY c (g:=fun _=>0) fun b _=>by dsimp only;rw[g]; grind]
  rw[HC]; exact zY
 ·obtain⟨j,hj⟩:=vN.1 hz
  obtain⟨hj,hb⟩:j<r/\cl q m k j≠0:=by
   rcases AA j r with h | h
   ·exact⟨h,fun e=>hj fun _=>e⟩
   ·exact absurd (fun h2=>by omega) hj
  have t0:=DC (-1800);obtain⟨s,hs⟩:=Afb (n:=c) (P:=fun b s=>tw (-900)<=s/\Ln r (cl c l b) s/\s*s<=103 / 100*(sq r (cl c l b)+tw (-1800))) fun b _=>roots (cl c l b)
  have S0:0<=sm c fun b=>s b*s b:=Mn c fun b _=>Ck _
  obtain⟨S,Sp,S1,S2⟩:=VL (q:=(sm c fun b=>s b*s b)+tw (-1800)) (by grind);obtain⟨x,-,hx,x2⟩:=roots (r:=c) (Ra r c q l m k);obtain⟨B,-,hB,hB2⟩:=roots (r:=r) (cl q m k)
  have hss:(sm c fun b=>s b*s b)<=103 / 100*(GX r c l+6*tw (-1800)):=by
   have h1:=NM (f:=fun b=>s b*s b) (g:=fun b=>103 / 100*(sq r (cl c l b)+tw (-1800))) c fun b hb=>(hs b hb).2.2
   rw[Fq,Gn,KU] at h1;have h2:=zd (CR c6) (zc t0);have e6:((6:Nat):Rat)=6:=rfl;rw[e6] at h2;have e7:(sm c fun i=>sq r (cl c l i))=GX r c l:=rfl;rw[e7] at h1;grind
  have hbl:tw (-60)<=av (cl q m k j):=by
   have k0:B8 (Cc (q:Int) m (j:Int) (k:Int))≠0:=fun e=>hb (NG (by unfold B8 at e; omega))
   exact(tB _ (at_mem k0) k0).lower
  have hB0:tw (-120)<=sq r (cl q m k):=by
   have h1:=SP (f:=fun i=>cl q m k i*cl q m k i) hj fun i _=>Ck _
   have h2:=DP hbl hbl (Ef _) (zc (DC _));rw[<- Ex,IP] at h2;exact zo h2 h1
  have hA0:tw (-204)<=GX r c l:=by
   have h0:0<c:=by omega
   have h1:=(dg 0 h0).lower;obtain⟨F,_⟩:=Ab1 (c:=c) r6 bA al;obtain⟨a1,a2,a3⟩:=hs 0 h0;have h2:=IQ ((F.f1 0 (s 0) h0 a1 a2).at (show 0<r by omega))
   have h3:av (cl c (Fc r c l) 0 0)=av (vR (Cc (c:Int) (E4 r c l) ((0:Nat):Int) ((0:Nat):Int)).toNat):=by rw[<- Qj h0 h0]; rfl
   rw[h3] at h2;have h4:(1+1000*uR*((5:Nat):Rat))<=101 / 100:=by decide +kernel
   have h5:=zd h4 a2.1;have h6:tw (-100)<=101 / 100*s 0:=zo h1 (zo h2 h5);have h7:=DP h6 h6 (zo (zc (DC _)) h6) (zc (DC _));have h8:=SP (f:=fun b=>sq r (cl c l b)) h0 fun b _=>JI r (cl c l b)
   have h9:sq r (cl c l 0)<=GX r c l:=h8;have n:tw (-204)+tw (-1800)<=tw (-100)*tw (-100)*(8 / 10):=by decide +kernel
   exact Anv h7 a3 h9 n (zc t0) (JI _ _)
  have hA1:=Agb r6 c6 bA
  have hS:S*S<=107 / 100*GX r c l:=by
   have n:1000*tw (-1800)<=tw (-204):=by decide +kernel
   exact Anw S2 hss n hA0 (zc t0)
  have hSs:(sm c fun b=>s b*s b)<=S*S:=by clear hS hA1 hA0 hB0 hbl hss hs hx x2 hB hB2 hb;grind
  have hAt:GX r c l*tw (-1800)<=sq r (cl q m k):=by
   have h1:=zd hA1 (zc t0);have n:tw 126*tw (-1800)<=tw (-120):=by decide +kernel
   exact zo h1 (zo n hB0)
  have ht:tw (-1800)<=sq r (cl q m k):=zo (V6 (by decide)) hB0
  have hB8:tw (-800)<=B:=by refine Lg hB.1 ?_;rw[<- Ex];exact zo (V6 (by decide)) (zo hB0 hB.2)
  have h:=Abn r6 c6 hc hk al bA bB dg (fun b hb=>(hs b hb).1) (fun b hb=>(hs b hb).2.1) (zc Sp) hSs hB hB8 hx;have hu:uR*uR=tw (-106):=by decide +kernel
  exact AlN hu A0 X0 hS x2 hB2 hAt ht (zc t0) h.2
end
theorem Aco(c:Nat)(f:Nat->Rat):∀r,sm (r*c) f=sm r fun i=>sm c fun j=>f (i*c+j)
 | 0=>by rw[zI]; rfl
 | r+1=>by rw[Nat.succ_mul,Mm,Aco c f r];rfl
theorem WY{r c:Nat}{l:Bb}(hl:l.length=r*c):Im l=GX r c l:=by
 unfold Im GX sq;rw[WZ,hl,Aco,SQ];refine BY c fun b _=>BY r fun i _=>?_
 unfold cl DW;rw[Jg]
theorem AhB(r c q:Nat)(l X h:Bb):Jr r c q l X h=sm q fun k=>sq c fun b=>sm r fun i=>cl c l b i*Gi c (cl c l) (cl q X k) (cl q h k) i:=by unfold Jr sq Px Gi;simp only[WZ];rfl
theorem Z6{r c q:Nat}{l m:Bb}(r6:r<=6)(c6:c<=6)(hc:c<=r)(hl:l.length=r*c)(hm:m.length=r*q)(al:Bg l=wg)(bA:Bl 60 l)(bB:Bl 60 m)(tB:TL 60 m)
 (dg:∀i,i<c->Lo 100 (Cc (c:Int) (E4 r c l) (i:Int) (i:Int)).toNat):
 Jr r c q l (Rt (c:Int) (E4 r c l) (q:Int) (Fy r c q l m) c q) m<=Im l*(Im l*Im (Rt (c:Int) (E4 r c l) (q:Int) (Fy r c q l m) c q)+Im m)*tw (-70)+tw (-4000):=by
 have lX:(Rt (c:Int) (E4 r c l) (q:Int) (Fy r c q l m) c q).length=c*q:=Ca _ _ _;rw[AhB,WY hl,WY hm,WY lX];generalize hX:Rt (c:Int) (E4 r c l) (q:Int) (Fy r c q l m) c q=X;have hx:∀k i,k<q->i<c->cl q X k i=Ra r c q l m k i:=fun k i hk hi=>by rw[<- hX]; exact Akt hk hi
 have h:=NM (f:=fun k=>sq c fun b=>sm r fun i=>cl c l b i*Gi c (cl c l) (cl q X k) (cl q m k) i) (g:=fun k=>tw (-70)*(GX r c l*(GX r c l*sq c (cl q X k)+sq r (cl q m k)))) q fun k hk=>by
  have h1:=Vs r6 c6 hc hk al bA bB tB dg
  have e1:(sq c fun b=>sm r fun i=>cl c l b i*Gi c (cl c l) (cl q X k) (cl q m k) i)=sq c fun b=>sm r fun i=>cl c l b i*Gi c (cl c l) (Ra r c q l m k) (cl q m k) i:=by
   unfold sq;refine BY c fun b _=>?_
   have:(sm r fun i=>cl c l b i*Gi c (cl c l) (cl q X k) (cl q m k) i)=sm r fun i=>cl c l b i*Gi c (cl c l) (Ra r c q l m k) (cl q m k) i:=BY r fun i _=>by unfold Gi;rw[BY c (f:=fun j=>cl c l j i*cl q X k j) (g:=fun j=>cl c l j i*Ra r c q l m k j) fun j hj=>by rw[hx k j hk hj]]
   exact congrArg (fun z=>z*z) this
  have e2:sq c (cl q X k)=sq c (Ra r c q l m k):=by unfold sq;exact BY c fun j hj=>by rw[hx k j hk hj]
  exact(show(sq c fun b=>sm r fun i=>cl c l b i*Gi c (cl c l) (cl q X k) (cl q m k) i)<=tw (-70)*(GX r c l*(GX r c l*sq c (cl q X k)+sq r (cl q m k))) by rw[e1,e2];exact h1)
 have e:(sm q fun k=>tw (-70)*(GX r c l*(GX r c l*sq c (cl q X k)+sq r (cl q m k))))=GX r c l*(GX r c l*GX c q X+GX r q m)*tw (-70):=by unfold GX;rw[Fq,Fq,Gn,Fq]; grind
 rw[e] at h;have:=DC (-4000);grind
structure Tm(r c:Nat)(l:Bb):Prop where
 r6:r<=6
 c6:c<=6
 len:l.length=r*c
 AbY:Bg l=wg
 Ud:Bl 60 l
 least:TL 60 l
theorem AkG{r c:Int}{l:Bb}{k:Nat}(hr:B5 r c l=wg)(al:Bg l=wg)(ht:JG l (k:Int)=wg)(hk:k<=60):∃R C:Nat,r=R/\c=C/\Tm R C l:=by obtain⟨R,C,e1,e2,r6,c6,hl⟩:=CU hr;exact⟨R,C,e1,e2,r6,c6,hl,al,fun x hx=>((AdC ht).1 x hx).mono hk,fun x hx k0=>(AiX ht x hx k0).mono hk⟩
theorem Abm{r c p q:Nat}{l m:Bb}(A:Tm r c l)(B:Tm p q m):
 Dz (r:Int) (c:Int) l (p:Int) (q:Int) m=Gv 3\/Dz (r:Int) (c:Int) l (p:Int) (q:Int) m=Gv 5 \/
 ∃X,c<=r/\p=r/\Dz (r:Int) (c:Int) l (p:Int) (q:Int) m=((c:Int),(q:Int),X,0)/\X.length=c*q/\Bl 990 X /\
  Jr r c q l X m<=Im l*(Im l*Im X+Im m)*tw (-70)+tw (-4000):=by
 by_cases hs:(r:Int)<(c:Int)\/(r:Int)≠(p:Int)
 ·refine .inl ?_;unfold Dz;rw[Ay (fun k=>k (Kh (D8 A.r6 A.c6 A.len) A.Ud.Is)),Ay (fun k=>k (Kh (D8 B.r6 B.c6 B.len) B.Ud.Is)),Az hs]
 ·obtain rfl:p=r:=by omega
  have hc:c<=p:=by omega
  obtain⟨h1,h2⟩:=Abo A.r6 A.c6 B.c6 hc A.len B.len A.AbY A.Ud A.least B.Ud;cases hf:P2 (DA (c:Int) (E4 p c l) c) with
  | true=>exact .inr (.inl (h1 hf))
  | false =>obtain⟨dg,e,b⟩:=h2 hf;exact .inr (.inr ⟨_,hc,rfl,e,Ca _ _ _,b,Z6 A.r6 A.c6 hc A.len B.len A.AbY A.Ud B.Ud B.least dg⟩)
end Go.CI
namespace Go.Proofs.S1
open Go Go.Den Go.CI Go.Proofs
set_option maxRecDepth 100000
open Go Go.Den Go.CI Go.Proofs
section
variable{x a b:Bb}(h1:a.length<=36)(h2:x.length<=36)(h3:b.length<=36)
include h1 h2 h3
theorem Ahs:Dq (Im a)/\Dq (Im x)/\Dq (Im b)/\Dq (Im a*Im x)/\Dq (Im a*Im x+Im b)/\Ds (Im a*(Im a*Im x+Im b)):=by have A:=Dg.sq (x:=a) (by omega);have X:=Dg.sq (x:=x) (by omega);have B:=Dg.sq (x:=b) (by omega);have AX:=A.mul X;have B':=(B.up 2148).wide (s:=8400) (by decide);have S:=AX.add B';have T:=A.mul S;exact⟨A.dq (by decide) (by decide) (by decide),X.dq (by decide) (by decide) (by decide),B.dq (by decide) (by decide) (by decide),AX.dq (by decide) (by decide) (by decide),S.dq (by decide) (by decide) (by decide),T.ds (by decide) (by decide) (by decide)⟩
end
set_option maxRecDepth 100000
section
variable{N:Nat}{r c p q u v:Int}{l m h:Bb}{R Q T C W:MX}
end
section
variable{N:Nat}{r c p q:Int}{l m:Bb}{Q L S w o y:MX}
end
section
variable{r c p q u v x:Int}{l m h:Bb}
end
end Go.Proofs.S1
namespace Go.CI
open Go.Den Go.Proofs.S1
theorem Afu:DW 0=0:=Ho wy
open Go.Den
theorem Lz{z:Int}(h:Zr z):∃n:Bool,z.toNat=BG n 0/\z=((BG n 0:Nat):Int):=by
 rcases h with rfl | rfl
 ·exact⟨wy,rfl,rfl⟩
 ·exact⟨wg,rfl,rfl⟩
theorem SG(n:Bool):Zr ((BG n 0:Nat):Int):=by
 cases n
 ·exact .inl rfl
 ·exact .inr rfl
theorem Pc{a b:Nat}(k3:Bj a=3)(k0:Bj b=0):Em a b=(a,0):=by unfold Em; rw[Ay (by omega),Az k3,Ay (by omega)]
theorem Pb{a b:Nat}(k4:Bj a=4):Em a b=(Jt,0):=by unfold Em; rw[Az (.inl k4)]
theorem Zb{a b:Nat}(k4:Bj b=4):EA a b=(Jt,0):=by unfold EA; rw[Az (.inr k4)]
theorem VY{a b:Nat}(k0:Bj a=0)(k3:Bj b=3):EA a b=(Jt,16):=by unfold EA; rw[Ay (by omega),Az (.inr k3),Az (.inl k0)]
theorem VX{a b:Nat}(k0:Bj a=0)(m0:Bs a=0)(k3:Bj b≠3)(k4:Bj b≠4):(EA a b).1=BG (BE a !=BE b) 0:=by unfold EA; rw[Ay (by omega),Ay (by omega),m0,zI,Ju]
theorem ZQ{a b:Nat}(k4:Bj b=4):JW a b=(Jt,0):=by unfold JW; rw[Az (.inr k4)]
theorem Adg{a b:Nat}(k0:Bj a=0)(k0':Bj b=0):JW a b=(Jt,16):=by unfold JW; rw[Ay (by omega),Az ⟨by omega,by omega⟩]
theorem Wv{a b:Nat}(k0:Bj a=0)(k4:Bj b≠4)(kb:Bj b≠0):(JW a b).1=BG (BE a !=BE b) 0:=by unfold JW; rw[Ay (by omega),Ay (by omega),Ay (by omega),Az (.inr k0)]
theorem Aiw{a z z':Int}(ha:Bo a=wg)(h:Zr z)(h':Zr z'):Jp (EN a z) (EN a z'):=by
 obtain⟨n,e,_⟩:=Lz h;obtain⟨n',e',_⟩:=Lz h';unfold EN;rw[e,e'];obtain⟨z1,_,_⟩:=F8 n;obtain⟨z1',_,_⟩:=F8 n';by_cases k4:Bj a.toNat=4
 ·rw[Pb k4,Pb k4]; exact .inl rfl
 ·by_cases k3:Bj a.toNat=3
  ·rw[Pc k3 z1,Pc k3 z1']; exact .inl rfl
  ·by_cases hz:a.toNat=2^63
   ·rw[hz]; cases n<;>cases n'<;>(unfold Jp Zr; decide +kernel)
   ·rw[I6 (F4 ha) k3 k4 hz,I6 (F4 ha) k3 k4 hz]; exact .inl rfl
theorem Nv(a b:Int):EN a b=EN b a:=by unfold EN; rw[Si]
theorem Al1{a b:Int}(h:Jp a b)(ha:Bo a=wg):Bo b=wg:=by
 rcases h with rfl | ⟨_,h⟩
 ·exact ha
 ·exact(Am2 h).word
theorem Adv{a a' b b':Int}(ia:Bo a=wg)(ib:Bo b=wg)(ha:Jp a a')(hb:Jp b b'):Jp (EN a b) (EN a' b'):=by
 have h1:Jp (EN a b) (EN a b'):=by
  rcases hb with rfl | ⟨h1,h2⟩
  ·exact .inl rfl
  ·exact Aiw ia h1 h2
 have h2:Jp (EN a b') (EN a' b'):=by
  rcases ha with rfl | ⟨h1,h2⟩
  ·exact .inl rfl
  ·rw[Nv a,Nv a']; exact Aiw (Al1 hb ib) h1 h2
 exact h1.trans h2
theorem AgU{b z z':Int}(h:Zr z)(h':Zr z'):Jp (CN z b) (CN z' b):=by
 obtain⟨n,e,_⟩:=Lz h;obtain⟨n',e',_⟩:=Lz h';unfold CN;rw[e,e'];obtain⟨z1,z2,_⟩:=F8 n;obtain⟨z1',z2',_⟩:=F8 n';by_cases k4:Bj b.toNat=4
 ·rw[Zb k4,Zb k4]; exact .inl rfl
 ·by_cases k3:Bj b.toNat=3
  ·rw[VY z1 k3,VY z1' k3]; exact .inl rfl
  ·rw[VX z1 z2 k3 k4,VX z1' z2' k3 k4];exact .inr ⟨SG _,SG _⟩
theorem Ub(a b:Int):CN a b=CN b a:=by unfold CN; rw[Mw]
theorem Tb{a a' b b':Int}(ha:Jp a a')(hb:Jp b b'):Jp (CN a b) (CN a' b'):=by
 have h1:Jp (CN a b) (CN a b'):=by
  rcases hb with rfl | ⟨h1,h2⟩
  ·exact .inl rfl
  ·rw[Ub a,Ub a]; exact AgU h1 h2
 have h2:Jp (CN a b') (CN a' b'):=by
  rcases ha with rfl | ⟨h1,h2⟩
  ·exact .inl rfl
  ·exact AgU h1 h2
 exact h1.trans h2
theorem Aez{a a':Int}(h:Jp a a'):Jp (CM a) (CM a'):=by
 rcases h with rfl | ⟨h1,h2⟩
 ·exact .inl rfl
 ·refine .inr ⟨?_,?_⟩
  ·rcases h1 with rfl | rfl
   ·exact .inr rfl
   ·exact .inl rfl
  ·rcases h2 with rfl | rfl
   ·exact .inr rfl
   ·exact .inl rfl
theorem O2(a b:Int):CA a b=EN a (CM b):=by unfold CA Rx EN CM; rw[Ad]
theorem Wc{b:Int}(h:Bo b=wg):Bo (CM b)=wg:=Cq (OL (F4 h))
theorem WS{a a' b b':Int}(ia:Bo a=wg)(ib:Bo b=wg)(ha:Jp a a')(hb:Jp b b'):Jp (CA a b) (CA a' b'):=by rw[O2,O2]; exact Adv ia (Wc ib) ha (Aez hb)
theorem OA{a a':Int}(n:Int)(h:Jp a a'):Jp (BP a n) (BP a' n):=by
 have z:∀{x:Int},Zr x->Zr (BP x n):=fun h=>by
  rcases h with rfl | rfl
  ·exact .inl (by unfold BP Co; rw[Ay (by decide),Az (by decide)]; rfl)
  ·exact .inr (by unfold BP Co; rw[Ay (by decide),Az (by decide)]; rfl)
 rcases h with rfl | ⟨h1,h2⟩
 ·exact .inl rfl
 ·exact .inr ⟨z h1,z h2⟩
theorem Ya{a a':Int}(d:Int)(h:Jp a a'):Jp (El a d) (El a' d):=by
 rcases h with rfl | ⟨h1,h2⟩
 ·exact .inl rfl
 ·obtain⟨n,e,_⟩:=Lz h1;obtain⟨n',e',_⟩:=Lz h2;unfold El;rw[e,e'];obtain⟨z1,_,_⟩:=F8 n;obtain⟨z1',_,_⟩:=F8 n';by_cases k4:Bj d.toNat=4
  ·rw[ZQ k4,ZQ k4]; exact .inl rfl
  ·by_cases k0:Bj d.toNat=0
   ·rw[Adg z1 k0,Adg z1' k0]; exact .inl rfl
   ·rw[Wv z1 k4 k0,Wv z1' k4 k0];exact .inr ⟨SG _,SG _⟩
theorem Aje{a a':Int}(h:Jp a a'):CN a a=CN a' a':=by
 have z:∀{x:Int},Zr x->CN x x=0:=fun h=>by rcases h with rfl | rfl<;>decide +kernel
 rcases h with rfl | ⟨h1,h2⟩
 ·rfl
 ·rw[z h1,z h2]
theorem MV{a a':Int}(h:Jp a a'):Gf a=Gf a'/\B8 a=B8 a'/\CO a=CO a'/\BK a=BK a':=by
 have z:∀{x:Int},Zr x->Gf x=0/\B8 x=0/\CO x=wg/\BK x=0:=fun h=>by rcases h with rfl | rfl<;>decide +kernel
 rcases h with rfl | ⟨h1,h2⟩
 ·exact⟨rfl,rfl,rfl,rfl⟩
 ·obtain⟨a1,a2,a3,a4⟩:=z h1;obtain⟨b1,b2,b3,b4⟩:=z h2;exact⟨a1.trans b1.symm,a2.trans b2.symm,a3.trans b3.symm,a4.trans b4.symm⟩
theorem Aa6{a a':Int}(h:Jp a a')(k:B8 a≠0):a=a':=by
 rcases h with rfl | ⟨h1,_⟩
 ·rfl
 ·rcases h1 with rfl | rfl<;>exact absurd (by decide) k
inductive SL:Bb->Bb->Prop
 | nil:SL [] []
 | cons {x y:Int} {l m:Bb} (h:Jp x y) (t:SL l m):SL (x::l) (y::m)
theorem SL.refl:∀l,SL l l
 | []=>.nil
 | x::l=>.cons (.refl x) (SL.refl l)
theorem SL.len{l m:Bb}(h:SL l m):l.length=m.length:=by
 induction h with
 | nil=>rfl
 | cons _ _ ih=>rw[zt,zt,ih]
theorem SL.get{l m:Bb}(h:SL l m)(i:Nat):Jp (l.getD i 0) (m.getD i 0):=by
 induction h generalizing i with
 | nil=>exact .refl _
 | cons h _ ih =>
   cases i with
   | zero=>exact h
   | succ i=>exact ih i
theorem SL.RK{f g:Nat->Int}(n:Nat)(h:∀i,i<n->Jp (f i) (g i)):SL ((zg n).map f) ((zg n).map g):=by
 have:∀(l:List Nat),(∀i∈l,i<n)->SL (l.map f) (l.map g):=fun l=>by
  induction l with
  | nil=>intro _; exact .nil
  | cons i l ih=>intro hl; exact .cons (h i (hl i AU)) (ih fun j hj=>hl j (AJ _ hj))
 exact this _ fun i hi=>zO.1 hi
theorem SL.Cg{r c:Nat}{f g:Nat->Nat->Int}(h:∀i k,i<r->k<c->Jp (f i k) (g i k)):SL (Go.CI.Cg r c f) (Go.CI.Cg r c g):=by
 unfold Go.CI.Cg;refine SL.RK _ fun j hj=>?_
 have hc:0<c:=Nat.pos_of_ne_zero fun e=>by rw[e,Nat.mul_zero] at hj; omega
 exact h _ _ (xS (by rw[A1]; exact hj)) (zv _ hc)
theorem SL.fin{l m:Bb}(h:SL l m):Dc l=Dc m:=by
 induction h with
 | nil=>rfl
 | cons h _ ih =>
   show(CO _&&Dc _)=(CO _&&Dc _)
   rw[(MV h).2.2.1,ih]
theorem SL.at{c i k:Int}{l m:Bb}(h:SL l m):Jp (Cc c l i k) (Cc c m i k):=by unfold Cc; exact h.get _
theorem SL.drop{l m:Bb}(h:SL l m)(n:Nat):SL (l.drop n) (m.drop n):=by
 induction h generalizing n with
 | nil=>rw[List.drop_nil]; exact .nil
 | cons h t ih =>
   cases n with
   | zero=>exact .cons h t
   | succ n=>exact ih n
theorem SL.take{l m:Bb}(h:SL l m)(n:Nat):SL (l.take n) (m.take n):=by
 induction h generalizing n with
 | nil=>rw[List.take_nil]; exact .nil
 | cons h t ih =>
   cases n with
   | zero=>exact .nil
   | succ n=>exact .cons h (ih n)
theorem Akn{x x' y y':Bb}(hx:SL x x')(hy:SL y y'):∀s s':Nat,s<2^64->Jp (s:Int) (s':Int)->Jp (J4 s x y:Int) (J4 s' x' y':Int):=by
 induction hx generalizing y y' with
 | nil=>intro s s' _ h; cases y<;>cases y'<;>exact h
 | cons h t ih =>
   intro s s' hs hss;cases hy with
   | nil=>exact hss
   | cons g u =>refine ih u _ _ (Nw hs LI).1 ?_;have:=Adv (Cq hs) (Cq (LI (a:=_) (b:=_))) hss (Tb h g);unfold EN CN at this;simpa only[Ad] using this
theorem ZP{x x' y y':Bb}(hx:SL x x')(hy:SL y y'):Jp (Fu x y) (Fu x' y'):=Akn hx hy 0 0 (by decide) (.refl _)
theorem SL.row{c i:Int}{l m:Bb}(h:SL l m):SL (Ee c l i) (Ee c m i):=(h.take _).drop _
theorem Ait{x y:Bb}(h:SL x y):∀m,It x m=It y m:=by
 induction h with
 | nil=>intro _; rfl
 | @cons a b l m h _ ih =>
   intro k;have s:=MV h;have e1:Bj a.toNat=Bj b.toNat:=by have:=s.2.1; unfold B8 at this; omega
   have e2:CV a.toNat=CV b.toNat:=by have:=s.1; unfold Gf at this; omega
   by_cases k4:Bj a.toNat=4
   ·rw[Rh k4,Rh (by omega)]
   ·rw[MC k4,MC (by omega),ih,e2]
theorem Ll{x y:Bb}(h:SL x y):BA x=BA y:=by unfold BA; rw[Ait h]
theorem AfW{x y:Bb}(k:Int)(h:SL x y):∀s,JH k s x=JH k s y:=by
 induction h with
 | nil=>intro _; rfl
 | cons h _ ih =>intro s;unfold JH;rw[Aje (OA k h),ih]
theorem Ael{x y:Bb}(h:SL x y):CB x=CB y:=by unfold CB;rw[Ll h,AfW _ h]
theorem AeA{x y:Bb}(h:SL x y):IK x=IK y:=by
 induction h with
 | nil=>rfl
 | cons h _ ih =>
   unfold IK;rw[(MV h).2.1,ih];split
   ·rfl
   ·rename_i k;exact Aa6 h (by rw[(MV h).2.1]; exact k)
theorem SL.map{f g:Int->Int}{x y:Bb}(h:SL x y)(hf:∀a b,Jp a b->Jp (f a) (g b)):SL (x.map f) (y.map g):=by
 induction h with
 | nil=>exact .nil
 | cons h _ ih=>exact .cons (hf _ _ h) ih
theorem Aa7{x y:Bb}(k:Int)(h:SL x y):SL (BM x k) (BM y k):=h.map fun _ _=>OA k
theorem XB{x y:Bb}(h:SL x y):Jn x=Jn y:=by unfold Jn;rw[AeA h,Ll h,Ael (Aa7 _ h)]
theorem Afj{x y:Bb}(h:SL x y):DK x=DK y:=by unfold DK;rw[XB h,Ll h]
theorem Wp{x y:Bb}(h:SL x y):Jp (DU x) (DU y):=by unfold DU;rw[Ll h];exact OA _ (h.get 0)
theorem Aly{z z' m:Int}(h:Zr z)(h':Zr z')(im:Bo m=wg)(k:B8 m≠0):CA z m=CA z' m:=by
 rw[O2,O2,Nv z,Nv z'];have im:=Wc im;have k:B8 (CM m)≠0:=by rw[Sy]; exact k
 generalize CM m=a at im k;obtain⟨n,e,_⟩:=Lz h;obtain⟨n',e',_⟩:=Lz h';obtain⟨z1,_,_⟩:=F8 n;obtain⟨z1',_,_⟩:=F8 n';unfold EN;rw[e,e'];by_cases k4:Bj a.toNat=4
 ·rw[Pb k4,Pb k4]
 ·by_cases k3:Bj a.toNat=3
  ·rw[Pc k3 z1,Pc k3 z1']
  ·have hz:a.toNat≠2^63:=fun e=>k (by unfold B8; rw[e]; decide)
   rw[I6 (F4 im) k3 k4 hz,I6 (F4 im) k3 k4 hz]
theorem Abz{x y:Bb}(h:SL x y)(k:B8 (Jn y)≠0):CA (DU x) (Jn x)=CA (DU y) (Jn y):=by
 rw[XB h];rcases Wp h with e | ⟨h1,h2⟩
 ·rw[e]
 ·exact Aly h1 h2 (Zc y) k
theorem AlC{n:Nat}{f g:Nat->Int}(h:∀j,Jp (f j) (g j)):SL (Gc n f) (Gc n g):=.cons (.refl _) (SL.RK _ fun _ _=>h _)
theorem Aj7{x y:Bb}(h:SL x y)(k:B8 (Jn y)≠0):SL (K6 x) (K6 y):=by unfold K6;rw[Abz h k,Ll h,h.len];exact AlC fun j=>Ya _ (OA _ (h.get j))
theorem AgY{x y:Bb}(h:SL x y)(ax:Bg x=wg):Jp (Lw x) (Lw y):=by unfold Lw;rw[XB h];exact Ya _ (WS (Zc y) (FP (Gk ax 0)) (.refl _) (Wp h))
theorem X3{x y:Bb}(h:SL x y):CX x=CX y:=by
 induction h with
 | nil=>rfl
 | cons h _ ih =>unfold CX at ih ⊢;rw[z9,z9,ih,(MV h).2.1]
theorem Q6:∀{l:Bb},CX l≠wg->∃x∈l,B8 x≠0
 | [],h=>absurd rfl h
 | x::l,h=>by
   by_cases k:B8 x=0
   ·have:CX l≠wg:=fun e=>h (by unfold CX at e ⊢; rw[z9,e,Ac k]; rfl)
    obtain⟨y,hy,g⟩:=Q6 this;exact⟨y,AJ _ hy,g⟩
   ·exact⟨x,AU,k⟩
def MR(a b:Bb × Int × Int × Int):Prop:=SL a.1 b.1/\Jp a.2.1 b.2.1/\Jp a.2.2.1 b.2.2.1/\a.2.2.2=b.2.2.2
theorem MR.refl(a:Bb × Int × Int × Int):MR a a:=⟨.refl _,.refl _,.refl _,rfl⟩
theorem AcB{x y:Bb}(h:SL x y)(ax:Bg x=wg):MR (BV x) (BV y):=by
 unfold BV;rw[h.len,h.fin];split
 ·exact .refl _
 split
 ·rename_i hf;unfold I2;rw[X3 (h.drop 1),Afj h,h.len];split
  ·exact⟨.refl _,.refl _,h.get 0,rfl⟩
  ·rename_i k;obtain⟨w,hw,g⟩:=Q6 k;have k:=Aj6 hf ⟨w,yn hw,g⟩;split
   ·exact⟨Aj7 h k,AgY h ax,.refl _,rfl⟩
   ·exact .refl _
 ·exact .refl _
theorem AaB{c b i:Int}{n:Nat}{l m:Bb}(h:SL l m):SL (Cb c l b i n) (Cb c m b i n):=SL.RK _ fun _ _=>h.at
theorem AbN{c i k t t' a b:Int}{l m v w:Bb}(h:SL l m)(hv:SL v w)(ht:Jp t t')(al:Bg l=wg):Jp (FB c l i k v t a b) (FB c m i k w t' a b):=by
 unfold FB;rw[hv.len];split
 ·unfold HB;rw[hv.len];exact WS (JD al) (Ft _ _) h.at (Tb (Tb ht (ZP hv (AaB h))) (hv.get _))
 ·exact h.at
theorem W7{r c:Nat}{i k t t':Int}{l m v w:Bb}(h:SL l m)(hv:SL v w)(ht:Jp t t')(al:Bg l=wg):SL (Eh r c l i k v t) (Eh r c m i k w t') :=SL.Cg fun _ _ _ _=>AbN h hv ht al
theorem AeZ{r c j:Nat}{x y:Int}{l m:Bb}(h:SL l m)(hx:Jp x y):SL (H9 r c l j x) (H9 r c m j y):=
 SL.Cg fun _ _ _ _=>by
  split
  ·split
   ·exact hx
   ·exact .refl _
  ·exact h.at
theorem Aj8{r c j:Nat}{l m:Bb}(h:SL l m)(al:Bg l=wg):SL (Kg r c l j) (Kg r c m j):=by obtain⟨h1,h2,h3,_⟩:=AcB (AaB h) (HU al) (x:=CT r c l j) (y:=CT r c m j);exact AeZ (W7 h h1 h2 al) h3
inductive MS:List (Bb × Int)->List (Bb × Int)->Prop
 | nil:MS [] []
 | cons {v w:Bb} {s t:Int} {l m:List (Bb × Int)} (hv:SL v w) (hs:Jp s t) (h:MS l m):MS ((v,s)::l) ((w,t)::m)
theorem ZN(r c:Nat):∀(n j:Nat) (l m:Bb),SL l m->Bg l=wg->(FZ r c n j l=xN/\FZ r c n j m=xN)\/∃x y,FZ r c n j l=xM x/\FZ r c n j m=xM y/\SL x.1 y.1/\MS x.2 y.2
 | 0,_,l,m,h,_=>.inr ⟨(l,[]),(m,[]),rfl,rfl,h,.nil⟩
 | n+1,j,l,m,h,al=>by
   obtain⟨h1,h2,_,h4⟩:=AcB (AaB h) (HU al) (x:=CT r c l j) (y:=CT r c m j);unfold FZ;rw[h4];split
   ·rcases ZN r c n (j+1) _ _ (Aj8 (r:=r) (c:=c) (j:=j) h al) (LL al j) with ⟨e1,e2⟩ | ⟨x,y,e1,e2,g1,g2⟩
    ·rw[e1,e2]; exact .inl ⟨rfl,rfl⟩
    ·rw[e1,e2];exact .inr ⟨_,_,rfl,rfl,g1,.cons h1 h2 g2⟩
   ·exact .inl ⟨rfl,rfl⟩
theorem Adr(n:Nat):∀(ms:List (Bb × Int)) (j:Nat) (q:Bb),Bg q=wg->Bg (Fo n j ms q)=wg
 | [],_,_,h=>h
 | _::ms,j,q,h=>Se (Adr n ms (j+1) q h) _ _ _ _
theorem Ak4(n:Nat){q:Bb}(aq:Bg q=wg){a b:List (Bb × Int)}(h:MS a b):∀j,SL (Fo n j a q) (Fo n j b q):=by
 induction h with
 | nil=>intro _; exact .refl _
 | cons hv hs _ ih =>intro j;unfold Fo;exact W7 (ih _) hv hs (Adr _ _ _ _ aq)
theorem Ab2{r c:Nat}{l m:Bb}(h:SL l m)(al:Bg l=wg):(Gw r c l).isSome=(Gw r c m).isSome/\SL (FW r c l) (FW r c m)/\SL (Fc r c l) (Fc r c m):=by
 unfold FW Fc Gw;rcases ZN r c (Er r c) 0 l m h al with ⟨e1,e2⟩ | ⟨x,y,e1,e2,g1,g2⟩
 ·rw[e1,e2]; exact⟨rfl,.nil,.nil⟩
 ·rw[e1,e2]; exact⟨rfl,Ak4 r (Nh r) g2 0,g1⟩
theorem Ab4{r c:Nat}{l m:Bb}(h:SL l m)(al:Bg l=wg):IM r c l=IM r c m:=by obtain⟨h1,h2,h3⟩:=Ab2 (r:=r) (c:=c) h al;unfold IM;rw[h1,h2.fin,h3.fin]
theorem MK{r c:Int}{l m:Bb}(h:SL l m):B5 r c l=B5 r c m:=by unfold B5; rw[h.len]
theorem Lk{r c:Int}{l m:Bb}(h:SL l m):Cm r c l=Cm r c m:=by unfold Cm; rw[MK h,h.fin]
theorem RR{r c:Int}{l m:Bb}(h:SL l m)(al:Bg l=wg):DZ r c l=DZ r c m:=by unfold DZ;rw[Lk h,Ab4 h al]
def RX(a b:MX):Prop:=a.1=b.1/\a.2.1=b.2.1/\SL a.2.2.1 b.2.2.1/\a.2.2.2=b.2.2.2
theorem RX.refl(a:MX):RX a a:=⟨rfl,rfl,.refl _,rfl⟩
theorem Ac2{r c x y a b:Int}{l m:Bb}(h:SL l m):RX (EW r c l x y a b) (EW r c m x y a b):=by
 unfold EW;rw[MK h];split
 ·split
  ·exact⟨rfl,rfl,by dsimp only; exact SL.Cg fun _ _ _ _=>h.at,rfl⟩
  ·exact .refl _
 ·exact .refl _
theorem Anl{r c:Int}{l m:Bb}(h:SL l m)(al:Bg l=wg):RX (E3 r c l) (E3 r c m):=by
 unfold E3;rw[RR h al];split
 ·exact .refl _
 ·exact⟨rfl,rfl,(Ac2 (Ab2 h al).2.1).2.2.1,rfl⟩
theorem Ank{r c:Int}{l m:Bb}(h:SL l m)(al:Bg l=wg):RX (GH r c l) (GH r c m):=by
 unfold GH;rw[RR h al];split
 ·exact .refl _
 ·exact⟨rfl,rfl,(Ac2 (Ab2 h al).2.2).2.2.1,rfl⟩
theorem AeV{c:Int}{l m:Bb}(h:SL l m)(n:Nat):DA c l n=DA c m n:=y8 fun _ _=>(MV h.at).1
theorem AeK{r c:Int}{l m:Bb}(h:SL l m):Hr r c l=Hr r c m:=by unfold Hr Li;rw[Lk h,AeV h]
theorem AiK{r c:Int}{l m:Bb}(h:SL l m):RX (CG r c l) (CG r c m):=by
 unfold CG;rw[MK h];split
 ·exact⟨rfl,rfl,by dsimp only; exact SL.Cg fun _ _ _ _=>h.at,rfl⟩
 ·exact .refl _
theorem Aj5{r c p q:Int}{l m b:Bb}(h:SL l m):RX (E6 r c l p q b) (E6 r c m p q b):=by
 unfold E6;rw[MK h];split
 ·split
  ·exact⟨rfl,rfl,by dsimp only; exact SL.Cg fun _ _ _ _=>ZP h.row (.refl _),rfl⟩
  ·exact .refl _
 ·exact .refl _
theorem Ad5{r c p q:Int}{l m b:Bb}(h:SL l m):RX (Dh r c l p q b) (Dh r c m p q b):=by
 unfold Dh;obtain⟨h1,h2,h3,h4⟩:=AiK (r:=r) (c:=c) h;rw[h1,h2,h4];split
 ·exact .refl _
 ·exact Aj5 h3
theorem X6{c:Int}{l m:Bb}(h:SL l m)(n:Nat):JA c l n=JA c m n:=by
 unfold JA;congr 1
 funext i
 rw[(MV (h.at (c:=c) (i:=(i:Int)) (k:=(i:Int)))).2.1]
theorem Afc{r c p q:Int}{l l' m m':Bb}(h:SL l l')(h':SL m m'):Jo r c l p q m=Jo r c l' p q m':=by unfold Jo;rw[Lk h,Lk h',X6 h]
theorem Aht{c:Int}{l l':Bb}(h:SL l l')(i:Int){xs ys:Bb}(hx:SL xs ys):∀(s t j:Int),Bo s=wg->Jp s t->Jp (H5 c l i s j xs) (H5 c l' i t j ys):=by
 induction hx with
 | nil=>intro _ _ _ _ h; exact h
 | cons g _ ih =>intro s t j is hs;unfold H5;exact ih _ _ _ (Kb is (Ft _ _)) (WS is (Ft _ _) hs (Tb h.at g))
theorem X7{c:Int}{l:Bb}{n i:Nat}(h:JA c l n=wy)(hi:i<n):B8 (Cc c l (i:Int) (i:Int))≠0:=by intro e;unfold JA at h;have:=wZ.1 h i (zO.2 hi);exact this (Ac e)
theorem Af9{c:Int}{l l':Bb}(h:SL l l'){n:Nat}(hn:JA c l n=wy){b b':Nat->Int}(hb:∀i,Jp (b i) (b' i))(ib:∀i,Bo (b i)=wg):∀k,k<=n->SL (LY c l b n k) (LY c l' b' n k)
 | 0,_=>.nil
 | k+1,hk=>by have ih:=Af9 h hn hb ib k (by omega);unfold LY;have e:=Aa6 (h.at (c:=c) (i:=((n-1-k:Nat):Int)) (k:=((n-1-k:Nat):Int))) (X7 hn (by omega));rw[<- e];exact .cons (Ya _ (Aht h _ ih _ _ _ (ib _) (hb _))) ih
theorem AcP(r c:Int)(l:Bb):(Hb r c l).2.2.2=if Dc l=wg then 0 else 2:=by
 unfold Hb;by_cases g:Dc l=wg
 ·rw[Az g,Az g]
 ·rw[Ay g,Ay g]; rfl
theorem Alc{r c p q:Int}{l l' m m':Bb}(h:SL l l')(h':SL m m')(am:Bg m=wg):(Rq r c l p q m).2.2.2=(Rq r c l' p q m').2.2.2:=by
 unfold Rq;rw[<- Afc h h'];by_cases k:Jo r c l p q m=0
 ·rw[Ay (fun h=>h k),Ay (fun h=>h k)]
  have hn:JA c l r.toNat=wy:=by
   cases h0:JA c l r.toNat with
   | false=>rfl
   | true =>
     exfalso;unfold Jo at k;rw[h0,Az rfl] at k;by_cases k1:Cm r c l=0
     ·rw[Ay (fun h=>h k1)] at k;by_cases k2:Cm p q m=0
      ·rw[Ay (fun h=>h k2)] at k;by_cases k3:r≠c\/r≠p
       ·rw[Az k3] at k; omega
       ·rw[Ay k3] at k; omega
      ·rw[Az k2] at k; omega
     ·rw[Az k1] at k; omega
  have:SL (Rt c l q m r.toNat q.toNat) (Rt c l' q m' r.toNat q.toNat):=by
   unfold Rt;refine SL.Cg fun i j hi hj=>SL.get ?_ i
   exact Af9 (b:=fun i=>Cc q m (i:Int) (j:Int)) (b':=fun i=>Cc q m' (i:Int) (j:Int)) h hn (fun _=>h'.at) (fun _=>JD am) _ (A7 _)
  rw[AcP,AcP,this.fin]
 ·rw[Az k,Az k]
theorem K5{r c p q:Int}{l m:Bb}:Bg (E6 r c l p q m).2.2.1=wg:=by
 unfold E6;split
 ·split
  ·dsimp only; exact FV fun _ _=>OY _ _
  ·exact DQ
 ·exact DQ
theorem Rv{r c p q:Int}{l m:Bb}:Bg (Dh r c l p q m).2.2.1=wg:=by
 unfold Dh;split
 ·exact DQ
 ·exact K5
theorem Ae9{r c p q:Int}{l m b:Bb}(h:SL l m)(al:Bg l=wg):(Dz r c l p q b).2.2.2=(Dz r c m p q b).2.2.2:=by
 unfold Dz;obtain⟨q1,q2,q3,_⟩:=Anl (r:=r) (c:=c) h al;obtain⟨t1,t2,t3,_⟩:=Ank (r:=r) (c:=c) h al;rw[Lk h,RR h al,t1,t2,AeK t3];split
 ·rfl
 split
 ·rfl
 split
 ·rfl
 split
 ·rfl
 split
 ·rfl
 unfold Aar;obtain⟨w1,w2,w3,w4⟩:=Ad5 (r:=(E3 r c l).1) (c:=(E3 r c l).2.1) (p:=p) (q:=q) (b:=b) q3;rw[<- q1,<- q2,<- w4,<- w1,<- w2,t1,t2];split
 ·rfl
 ·exact Alc t3 w3 Rv
end Go.CI
end
