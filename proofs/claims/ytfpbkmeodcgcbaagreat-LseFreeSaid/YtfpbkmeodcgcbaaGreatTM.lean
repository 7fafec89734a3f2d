/- A verified evaluator of the program's form and its use for this seat: S1PRef14, S1EqLow, S1PLow, S1EqLse, S1PLse, S1POfS, S1EqRef20, S1PSubSt, S1PLseA, S1PRefL, S1PRef20, S1PRef20A, S1PRef20B, S1EqLaw17, S1PLaw17, S1EqLaw20, S1PLaw20, S1EqTame, S1PTame, S1EqRefM, S1PRefM, S1PMx, TileL, ExaL, S1PExa, RatO, RatP. -/
import Derived.Test.YtfpbkmeodcgcbaaGreatTL
import Derived.Test.YtfpbkmeodcgcbaaGreatTE
import Derived.Test.YtfpbkmeodcgcbaaGreatTF
import Derived.Test.YtfpbkmeodcgcbaaGreatTG
import Derived.Test.YtfpbkmeodcgcbaaGreatTK
set_option linter.unusedVariables false
set_option linter.unusedSimpArgs false
open Option renaming some->xM,none->xN
open Bool renaming true->wg,false->wy
open Int renaming toNat->wz
open List renaming length->vA,getD->vB
open List renaming getElem?_range->yA,getElem?_append_left->yI,append_nil->yF,append_assoc->yu,drop_zero->zJ,set->zw,length_take->zV,mem_singleton->zh,range->zg,all_eq_true->zE,mem_map->zu,foldl_cons->yR,drop_eq_getElem_cons->yL,length_cons->zt,map_congr_left->y8,mem_range->zO
open Bool renaming and_eq_false_iff->yP,not_eq_true'->yK
open Nat renaming div_eq_of_lt->z8,zero_mul->zI,mod_lt->zv,mul_lt_mul''->wi,mul_zero->yj,mul_add->yc,one_mul->zA
open Int renaming zero_add->xf
open Rat renaming mul_le_mul_of_nonneg_left->zl,le_of_lt->zc,mul_nonneg->ze,mul_assoc->xw,natCast_mul->zU,natCast_add->yz,natCast_lt_natCast->ui,mul_pos->yl,mul_le_mul_of_nonneg_right->zd,le_of_mul_le_mul_right->zZ
noncomputable section
open Go.Proofs.Tryz
namespace Go.Proofs.S1
open Go Go.Den Go.CI Go.Proofs
theorem Xj{c b i:Int}{l:Bb}{n j:Nat}(h:j<n):(Cb c l b i n).getD j 0=Cc c l (i+(j:Int)) b:=by unfold Cb;rw[Al,AW,yA h]; rfl
theorem NJ(a c b:Nat):wz ((a:Int)*(c:Int)+(b:Int))=a*c+b:=by rw[<- Ax,<- Int.natCast_add,Ad]
section
variable{R C i k:Nat}{l v:Bb}{t:Int}
theorem TG(N M0:Nat)(r6:R<=6)(c6:C<=6)(al:Bg l=wg)(av:Bg v=wg)(hv:i+v.length<=R){c:Nat}(hc:c<C)(hk:k<=c):∀(cnt j F:Nat),j+cnt=v.length->cnt<F ->
 BT.Apply.L1 N M0 F (R:Int) (C:Int) l (i:Int) v t (j:Int) (Yt R C l i k v t c j) (c:Int) (Cb (C:Int) l (c:Int) (i:Int) (R-i)) (HB (C:Int) l (i:Int) v t (c:Int))=
 BT.Apply.L0 N M0 (R:Int) (C:Int) l (i:Int) v t ((c+1:Nat):Int) (Yt R C l i k v t (c+1) 0):=by
 intro cnt
 induction cnt with
 | zero =>
   intro j F hj hF;obtain⟨F,rfl⟩:∃G,F=G+1:=⟨F-1,by omega⟩
   obtain rfl:j=v.length:=by omega
   rw[BT.Apply.BZ,Bw,Ag (by omega),Af,Bq (by omega) (by omega),ZZ];rfl
 | succ cnt ih =>
   intro j F hj hF;obtain⟨F,rfl⟩:∃G,F=G+1:=⟨F-1,by omega⟩
   have e1:Be ((i:Int)+(j:Int))=((i+j:Nat):Int):=by rw[Bq (by omega) (by omega)]; omega
   have hat:Db (R:Int) (C:Int) (Yt R C l i k v t c j) ((i+j:Nat):Int) (c:Int)=wg:=Dl r6 c6 (Adt c j) (by omega) hc;have sl:=FO (C:Int) (c:Int) (i:Int) (R-i) l;have a1:=Gk av j;have a2:=Gk (HU (c:=(C:Int)) (b:=(c:Int)) (i:=(i:Int)) (n:=R-i) al) j;have a3:Bo (HB (C:Int) l (i:Int) v t (c:Int))=wg:=Ft _ _
   have hx:CA ((Cb (C:Int) l (c:Int) (i:Int) (R-i)).getD j 0) (CN (HB (C:Int) l (i:Int) v t (c:Int)) (v.getD j 0))=FB (C:Int) l (i:Int) (k:Int) v t ((i+j:Nat):Int) (c:Int):=by rw[ZX hk (by omega),Xj (by omega),Xj (by omega)]
   rw[BT.Apply.BZ,Bw,Ac (show(j:Int)<(v.length:Int) by omega),Aa,e1,sl,Ac (show(0:Int)<=(j:Int) by omega),Ac (show(j:Int)<((R-i:Nat):Int) by omega),Ah,Aa,Aa,Ad,a3,a1,Ah,Aa,a2,Ft,Ah,Aa,hat,Aa,
    NJ,Ads hc hk (by omega) hx,Bq (by omega) (by omega)]
   exact ih (j+1) F (by omega) (by omega)
theorem TH(N:Nat)(r6:R<=6)(c6:C<=6)(hN:7<N)(hr:B5 (R:Int) (C:Int) l=wg)(al:Bg l=wg)(av:Bg v=wg)(ht:Bo t=wg)(hv:i+v.length<=R):∀(cnt c F:Nat),c+cnt=C->k<=c->cnt<F ->
 BT.Apply.L0 N F (R:Int) (C:Int) l (i:Int) v t (c:Int) (Yt R C l i k v t c 0)=
 xM (.agg [.int .i64 (R:Int),.int .i64 (C:Int),.Bh .arg .u64 (Eh R C l (i:Int) (k:Int) v t)]):=by
 intro cnt
 induction cnt with
 | zero =>
   intro c F hc hk hF;obtain⟨F,rfl⟩:∃G,F=G+1:=⟨F-1,by omega⟩
   obtain rfl:c=C:=by omega
   rw[BT.Apply.B1,Bw,Ag (by omega),Af,Adu]
 | succ cnt ih =>
   intro c F hc hk hF;obtain⟨F,rfl⟩:∃G,F=G+1:=⟨F-1,by omega⟩
   have cp:EM (R:Int) (C:Int) l (c:Int)=wg:=Bf.2 ⟨hr,Bt.2 (by omega)⟩;have e0:wz ((R:Int)-(i:Int))=R-i:=by omega
   have st:=YL (c:=(C:Int)) (b:=(c:Int)) (i:=(i:Int)) (l:=l) (m:=v.length) (n:=R-i) (by omega);have sl2:=FO (C:Int) (c:Int) (i:Int) (R-i) l;have sl:=FO (C:Int) (c:Int) (i:Int) v.length l;have sa:=HU (c:=(C:Int)) (b:=(c:Int)) (i:=(i:Int)) (n:=v.length) al;have ft:NA v (Cb (C:Int) l (c:Int) (i:Int) v.length)=wg:=OT.2 ⟨by omega,by omega⟩
   rw[BT.Apply.B1,Bw,Ac (by omega),Aa,cp,Bt.2 (show 0<=(i:Int)/\(i:Int)<=(R:Int) by omega),Ah,Aa,e0,Ad,st,sl2,
    Ac (show(0:Int)<=(v.length:Int) by omega),Ac (show(v.length:Int)<=((R-i:Nat):Int) by omega),Ah,Aa,ft,av,sa,Ah,Ah,Aa,ht,OY,Ah,Aa]
   have:=TG (t:=t) N F r6 c6 al av hv (show c<C by omega) hk v.length 0 N (by omega) (by omega);exact this.trans (ih (c+1) F (by omega) (by omega) (by omega))
end
theorem BT.Apply.Bi:Kq 122 BT.Apply.Bk:=D6 BT.Apply.E Tryz.func122 (kc Bv.FL.Bi (kc Bv.Mul.Bi (kc Bv.Sub.Bi (kc B3.P7.Bi (kc B3.Gy.arg.Bi .nil))))) fun r c l i k v t hp=>by
 obtain⟨h1,ht⟩:=Bf.1 (show(((B5 r c l&&HW r c i k v)&&(Bg l&&Bg v))&&Bo t)=wg from hp);obtain⟨h2,h3⟩:=Bf.1 h1;obtain⟨hr,hb⟩:=Bf.1 h2;obtain⟨al,av⟩:=Bf.1 h3;have hb:=A3 hb;obtain⟨R,C,rfl,rfl,r6,c6,hl⟩:=CU hr;obtain⟨i,rfl⟩:∃j:Nat,i=j:=⟨i.toNat,by omega⟩
 obtain⟨k,rfl⟩:∃j:Nat,k=j:=⟨k.toNat,by omega⟩
 refine⟨8,BT.Apply.out [.i (R:Int),.i (C:Int),.l l,.i (i:Int),.i (k:Int),.l v,.i t],[],?_,Wk.Gt (.cons .int (.cons .int (.cons .Sd .nil)))⟩;show _=xM (DV.agg [.int .i64 (R:Int),.int .i64 (C:Int),.Bh .arg .u64 (Eh (wz (R:Int)) (wz (C:Int)) l (i:Int) (k:Int) v t)]);rw[BT.Apply.ev,Ad,Ad];have:=TH (R:=R) (C:=C) (i:=i) (k:=k) (l:=l) (v:=v) (t:=t) 8 r6 c6 (by omega) hr al av ht (by omega) (C-k) k 8 (by omega) (by omega) (by omega);rw[ZY hl] at this;exact this
theorem AdY(N:Nat){R C j:Nat}{l:Bb}{x:Int}(r6:R<=6)(c6:C<=6)(hj:j<C):∀(cnt i F:Nat),i+cnt=R->j<i->cnt<F ->
 Cz.Es.L0 N F (R:Int) (C:Int) (j:Int) (i:Int) (clS R C l j x i)=xM (.agg [.int .i64 (R:Int),.int .i64 (C:Int),.Bh .arg .u64 (H9 R C l j x)]):=by
 intro cnt
 induction cnt with
 | zero =>
   intro i F hi hji hF;obtain⟨F,rfl⟩:∃G,F=G+1:=⟨F-1,by omega⟩
   obtain rfl:i=R:=by omega
   rw[Cz.Es.B1,Bw,Ag (by omega),Af,Adp]
 | succ cnt ih =>
   intro i F hi hji hF;obtain⟨F,rfl⟩:∃G,F=G+1:=⟨F-1,by omega⟩
   have hat:Db (R:Int) (C:Int) (clS R C l j x i) (i:Int) (j:Int)=wg:=Dl r6 c6 (Ado i) (by omega) hj;rw[Cz.Es.B1,Bw,Ac (by omega),Aa,hat,Aa,NJ,Adn hj hji,Bq (by omega) (by omega)];exact ih (i+1) F (by omega) (by omega) (by omega)
theorem Cz.Es.Bi:Kq 121 Cz.Es.Bk:=D6 Cz.Es.E Tryz.func121 (kc B3.Gy.arg.Bi .nil) fun r c l j b hp=>by
 obtain⟨hr,hj⟩:=Bf.1 (show(B5 r c l&&CE (0<=j/\j<r/\j<c))=wg from hp);have hj:=Bt.1 hj;obtain⟨R,C,rfl,rfl,r6,c6,hl⟩:=CU hr;obtain⟨j,rfl⟩:∃i:Nat,j=i:=⟨j.toNat,by omega⟩
 refine⟨8,.agg [.int .i64 (R:Int),.int .i64 (C:Int),.Bh .arg .u64 (H9 R C l j b)],[],?_,?_⟩
 ·rw[Cz.Es.ev,Dl r6 c6 hl (by omega) (by omega),Aa,NJ,RY hl (by omega),Bq (by omega) (by omega)];exact AdY 8 r6 c6 (by omega) (R-(j+1)) (j+1) 8 (by omega) (by omega) (by omega)
 ·show Wk _ _ (DV.agg [.int .i64 (R:Int),.int .i64 (C:Int),.Bh .arg .u64 (H9 (wz (R:Int)) (wz (C:Int)) l (wz (j:Int)) b)]);rw[Ad,Ad,Ad];exact Wk.Gt (.cons .int (.cons .int (.cons .Sd .nil)))
def Sj(rows:List (List DV))(ms:List (Bb × Int)):Prop:=rows.length=ms.length/\∀i,i<ms.length->∃b:Int,rows.getD i []=[.Bh .arg .u64 (ms.getD i ([],0)).1,.int .u64 (ms.getD i ([],0)).2,.int .u64 b]
theorem Sj.AoD{rows:List (List DV)}{ms:List (Bb × Int)}(h:Sj rows ms)(v:Bb)(t b:Int):Sj (rows++[[.Bh .arg .u64 v,.int .u64 t,.int .u64 b]]) (ms++[(v,t)]):=by
 refine⟨by rw[A5,A5,h.1]; rfl,fun i hi=>?_⟩;rw[A5] at hi;by_cases hlt:i<ms.length
 ·obtain⟨b',hb⟩:=h.2 i hlt;refine⟨b',?_⟩;rw[Al,yI (by rw[h.1]; exact hlt),<- Al,hb,Al (l:=ms++_),yI hlt,<- Al]
 ·have he:i=ms.length:=by have:i<ms.length+1:=hi;omega
  refine⟨b,?_⟩;rw[Al,AS (by rw[h.1]; omega),Al (l:=ms++_),AS (by omega),he,h.1,Nat.sub_self];rfl
def AgN:DV:=.agg [.int .i64 0,.int .i64 0,.nil,.int .i64 0,.int .i64 0,.nil,.bool wy]
theorem Ahb{x:Bb}(h0:x.length≠0)(h:x.length<=64)(hf:Dc x=wg):BV x=I2 x:=by unfold BV; rw[Ay (by omega),Az hf]
theorem Vl(N:Nat){R C:Nat}(l0:Bb)(r6:R<=6)(c6:C<=6):∀(cnt j F:Nat) (l:Bb) (rows:List (List DV)) (ms:List (Bb × Int)),j+cnt=Er R C->cnt<F->l.length=R*C->Bg l=wg->ms.length=j->Sj rows ms ->
 (FZ R C cnt j l=xN->Cz.Ch.L0 N F (R:Int) (C:Int) l0 (j:Int) l rows=xM AgN) /\
 (∀x,FZ R C cnt j l=xM x->∃rows',Sj rows' (ms++x.2)/\Cz.Ch.L0 N F (R:Int) (C:Int) l0 (j:Int) l rows=Cz.Ch.L1 N N (R:Int) (C:Int) (Be ((rows'.length:Int)-1)) x.1 rows' (Fe R)):=by
 intro cnt
 induction cnt with
 | zero =>
   intro j F l rows ms hj hF hl al hms hrows;obtain⟨F,rfl⟩:∃G,F=G+1:=⟨F-1,by omega⟩
   unfold Er at hj
   have hlt:(BI (j:Int) (C:Int)&&BI (j:Int) (Be ((R:Int)-1)))=wy:=by rw[Bw,Bw,Bq (by omega) (by omega),yP,Av,Av]; omega
   refine⟨fun h=>(by cases h),fun x hx=>?_⟩;cases hx;refine⟨rows,by rw[yF]; exact hrows,?_⟩;rw[Cz.Ch.B1,hlt,Af,O3 r6,Aa,Ad]
 | succ cnt ih =>
   intro j F l rows ms hj hF hl al hms hrows;obtain⟨F,rfl⟩:∃G,F=G+1:=⟨F-1,by omega⟩
   have hj0:=hj;unfold Er at hj;have hr:=D8 r6 c6 hl
   have hlt:(BI (j:Int) (C:Int)&&BI (j:Int) (Be ((R:Int)-1)))=wg:=by rw[Bw,Bw,Bq (by omega) (by omega),Ac (by omega),Ac (by omega)]; rfl
   have cp:EM (R:Int) (C:Int) l (j:Int)=wg:=Bf.2 ⟨hr,Bt.2 (by omega)⟩;have ec:Cb (C:Int) l (j:Int) (j:Int) (wz ((R:Int)-(j:Int)))=CT R C l j:=by unfold CT; rw[show wz ((R:Int)-(j:Int))=R-j by omega]
   have ca:Bg (CT R C l j)=wg:=HU al;have cl:(CT R C l j).length=R-j:=FO _ _ _ _ _;have cok:=GN ca (by omega);rw[Cz.Ch.B1,hlt,Aa,cp,Bt.2 (show 0<=(j:Int)/\(j:Int)<=(R:Int) by omega),Ah,Aa,ec,cok,Aa,Ad,Ad,Ad];unfold FZ;by_cases hf:Dc (CT R C l j)=wg
   ·have hmk:=Ahb (x:=CT R C l j) (by omega) (by omega) hf;rw[hf,AD,Af,Bt.2 (show 1<=(CT R C l j).length/\(CT R C l j).length<=64 by omega),Ah,Aa,<- hmk];by_cases he:(BV (CT R C l j)).2.2.2=0
    ·have hml:=Ld he;have hma:=QD ca;have hap:HW (R:Int) (C:Int) (j:Int) (j:Int) (BV (CT R C l j)).1=wg:=Ac (by omega);have hlen:=JC R C l (j:Int) (j:Int) (BV (CT R C l j)).1 (BV (CT R C l j)).2.1;have hn:=ih (j+1) F (Kg R C l j) (rows++[[.Bh .arg .u64 (BV (CT R C l j)).1,.int .u64 (BV (CT R C l j)).2.1,.int .u64 (BV (CT R C l j)).2.2.1]]) (ms++[((BV (CT R C l j)).1,(BV (CT R C l j)).2.1)]) (by omega) (by omega) (LK _ _ _ _) (LL al j) (by rw[A5,hms]; rfl) (hrows.AoD _ _ _);rw[Az he,Ac he,AD,Af,hr,hap,al,hma.1,hma.2.1,Ah,Ah,Ah,Aa,D8 r6 c6 hlen,Bt.2 (show 0<=(j:Int)/\(j:Int)<(R:Int)/\(j:Int)<(C:Int) by omega),Ah,Aa,Ac (show rows.length+1<=QL by rw[hrows.1]; unfold QL; omega),Aa,Bq (by omega) (by omega)];refine⟨fun h=>?_,fun x hx=>?_⟩
     ·rw[Option.map_eq_none_iff] at h;exact hn.1 h
     ·rw[Option.map_eq_some_iff] at hx;obtain⟨y,hy,rfl⟩:=hx;obtain⟨rows',h1,h2⟩:=hn.2 y hy;refine⟨rows',?_,h2⟩;rw[yu] at h1;exact h1
    ·rw[Ay he,Ag he,AZ,Aa];exact⟨fun _=>rfl,fun x hx=>(by cases hx)⟩
   ·have hf':Dc (CT R C l j)=wy:=by simpa using hf
    have he:(BV (CT R C l j)).2.2.2≠0:=by unfold BV;rw[Ay (by omega),Ay hf];exact(by decide:(4:Int)≠0)
    rw[hf',AZ,Aa,Ay he];exact⟨fun _=>rfl,fun x hx=>(by cases hx)⟩
theorem Vm(N:Nat){R C:Nat}{L:Bb}(r6:R<=6){ms:List (Bb × Int)}{rows:List (List DV)}(hrows:Sj rows ms)(hm:Wa R 0 ms)(aL:CW L=wg)(hn:ms.length<=6):∀(j F:Nat),j<=ms.length->j<F ->
 Cz.Ch.L1 N F (R:Int) (C:Int) ((j:Int)-1) L rows (Fo R j (ms.drop j) (Fe R))=
 cond (Dc (Fo R 0 ms (Fe R))&&Dc L) (xM (.agg [.int .i64 (R:Int),.int .i64 (R:Int),.Bh .arg .u64 (Fo R 0 ms (Fe R)),.int .i64 (R:Int),.int .i64 (C:Int),.Bh .arg .u64 L,.bool wg])) (xM AgN):=by
 have h36:=Aga r6;intro j
 induction j with
 | zero =>
   intro F _ hF;obtain⟨F,rfl⟩:∃G,F=G+1:=⟨F-1,by omega⟩
   have hb:=Nq R ms 0 (Fe R) (Nh R) (by unfold Fe; exact Ca _ _ _);have ok1:CW (Fo R 0 ms (Fe R))=wg:=GN hb.1 (by omega);rw[Cz.Ch.BZ,DX,Ag (by omega),Af,zJ,ok1,Aa,aL,AQ,Aa];cases Dc (Fo R 0 ms (Fe R)) with
   | false=>rfl
   | true=>cases Dc L<;>rfl
 | succ j ih =>
   intro F hj hF;obtain⟨F,rfl⟩:∃G,F=G+1:=⟨F-1,by omega⟩
   have ej:(((j+1:Nat):Int))-1=(j:Int):=by omega
   have hg:=RJ hm j (by omega);have hb:=Nq R (ms.drop (j+1)) (j+1) (Fe R) (Nh R) (by unfold Fe; exact Ca _ _ _);have hr1:=D8 r6 r6 hb.2;have hap:HW (R:Int) (R:Int) (j:Int) 0 (ms.getD j ([],0)).1=wg:=Ac (by omega);obtain⟨b,hrow⟩:=hrows.2 j (by omega);rw[Cz.Ch.BZ,ej,DX,Ac (show(0:Int)<=(j:Int) by omega),Aa,hrows.1,Ac (show(j:Int)<(ms.length:Int) by omega),Ah,Aa,Ad,Ac (show j<ms.length by omega),hrow,Ad]
   show(bif wg then bif wg then bif wg then (bif (((B5 (R:Int) (R:Int) (Fo R (j+1) (ms.drop (j+1)) (Fe R))&&HW (R:Int) (R:Int) (j:Int) (0:Int) (ms.getD j ([],0)).1)&&(Bg (Fo R (j+1) (ms.drop (j+1)) (Fe R))&&Bg (ms.getD j ([],0)).1))&&Bo (ms.getD j ([],0)).2) then
    Cz.Ch.L1 N F (R:Int) (C:Int) (Be ((j:Int)-(1:Int))) L rows (Eh R R (Fo R (j+1) (ms.drop (j+1)) (Fe R)) (j:Int) (0:Int) (ms.getD j ([],0)).1 (ms.getD j ([],0)).2) else xN) else xN else xN else xN)=_
   rw[Aa,Aa,Aa,hr1,hap,hb.1,hg.1,hg.2.1,Ah,Ah,Ah,Aa,Bq (by omega) (by omega),<- W5 (by omega)];exact ih F (by omega) (by omega)
theorem AkY{drops:List Nat}{e:Int}:Wk drops AgN (DV.agg [.int .i64 (Gv e).1,.int .i64 (Gv e).2.1,.Bh .arg .u64 (Gv e).2.2.1,.int .i64 (Gv e).1,.int .i64 (Gv e).2.1,.Bh .arg .u64 (Gv e).2.2.1,.bool wy]) :=Wk.Gt (.cons .int (.cons .int (.cons Kv (.cons .int (.cons .int (.cons Kv (.cons .bool .nil)))))))
theorem Cz.Ch.Bi:Cz.Ch.Kn:=Cz.Ch.DF (kc Bv.Finite.Bi (kc B3.P7.Bi (kc B3.FE.arg.Bi (kc BT.Apply.Bi (kc BT.En.Bi (kc Cz.Es.Bi .nil)))))) fun r c l hp=>by
 obtain⟨h1,al⟩:=Bf.1 (show((B5 r c l&&Dc l)&&Bg l)=wg from hp);obtain⟨hr,hf⟩:=Bf.1 h1;have hc:Cm r c l=0:=Kh hr hf;obtain⟨R,C,rfl,rfl,r6,c6,hl⟩:=CU hr;show ∃N dv drops,_=xM dv/\Wk drops dv (DV.agg [.int .i64 (qX (R:Int) (C:Int) l).1,.int .i64 (qX (R:Int) (C:Int) l).2.1,.Bh .arg .u64 (qX (R:Int) (C:Int) l).2.2.1,.int .i64 (rX (R:Int) (C:Int) l).1,.int .i64 (rX (R:Int) (C:Int) l).2.1,.Bh .arg .u64 (rX (R:Int) (C:Int) l).2.2.1,.bool (decide (DZ (R:Int) (C:Int) l=0))]);have hfe:=OV hc;rw[Ad,Ad] at hfe;have hrun:=Cz.Ch.ev 8 (R:Int) (C:Int) l;obtain⟨d1,d2⟩:=Vl 8 l r6 c6 (Er R C) 0 8 l [] [] (by omega) (by unfold Er; omega) hl al rfl ⟨rfl,fun i h=>absurd h (Nat.not_lt_zero _)⟩
 have bad:∀d:Option DV,DZ (R:Int) (C:Int) l=2->d=xM AgN->∃dv drops,d=xM dv/\Wk drops dv (DV.agg [.int .i64 (qX (R:Int) (C:Int) l).1,.int .i64 (qX (R:Int) (C:Int) l).2.1,.Bh .arg .u64 (qX (R:Int) (C:Int) l).2.2.1,.int .i64 (rX (R:Int) (C:Int) l).1,.int .i64 (rX (R:Int) (C:Int) l).2.1,.Bh .arg .u64 (rX (R:Int) (C:Int) l).2.2.1,.bool (decide (DZ (R:Int) (C:Int) l=0))]):=fun d he h=>by obtain⟨e1,e2⟩:=PG he (by decide);rw[e1,e2,he];exact⟨AgN,[],h,AkY⟩
 cases hx:Gw R C l with
 | none =>
   have hfo:IM R C l=wy:=by unfold IM; rw[hx]; rfl
   rw[hfo,Ay (by decide)] at hfe;obtain⟨dv,drops,k1,k2⟩:=bad _ hfe (hrun.trans (d1 hx));exact⟨8,dv,drops,k1,k2⟩
 | some x =>
   obtain⟨x1,x2,x3,x4⟩:=ZM hl al hx;obtain⟨rows,hrows,hd⟩:=d2 x hx;rw[List.nil_append] at hrows;have h36:=A9 r6 c6;have hn:x.2.length<=6:=by rw[x3]; unfold Er; omega
   have hb:=Vm 8 (C:=C) r6 hrows x4 (GN x1 (by omega)) hn x.2.length 8 (A7 _) (by omega);rw[Ap (A7 _)] at hb;rw[hrows.1,Bq (by omega) (by omega)] at hd;have hd:=hd.trans hb;have hq:FW R C l=Fo R 0 x.2 (Fe R):=by unfold FW; rw[hx]
   have hrr:Fc R C l=x.1:=by unfold Fc; rw[hx]
   have hfo:IM R C l=(Dc (Fo R 0 x.2 (Fe R))&&Dc x.1):=by unfold IM; rw[hx,hq,hrr]; rfl
   rw[<- hfo,<- hq,<- hrr] at hd;cases hk:IM R C l with
   | false =>rw[hk,Ay (by decide)] at hfe;rw[hk,Af] at hd;obtain⟨dv,drops,k1,k2⟩:=bad _ hfe (hrun.trans hd);exact⟨8,dv,drops,k1,k2⟩
   | true =>rw[hk,Az rfl] at hfe;rw[hk,Aa] at hd;obtain⟨e1,e2⟩:=OF hfe;rw[e1,e2,hfe,Ad,Ad];exact⟨8,_,[],hrun.trans hd,Wk.Gt (.cons .int (.cons .int (.cons .Sd (.cons .int (.cons .int (.cons .Sd (.cons .bool .nil)))))))⟩
open Go Go.Den Go.CI Go.Proofs
set_option maxRecDepth 100000
def EO.EH.down.E:=E0 []
theorem EO.EH.down.ev(N:Nat)(n k:Int):BX EO.EH.down.E N f111 (Br f111) [.int .i64 n,.int .i64 k]=xM (.int .i64 k):=by kernel_rfl
def solve.G6.E:=E0 []
theorem solve.G6.ev(N:Nat)(i k:Int):BX solve.G6.E N f112 (Br f112) [.int .i64 i,.int .i64 k]=xM (.bool (BI k i)):=by kernel_rfl
def solve.BC.Lo.hint:Nat->Option BH
 | 0=>xM { CH:=[2,3,4,5,8,10,11,28,29],BW:=[(12,2,112002,.Bh 47 .u64 [])],Cf:=[4,5,8,11] }
 | 2=>xM { CH:=[2,3,4,5,8,10,11,13,28,29,32,33],BW:=[(12,2,112002,.Bh 47 .u64 [])],Cf:=[4,5,8,11] }
 | 4=>xM { CH:=[2,3,4,5,8,10,11,13,15,16,28,29,32,33,49,50],BW:=[(12,2,112002,.Bh 47 .u64 [])],Cf:=[4,5,8,11] }
 | _=>xN
def solve.BC.Lo.E:=CP (CC [(111,EO.EH.down.Bk),(138,Bc.CF.own.Bk),(112,solve.G6.Bk),(139,Bu.Div.Bk),(104,Bu.Finite.Bk),(115,Bu.Mul.Bk),(64,Bu.Sub.Bk)]) (fun n=>Nat.beq n 24) solve.BC.Lo.hint (fun _=>xN)
section
variable(N M0 M1 M:Nat)(r c:Int)(l:Bb)(p q:Int)(m:Bb)(n p16 p50 p13_1 p15 p29_2 p33_1:Int)(p2_1:Bb)(p33:Int)(p2:Bb)(p13 p29_1 p29:Int)(p2_2:Bb)
def solve.BC.Lo.L0:Option DV:=BU solve.BC.Lo.E N f110 (Br f110) [1,1,1,0,1,0] [] M ⟨EP 108 [(2,.fn 111 [.int .i64 n] []),(3,.fn 112 [] []),(4,.ptr 4 0 0),(5,.ptr 5 0 0),(8,.ptr 8 0 0),(10,.int .i64 r),(11,.ptr 11 0 0),(28,.int .i64 q),(29,.int .i64 p29)],[(4,wy,.box [.int .i64 r,.int .i64 c,.Bh .arg .u64 l]),(5,wy,.box [.int .i64 p,.int .i64 q,.Bh .arg .u64 m]),(8,wy,.box [.int .i64 0,.int .i64 0,.nil]),(11,wy,.box [.int .i64 r,.int .i64 q,.De 112002]),(112002,wy,.Bh 47 .u64 p2_2)]⟩
def solve.BC.Lo.L1:Option DV:=BU solve.BC.Lo.E N f110 (Br f110) [1,1,1,0,1,0,0,1,1,0,0,1,0,1,1,0] [M0] M ⟨EP 108 [(2,.fn 111 [.int .i64 n] []),(3,.fn 112 [] []),(4,.ptr 4 0 0),(5,.ptr 5 0 0),(8,.ptr 8 0 0),(10,.int .i64 r),(11,.ptr 11 0 0),(13,.int .i64 p13),(28,.int .i64 q),(29,.int .i64 p29_1),(32,.int .i64 r),(33,.int .i64 p33)],[(4,wy,.box [.int .i64 r,.int .i64 c,.Bh .arg .u64 l]),(5,wy,.box [.int .i64 p,.int .i64 q,.Bh .arg .u64 m]),(8,wy,.box [.int .i64 0,.int .i64 0,.nil]),(11,wy,.box [.int .i64 r,.int .i64 q,.De 112002]),(112002,wy,.Bh 47 .u64 p2)]⟩
def solve.BC.Lo.L2:Option DV:=BU solve.BC.Lo.E N f110 (Br f110) [1,1,1,0,1,0,0,1,1,0,0,1,0,1,1,0,0,1,1,0,0,1,1,1,0,1,0] [M0,M1] M ⟨EP 108 [(2,.fn 111 [.int .i64 n] []),(3,.fn 112 [] []),(4,.ptr 4 0 0),(5,.ptr 5 0 0),(8,.ptr 8 0 0),(10,.int .i64 r),(11,.ptr 11 0 0),(13,.int .i64 p13_1),(15,.int .i64 p15),(16,.int .u64 p16),(28,.int .i64 q),(29,.int .i64 p29_2),(32,.int .i64 r),(33,.int .i64 p33_1),(49,.int .i64 r),(50,.int .i64 p50)],[(4,wy,.box [.int .i64 r,.int .i64 c,.Bh .arg .u64 l]),(5,wy,.box [.int .i64 p,.int .i64 q,.Bh .arg .u64 m]),(8,wy,.box [.int .i64 0,.int .i64 0,.nil]),(11,wy,.box [.int .i64 r,.int .i64 q,.De 112002]),(112002,wy,.Bh 47 .u64 p2_1)]⟩
theorem solve.BC.Lo.B1:solve.BC.Lo.L0 N (M+1) r c l p q m n p29 p2_2=cond (BI p29 q) (solve.BC.Lo.L1 N M N r c l p q m n 0 p2_2 p29 p29) (bif (CW p2_2) then cond (!(Dc p2_2)) (xM (.Cw [.agg [.int .i64 0,.int .i64 0,.nil],.int .i64 2])) (xM (.Cw [.agg [.int .i64 r,.int .i64 q,.Bh (.own 112002 47) .u64 p2_2],.int .i64 0])) else xN):=by kernel_rfl
theorem solve.BC.Lo.BZ:solve.BC.Lo.L1 N M0 (M+1) r c l p q m n p33 p2 p13 p29_1=cond (BI p33 r) (bif ((decide (0<=(Be ((Be (p33*q))+p13))))&&(decide ((Be ((Be (p33*q))+p13))<(vA m:Int)))) then solve.BC.Lo.L2 N M0 M N r c l p q m n (vB m (wz (Be ((Be (p33*q))+p13))) 0) 0 p13 p33 p29_1 p33 p2 else xN) (solve.BC.Lo.L0 N M0 r c l p q m n (Be (p29_1+1)) p2):=by kernel_rfl
theorem solve.BC.Lo.EU:solve.BC.Lo.L2 N M0 M1 (M+1) r c l p q m n p16 p50 p13_1 p15 p29_2 p33_1 p2_1=cond (BI p50 r) (bif (decide (p50<p15)) then cond ((decide (0<=(Be ((Be (p15*r))+p50))))&&(decide ((Be ((Be (p15*r))+p50))<(vA l:Int)))) (bif ((decide (0<=(Be ((Be (p50*q))+p13_1))))&&(decide ((Be ((Be (p50*q))+p13_1))<(vA p2_1:Int)))) then cond (decide ((wz (Be ((Be (p50*q))+p13_1)))<(vA p2_1))) (bif (Bo (vB l (wz (Be ((Be (p15*r))+p50))) 0)&&Bo (vB p2_1 (wz (Be ((Be (p50*q))+p13_1))) 0)) then cond (Bo p16&&Bo (CN (vB l (wz (Be ((Be (p15*r))+p50))) 0) (vB p2_1 (wz (Be ((Be (p50*q))+p13_1))) 0))) (solve.BC.Lo.L2 N M0 M1 M r c l p q m n (CA p16 (CN (vB l (wz (Be ((Be (p15*r))+p50))) 0) (vB p2_1 (wz (Be ((Be (p50*q))+p13_1))) 0))) (Be (p50+1)) p13_1 p15 p29_2 p33_1 p2_1) xN else xN) xN else xN) xN else solve.BC.Lo.L2 N M0 M1 M r c l p q m n p16 (Be (p50+1)) p13_1 p15 p29_2 p33_1 p2_1) (bif ((decide (0<=(Be ((Be (p15*r))+p15))))&&(decide ((Be ((Be (p15*r))+p15))<(vA l:Int)))) then cond (Bo p16&&Bo (vB l (wz (Be ((Be (p15*r))+p15))) 0)) (bif ((decide (0<=(Be ((Be (p15*q))+p13_1))))&&(decide ((Be ((Be (p15*q))+p13_1))<(vA p2_1:Int)))) then cond (decide ((wz (Be ((Be (p15*q))+p13_1)))<(vA p2_1))) (solve.BC.Lo.L1 N M0 M1 r c l p q m n (Be (p33_1+1)) (zw p2_1 (wz (Be ((Be (p15*q))+p13_1))) (El p16 (vB l (wz (Be ((Be (p15*r))+p15))) 0))) p13_1 p29_2) xN else xN) xN else xN) :=Et (DJ (DJ (C0 (I1 _ _) (C0 (I1 _ _) (C0 (Cp _) (C0 (Cp _) (C0 (Cp _) rfl rfl) rfl) rfl) rfl) rfl) rfl) (C0 (I1 _ _) (C0 (Cp _) (C0 (I1 _ _) (C0 (Cp _) rfl rfl) rfl) rfl) rfl))
theorem solve.BC.Lo.ev:BX solve.BC.Lo.E N f110 (Br f110) [.agg [.int .i64 r,.int .i64 c,.Bh .arg .u64 l],.agg [.int .i64 p,.int .i64 q,.Bh .arg .u64 m],.fn 111 [.int .i64 n] [],.fn 112 [] []]=cond (Ce r&&Ce q) (solve.BC.Lo.L0 N N r c l p q m n 0 (Cg (wz r) (wz q) (fun _ _=>0))) xN:=by kernel_rfl
end
def solve.Kp.E:=E0 [(109,solve.check.Bk),(110,solve.BC.Lo.Bk)]
theorem solve.Kp.ev(N:Nat)(r c:Int)(l:Bb)(p q:Int)(m:Bb):BX solve.Kp.E N f53 (Br f53) [.agg [.int .i64 r,.int .i64 c,.Bh .arg .u64 l],.agg [.int .i64 p,.int .i64 q,.Bh .arg .u64 m]]=cond (Bg l&&Bg m) (bif ((Jo r c l p q m) !=(0:Int)) then xM (.Cw [.agg [.int .i64 0,.int .i64 0,.nil],.int .i64 (Jo r c l p q m)]) else bif (NI r c l p q m&&decide (r=r)) then xM (.Cw [.agg [.int .i64 ((Hb r q (loG c l q m (wz r) (wz q))).1),.int .i64 ((Hb r q (loG c l q m (wz r) (wz q))).2.1),.Bh .BF .u64 ((Hb r q (loG c l q m (wz r) (wz q))).2.2.1)],.int .i64 ((Hb r q (loG c l q m (wz r) (wz q))).2.2.2)]) else xN) xN:=by kernel_rfl
def BS.Flat.hint:Nat->Option BH
 | 0=>xM { CH:=[1,3,4],BW:=[],Cf:=[1] }
 | 2=>xM { CH:=[1,3,5],BW:=[],Cf:=[1] }
 | _=>xN
def BS.Flat.E:=CP (CC [(73,C2.J8.Bk),(72,C2.Max.Bk),(74,C2.Order.Bk),(75,Bv.Ct.Bk),(44,B3.At.Bk)]) (fun _=>wy) BS.Flat.hint (fun _=>xN)
section
variable(N M:Nat)(r c:Int)(l:Bb)(p5 p3_1 p3 p4:Int)
def BS.Flat.L0:Option DV:=BU BS.Flat.E N f26 (Br f26) [1,1,0,1,0] [] M ⟨EP 52 [(1,.ptr 1 0 0),(3,.int .u64 p3),(4,.int .i64 p4)],[(1,wy,.box [.int .i64 r,.int .i64 c,.Bh .arg .u64 l])]⟩
def BS.Flat.L1:Option DV:=BU BS.Flat.E N f26 (Br f26) [1,1,1,0,1,0] [] M ⟨EP 52 [(1,.ptr 1 0 0),(3,.int .u64 p3_1),(5,.int .i64 p5)],[(1,wy,.box [.int .i64 r,.int .i64 c,.Bh .arg .u64 l])]⟩
theorem BS.Flat.B1:BS.Flat.L0 N (M+1) r c l p3 p4=cond ((BI p4 r)&&(BI p4 c)) (bif (Db r c l p4 p4) then cond (Bo (Cc c l p4 p4)) (bif (Bo p3&&Bo (Gf (Cc c l p4 p4))) then BS.Flat.L0 N M r c l (M4 p3 (Gf (Cc c l p4 p4))) (Be (p4+1)) else xN) xN else xN) (BS.Flat.L1 N N r c l 0 p3) :=Et (B4 (L8 (BI p4 r)) (B4 (L8 (BI p4 r)) (B4 (Ka (BI p4 r)) (B4 (WQ (BI p4 r)) (B4 (Pp (BI p4 r)) (C0 (tt1 _ _) rfl rfl))))))
theorem BS.Flat.BZ:BS.Flat.L1 N (M+1) r c l p5 p3_1=cond ((BI p5 r)&&(BI p5 c)) (bif (D1 p3_1 (-40:Int)) then cond (Db r c l p5 p5) (bif (Bo (Cc c l p5 p5)) then cond (Bo (BP p3_1 (-40:Int))&&Bo (Gf (Cc c l p5 p5))) (bif (Eu 0 (Ma (BP p3_1 (-40:Int)) (Gf (Cc c l p5 p5)))) then xM (.bool wg) else BS.Flat.L1 N M r c l (Be (p5+1)) p3_1) xN else xN) xN else xN) (xM (.bool wy)) :=Et (B4 (L8 (BI p5 r)) (B4 (L8 (BI p5 r)) (B4 (Ka (BI p5 r)) (B4 (WQ (BI p5 r)) (B4 (Pp (BI p5 r)) (C0 (tt1 _ _) (C0 (Cp _) (C0 (Cp _) (C0 (Cp _) (C0 (Cp _) rfl rfl) rfl) rfl) rfl) rfl))))))
theorem BS.Flat.ev:BX BS.Flat.E N f26 (Br f26) [.agg [.int .i64 r,.int .i64 c,.Bh .arg .u64 l]]=
 BS.Flat.L0 N N r c l 0 0:=by kernel_rfl
end
theorem solve.G6.Bi:Kq 112 solve.G6.Bk:=D6 solve.G6.E Tryz.func112 .nil fun i k _=>by refine⟨0,solve.G6.out [.i i,.i k],[],?_,.bool⟩;rw[solve.G6.ev,Bw]; rfl
theorem AaO.Bi:Kq 111 EO.EH.down.Bk:=D6 EO.EH.down.E Tryz.func111 .nil fun n k _=>⟨0,EO.EH.down.out [.i n,.i k],[],by rw[EO.EH.down.ev]; rfl,.int⟩
section
variable{n Q:Nat}{l m:Bb}
def loF(n Q:Nat)(l m:Bb)(i j:Nat):Int:=(XH (n:Int) l (fun i=>Cc (Q:Int) m (i:Int) (j:Int)) n).getD i 0
def loD(j k a b:Nat):Bool:=decide (b<j\/(b=j/\a<k))
def Tc(n Q:Nat)(l m:Bb)(j k:Nat):Bb:=Cg n Q fun a b=>if loD j k a b=wg then loF n Q l m a b else 0
theorem Ahq(i j:Nat):Bo (loF n Q l m i j)=wg:=QU (Abj _ _ _ _) i
theorem AlX(j k:Nat):Bg (Tc n Q l m j k)=wg:=FV fun a b=>by
 split
 ·exact Ahq _ _
 ·exact Hn
theorem AjO{j k t:Nat}(ht:t<n)(hj:j<Q)(hk:t<k):Cc (Q:Int) (Tc n Q l m j k) (t:Int) (j:Int)=loF n Q l m t j:=by unfold Tc;have hd:loD j k t j=wg:=Ac (.inr ⟨rfl,hk⟩);rw[G2 ht hj,hd,Az rfl]
theorem XG(j k:Nat):(Tc n Q l m j k).length=n*Q:=Ca _ _ _
theorem AjN{i j:Nat}(hj:j<Q){x:Int}(hx:x=loF n Q l m i j):zw (Tc n Q l m j i) (wz ((i:Int)*(Q:Int)+(j:Int))) x=Tc n Q l m j (i+1):=by
 refine UM hj hx fun a b ha hb=>?_
 unfold loD;rw[Ai,Ai];omega
theorem Aho(j:Nat):Tc n Q l m j n=Tc n Q l m (j+1) 0:=by
 unfold Tc;refine Dv fun a b ha hb=>?_
 have:loD j n a b=loD (j+1) 0 a b:=by unfold loD;rw[decide_eq_decide];omega
 rw[this]
theorem Ahn:Tc n Q l m 0 0=Cg n Q fun _ _=>0:=by
 unfold Tc;refine Dv fun a b ha hb=>?_
 have:loD 0 0 a b=wy:=Ag (by omega);rw[this]; rfl
theorem AjP:Tc n Q l m Q 0=loG (n:Int) l (Q:Int) m n Q:=by
 unfold Tc loG;refine Dv fun a b ha hb=>?_
 have:loD Q 0 a b=wg:=Ac (.inl hb);rw[this]; rfl
def loR(n Q:Nat)(l m:Bb)(i j t:Nat)(s:Int):Int:=H5 (n:Int) l (i:Int) s (t:Int) (((XH (n:Int) l (fun i=>Cc (Q:Int) m (i:Int) (j:Int)) n).take i).drop t)
theorem AcF{i j:Nat}(hi:i<n)(s:Int):loR n Q l m i j i s=s:=by unfold loR;rw[Ap (by rw[zV,I4]; omega),H5]
theorem Ahp{i j t:Nat}(hi:i<n)(ht:t<i)(s:Int):loR n Q l m i j t s=loR n Q l m i j (t+1) (CA s (CN (Cc (n:Int) l (i:Int) (t:Int)) (loF n Q l m t j))):=by unfold loR loF;rw[RO (by rw[zV,I4]; omega),Al,List.getElem?_take_of_lt ht,<- Al];rfl
theorem AjQ{i j:Nat}(hi:i<n):El (loR n Q l m i j 0 (Cc (Q:Int) m (i:Int) (j:Int))) (Cc (n:Int) l (i:Int) (i:Int))=loF n Q l m i j:=by unfold loR loF;rw[zJ,AjR hi]; rfl
theorem Ahm(N:Nat)(n6:n<=6)(q6:Q<=6)(hl:l.length=n*n)(al:Bg l=wg){i j:Nat}(hi:i<n)(hj:j<Q)(M0 M1:Nat)(p29 p33:Int):
 ∀(cnt t F:Nat) (s:Int),t+cnt=n->cnt<F->Bo s=wg->(i<t->t<=n) ->
 solve.BC.Lo.L2 N M0 M1 F (n:Int) (n:Int) l (n:Int) (Q:Int) m (n:Int) s (t:Int) (j:Int) (i:Int) p29 p33 (Tc n Q l m j i)=
 solve.BC.Lo.L1 N M0 M1 (n:Int) (n:Int) l (n:Int) (Q:Int) m (n:Int) (Be (p33+(1:Int))) (zw (Tc n Q l m j i) (wz ((i:Int)*(Q:Int)+(j:Int))) (El (if t<i then loR n Q l m i j t s else s) (Cc (n:Int) l (i:Int) (i:Int)))) (j:Int) p29:=by
 intro cnt
 induction cnt with
 | zero =>
   intro t F s ht hF hs _;obtain⟨F,rfl⟩:∃G,F=G+1:=⟨F-1,by omega⟩
   obtain⟨e1,g1,g2⟩:=GR (R:=(n:Int)) (Dl n6 n6 hl hi hi);obtain⟨e2,g3,g4⟩:=GR (R:=(n:Int)) (Dl n6 q6 (XG (l:=l) (m:=m) j i) hi hj);rw[Ay (by omega)]
   rw[solve.BC.Lo.EU,Bw,Ag (show ¬(t:Int)<(n:Int) by omega),Af,e1,Ac g1,Ac g2,Ah,Aa,hs,show Bo (vB l (wz ((i:Int)*(n:Int)+(i:Int))) 0)=wg from FT (c:=(n:Int)) al,Ah,Aa,
    e2,Ac g3,Ac g4,Ah,Aa,Ac (show wz ((i:Int)*(Q:Int)+(j:Int))<(Tc n Q l m j i).length by omega),Aa]
   rfl
 | succ cnt ih =>
   intro t F s ht hF hs _;obtain⟨F,rfl⟩:∃G,F=G+1:=⟨F-1,by omega⟩
   by_cases hti:t<i
   ·obtain⟨e1,g1,g2⟩:=GR (R:=(n:Int)) (Dl n6 n6 hl hi (show t<n by omega));obtain⟨e2,g3,g4⟩:=GR (R:=(n:Int)) (Dl n6 q6 (XG (l:=l) (m:=m) j i) (show t<n by omega) hj);have hx:vB (Tc n Q l m j i) (wz ((t:Int)*(Q:Int)+(j:Int))) 0=loF n Q l m t j:=AjO (by omega) hj hti;have:=ih (t+1) F (CA s (CN (Cc (n:Int) l (i:Int) (t:Int)) (loF n Q l m t j))) (by omega) (by omega) (Kb hs (Ft _ _)) (by omega);rw[Az hti,Ahp hi hti]
    rw[solve.BC.Lo.EU,Bw,Ac (show(t:Int)<(n:Int) by omega),Aa,Ac (show(t:Int)<(i:Int) by omega),Aa,e1,Ac g1,Ac g2,Ah,Aa,
     e2,Ac g3,Ac g4,Ah,Aa,Ac (show wz ((t:Int)*(Q:Int)+(j:Int))<(Tc n Q l m j i).length by omega),Aa,hx,
     show Bo (vB l (wz ((i:Int)*(n:Int)+(t:Int))) 0)=wg from FT (c:=(n:Int)) al,Ahq,Ah,Aa,hs,Ft,Ah,Aa,Bq (x:=(t:Int)+1) (by omega) (by omega)]
    have e:(if t+1<i then loR n Q l m i j (t+1) (CA s (CN (Cc (n:Int) l (i:Int) (t:Int)) (loF n Q l m t j))) else CA s (CN (Cc (n:Int) l (i:Int) (t:Int)) (loF n Q l m t j)))=loR n Q l m i j (t+1) (CA s (CN (Cc (n:Int) l (i:Int) (t:Int)) (loF n Q l m t j))):=by
     by_cases h2:t+1<i
     ·rw[Az h2]
     ·rw[Ay h2,show t+1=i by omega,AcF hi]
    rw[e] at this;exact this
   ·have:=ih (t+1) F s (by omega) (by omega) hs (by omega);rw[Ay hti,solve.BC.Lo.EU,Bw,Ac (show(t:Int)<(n:Int) by omega),Aa,Ag (show ¬(t:Int)<(i:Int) by omega),Af,Bq (by omega) (by omega)];rw[Ay (by omega)] at this;exact this
theorem AjL(N:Nat)(n6:n<=6)(q6:Q<=6)(hN:7<N)(hl:l.length=n*n)(hm:m.length=n*Q)(al:Bg l=wg)(am:Bg m=wg){j:Nat}(hj:j<Q)(M0:Nat):∀(cnt k F:Nat),k+cnt=n->cnt<F ->
 solve.BC.Lo.L1 N M0 F (n:Int) (n:Int) l (n:Int) (Q:Int) m (n:Int) (k:Int) (Tc n Q l m j k) (j:Int) (j:Int)=
 solve.BC.Lo.L0 N M0 (n:Int) (n:Int) l (n:Int) (Q:Int) m (n:Int) ((j+1:Nat):Int) (Tc n Q l m j n):=by
 intro cnt
 induction cnt with
 | zero =>
   intro k F hk hF;obtain⟨F,rfl⟩:∃G,F=G+1:=⟨F-1,by omega⟩
   obtain rfl:k=n:=by omega
   rw[solve.BC.Lo.BZ,Bw,Ag (by omega),Af,Bq (by omega) (by omega)];rfl
 | succ cnt ih =>
   intro k F hk hF;obtain⟨F,rfl⟩:∃G,F=G+1:=⟨F-1,by omega⟩
   obtain⟨e2,g3,g4⟩:=GR (R:=(n:Int)) (Dl n6 q6 hm (show k<n by omega) hj);have hr:=Ahm (n:=n) (Q:=Q) (l:=l) (m:=m) N n6 q6 hl al (show k<n by omega) hj M0 F (j:Int) (k:Int) n 0 N (Cc (Q:Int) m (k:Int) (j:Int)) (by omega) (by omega) (FT (c:=(Q:Int)) am) (by omega)
   have e:(if 0<k then loR n Q l m k j 0 (Cc (Q:Int) m (k:Int) (j:Int)) else Cc (Q:Int) m (k:Int) (j:Int))=loR n Q l m k j 0 (Cc (Q:Int) m (k:Int) (j:Int)):=by
    by_cases h:0<k
    ·rw[Az h]
    ·obtain rfl:k=0:=by omega
     rw[Ay h,AcF (by omega)]
   rw[e,AjN hj (AjQ (by omega)),Bq (by omega) (by omega)] at hr;rw[solve.BC.Lo.BZ,Bw,Ac (show(k:Int)<(n:Int) by omega),Aa,e2,Ac g3,Ac g4,Ah,Aa];exact hr.trans (ih (k+1) F (by omega) (by omega))
theorem AjM(N:Nat)(n6:n<=6)(q6:Q<=6)(hN:7<N)(hl:l.length=n*n)(hm:m.length=n*Q)(al:Bg l=wg)(am:Bg m=wg):∀(cnt j F:Nat),j+cnt=Q->cnt<F ->
 solve.BC.Lo.L0 N F (n:Int) (n:Int) l (n:Int) (Q:Int) m (n:Int) (j:Int) (Tc n Q l m j 0)=
 cond (Dc (Tc n Q l m Q 0)) (xM (.Cw [.agg [.int .i64 (n:Int),.int .i64 (Q:Int),.Bh (.own 112002 tB) .u64 (Tc n Q l m Q 0)],.int .i64 (0:Int)])) (xM (AaT 2)):=by
 intro cnt
 induction cnt with
 | zero =>
   intro j F hj hF;obtain⟨F,rfl⟩:∃G,F=G+1:=⟨F-1,by omega⟩
   obtain rfl:j=Q:=by omega
   have h36:=A9 n6 q6;rw[solve.BC.Lo.B1,Bw,Ag (by omega),Af,GN (AlX _ _) (by rw[XG]; omega),Aa];cases Dc (Tc n j l m j 0)<;>rfl
 | succ cnt ih =>
   intro j F hj hF;obtain⟨F,rfl⟩:∃G,F=G+1:=⟨F-1,by omega⟩
   have hr:=AjL N n6 q6 hN hl hm al am (show j<Q by omega) F n 0 N (by omega) (by omega);rw[Aho] at hr;rw[solve.BC.Lo.B1,Bw,Ac (show(j:Int)<(Q:Int) by omega),Aa];exact hr.trans (ih (j+1) F (by omega) (by omega))
end
theorem solve.BC.Lo.Bi:Kq 110 solve.BC.Lo.Bk:=D6 solve.BC.Lo.E Tryz.func110 (kc AaO.Bi (kc Bc.CF.own.Bi (kc solve.G6.Bi (kc Bu.Div.Bi (kc Bu.Finite.Bi (kc Bu.Mul.Bi (kc Bu.Sub.Bi .nil))))))) fun r c l p q m n hp=>by
 show ∃N dv drops,_=xM dv/\Wk drops dv (PH (Hb r q (loG c l q m (wz r) (wz q))));obtain⟨h1,hn⟩:=Bf.1 (show(NI r c l p q m&&decide (n=r))=wg from hp);obtain⟨h2,h3⟩:=Bf.1 h1;obtain⟨hr,hm⟩:=Bf.1 h2;obtain⟨h4,h5⟩:=Bf.1 h3;obtain⟨al,am⟩:=Bf.1 h4;obtain⟨rfl,rfl⟩:=Bt.1 h5;obtain rfl:=A3 hn;have s1:=(Fb hr).1;have s2:=(Fb hm).2;obtain⟨R,C,rfl,hC,r6,c6,hl⟩:=CU hr;obtain⟨P,Q,hP,rfl,p6,q6,hl2⟩:=CU hm;obtain rfl:R=C:=by omega
 obtain rfl:R=P:=by omega
 have h:=AjM (n:=R) (Q:=Q) (l:=l) (m:=m) 8 r6 q6 (by omega) hl hl2 al am Q 0 8 (by omega) (by omega);rw[Ahn,AjP,show((0:Nat):Int)=0 from rfl] at h;rw[Ad,Ad];unfold Hb;cases hf:Dc (loG (R:Int) l (Q:Int) m R Q) with
 | true =>rw[hf,Aa] at h;rw[Az rfl];refine⟨8,.Cw [.agg [.int .i64 (R:Int),.int .i64 (Q:Int),.Bh (.own 112002 tB) .u64 (loG (R:Int) l (Q:Int) m R Q)],.int .i64 0],[112002],?_,Wk.Gx (.cons (Tp (zh.2 rfl)) (.cons .int .nil))⟩;rw[solve.BC.Lo.ev,s1,s2,Ah,Aa,Ad,Ad];exact h
 | false =>rw[hf,Af] at h;rw[Ay (by decide)];refine⟨8,AaT 2,[],?_,Ig⟩;rw[solve.BC.Lo.ev,s1,s2,Ah,Aa,Ad,Ad];exact h
theorem solve.Kp.Bi:Kq 53 solve.Kp.Bk:=D6 solve.Kp.E Tryz.func53 (kc solve.check.Bi (kc solve.BC.Lo.Bi .nil)) fun r c l p q m hp=>by
 have hp:(Bg l&&Bg m)=wg:=hp;show ∃N dv drops,_=xM dv/\Wk drops dv (PH (XF r c l p q m));unfold XF;by_cases h:Jo r c l p q m=0
 ·obtain⟨h1,h2,h3,h4⟩:=RZ h;have ht:NI r c l p q m=wg:=Bf.2 ⟨Bf.2 ⟨h1,h2⟩,Bf.2 ⟨hp,Bt.2 ⟨h3,h4⟩⟩⟩;rw[Ay (by rw[h]; decide)];exact⟨0,_,[],by rw[solve.Kp.ev,hp,Aa,Fv h,Af,ht,Ac rfl]; rfl,LW⟩
 ·rw[Az h];exact⟨0,_,[],by rw[solve.Kp.ev,hp,Aa,Pu h,Aa]; rfl,Ig⟩
def Ec.Check.hint:Nat->Option BH
 | 0=>xM { CH:=[1,16,17],BW:=[],Cf:=[1] }
 | _=>xN
def Ec.Check.E:=CP (CC [(49,Dw.Check.Bk)]) (fun _=>wy) Ec.Check.hint (fun _=>xN)
theorem Ec.Check.ev(N:Nat)(r c:Int)(l:Bb)(p q:Int)(m:Bb)(a b:Int)(g:Bb)(u v:Int)(h:Bb):BX Ec.Check.E (N+6) f16 (Br f16) [.agg [.int .i64 r,.int .i64 c,.Bh .arg .u64 l,.int .i64 p,.int .i64 q,.Bh .arg .u64 m,.int .i64 a,.int .i64 b,.Bh .arg .u64 g,.int .i64 u,.int .i64 v,.Bh .arg .u64 h]]=cond (Bg l) (bif ((Cm r c l) !=(0:Int)) then xM (.int .i64 (Cm r c l)) else bif (Bg m) then cond ((Cm p q m) !=(0:Int)) (xM (.int .i64 (Cm p q m))) (bif (Bg g) then cond ((Cm a b g) !=(0:Int)) (xM (.int .i64 (Cm a b g))) (bif (Bg h) then cond ((Cm u v h) !=(0:Int)) (xM (.int .i64 (Cm u v h))) (bif (((((((q !=c)||(a !=r))||(u !=p))||(b !=(1:Int)))||(v !=(1:Int)))||(BI c p))||(BI (Be (r+p)) c)) then xM (.int .i64 3) else xM (.int .i64 0)) else xN) else xN) else xN) xN :=Et (DJ (DJ rfl (DJ (DJ rfl (DJ (DJ rfl (DJ (DJ rfl (B4 (O1 (q !=c)) (B4 (Nx (q !=c)) (B4 (Nx (q !=c)) (B4 (O1 (q !=c)) (B4 (Nx (q !=c)) (B4 (Nx (q !=c)) (B4 (tt8 (q !=c)) (B4 (SM (q !=c)) (B4 (Ad7 (q !=c) (a !=r)) (B4 (AfJ (q !=c) (a !=r)) (B4 (AfJ (q !=c) (a !=r)) (B4 (Ad7 (q !=c) (a !=r)) (B4 (Alj (q !=c) (a !=r)) (B4 (Aln (q !=c) (a !=r)) (B4 (Alo (q !=c) (a !=r) (u !=p)) (B4 (AfK (q !=c) (a !=r) (u !=p)) (B4 (AfK (q !=c) (a !=r) (u !=p)) (B4 (AfK (q !=c) (a !=r) (u !=p)) (B4 (Alp (q !=c) (a !=r) (u !=p)) (B4 (AfL (q !=c) (a !=r) (u !=p) (b !=(1:Int))) (B4 (AfM (q !=c) (a !=r) (u !=p) (b !=(1:Int))) (B4 (AfM (q !=c) (a !=r) (u !=p) (b !=(1:Int))) (B4 (AfM (q !=c) (a !=r) (u !=p) (b !=(1:Int))) (B4 (Alq (q !=c) (a !=r) (u !=p) (b !=(1:Int))) (B4 (AiP (q !=c) (a !=r) (u !=p) (b !=(1:Int)) (v !=(1:Int))) (B4 (AiP (q !=c) (a !=r) (u !=p) (b !=(1:Int)) (v !=(1:Int))) (B4 (AmR (q !=c) (a !=r) (u !=p) (b !=(1:Int)) (v !=(1:Int))) (B4 (AmS (q !=c) (a !=r) (u !=p) (b !=(1:Int)) (v !=(1:Int))) (B4 (Ad8 (q !=c) (a !=r) (u !=p) (b !=(1:Int)) (v !=(1:Int)) (BI c p)) (B4 (Ad8 (q !=c) (a !=r) (u !=p) (b !=(1:Int)) (v !=(1:Int)) (BI c p)) (B4 (Alr (q !=c) (a !=r) (u !=p) (b !=(1:Int)) (v !=(1:Int)) (BI c p)) (B4 (Alr (q !=c) (a !=r) (u !=p) (b !=(1:Int)) (v !=(1:Int)) (BI c p)) (B4 (Ad8 (q !=c) (a !=r) (u !=p) (b !=(1:Int)) (v !=(1:Int)) (BI c p)) (B4 (AiQ (q !=c) (a !=r) (u !=p) (b !=(1:Int)) (v !=(1:Int)) (BI c p)) (B4 (AiQ (q !=c) (a !=r) (u !=p) (b !=(1:Int)) (v !=(1:Int)) (BI c p)) (B4 (AmT (q !=c) (a !=r) (u !=p) (b !=(1:Int)) (v !=(1:Int)) (BI c p)) (C0 (Aos _ _ _ _ _ _ _) rfl rfl)))))))))))))))))))))))))))))))))))))) rfl)) rfl)) rfl)) rfl)
def Ec.finite.E:=E0 [(49,Dw.Check.Bk)]
theorem Ec.finite.ev(N:Nat)(r c:Int)(l:Bb)(e:Int):BX Ec.finite.E N f18 (Br f18) [.agg [.int .i64 r,.int .i64 c,.Bh .arg .u64 l],.int .i64 e]=cond ((!(e==(0:Int)))||(Bg l)) (bif ((e==(0:Int))&&((Cm r c l) !=(0:Int))) then xM (.Cw [.agg [.int .i64 0,.int .i64 0,.nil],.int .i64 2]) else bif (e !=(0:Int)) then xM (.Cw [.agg [.int .i64 0,.int .i64 0,.nil],.int .i64 e]) else xM (.Cw [.agg [.int .i64 r,.int .i64 c,.Bh .arg .u64 l],.int .i64 0])) xN :=Et (B4 (L8 (e==(0:Int))) (C0 (All _ _) (B4 (Ka (e==(0:Int))) (B4 (Pp (e==(0:Int))) (C0 (tt1 _ _) rfl rfl))) rfl))
def Ec.held.Il:List (Nat × EC):=[(20,Bc.Part.Bk),(50,Bc.Du.Bk),(51,qr.Ch.Bk),(52,solve.Flat.Bk),(53,solve.Kp.Bk)]
def Ec.held.live:Nat->Option (List Nat)
 | 5=>xM [1,2,3,4,6]
 | 8=>xM [1,2,3,7]
 | 9=>xM [1,2,3,9]
 | _=>xN
def Ec.held.E:Env:=CP (CC Ec.held.Il) (fun _=>wy) (fun _=>xN) Ec.held.live
section
variable(N:Nat)(r c:Int)(l:Bb)(p q:Int)(m:Bb)(a b:Int)(g:Bb)(u v:Int)(h:Bb)(p4 p6 p6_1:Int)(p6_2:Bb)(p5 p5_1:Int)(p5_2:Bb)(p2 p2_1:Int)(p2_2:Bb)(p7 p7_1:Int)(p7_2:Bb)(p9 p9_1:Int)(p9_2:Bb)
def Ec.held.C5:Option DV:=cutAt Ec.held.E N f17 (Br f17) [1,1,1,1,0] [] ⟨EP 69 [(1,.ptr 1 0 0),(2,.ptr 2 0 0),(3,.ptr 3 0 0),(4,.int .i64 p4),(6,.ptr 6 0 0)],[(6,wy,.box [.int .i64 p6,.int .i64 p6_1,.Bh .arg .u64 p6_2]),(5,wy,.box [.int .i64 p5,.int .i64 p5_1,.Bh .BF .u64 p5_2]),(3,wy,.box [.int .i64 0,.int .i64 0,.nil]),(2,wy,.box [.int .i64 p2,.int .i64 p2_1,.Bh .arg .u64 p2_2]),(1,wy,.box [.int .i64 r,.int .i64 c,.Bh .arg .u64 l,.int .i64 p,.int .i64 q,.Bh .arg .u64 m,.int .i64 a,.int .i64 b,.Bh .arg .u64 g,.int .i64 u,.int .i64 v,.Bh .arg .u64 h])]⟩
def Ec.held.C8:Option DV:=cutAt Ec.held.E N f17 (Br f17) [1,1,1,1,1,1] [] ⟨EP 69 [(1,.ptr 1 0 0),(2,.ptr 2 0 0),(3,.ptr 3 0 0),(7,.ptr 7 0 0)],[(7,wy,.box [.int .i64 p7,.int .i64 p7_1,.Bh .BF .u64 p7_2]),(6,wy,.box [.int .i64 p6,.int .i64 p6_1,.Bh .arg .u64 p6_2]),(5,wy,.box [.int .i64 p5,.int .i64 p5_1,.Bh .BF .u64 p5_2]),(3,wy,.box [.int .i64 0,.int .i64 0,.nil]),(2,wy,.box [.int .i64 p2,.int .i64 p2_1,.Bh .arg .u64 p2_2]),(1,wy,.box [.int .i64 r,.int .i64 c,.Bh .arg .u64 l,.int .i64 p,.int .i64 q,.Bh .arg .u64 m,.int .i64 a,.int .i64 b,.Bh .arg .u64 g,.int .i64 u,.int .i64 v,.Bh .arg .u64 h])]⟩
def Ec.held.C9:Option DV:=cutAt Ec.held.E N f17 (Br f17) [1,1,1,1,1,1,1,0] [] ⟨EP 69 [(1,.ptr 1 0 0),(2,.ptr 2 0 0),(3,.ptr 3 0 0),(9,.ptr 9 0 0)],[(9,wy,.box [.int .i64 p9,.int .i64 p9_1,.Bh .BF .u64 p9_2]),(7,wy,.box [.int .i64 p7,.int .i64 p7_1,.Bh .BF .u64 p7_2]),(6,wy,.box [.int .i64 p6,.int .i64 p6_1,.Bh .arg .u64 p6_2]),(5,wy,.box [.int .i64 p5,.int .i64 p5_1,.Bh .BF .u64 p5_2]),(3,wy,.box [.int .i64 0,.int .i64 0,.nil]),(2,wy,.box [.int .i64 p2,.int .i64 p2_1,.Bh .arg .u64 p2_2]),(1,wy,.box [.int .i64 r,.int .i64 c,.Bh .arg .u64 l,.int .i64 p,.int .i64 q,.Bh .arg .u64 m,.int .i64 a,.int .i64 b,.Bh .arg .u64 g,.int .i64 u,.int .i64 v,.Bh .arg .u64 h])]⟩
theorem Ec.held.Ai7:Ec.held.C5 N r c l p q m a b g u v h p4 p6 p6_1 p6_2 p5 p5_1 p5_2 p2 p2_1 p2_2=cond (p4 !=(0:Int)) (xM (.Cw [.agg [.int .i64 0,.int .i64 0,.nil],.agg [.int .i64 0,.int .i64 0,.nil],.int .i64 p4])) (Ec.held.C8 N r c l p q m a b g u v h p6 p6_1 p6_2 p5 p5_1 p5_2 p2 p2_1 p2_2 ((EW p6 p6_1 p6_2 0 0 p p).1) ((EW p6 p6_1 p6_2 0 0 p p).2.1) ((EW p6 p6_1 p6_2 0 0 p p).2.2.1)):=(FR _ _ _ _ _ _ _).trans (by kernel_rfl)
theorem Ec.held.AnI:Ec.held.C8 N r c l p q m a b g u v h p6 p6_1 p6_2 p5 p5_1 p5_2 p2 p2_1 p2_2 p7 p7_1 p7_2=
 Ec.held.C9 N r c l p q m a b g u v h p6 p6_1 p6_2 p5 p5_1 p5_2 p2 p2_1 p2_2 p7 p7_1 p7_2 ((CG p7 p7_1 p7_2).1) ((CG p7 p7_1 p7_2).2.1) ((CG p7 p7_1 p7_2).2.2.1):=(FR _ _ _ _ _ _ _).trans (by kernel_rfl)
theorem Ec.held.Ai6:Ec.held.C9 N r c l p q m a b g u v h p6 p6_1 p6_2 p5 p5_1 p5_2 p2 p2_1 p2_2 p7 p7_1 p7_2 p9 p9_1 p9_2=cond (Bg p9_2) (bif ((Hr p9 p9_1 p9_2).1) then xM (.Cw [.agg [.int .i64 0,.int .i64 0,.nil],.agg [.int .i64 0,.int .i64 0,.nil],.int .i64 5]) else bif (Bg p9_2&&Bg h) then xM (.Cw [.agg [.int .i64 p2,.int .i64 p2_1,.Bh .arg .u64 p2_2],.agg [.int .i64 ((XF p9 p9_1 p9_2 u v h).1),.int .i64 ((XF p9 p9_1 p9_2 u v h).2.1),.Bh .BF .u64 ((XF p9 p9_1 p9_2 u v h).2.2.1)],.int .i64 ((XF p9 p9_1 p9_2 u v h).2.2.2)]) else xN) xN:=(FR _ _ _ _ _ _ _).trans (by kernel_rfl)
theorem Ec.held.ev:BX Ec.held.E N f17 (Br f17) [.agg [.int .i64 r,.int .i64 c,.Bh .arg .u64 l,.int .i64 p,.int .i64 q,.Bh .arg .u64 m,.int .i64 a,.int .i64 b,.Bh .arg .u64 g,.int .i64 u,.int .i64 v,.Bh .arg .u64 h]]=cond (((CG p q m).2.2.2) !=(0:Int)) (xM (.Cw [.agg [.int .i64 0,.int .i64 0,.nil],.agg [.int .i64 0,.int .i64 0,.nil],.int .i64 ((CG p q m).2.2.2)])) (bif (Bg ((CG p q m).2.2.1)) then Ec.held.C5 N r c l p q m a b g u v h (DZ ((CG p q m).1) ((CG p q m).2.1) ((CG p q m).2.2.1)) ((rX ((CG p q m).1) ((CG p q m).2.1) ((CG p q m).2.2.1)).1) ((rX ((CG p q m).1) ((CG p q m).2.1) ((CG p q m).2.2.1)).2.1) ((rX ((CG p q m).1) ((CG p q m).2.1) ((CG p q m).2.2.1)).2.2.1) ((CG p q m).1) ((CG p q m).2.1) ((CG p q m).2.2.1) ((qX ((CG p q m).1) ((CG p q m).2.1) ((CG p q m).2.2.1)).1) ((qX ((CG p q m).1) ((CG p q m).2.1) ((CG p q m).2.2.1)).2.1) ((qX ((CG p q m).1) ((CG p q m).2.1) ((CG p q m).2.2.1)).2.2.1) else xN):=by kernel_rfl
end
def Ec.Solve.Il:List (Nat × EC):=[(16,Ec.Check.Bk),(18,Ec.finite.Bk),(17,Ec.held.Bk),(19,Bc.Mul.Bk),(20,Bc.Part.Bk),(23,Bc.Stack.Bk),(21,Bc.Sub.Bk),(22,solve.F3.Bk)]
def Ec.Solve.live:Nat->Option (List Nat)
 | 5=>xM [1,2,5,6,7]
 | 9=>xM [1,2,5,6,7,8,9,10]
 | 12=>xM [1,2,5,6,8,9,10,11]
 | 13=>xM [1,2,5,6,11,13]
 | 14=>xM [1,2,5,6,13,15]
 | 15=>xM [2,5,6,7,13,17]
 | 18=>xM [2,5,6,7,18]
 | _=>xN
def Ec.Solve.E:Env:=CP (CC Ec.Solve.Il) (fun _=>wy) (fun _=>xN) Ec.Solve.live
section
variable(N:Nat)(r c:Int)(l:Bb)(p q:Int)(m:Bb)(a b:Int)(g:Bb)(u v:Int)(h:Bb)(p7 p6 p6_1:Int)(p6_2:Bb)(p5 p5_1:Int)(p5_2:Bb)(p7_1 p10 p10_1:Int)(p10_2:Bb)(p11 p11_1:Int)(p11_2:Bb)(p13 p13_1:Int)(p13_2:Bb)(p15 p15_1:Int)(p15_2:Bb)(p7_2 p17 p17_1:Int)(p17_2:Bb)(p7_3 p18 p18_1:Int)(p18_2:Bb)
def Ec.Solve.C5:Option DV:=cutAt Ec.Solve.E N f6 (Br f6) [1,1,1,0] [] ⟨EP 125 [(1,.ptr 1 0 0),(2,.ptr 2 0 0),(5,.ptr 5 0 0),(6,.ptr 6 0 0),(7,.int .i64 p7)],[(6,wy,.box [.int .i64 p6,.int .i64 p6_1,.Bh .BF .u64 p6_2]),(5,wy,.box [.int .i64 p5,.int .i64 p5_1,.Bh .arg .u64 p5_2]),(2,wy,.box [.int .i64 0,.int .i64 0,.nil]),(1,wy,.box [.int .i64 r,.int .i64 c,.Bh .arg .u64 l,.int .i64 p,.int .i64 q,.Bh .arg .u64 m,.int .i64 a,.int .i64 b,.Bh .arg .u64 g,.int .i64 u,.int .i64 v,.Bh .arg .u64 h])]⟩
def Ec.Solve.C9:Option DV:=cutAt Ec.Solve.E N f6 (Br f6) [1,1,1,1,1,1,0] [] ⟨EP 125 [(1,.ptr 1 0 0),(2,.ptr 2 0 0),(5,.ptr 5 0 0),(6,.ptr 6 0 0),(7,.int .i64 p7_1),(8,.int .i64 c),(9,.int .i64 p),(10,.ptr 10 0 0)],[(10,wy,.box [.int .i64 p10,.int .i64 p10_1,.Bh .arg .u64 p10_2]),(6,wy,.box [.int .i64 p6,.int .i64 p6_1,.Bh .BF .u64 p6_2]),(5,wy,.box [.int .i64 p5,.int .i64 p5_1,.Bh .arg .u64 p5_2]),(2,wy,.box [.int .i64 0,.int .i64 0,.nil]),(1,wy,.box [.int .i64 r,.int .i64 c,.Bh .arg .u64 l,.int .i64 p,.int .i64 q,.Bh .arg .u64 m,.int .i64 a,.int .i64 b,.Bh .arg .u64 g,.int .i64 u,.int .i64 v,.Bh .arg .u64 h])]⟩
def Ec.Solve.C12:Option DV:=cutAt Ec.Solve.E N f6 (Br f6) [1,1,1,1,1,1,1,1] [] ⟨EP 125 [(1,.ptr 1 0 0),(2,.ptr 2 0 0),(5,.ptr 5 0 0),(6,.ptr 6 0 0),(8,.int .i64 c),(9,.int .i64 p),(10,.ptr 10 0 0),(11,.ptr 11 0 0)],[(11,wy,.box [.int .i64 p11,.int .i64 p11_1,.Bh .BF .u64 p11_2]),(10,wy,.box [.int .i64 p10,.int .i64 p10_1,.Bh .arg .u64 p10_2]),(6,wy,.box [.int .i64 p6,.int .i64 p6_1,.Bh .BF .u64 p6_2]),(5,wy,.box [.int .i64 p5,.int .i64 p5_1,.Bh .arg .u64 p5_2]),(2,wy,.box [.int .i64 0,.int .i64 0,.nil]),(1,wy,.box [.int .i64 r,.int .i64 c,.Bh .arg .u64 l,.int .i64 p,.int .i64 q,.Bh .arg .u64 m,.int .i64 a,.int .i64 b,.Bh .arg .u64 g,.int .i64 u,.int .i64 v,.Bh .arg .u64 h])]⟩
def Ec.Solve.C13:Option DV:=cutAt Ec.Solve.E N f6 (Br f6) [1,1,1,1,1,1,1,1,1] [] ⟨EP 125 [(1,.ptr 1 0 0),(2,.ptr 2 0 0),(5,.ptr 5 0 0),(6,.ptr 6 0 0),(11,.ptr 11 0 0),(13,.ptr 13 0 0)],[(13,wy,.box [.int .i64 p13,.int .i64 p13_1,.Bh .BF .u64 p13_2]),(11,wy,.box [.int .i64 p11,.int .i64 p11_1,.Bh .BF .u64 p11_2]),(10,wy,.box [.int .i64 p10,.int .i64 p10_1,.Bh .arg .u64 p10_2]),(6,wy,.box [.int .i64 p6,.int .i64 p6_1,.Bh .BF .u64 p6_2]),(5,wy,.box [.int .i64 p5,.int .i64 p5_1,.Bh .arg .u64 p5_2]),(2,wy,.box [.int .i64 0,.int .i64 0,.nil]),(1,wy,.box [.int .i64 r,.int .i64 c,.Bh .arg .u64 l,.int .i64 p,.int .i64 q,.Bh .arg .u64 m,.int .i64 a,.int .i64 b,.Bh .arg .u64 g,.int .i64 u,.int .i64 v,.Bh .arg .u64 h])]⟩
def Ec.Solve.C14:Option DV:=cutAt Ec.Solve.E N f6 (Br f6) [1,1,1,1,1,1,1,1,1,1] [] ⟨EP 125 [(1,.ptr 1 0 0),(2,.ptr 2 0 0),(5,.ptr 5 0 0),(6,.ptr 6 0 0),(13,.ptr 13 0 0),(15,.ptr 15 0 0)],[(15,wy,.box [.int .i64 p15,.int .i64 p15_1,.Bh .BF .u64 p15_2]),(13,wy,.box [.int .i64 p13,.int .i64 p13_1,.Bh .BF .u64 p13_2]),(11,wy,.box [.int .i64 p11,.int .i64 p11_1,.Bh .BF .u64 p11_2]),(10,wy,.box [.int .i64 p10,.int .i64 p10_1,.Bh .arg .u64 p10_2]),(6,wy,.box [.int .i64 p6,.int .i64 p6_1,.Bh .BF .u64 p6_2]),(5,wy,.box [.int .i64 p5,.int .i64 p5_1,.Bh .arg .u64 p5_2]),(2,wy,.box [.int .i64 0,.int .i64 0,.nil]),(1,wy,.box [.int .i64 r,.int .i64 c,.Bh .arg .u64 l,.int .i64 p,.int .i64 q,.Bh .arg .u64 m,.int .i64 a,.int .i64 b,.Bh .arg .u64 g,.int .i64 u,.int .i64 v,.Bh .arg .u64 h])]⟩
def Ec.Solve.C15:Option DV:=cutAt Ec.Solve.E N f6 (Br f6) [1,1,1,1,1,1,1,1,1,1,1,0] [] ⟨EP 125 [(2,.ptr 2 0 0),(5,.ptr 5 0 0),(6,.ptr 6 0 0),(7,.int .i64 p7_2),(13,.ptr 13 0 0),(17,.ptr 17 0 0)],[(17,wy,.box [.int .i64 p17,.int .i64 p17_1,.Bh .arg .u64 p17_2]),(15,wy,.box [.int .i64 p15,.int .i64 p15_1,.Bh .BF .u64 p15_2]),(13,wy,.box [.int .i64 p13,.int .i64 p13_1,.Bh .BF .u64 p13_2]),(11,wy,.box [.int .i64 p11,.int .i64 p11_1,.Bh .BF .u64 p11_2]),(10,wy,.box [.int .i64 p10,.int .i64 p10_1,.Bh .arg .u64 p10_2]),(6,wy,.box [.int .i64 p6,.int .i64 p6_1,.Bh .BF .u64 p6_2]),(5,wy,.box [.int .i64 p5,.int .i64 p5_1,.Bh .arg .u64 p5_2]),(2,wy,.box [.int .i64 0,.int .i64 0,.nil]),(1,wy,.box [.int .i64 r,.int .i64 c,.Bh .arg .u64 l,.int .i64 p,.int .i64 q,.Bh .arg .u64 m,.int .i64 a,.int .i64 b,.Bh .arg .u64 g,.int .i64 u,.int .i64 v,.Bh .arg .u64 h])]⟩
def Ec.Solve.C18:Option DV:=cutAt Ec.Solve.E N f6 (Br f6) [1,1,1,1,1,1,1,1,1,1,1,1,1,0] [] ⟨EP 125 [(2,.ptr 2 0 0),(5,.ptr 5 0 0),(6,.ptr 6 0 0),(7,.int .i64 p7_3),(18,.ptr 18 0 0)],[(18,wy,.box [.int .i64 p18,.int .i64 p18_1,.Bh .BF .u64 p18_2]),(17,wy,.box [.int .i64 p17,.int .i64 p17_1,.Bh .arg .u64 p17_2]),(15,wy,.box [.int .i64 p15,.int .i64 p15_1,.Bh .BF .u64 p15_2]),(13,wy,.box [.int .i64 p13,.int .i64 p13_1,.Bh .BF .u64 p13_2]),(11,wy,.box [.int .i64 p11,.int .i64 p11_1,.Bh .BF .u64 p11_2]),(10,wy,.box [.int .i64 p10,.int .i64 p10_1,.Bh .arg .u64 p10_2]),(6,wy,.box [.int .i64 p6,.int .i64 p6_1,.Bh .BF .u64 p6_2]),(5,wy,.box [.int .i64 p5,.int .i64 p5_1,.Bh .arg .u64 p5_2]),(2,wy,.box [.int .i64 0,.int .i64 0,.nil]),(1,wy,.box [.int .i64 r,.int .i64 c,.Bh .arg .u64 l,.int .i64 p,.int .i64 q,.Bh .arg .u64 m,.int .i64 a,.int .i64 b,.Bh .arg .u64 g,.int .i64 u,.int .i64 v,.Bh .arg .u64 h])]⟩
theorem Ec.Solve.Ai7:Ec.Solve.C5 N r c l p q m a b g u v h p7 p6 p6_1 p6_2 p5 p5_1 p5_2=cond (p7 !=(0:Int)) (xM (.Cw [.agg [.int .i64 0,.int .i64 0,.nil],.int .i64 p7])) (bif (Bg l&&Bg p5_2) then cond (Bg ((E6 r c l p5 p5_1 p5_2).2.2.1)) (Ec.Solve.C9 N r c l p q m a b g u v h p6 p6_1 p6_2 p5 p5_1 p5_2 ((Lx ((E6 r c l p5 p5_1 p5_2).1) ((E6 r c l p5 p5_1 p5_2).2.1) ((E6 r c l p5 p5_1 p5_2).2.2.1) ((E6 r c l p5 p5_1 p5_2).2.2.2)).2.2.2) ((Lx ((E6 r c l p5 p5_1 p5_2).1) ((E6 r c l p5 p5_1 p5_2).2.1) ((E6 r c l p5 p5_1 p5_2).2.2.1) ((E6 r c l p5 p5_1 p5_2).2.2.2)).1) ((Lx ((E6 r c l p5 p5_1 p5_2).1) ((E6 r c l p5 p5_1 p5_2).2.1) ((E6 r c l p5 p5_1 p5_2).2.2.1) ((E6 r c l p5 p5_1 p5_2).2.2.2)).2.1) ((Lx ((E6 r c l p5 p5_1 p5_2).1) ((E6 r c l p5 p5_1 p5_2).2.1) ((E6 r c l p5 p5_1 p5_2).2.2.1) ((E6 r c l p5 p5_1 p5_2).2.2.2)).2.2.1)) xN else xN):=(FR _ _ _ _ _ _ _).trans (by kernel_rfl)
theorem Ec.Solve.Ai6:Ec.Solve.C9 N r c l p q m a b g u v h p6 p6_1 p6_2 p5 p5_1 p5_2 p7_1 p10 p10_1 p10_2=cond (p7_1 !=(0:Int)) (xM (.Cw [.agg [.int .i64 0,.int .i64 0,.nil],.int .i64 p7_1])) (Ec.Solve.C12 N r c l p q m a b g u v h p6 p6_1 p6_2 p5 p5_1 p5_2 p10 p10_1 p10_2 ((EW p10 p10_1 p10_2 0 0 r p).1) ((EW p10 p10_1 p10_2 0 0 r p).2.1) ((EW p10 p10_1 p10_2 0 0 r p).2.2.1)):=(FR _ _ _ _ _ _ _).trans (by kernel_rfl)
theorem Ec.Solve.AbV:Ec.Solve.C12 N r c l p q m a b g u v h p6 p6_1 p6_2 p5 p5_1 p5_2 p10 p10_1 p10_2 p11 p11_1 p11_2=
 Ec.Solve.C13 N r c l p q m a b g u v h p6 p6_1 p6_2 p5 p5_1 p5_2 p10 p10_1 p10_2 p11 p11_1 p11_2 ((EW p10 p10_1 p10_2 0 p r (Be (c-p))).1) ((EW p10 p10_1 p10_2 0 p r (Be (c-p))).2.1) ((EW p10 p10_1 p10_2 0 p r (Be (c-p))).2.2.1):=(FR _ _ _ _ _ _ _).trans (by kernel_rfl)
theorem Ec.Solve.Amy:Ec.Solve.C13 N r c l p q m a b g u v h p6 p6_1 p6_2 p5 p5_1 p5_2 p10 p10_1 p10_2 p11 p11_1 p11_2 p13 p13_1 p13_2=cond (Bg p11_2&&Bg p6_2) (Ec.Solve.C14 N r c l p q m a b g u v h p6 p6_1 p6_2 p5 p5_1 p5_2 p10 p10_1 p10_2 p11 p11_1 p11_2 p13 p13_1 p13_2 ((E6 p11 p11_1 p11_2 p6 p6_1 p6_2).1) ((E6 p11 p11_1 p11_2 p6 p6_1 p6_2).2.1) ((E6 p11 p11_1 p11_2 p6 p6_1 p6_2).2.2.1)) xN:=(FR _ _ _ _ _ _ _).trans (by kernel_rfl)
theorem Ec.Solve.AbU:Ec.Solve.C14 N r c l p q m a b g u v h p6 p6_1 p6_2 p5 p5_1 p5_2 p10 p10_1 p10_2 p11 p11_1 p11_2 p13 p13_1 p13_2 p15 p15_1 p15_2=cond (Bg g&&Bg p15_2) (bif (Bg ((IV a b g p15 p15_1 p15_2).2.2.1)) then Ec.Solve.C15 N r c l p q m a b g u v h p6 p6_1 p6_2 p5 p5_1 p5_2 p10 p10_1 p10_2 p11 p11_1 p11_2 p13 p13_1 p13_2 p15 p15_1 p15_2 ((Lx ((IV a b g p15 p15_1 p15_2).1) ((IV a b g p15 p15_1 p15_2).2.1) ((IV a b g p15 p15_1 p15_2).2.2.1) ((IV a b g p15 p15_1 p15_2).2.2.2)).2.2.2) ((Lx ((IV a b g p15 p15_1 p15_2).1) ((IV a b g p15 p15_1 p15_2).2.1) ((IV a b g p15 p15_1 p15_2).2.2.1) ((IV a b g p15 p15_1 p15_2).2.2.2)).1) ((Lx ((IV a b g p15 p15_1 p15_2).1) ((IV a b g p15 p15_1 p15_2).2.1) ((IV a b g p15 p15_1 p15_2).2.2.1) ((IV a b g p15 p15_1 p15_2).2.2.2)).2.1) ((Lx ((IV a b g p15 p15_1 p15_2).1) ((IV a b g p15 p15_1 p15_2).2.1) ((IV a b g p15 p15_1 p15_2).2.2.1) ((IV a b g p15 p15_1 p15_2).2.2.2)).2.2.1) else xN) xN:=(FR _ _ _ _ _ _ _).trans (by kernel_rfl)
theorem Ec.Solve.Amw:Ec.Solve.C15 N r c l p q m a b g u v h p6 p6_1 p6_2 p5 p5_1 p5_2 p10 p10_1 p10_2 p11 p11_1 p11_2 p13 p13_1 p13_2 p15 p15_1 p15_2 p7_2 p17 p17_1 p17_2=cond (p7_2 !=(0:Int)) (xM (.Cw [.agg [.int .i64 0,.int .i64 0,.nil],.int .i64 p7_2])) (bif (Bg p13_2&&Bg p17_2) then Ec.Solve.C18 N r c l p q m a b g u v h p6 p6_1 p6_2 p5 p5_1 p5_2 p10 p10_1 p10_2 p11 p11_1 p11_2 p13 p13_1 p13_2 p15 p15_1 p15_2 p17 p17_1 p17_2 ((Dz p13 p13_1 p13_2 p17 p17_1 p17_2).2.2.2) ((Dz p13 p13_1 p13_2 p17 p17_1 p17_2).1) ((Dz p13 p13_1 p13_2 p17 p17_1 p17_2).2.1) ((Dz p13 p13_1 p13_2 p17 p17_1 p17_2).2.2.1) else xN):=(FR _ _ _ _ _ _ _).trans (by kernel_rfl)
theorem Ec.Solve.AbT:Ec.Solve.C18 N r c l p q m a b g u v h p6 p6_1 p6_2 p5 p5_1 p5_2 p10 p10_1 p10_2 p11 p11_1 p11_2 p13 p13_1 p13_2 p15 p15_1 p15_2 p17 p17_1 p17_2 p7_3 p18 p18_1 p18_2=cond (p7_3 !=(0:Int)) (xM (.Cw [.agg [.int .i64 0,.int .i64 0,.nil],.int .i64 p7_3])) (bif (((C6 p6 p6_1 p6_2 p18 p18_1 p18_2).2.2.2) !=(0:Int)) then xM (.Cw [.agg [.int .i64 0,.int .i64 0,.nil],.int .i64 ((C6 p6 p6_1 p6_2 p18 p18_1 p18_2).2.2.2)]) else bif (Bg p5_2&&Bg ((C6 p6 p6_1 p6_2 p18 p18_1 p18_2).2.2.1)) then cond (Bg ((E6 p5 p5_1 p5_2 ((C6 p6 p6_1 p6_2 p18 p18_1 p18_2).1) ((C6 p6 p6_1 p6_2 p18 p18_1 p18_2).2.1) ((C6 p6 p6_1 p6_2 p18 p18_1 p18_2).2.2.1)).2.2.1)) (xM (.Cw [.agg [.int .i64 ((Lx ((E6 p5 p5_1 p5_2 ((C6 p6 p6_1 p6_2 p18 p18_1 p18_2).1) ((C6 p6 p6_1 p6_2 p18 p18_1 p18_2).2.1) ((C6 p6 p6_1 p6_2 p18 p18_1 p18_2).2.2.1)).1) ((E6 p5 p5_1 p5_2 ((C6 p6 p6_1 p6_2 p18 p18_1 p18_2).1) ((C6 p6 p6_1 p6_2 p18 p18_1 p18_2).2.1) ((C6 p6 p6_1 p6_2 p18 p18_1 p18_2).2.2.1)).2.1) ((E6 p5 p5_1 p5_2 ((C6 p6 p6_1 p6_2 p18 p18_1 p18_2).1) ((C6 p6 p6_1 p6_2 p18 p18_1 p18_2).2.1) ((C6 p6 p6_1 p6_2 p18 p18_1 p18_2).2.2.1)).2.2.1) ((E6 p5 p5_1 p5_2 ((C6 p6 p6_1 p6_2 p18 p18_1 p18_2).1) ((C6 p6 p6_1 p6_2 p18 p18_1 p18_2).2.1) ((C6 p6 p6_1 p6_2 p18 p18_1 p18_2).2.2.1)).2.2.2)).1),.int .i64 ((Lx ((E6 p5 p5_1 p5_2 ((C6 p6 p6_1 p6_2 p18 p18_1 p18_2).1) ((C6 p6 p6_1 p6_2 p18 p18_1 p18_2).2.1) ((C6 p6 p6_1 p6_2 p18 p18_1 p18_2).2.2.1)).1) ((E6 p5 p5_1 p5_2 ((C6 p6 p6_1 p6_2 p18 p18_1 p18_2).1) ((C6 p6 p6_1 p6_2 p18 p18_1 p18_2).2.1) ((C6 p6 p6_1 p6_2 p18 p18_1 p18_2).2.2.1)).2.1) ((E6 p5 p5_1 p5_2 ((C6 p6 p6_1 p6_2 p18 p18_1 p18_2).1) ((C6 p6 p6_1 p6_2 p18 p18_1 p18_2).2.1) ((C6 p6 p6_1 p6_2 p18 p18_1 p18_2).2.2.1)).2.2.1) ((E6 p5 p5_1 p5_2 ((C6 p6 p6_1 p6_2 p18 p18_1 p18_2).1) ((C6 p6 p6_1 p6_2 p18 p18_1 p18_2).2.1) ((C6 p6 p6_1 p6_2 p18 p18_1 p18_2).2.2.1)).2.2.2)).2.1),.Bh .arg .u64 ((Lx ((E6 p5 p5_1 p5_2 ((C6 p6 p6_1 p6_2 p18 p18_1 p18_2).1) ((C6 p6 p6_1 p6_2 p18 p18_1 p18_2).2.1) ((C6 p6 p6_1 p6_2 p18 p18_1 p18_2).2.2.1)).1) ((E6 p5 p5_1 p5_2 ((C6 p6 p6_1 p6_2 p18 p18_1 p18_2).1) ((C6 p6 p6_1 p6_2 p18 p18_1 p18_2).2.1) ((C6 p6 p6_1 p6_2 p18 p18_1 p18_2).2.2.1)).2.1) ((E6 p5 p5_1 p5_2 ((C6 p6 p6_1 p6_2 p18 p18_1 p18_2).1) ((C6 p6 p6_1 p6_2 p18 p18_1 p18_2).2.1) ((C6 p6 p6_1 p6_2 p18 p18_1 p18_2).2.2.1)).2.2.1) ((E6 p5 p5_1 p5_2 ((C6 p6 p6_1 p6_2 p18 p18_1 p18_2).1) ((C6 p6 p6_1 p6_2 p18 p18_1 p18_2).2.1) ((C6 p6 p6_1 p6_2 p18 p18_1 p18_2).2.2.1)).2.2.2)).2.2.1)],.int .i64 ((Lx ((E6 p5 p5_1 p5_2 ((C6 p6 p6_1 p6_2 p18 p18_1 p18_2).1) ((C6 p6 p6_1 p6_2 p18 p18_1 p18_2).2.1) ((C6 p6 p6_1 p6_2 p18 p18_1 p18_2).2.2.1)).1) ((E6 p5 p5_1 p5_2 ((C6 p6 p6_1 p6_2 p18 p18_1 p18_2).1) ((C6 p6 p6_1 p6_2 p18 p18_1 p18_2).2.1) ((C6 p6 p6_1 p6_2 p18 p18_1 p18_2).2.2.1)).2.1) ((E6 p5 p5_1 p5_2 ((C6 p6 p6_1 p6_2 p18 p18_1 p18_2).1) ((C6 p6 p6_1 p6_2 p18 p18_1 p18_2).2.1) ((C6 p6 p6_1 p6_2 p18 p18_1 p18_2).2.2.1)).2.2.1) ((E6 p5 p5_1 p5_2 ((C6 p6 p6_1 p6_2 p18 p18_1 p18_2).1) ((C6 p6 p6_1 p6_2 p18 p18_1 p18_2).2.1) ((C6 p6 p6_1 p6_2 p18 p18_1 p18_2).2.2.1)).2.2.2)).2.2.2)])) xN else xN):=(FR _ _ _ _ _ _ _).trans (by kernel_rfl)
theorem Ec.Solve.ev:BX Ec.Solve.E N f6 (Br f6) [.agg [.int .i64 r,.int .i64 c,.Bh .arg .u64 l,.int .i64 p,.int .i64 q,.Bh .arg .u64 m,.int .i64 a,.int .i64 b,.Bh .arg .u64 g,.int .i64 u,.int .i64 v,.Bh .arg .u64 h]]=cond (Sh l m g h) (bif ((IU r c l p q m a b g u v h) !=(0:Int)) then xM (.Cw [.agg [.int .i64 0,.int .i64 0,.nil],.int .i64 (IU r c l p q m a b g u v h)]) else bif (Sh l m g h&&decide (IU r c l p q m a b g u v h=0)) then Ec.Solve.C5 N r c l p q m a b g u v h ((hY p q m u v h).2.2.2) ((hY p q m u v h).1) ((hY p q m u v h).2.1) ((hY p q m u v h).2.2.1) ((hQ p q m).1) ((hQ p q m).2.1) ((hQ p q m).2.2.1) else xN) xN:=by kernel_rfl
end
theorem Qw{r c:Int}{l:Bb}(h:B5 r c l=wg):0<=r/\r<=6/\0<=c/\c<=6:=by obtain⟨R,C,rfl,rfl,r6,c6,_⟩:=CU h;omega
theorem Age{r c p q a u b v:Int}(h:0<=r/\r<=6)(h':0<=p/\p<=6):
 (((((((q !=c)||(a !=r))||(u !=p))||(b !=(1:Int)))||(v !=(1:Int)))||(BI c p))||(BI (Be (r+p)) c))=decide (q≠c\/a≠r\/u≠p\/b≠1\/v≠1\/c<p\/r+p<c):=by
 rw[Bq (by omega) (by omega),Bw,Bw,Ar];simp[or_assoc]
theorem Ec.Check.Bi:Kq 16 Ec.Check.Bk:=D6 Ec.Check.E Tryz.func16 (kc Dw.Check.Bi .nil) fun r c l p q m a b g u v h hp=>by
 obtain⟨h1,h2⟩:=Bf.1 (show((Bg l&&Bg m)&&(Bg g&&Bg h))=wg from hp);obtain⟨al,am⟩:=Bf.1 h1;obtain⟨ag,ah⟩:=Bf.1 h2;refine⟨0+6,Ec.Check.out [.i r,.i c,.l l,.i p,.i q,.l m,.i a,.i b,.l g,.i u,.i v,.l h],[],?_,.int⟩;show _=xM (DV.int .i64 (IU r c l p q m a b g u v h));rw[Ec.Check.ev,al,am,ag,ah,Aa,Aa,Aa,Aa];unfold IU;by_cases k1:Cm r c l=0
 ·rw[Fv k1,Af,Ay (by rw[k1]; decide)];by_cases k2:Cm p q m=0
  ·rw[Fv k2,Af,Ay (by rw[k2]; decide)];by_cases k3:Cm a b g=0
   ·rw[Fv k3,Af,Ay (by rw[k3]; decide)];by_cases k4:Cm u v h=0
    ·rw[Fv k4,Af,Ay (by rw[k4]; decide)];have s1:=Qw (Gj k1).1;have s2:=Qw (Gj k2).1;rw[Age ⟨s1.1,s1.2.1⟩ ⟨s2.1,s2.2.1⟩];by_cases k5:q≠c\/a≠r\/u≠p\/b≠1\/v≠1\/c<p\/r+p<c
     ·rw[Ac k5,Aa,Az k5]
     ·rw[Ag k5,Af,Ay k5]
    ·rw[Pu k4,Aa,Az k4]
   ·rw[Pu k3,Aa,Az k3]
  ·rw[Pu k2,Aa,Az k2]
 ·rw[Pu k1,Aa,Az k1]
theorem VB{r c:Int}{l:Bb}{p q:Int}{m:Bb}{a b:Int}{g:Bb}{u v:Int}{h:Bb}(e:IU r c l p q m a b g u v h=0):
 Cm r c l=0/\Cm p q m=0/\Cm a b g=0/\Cm u v h=0/\q=c/\a=r/\u=p/\b=1/\v=1/\p<=c/\c<=r+p:=by
 unfold IU at e;by_cases k1:Cm r c l=0
 ·rw[Ay (by rw[k1]; decide)] at e;by_cases k2:Cm p q m=0
  ·rw[Ay (by rw[k2]; decide)] at e;by_cases k3:Cm a b g=0
   ·rw[Ay (by rw[k3]; decide)] at e;by_cases k4:Cm u v h=0
    ·rw[Ay (by rw[k4]; decide)] at e;by_cases k5:q≠c\/a≠r\/u≠p\/b≠1\/v≠1\/c<p\/r+p<c
     ·rw[Az k5] at e; exact absurd e (by decide)
     ·exact⟨k1,k2,k3,k4,by omega⟩
    ·rw[Az k4] at e; exact absurd e k4
   ·rw[Az k3] at e; exact absurd e k3
  ·rw[Az k2] at e; exact absurd e k2
 ·rw[Az k1] at e; exact absurd e k1
theorem AcR{r c:Int}{l:Bb}{e:Int}(al:Bg l=wg):Bg (Lx r c l e).2.2.1=wg:=by
 unfold Lx;split
 ·exact DQ
 ·split
  ·exact DQ
  ·exact al
theorem AcQ{r c:Int}{l:Bb}(al:Bg l=wg):Bg (Hb r c l).2.2.1=wg:=by
 unfold Hb;split
 ·exact al
 ·exact DQ
theorem AlW(r c:Int)(l:Bb)(p q:Int)(m:Bb):Bg (XF r c l p q m).2.2.1=wg:=by
 unfold XF;split
 ·exact DQ
 ·exact AcQ (FV fun i k=>QU (Abj _ _ _ _) i)
theorem Ald(r c:Int)(l:Bb)(p q:Int)(m:Bb):Bg (Rq r c l p q m).2.2.1=wg:=by
 unfold Rq;split
 ·exact DQ
 ·exact AcQ (FV fun i k=>QU (Aas _ _ _ _ _) i)
theorem Wg(r c:Int)(l:Bb)(p q:Int)(m:Bb):Bg (Dz r c l p q m).2.2.1=wg:=by
 unfold Dz;split
 ·exact DQ
 ·split
  ·exact DQ
  ·split
   ·exact DQ
   ·split
    ·exact DQ
    ·split
     ·exact DQ
     ·unfold Aar;split
      ·exact DQ
      ·exact Ald _ _ _ _ _ _
theorem Acj{r c:Int}{l:Bb}{p q:Int}{m:Bb}(al:Bg l=wg)(am:Bg m=wg):Bg (IV r c l p q m).2.2.1=wg:=by
 unfold IV;by_cases h:(B5 r c l&&B5 p q m)=wg
 ·rw[Az h];by_cases h2:r=p/\c=q
  ·rw[Az h2]; exact(show Bg (Cg _ _ fun i k=>CA (Cc c l i k) (Cc q m i k))=wg from FV fun _ _=>Kb (JD al) (JD am))
  ·rw[Ay h2]; exact DQ
 ·rw[Ay h]; exact DQ
theorem AdL{r c:Int}{l:Bb}{q:Int}{m:Bb}(al:Bg l=wg)(am:Bg m=wg)(i k:Int):Bo (HT r c l q m i k)=wg:=by
 unfold HT;by_cases h:i<r
 ·rw[Az h]; exact JD al
 ·rw[Ay h]; exact JD am
theorem AdK{r c:Int}{l:Bb}{p q:Int}{m:Bb}(al:Bg l=wg)(am:Bg m=wg):Bg (C6 r c l p q m).2.2.1=wg:=by
 unfold C6;by_cases h:(B5 r c l&&B5 p q m)=wg
 ·rw[Az h];by_cases h2:c=q/\r+p<=6
  ·rw[Az h2]; exact(show Bg (Cg _ _ fun i k=>HT r c l q m i k)=wg from FV fun _ _=>AdL al am _ _)
  ·rw[Ay h2]; exact DQ
 ·rw[Ay h]; exact DQ
theorem AkK{r c:Int}{l:Bb}(al:Bg l=wg):Bg (qX r c l).2.2.1=wg/\Bg (rX r c l).2.2.1=wg:=by
 by_cases k:DZ r c l=0
 ·rw[(OF k).1,(OF k).2]; exact AhL al k
 ·rw[(PG rfl k).1,(PG rfl k).2]; exact⟨DQ,DQ⟩
theorem Ec.finite.Bi:Kq 18 Ec.finite.Bk:=D6 Ec.finite.E Tryz.func18 (kc Dw.Check.Bi .nil) fun r c l e hp=>by
 have al:Bg l=wg:=hp;show ∃N dv drops,_=xM dv/\Wk drops dv (Xw (Lx r c l e));have hrun:=Ec.finite.ev 0 r c l e;rw[al,AQ,Aa] at hrun;unfold Lx;by_cases k:e=0
 ·rw[Ay (by rw[k]; decide)];rw[k] at hrun ⊢;by_cases k1:Cm r c l=0
  ·rw[Fv k1,Bool.and_false,Af] at hrun;rw[Ay (by rw[k1]; decide)];exact⟨0,_,[],hrun,Qd (x:=(r,c,l,0))⟩
  ·rw[Pu k1] at hrun;rw[Az k1];exact⟨0,_,[],hrun,LV⟩
 ·rw[Az k];have e1:(e==(0:Int))=wy:=by rw[A8]; exact k
  rw[e1,Bool.false_and,Af,Pu k,Aa] at hrun;exact⟨0,_,[],hrun,LV⟩
theorem AiL{p q:Int}{m:Bb}(h:B5 p q m=wg):(CG p q m).1=q/\(CG p q m).2.1=p/\(CG p q m).2.2.2=0:=by unfold CG; rw[Az h]; exact⟨rfl,rfl,rfl⟩
theorem Ec.held.Bi:Kq 17 Ec.held.Bk:=D6 Ec.held.E Tryz.func17 (kc Bc.Part.Bi (kc Bc.Du.Bi (kc qr.Ch.Bi (kc solve.Flat.Bi (kc solve.Kp.Bi .nil))))) fun r c l p q m a b g u v h hp=>by
 obtain⟨h0,hz⟩:=Bf.1 (show(Sh l m g h&&decide (IU r c l p q m a b g u v h=0))=wg from hp);obtain⟨h1,h2⟩:=Bf.1 (show((Bg l&&Bg m)&&(Bg g&&Bg h))=wg from h0);obtain⟨al,am⟩:=Bf.1 h1;obtain⟨ag,ah⟩:=Bf.1 h2;obtain⟨k1,k2,k3,k4,_⟩:=VB (A3 hz);obtain⟨e1,e2,e3⟩:=AiL (Gj k2).1;show ∃N dv drops,_=xM dv/\Wk drops dv (DV.Cw [.agg [.int .i64 (hQ p q m).1,.int .i64 (hQ p q m).2.1,.Bh .arg .u64 (hQ p q m).2.2.1],.agg [.int .i64 (hY p q m u v h).1,.int .i64 (hY p q m u v h).2.1,.Bh .BF .u64 (hY p q m u v h).2.2.1],.int .i64 (hY p q m u v h).2.2.2]);have at':Bg (eqT p q m)=wg:=Qi am;have as':Bg (Pl p q m).2.2.1=wg:=Qi (Qz (AkK at').2 _ _ _ _);have hrun:=Ec.held.ev 0 r c l p q m a b g u v h;rw[e3,Fv rfl,Af,Qi am,Aa,e1,e2,Ec.held.Ai7] at hrun;by_cases kf:DZ q p (eqT p q m)=0
 ·rw[Fv (show DZ q p (CG p q m).2.2.1=0 from kf),Af,Ec.held.AnI,Ec.held.Ai6] at hrun
  have hrun2:BX Ec.held.E 0 _ _ _=(bif Bg (Pl p q m).2.2.1 then bif (Hr (Pl p q m).1 (Pl p q m).2.1 (Pl p q m).2.2.1).1 then xM (TY 5) else bif Bg (Pl p q m).2.2.1&&Bg h then
   xM (.Cw [.agg [.int .i64 (qX q p (eqT p q m)).1,.int .i64 (qX q p (eqT p q m)).2.1,.Bh .arg .u64 (qX q p (eqT p q m)).2.2.1],.agg [.int .i64 (XF (Pl p q m).1 (Pl p q m).2.1 (Pl p q m).2.2.1 u v h).1,.int .i64 (XF (Pl p q m).1 (Pl p q m).2.1 (Pl p q m).2.2.1 u v h).2.1,.Bh .BF .u64 (XF (Pl p q m).1 (Pl p q m).2.1 (Pl p q m).2.2.1 u v h).2.2.1],.int .i64 (XF (Pl p q m).1 (Pl p q m).2.1 (Pl p q m).2.2.1 u v h).2.2.2]) else xN else xN):=hrun
  rw[as',Aa,ah,Bool.and_true,Aa] at hrun2;cases kb:(Hr (Pl p q m).1 (Pl p q m).2.1 (Pl p q m).2.2.1).1 with
  | true =>
    rw[kb,Aa] at hrun2;have d1:hQ p q m=Gv 5:=by unfold hQ; rw[Ay (by rw[kf]; decide),kb,Az rfl]
    have d2:hY p q m u v h=Gv 5:=by unfold hY; rw[Ay (by rw[kf]; decide),kb,Az rfl]
    rw[d1,d2];exact⟨0,_,[],hrun2,Rs⟩
  | false =>
    rw[kb,Af] at hrun2;have d1:hQ p q m=qX q p (eqT p q m):=by unfold hQ; rw[Ay (by rw[kf]; decide),kb,Ay (by decide)]
    have d2:hY p q m u v h=XF (Pl p q m).1 (Pl p q m).2.1 (Pl p q m).2.2.1 u v h:=by unfold hY; rw[Ay (by rw[kf]; decide),kb,Ay (by decide)]
    rw[d1,d2];exact⟨0,_,[],hrun2,Wk.Gx (.cons (Wk.Gt (.cons .int (.cons .int (.cons .Sd .nil)))) (.cons (Wk.Gt (.cons .int (.cons .int (.cons .Na .nil)))) (.cons .int .nil)))⟩
 ·rw[Pu (show DZ q p (CG p q m).2.2.1≠0 from kf),Aa] at hrun;have d1:hQ p q m=Gv (DZ q p (eqT p q m)):=by unfold hQ; rw[Az kf]
  have d2:hY p q m u v h=Gv (DZ q p (eqT p q m)):=by unfold hY; rw[Az kf]
  rw[d1,d2];exact⟨0,_,[],hrun,Rs⟩
theorem Bc.Kl.Bi:Kq 63 Bc.Kl.Bk:=D6 Bc.Kl.E Tryz.func63 (kc Bc.get.Bi (kc Bu.Sub.Bi .nil)) fun i k r c l p q m hp=>by obtain⟨h1,am⟩:=Bf.1 (show(((Db r c l i k&&Db p q m i k)&&Bg l)&&Bg m)=wg from hp);obtain⟨h2,al⟩:=Bf.1 h1;obtain⟨h3,h4⟩:=Bf.1 h2;refine⟨0,Bc.Kl.out [.i i,.i k,.i r,.i c,.l l,.i p,.i q,.l m],[],?_,.int⟩;rw[Bc.Kl.ev,h3,h4,FT al,FT am]; rfl
theorem of.Sub.inner(N:Nat)(r c:Int)(l:Bb)(p q:Int)(m:Bb){A B:Nat}(hA:A<=6)(hB:B<=6){F:Nat->Nat->Int}(hF:∀i j:Nat,F i j=CA (Cc c l (i:Int) (j:Int)) (Cc q m (i:Int) (j:Int))){i:Nat}(hi:i<A)(hp:∀j:Nat,j<B->(((Db r c l (i:Int) (j:Int)&&Db p q m (i:Int) (j:Int))&&Bg l)&&Bg m)=wg):∀(k j M0 M:Nat),j+k=B->k<M ->
 Bc.of.Sub.L1 N M0 M (A:Int) (B:Int) r c l p q m (i:Int) (i:Int) (j:Int) (Cg i B F++(zg j).map (F i))=Bc.of.Sub.L0 N M0 (A:Int) (B:Int) r c l p q m ((i+1:Nat):Int) (Cg (i+1) B F):=by
 intro k
 induction k with
 | zero =>
   intro j M0 M hj hM;obtain⟨M,rfl⟩:∃G,M=G+1:=⟨M-1,by omega⟩
   obtain rfl:j=B:=by omega
   rw[Bc.of.Sub.BZ,Bw,Ag (by omega),Af,Bq (by omega) (by omega),<- J1];rfl
 | succ k ih =>
   intro j M0 M hj hM;obtain⟨M,rfl⟩:∃G,M=G+1:=⟨M-1,by omega⟩
   have d:decide ((Cg i B F++(zg j).map (F i)).length+1<=GL)=wg:=by refine Ac ?_;have:=A9 (show i<=6 by omega) hB;rw[A5,Ca,AK,AH]; unfold GL; omega
   rw[Bc.of.Sub.BZ,Bw,Ac (by omega),Aa,hp j (by omega),Aa,d,Aa,Bq (by omega) (by omega),<- hF i j];have:=ih (j+1) M0 M (by omega) (by omega);rw[GY,<- yu] at this;exact this
theorem of.Sub.outer(N:Nat)(r c:Int)(l:Bb)(p q:Int)(m:Bb){A B:Nat}(hA:A<=6)(hB:B<=6)(hN:6<N){F:Nat->Nat->Int}(hF:∀i j:Nat,F i j=CA (Cc c l (i:Int) (j:Int)) (Cc q m (i:Int) (j:Int)))(hp:∀i j:Nat,i<A->j<B->(((Db r c l (i:Int) (j:Int)&&Db p q m (i:Int) (j:Int))&&Bg l)&&Bg m)=wg):∀(k i M:Nat),i+k=A->k<M ->
 Bc.of.Sub.L0 N M (A:Int) (B:Int) r c l p q m (i:Int) (Cg i B F)=xM (.agg [.int .i64 (A:Int),.int .i64 (B:Int),.Bh (.own 108002 tB) .u64 (Cg A B F)]):=by
 intro k
 induction k with
 | zero =>
   intro i M hi hM;obtain⟨M,rfl⟩:∃G,M=G+1:=⟨M-1,by omega⟩
   obtain rfl:i=A:=by omega
   rw[Bc.of.Sub.B1,Bw,Ag (by omega),Af]
 | succ k ih =>
   intro i M hi hM;obtain⟨M,rfl⟩:∃G,M=G+1:=⟨M-1,by omega⟩
   have n:=of.Sub.inner N r c l p q m hA hB hF (show i<A by omega) (fun j hj=>hp i j (by omega) hj) B 0 M N (by omega) (by omega);rw[List.range_zero,List.map_nil,yF] at n;rw[Bc.of.Sub.B1,Bw,Ac (by omega),Aa];exact n.trans (ih (i+1) M (by omega) (by omega))
theorem Bc.of.Sub.Bi:Kq 55 Bc.of.Sub.Bk:=D6 Bc.of.Sub.E Tryz.func55 (kc Bc.Kl.Bi .nil) fun a b r c l p q m hp=>by
 obtain⟨h12,hy⟩:=Bf.1 (show(((Ce a&&Ce b)&&((B5 r c l&&B5 p q m)&&(Bg l&&Bg m)))&&decide (a=r/\b=c/\p=r/\q=c))=wg from hp);obtain⟨h1,hx⟩:=Bf.1 h12;have h2:=Bf.2 ⟨hx,hy⟩;obtain⟨ha,hb⟩:=Bf.1 h1;obtain⟨A,rfl,hA⟩:=EF ha;obtain⟨B,rfl,hB⟩:=EF hb;obtain⟨h3,he⟩:=Bf.1 h2;obtain⟨h4,h5⟩:=Bf.1 h3;obtain⟨hr,hm⟩:=Bf.1 h4;obtain⟨al,am⟩:=Bf.1 h5;obtain⟨e1,e2,e3,e4⟩:=A3 he
 have hp:∀i j:Nat,i<A->j<B->(((Db r c l (i:Int) (j:Int)&&Db p q m (i:Int) (j:Int))&&Bg l)&&Bg m)=wg:=fun i j hi hj =>
  Bf.2 ⟨Bf.2 ⟨Bf.2 ⟨HA hr (by omega) (by omega) (by omega) (by omega) r,HA hm (by omega) (by omega) (by omega) (by omega) p⟩,al⟩,am⟩
 refine⟨8,.agg [.int .i64 (A:Int),.int .i64 (B:Int),.Bh (.own 108002 tB) .u64 (Cg A B fun(i j:Nat)=>CA (Cc c l (i:Int) (j:Int)) (Cc q m (i:Int) (j:Int)))],[108002],?_,Wk.Gt (.cons .int (.cons .int (.cons (.drop _ _ _ _ (zh.2 rfl)) .nil)))⟩;rw[Bc.of.Sub.ev];have n:=of.Sub.outer 8 r c l p q m hA hB (by omega) (F:=fun(i j:Nat)=>CA (Cc c l (i:Int) (j:Int)) (Cc q m (i:Int) (j:Int))) (fun _ _=>rfl) hp A 0 8 (by omega) (by omega);rw[J0] at n;exact n
theorem Bc.Sub.Bi:Kq 21 Bc.Sub.Bk:=D6 Bc.Sub.E Tryz.func21 (kc Bc.of.Sub.Bi (kc Bc.two.Bi .nil)) fun r c l p q m hp=>by
 show ∃N dv drops,_=xM dv/\Wk drops dv (PH (IV r c l p q m));unfold IV;have hp:(Bg l&&Bg m)=wg:=hp;by_cases h:(B5 r c l&&B5 p q m)=wg
 ·obtain⟨h1,h2⟩:=Bf.1 h;by_cases hc:r=p/\c=q
  ·have e:(!((r==p)&&(c==q)))=wy:=by rw[hc.1,hc.2]; simp
   rw[Az h,Az hc];exact⟨0,_,[],by rw[Bc.Sub.ev,KR,h,e,(Fb h1).1,(Fb h1).2,hp,Ac ⟨rfl,rfl,hc.1.symm,hc.2.symm⟩]; rfl,LW⟩
  ·have e:(!((r==p)&&(c==q)))=wg:=by rw[yK,Bool.eq_false_iff];intro h;simp only[Am,beq_iff_eq] at h;exact hc h
   rw[Az h,Ay hc];exact⟨0,_,[],by rw[Bc.Sub.ev,KR,h,e]; rfl,Ig⟩
 ·have e:(B5 r c l&&B5 p q m)=wy:=by simpa using h
  rw[Ay h];exact⟨0,_,[],by rw[Bc.Sub.ev,KR,e,Aav e]; rfl,Ig⟩
theorem Aa1{R P C:Nat}{l m:Bb}(hl:l.length=R*C)(hm:m.length=P*C):
 (Cg (R+P) C fun(i k:Nat)=>HT (R:Int) (C:Int) l (C:Int) m (i:Int) (k:Int))=l++m:=by
 have h:(l++m).length=(R+P)*C:=by rw[A5,hl,hm,AI]
 conv=>rhs; rw[<- KN h]
 refine Dv fun i k hi hk=>?_
 unfold HT;by_cases hlt:(i:Int)<(R:Int)
 ·have:=HJ (r:=R) (c:=C) (i:=i) (k:=k) (by omega) hk;rw[Az hlt,Jg,Jg,Al,Al,yI (by omega)]
 ·have es:(i:Int)-(R:Int)=((i-R:Nat):Int):=by omega
  have e2:i*C=R*C+(i-R)*C:=by rw[<- AI]; congr 1; omega
  rw[Ay hlt,es,Jg,Jg,Al,Al,AS (by omega),hl,e2];congr 2; omega
def Out(o:Option DV)(x:MX):Prop:=∃dv drops,o=xM dv/\Wk drops dv (Xw x)
theorem RF{o:Option DV}{e:Int}(h:o=xM (AaT e)):Out o (Gv e):=⟨_,[],h,LV⟩
theorem AlG{o:Option DV}{x:MX}(h:o=xM (Xw x)):Out o x:=⟨_,[],h,Qd⟩
section
variable{N:Nat}{r c p q a b u v:Int}{l m g h:Bb}{w one two done f y Q z:MX}
theorem AjF(aq:Bg Q.2.2.1=wg)(ay:Bg y.2.2.1=wg)(az:Bg z.2.2.1=wg):
 Out (Ec.Solve.C18 N r c l p q m a b g u v h y.1 y.2.1 y.2.2.1 Q.1 Q.2.1 Q.2.2.1 w.1 w.2.1 w.2.2.1 one.1 one.2.1 one.2.2.1 two.1 two.2.1 two.2.2.1 done.1 done.2.1 done.2.2.1 f.1 f.2.1 f.2.2.1 z.2.2.2 z.1 z.2.1 z.2.2.1) (Uk Q y z):=by
 rw[Ec.Solve.AbT];unfold Uk;by_cases k:z.2.2.2=0
 ·rw[Fv k,Af,Ay (fun h=>h k)];by_cases k2:(R3 y z).2.2.2=0
  ·rw[Fv (show(C6 y.1 y.2.1 y.2.2.1 z.1 z.2.1 z.2.2.1).2.2.2=0 from k2),Af,Ay (fun h=>h k2),aq,AdK ay az,Ah,Aa,K5,Aa];exact AlG rfl
  ·rw[Pu (show(C6 y.1 y.2.1 y.2.2.1 z.1 z.2.1 z.2.2.1).2.2.2≠0 from k2),Aa,Az k2]; exact RF rfl
 ·rw[Pu k,Aa,Az k]; exact RF rfl
theorem AjG(aq:Bg Q.2.2.1=wg)(ay:Bg y.2.2.1=wg)(a2:Bg two.2.2.1=wg)(af:Bg f.2.2.1=wg):
 Out (Ec.Solve.C15 N r c l p q m a b g u v h y.1 y.2.1 y.2.2.1 Q.1 Q.2.1 Q.2.2.1 w.1 w.2.1 w.2.2.1 one.1 one.2.1 one.2.2.1 two.1 two.2.1 two.2.2.1 done.1 done.2.1 done.2.2.1 f.2.2.2 f.1 f.2.1 f.2.2.1) (if f.2.2.2≠0 then Gv f.2.2.2 else Uk Q y (XJ two f)):=by
 rw[Ec.Solve.Amw];by_cases k:f.2.2.2=0
 ·rw[Fv k,Af,Ay (fun h=>h k),a2,af,Ah,Aa];exact AjF (z:=XJ two f) aq ay (Wg _ _ _ _ _ _)
 ·rw[Pu k,Aa,Az k]; exact RF rfl
theorem AjH(aq:Bg Q.2.2.1=wg)(ay:Bg y.2.2.1=wg)(aw:Bg w.2.2.1=wg)(ag:Bg g=wg)(hw:Be (c-p)=c-p):
 Out (Ec.Solve.C12 N r c l p q m a b g u v h y.1 y.2.1 y.2.2.1 Q.1 Q.2.1 Q.2.2.1 w.1 w.2.1 w.2.2.1 (GA w 0 0 r p).1 (GA w 0 0 r p).2.1 (GA w 0 0 r p).2.2.1) (Ahf Q y w (Ahg a b g (Abg w y r p)) r c p):=by
 have a1:Bg (GA w 0 0 r p).2.2.1=wg:=Qz aw _ _ _ _;have a2:Bg (GA w 0 p r (c-p)).2.2.1=wg:=Qz aw _ _ _ _;have a3:Bg (Abg w y r p).2.2.1=wg:=K5 _ _ _ _ _ _;rw[Ec.Solve.AbV,hw,Ec.Solve.Amy,a1,ay,Ah,Aa,Ec.Solve.AbU,ag,K5,Ah,Aa,Acj ag (K5 _ _ _ _ _ _),Aa];exact AjG (two:=GA w 0 p r (c-p)) (f:=Ahg a b g (Abg w y r p)) (one:=GA w 0 0 r p) (done:=Abg w y r p) aq ay a2 (AcR (Acj ag a3))
theorem AlU(aq:Bg Q.2.2.1=wg)(ay:Bg y.2.2.1=wg)(al:Bg l=wg)(ag:Bg g=wg)(hw:Be (c-p)=c-p):
 Out (Ec.Solve.C5 N r c l p q m a b g u v h y.2.2.2 y.1 y.2.1 y.2.2.1 Q.1 Q.2.1 Q.2.2.1) (if y.2.2.2≠0 then Gv y.2.2.2 else AcD Q y (XP (mulM (r,c,l,0) Q)) r c p a b g):=by
 rw[Ec.Solve.Ai7];by_cases k:y.2.2.2=0
 ·rw[Fv k,Af,Ay (fun h=>h k),al,aq,Ah,Aa,K5,Aa,Ec.Solve.Ai6];unfold AcD;by_cases k2:(XP (mulM (r,c,l,0) Q)).2.2.2=0
  ·rw[Ay (fun h=>h k2)];refine(congrArg (fun o=>Out o _) ((congrArg (fun x=>cond x _ _) (Fv k2)).trans (Af _ _))).mpr ?_;exact AjH (w:=XP (mulM (r,c,l,0) Q)) aq ay (AcR (K5 _ _ _ _ _ _)) ag hw
  ·rw[Az k2];refine(congrArg (fun o=>Out o _) ((congrArg (fun x=>cond x _ _) (Pu k2)).trans (Aa _ _))).mpr ?_;exact RF rfl
 ·rw[Pu k,Aa,Az k]; exact RF rfl
end
theorem An9{p q:Int}{m:Bb}(am:Bg m=wg):Bg (hQ p q m).2.2.1=wg:=by
 unfold hQ;split
 ·exact DQ
 ·split
  ·exact DQ
  ·exact(AkK (Qi am)).1
theorem An8(p q:Int)(m:Bb)(u v:Int)(h:Bb):Bg (hY p q m u v h).2.2.1=wg:=by
 unfold hY;split
 ·exact DQ
 ·split
  ·exact DQ
  ·exact AlW _ _ _ _ _ _
theorem Ec.Solve.Bi:Kq 6 Ec.Solve.Bk:=D6 Ec.Solve.E Tryz.func6 (kc Ec.Check.Bi (kc Ec.finite.Bi (kc Ec.held.Bi (kc Bc.Mul.Bi (kc Bc.Part.Bi (kc Bc.Stack.Bi (kc Bc.Sub.Bi (kc solve.F3.Bi .nil)))))))) fun r c l p q m a b g u v h hp=>by
 have h0:Sh l m g h=wg:=hp;obtain⟨h1,h2⟩:=Bf.1 (show((Bg l&&Bg m)&&(Bg g&&Bg h))=wg from h0);obtain⟨al,am⟩:=Bf.1 h1;obtain⟨ag,ah⟩:=Bf.1 h2
 suffices hs:Out (BX Ec.Solve.E 0 _ _ _) (Dy r c l p q m a b g u v h) by obtain⟨dv,drops,e1,e2⟩:=hs;exact⟨0,dv,drops,e1,e2⟩
 rw[Ec.Solve.ev,h0,Aa];unfold Dy;by_cases k:IU r c l p q m a b g u v h=0
 ·obtain⟨k1,k2,_,_,rfl,_,_,_,_,hpc,_⟩:=VB k;have s1:=Qw (Gj k1).1;have s2:=Qw (Gj k2).1;rw[Fv k,Af,Ac k,Ah,Aa,Ay (fun h=>h k)];exact AlU (Q:=hQ p q m) (y:=hY p q m u v h) (An9 am) (An8 _ _ _ _ _ _) al ag (Bq (by omega) (by omega))
 ·rw[Pu k,Aa,Az k];exact RF rfl
theorem Amc{c:Int}{l:Bb}{i k:Int}(h:Dc l=wg):CO (Cc c l i k)=wg:=by
 unfold Cc;rw[Al];cases hx:l[(i*c+k).toNat]? with
 | none=>exact(by decide:CO 0=wg)
 | some x =>unfold Dc at h;exact zE.1 h x (List.mem_of_getElem? hx)
theorem AhI{r c:Nat}{f:Nat->Nat->Int}(h:∀i k,CO (f i k)=wg):Dc (Cg r c f)=wg:=by unfold Dc;rw[zE];intro x hx;obtain⟨j,_,rfl⟩:=zu.1 hx;exact h _ _
theorem Ach{r c:Int}{l:Bb}(al:Bg l=wg)(h:DZ r c l=0):∃R C:Nat,r=R/\c=C/\R<=6/\C<=6/\l.length=R*C /\
 E3 r c l=((R:Int),((min R C:Nat):Int),Cg R (min R C) (fun i k=>Cc (R:Int) (FW R C l) (0+(i:Int)) (0+(k:Int))),0) /\
 GH r c l=(((min R C:Nat):Int),(C:Int),Cg (min R C) C (fun i k=>Cc (C:Int) (Fc R C l) (0+(i:Int)) (0+(k:Int))),0) /\
 Bg (FW R C l)=wg/\Bg (Fc R C l)=wg/\Dc (FW R C l)=wg/\Dc (Fc R C l)=wg/\(FW R C l).length=R*R/\(Fc R C l).length=R*C:=by
 have ht:=Rw al h;obtain⟨R,C,rfl,rfl,r6,c6,hl,q1,q2,g1,g2,f1,f2⟩:=UG al h;have p1:GI (R:Int) (R:Int) 0 0 (R:Int) (min (R:Int) (C:Int))=wg:=Ac (by omega);have p2:GI (R:Int) (C:Int) 0 0 (min (R:Int) (C:Int)) (C:Int)=wg:=Ac (by omega);rw[Ad,Ad,SY r6 r6 q2 p1,SY r6 c6 g2 p2] at ht;have em:min (R:Int) (C:Int)=((min R C:Nat):Int):=by omega
 rw[em,Ad,Ad,Ad] at ht;exact⟨R,C,rfl,rfl,r6,c6,hl,ht.1.symm,ht.2.symm,q1,g1,f1,f2,q2,g2⟩
theorem Cz.Iu.Bi:Kq 25 Cz.Iu.Bk:=D6 Cz.Iu.E Tryz.func25 (kc B3.Part.Bi (kc Cz.Ch.Bi .nil)) fun r c l hp=>by
 have h1:((B5 r c l&&Dc l)&&Bg l)=wg:=hp;obtain⟨_,al⟩:=Bf.1 h1;show ∃N dv drops,_=xM dv/\Wk drops dv (DV.agg [.int .i64 (E3 r c l).1,.int .i64 (E3 r c l).2.1,.Bh .arg .u64 (E3 r c l).2.2.1,.int .i64 (GH r c l).1,.int .i64 (GH r c l).2.1,.Bh .arg .u64 (GH r c l).2.2.1,.bool (decide (DZ r c l=0))]);have hrun:=Cz.Iu.ev 0 r c l;rw[h1,Aa] at hrun;by_cases h:DZ r c l=0
 ·obtain⟨e1,e2⟩:=OF h;obtain⟨R,C,rfl,rfl,r6,c6,hl,t1,t2,q1,g1,f1,f2,q2,g2⟩:=Ach al h;have p1:GI (R:Int) (R:Int) 0 0 (R:Int) (min (R:Int) (C:Int))=wg:=Ac (by omega);have p2:GI (R:Int) (C:Int) 0 0 (min (R:Int) (C:Int)) (C:Int)=wg:=Ac (by omega);have em:min (R:Int) (C:Int)=((min R C:Nat):Int):=by omega
  rw[Ac h,AD,Af,e1,e2,Ad,Ad,D8 r6 r6 q2,D8 r6 c6 g2,p1,p2,Ah,Aa,Aa,em,Ad] at hrun;rw[t1,t2,h];exact⟨0,_,[],hrun,Wk.Gt (.cons .int (.cons .int (.cons (.BF _ _) (.cons .int (.cons .int (.cons (.BF _ _) (.cons .bool .nil)))))))⟩
 ·obtain⟨e1,e2⟩:=PG (e:=DZ r c l) rfl h;have e3:E3 r c l=Gv (DZ r c l):=by unfold E3; rw[Az h]
  have e4:GH r c l=Gv (DZ r c l):=by unfold GH; rw[Az h]
  rw[Ag h,AZ,Aa,e1,e2] at hrun;rw[e3,e4,Ag h];exact⟨0,_,[],hrun,Wk.Gt (.cons .int (.cons .int (.cons .Sd (.cons .int (.cons .int (.cons .Sd (.cons .bool .nil)))))))⟩
section
variable{n Q:Nat}{l m:Bb}
end
theorem Ww:∀(d:Bb) (m:Int),(∀x∈d,∃n:Nat,x=((CV n:Nat):Int))->d.foldl (fun m x=>M4 m x) m=d.foldl (fun m x=>M4 m (Gf x)) m
 | [],_,_=>rfl
 | x::d,m,h=>by
   obtain⟨n,rfl⟩:=h x AU
   have e:Gf ((CV n:Nat):Int)=((CV n:Nat):Int):=by unfold Gf;rw[Ad];congr 1;unfold CV;omega
   rw[yR,yR,e];exact Ww d _ fun y hy=>h y (AJ _ hy)
theorem Wx{c:Int}{l:Bb}{n i:Nat}(h:i<n):(DA c l n).drop i=Gf (Cc c l (i:Int) (i:Int))::(DA c l n).drop (i+1):=by have hl:(DA c l n).length=n:=H8 c l n;rw[yL (by rw[hl]; exact h)];congr 1;simp[DA]
theorem Xn(N:Nat){R C:Nat}{l:Bb}(r6:R<=6)(c6:C<=6)(hl:l.length=R*C)(al:Bg l=wg):∀(cnt i F:Nat) (g:Int),i+cnt=min R C->cnt<F->Bo g=wg ->
 BS.Flat.L0 N F (R:Int) (C:Int) l g (i:Int)=BS.Flat.L1 N N (R:Int) (C:Int) l 0 (((DA (C:Int) l (min R C)).drop i).foldl (fun m x=>M4 m x) g):=by
 intro cnt
 induction cnt with
 | zero =>
   intro i F g hi hF hg;obtain⟨F,rfl⟩:∃G,F=G+1:=⟨F-1,by omega⟩
   have hlt:(BI (i:Int) (R:Int)&&BI (i:Int) (C:Int))=wy:=by rw[Bw,Bw,yP,Av,Av]; omega
   rw[BS.Flat.B1,hlt,Af,Ap (by rw[H8]; omega)];rfl
 | succ cnt ih =>
   intro i F g hi hF hg;obtain⟨F,rfl⟩:∃G,F=G+1:=⟨F-1,by omega⟩
   have hlt:(BI (i:Int) (R:Int)&&BI (i:Int) (C:Int))=wg:=by rw[Bw,Bw,Ac (by omega),Ac (by omega)]; rfl
   rw[BS.Flat.B1,hlt,Aa,Dl r6 c6 hl (by omega) (by omega),Aa,FT al,Aa,hg,PQ,Ah,Aa,Bq (by omega) (by omega),Wx (by omega),yR];exact ih (i+1) F _ (by omega) (by omega) (Aha hg (PQ _))
theorem Xo(N:Nat){R C:Nat}{l:Bb}{g:Int}(r6:R<=6)(c6:C<=6)(hl:l.length=R*C)(al:Bg l=wg)(hg:Bo g=wg):∀(cnt i F:Nat),i+cnt=min R C->cnt<F ->
 BS.Flat.L1 N F (R:Int) (C:Int) l (i:Int) g=xM (.bool (((DA (C:Int) l (min R C)).drop i).any fun x=>!(decide (Ma (BP g (-40)) x<0)))):=by
 intro cnt
 induction cnt with
 | zero =>
   intro i F hi hF;obtain⟨F,rfl⟩:∃G,F=G+1:=⟨F-1,by omega⟩
   have hlt:(BI (i:Int) (R:Int)&&BI (i:Int) (C:Int))=wy:=by rw[Bw,Bw,yP,Av,Av]; omega
   rw[BS.Flat.BZ,hlt,Af,Ap (by rw[H8]; omega)];rfl
 | succ cnt ih =>
   intro i F hi hF;obtain⟨F,rfl⟩:∃G,F=G+1:=⟨F-1,by omega⟩
   have hlt:(BI (i:Int) (R:Int)&&BI (i:Int) (C:Int))=wg:=by rw[Bw,Bw,Ac (by omega),Ac (by omega)]; rfl
   have sp:D1 g (-40:Int)=wg:=Bf.2 ⟨hg,Bt.2 (by omega)⟩;rw[BS.Flat.BZ,hlt,Aa,sp,Aa,Dl r6 c6 hl (by omega) (by omega),Aa,FT al,Aa,FP hg,PQ,Ah,Aa,DX,Wx (by omega),List.any_cons,Bq (by omega) (by omega)];by_cases h:Ma (BP g (-40)) (Gf (Cc (C:Int) l (i:Int) (i:Int)))<0
   ·rw[Ag (by omega),Af,Ac h,AD,Bool.false_or];exact ih (i+1) F (by omega) (by omega)
   ·rw[Ac (by omega),Aa,Ag h]; rfl
theorem BS.Flat.Bi:Kq 26 BS.Flat.Bk:=D6 BS.Flat.E Tryz.func26 (kc C2.J8.Bi (kc C2.Max.Bi (kc C2.Order.Bi (kc Bv.Ct.Bi (kc B3.At.Bi .nil))))) fun r c l hp=>by obtain⟨h1,hf⟩:=Bf.1 (show((B5 r c l&&Bg l)&&Dc l)=wg from hp);obtain⟨hr,al⟩:=Bf.1 h1;obtain⟨R,C,rfl,rfl,r6,c6,hl⟩:=CU hr;refine⟨8,.bool (Li (R:Int) (C:Int) l),[],?_,.bool⟩;rw[BS.Flat.ev];have h1:=Xn 8 r6 c6 hl al (min R C) 0 8 0 (by omega) (by omega) Hn;rw[zJ,Ww _ _ (fun x hx=>by obtain⟨j,_,rfl⟩:=zu.1 hx; exact⟨_,rfl⟩)] at h1;have h2:=U7 (DA (C:Int) l (min R C)) 0 (by decide) (by decide +kernel);have h2:(DA (C:Int) l (min R C)).foldl (fun m x=>M4 m (Gf x)) 0=BA (DA (C:Int) l (min R C)):=h2;rw[h2] at h1;have h3:=Xo 8 (g:=BA (DA (C:Int) l (min R C))) r6 c6 hl al (Me _) (min R C) 0 8 (by omega) (by omega);rw[zJ] at h3;unfold Li P2;rw[Ad,Ad];exact h1.trans h3
theorem BS.F3.Bi:Kq 7 BS.F3.Bk:=D6 BS.F3.E Tryz.func7 (kc B3.Mul.Bi (kc B3.Du.Bi (kc B6.Check.Bi (kc Cz.Iu.Bi (kc BS.Flat.Bi (kc BS.Dt.Bi .nil)))))) fun r c l p q m hp=>by
 obtain⟨al,am⟩:=Bf.1 (show(Bg l&&Bg m)=wg from hp);show ∃N dv drops,_=xM dv/\Wk drops dv (DV.Cw [.agg [.int .i64 (Dz r c l p q m).1,.int .i64 (Dz r c l p q m).2.1,.Bh .arg .u64 (Dz r c l p q m).2.2.1],.int .i64 (Dz r c l p q m).2.2.2]);have hrun:=BS.F3.ev 0 r c l p q m;rw[al,Aa] at hrun;unfold Dz;by_cases c1:Cm r c l=0
 ·obtain⟨hr,hf⟩:=Gj c1;rw[Fv c1,Af,am,Aa] at hrun;rw[Ay (by rw[c1]; decide)];by_cases c2:Cm p q m=0
  ·rw[Fv c2,Af,AkN] at hrun;rw[Ay (by rw[c2]; decide)];by_cases c3:r<c\/r≠p
   ·rw[Ac c3,Aa] at hrun;rw[Az c3];exact⟨0,_,[],hrun,LV⟩
   ·rw[Ag c3,Af,hr,hf,Ah,AR,Aa] at hrun;rw[Ay c3];by_cases c4:DZ r c l=0
    ·rw[Ac c4,AD,Af] at hrun;rw[Ay (by rw[c4]; decide)];obtain⟨R,C,rfl,rfl,r6,c6,hl,t1,t2,q1,g1,f1,f2,q2,g2⟩:=Ach al c4;obtain⟨hm1,_⟩:=Gj c2;have hcr:C<=R:=by omega
     obtain rfl:p=(R:Int):=by omega
     have m6:min R C<=6:=by omega
     have aq:Bg (Cg R (min R C) (fun i k=>Cc (R:Int) (FW R C l) (0+(i:Int)) (0+(k:Int))))=wg:=FV fun _ _=>FT q1
     have ar:Bg (Cg (min R C) C (fun i k=>Cc (C:Int) (Fc R C l) (0+(i:Int)) (0+(k:Int))))=wg:=FV fun _ _=>FT g1
     have fr:Dc (Cg (min R C) C (fun i k=>Cc (C:Int) (Fc R C l) (0+(i:Int)) (0+(k:Int))))=wg:=AhI fun _ _=>Amc f2
     have rr:=MZ (fun i k=>Cc (C:Int) (Fc R C l) (0+(i:Int)) (0+(k:Int))) m6 c6;have rq:=MZ (fun i k=>Cc (R:Int) (FW R C l) (0+(i:Int)) (0+(k:Int))) r6 m6;rw[t1,t2];rw[t1,t2] at hrun;generalize Cg R (min R C) (fun i k=>Cc (R:Int) (FW R C l) (0+(i:Int)) (0+(k:Int)))=gq at *
     generalize Cg (min R C) C (fun i k=>Cc (C:Int) (Fc R C l) (0+(i:Int)) (0+(k:Int)))=gr at *
     dsimp only at hrun ⊢
     have efl:(Hr ((min R C:Nat):Int) (C:Int) gr).1=Li ((min R C:Nat):Int) (C:Int) gr:=by unfold Hr;rw[Ay (by rw[Kh rr fr]; decide)]
     rw[efl];rw[rr,ar,fr,Ah,Ah,Aa] at hrun;cases c5:Li ((min R C:Nat):Int) (C:Int) gr with
     | true =>rw[c5,Aa] at hrun;rw[Az rfl];exact⟨0,_,[],hrun,LV⟩
     | false =>
       rw[Ay (by decide)];have rt:=MZ (fun i k=>Cc ((min R C:Nat):Int) gq (k:Int) (i:Int)) m6 r6;have at':Bg (Cg (min R C) R (fun i k=>Cc ((min R C:Nat):Int) gq (k:Int) (i:Int)))=wg:=FV fun _ _=>FT aq
       rw[c5,Af,rq,Aa,Ad,Ad,rt,hm1,at',Ac rfl,Ah,Ah,Ah,Aa,show Bg (Cg (min R C) q.toNat fun(i j:Nat)=>Fu (Ee (R:Int) (Cg (min R C) R fun(i k:Nat)=>Cc ((min R C:Nat):Int) gq (k:Int) (i:Int)) (i:Int)) (Hw (R:Int) q m (j:Int)))=wg from FV fun _ _=>OY _ _,Ah,Aa] at hrun
       have e1:CG (R:Int) ((min R C:Nat):Int) gq=(((min R C:Nat):Int),(R:Int),Cg (min R C) R (fun(i k:Nat)=>Cc ((min R C:Nat):Int) gq (k:Int) (i:Int)),0):=by unfold CG;rw[Az rq,Ad,Ad]
       have e2:Dh (R:Int) ((min R C:Nat):Int) gq (R:Int) q m=(((min R C:Nat):Int),q,Cg (min R C) q.toNat (fun(i j:Nat)=>Fu (Ee (R:Int) (Cg (min R C) R fun(i k:Nat)=>Cc ((min R C:Nat):Int) gq (k:Int) (i:Int)) (i:Int)) (Hw (R:Int) q m (j:Int))),0):=by unfold Dh;rw[e1,Ay (fun h=>h rfl)];unfold E6;dsimp only;rw[rt,hm1,Ah,Az rfl,Az rfl,Ad]
       unfold Aar;dsimp only;rw[e2,Ay (fun h=>h rfl)];exact⟨0,_,[],hrun,Qd⟩
    ·have e2:DZ r c l=2:=by
      rw[OV c1] at c4 ⊢;by_cases hk:IM r.toNat c.toNat l=wg
      ·rw[Az hk] at c4; exact absurd rfl c4
      ·rw[Ay hk]
     rw[Ag c4,AZ,Aa] at hrun;rw[Az c4,e2];exact⟨0,_,[],hrun,LV⟩
  ·rw[Pu c2,Aa,Aa] at hrun;rw[Az c2];exact⟨0,_,[],hrun,LV⟩
 ·rw[Pu c1,Aa,Aa] at hrun;rw[Az c1];exact⟨0,_,[],hrun,LV⟩
section
variable{N:Nat}{r c p q a b u v:Int}{l m g h:Bb}{p6_3 p6_4:Int}{p6_5 p7 p10 p11:Bb}{p6_6:Bool}
end
def D9.one.E:=E0 []
theorem D9.one.ev(N:Nat)(b:Int):BX D9.one.E N f15 (Br f15) [.int .u64 b]=xM (.agg [.int .i64 1,.int .i64 1,.Bh (.own 4 47) .u64 [b]]):=by kernel_rfl
def D9.GG.Il:List (Nat × EC):=[(15,D9.one.Bk),(6,Ec.Solve.Bk)]
def D9.GG.E:Env:=CP (CC D9.GG.Il) (fun _=>wy) (fun _=>xN) (fun _=>xN)
theorem D9.GG.ev(N:Nat):BX D9.GG.E N f5 (Br f5) []=cond (Sh ([(4607182418800017408:Int)]) ([(4607182418800017408:Int)]) ([(0:Int)]) ([(4613937818241073152:Int)])) (bif ((!((((Dy 1 1 ([(4607182418800017408:Int)]) 1 1 ([(4607182418800017408:Int)]) 1 1 ([(0:Int)]) 1 1 ([(4613937818241073152:Int)])).2.2.2)==(0:Int))&&((vA ((Dy 1 1 ([(4607182418800017408:Int)]) 1 1 ([(4607182418800017408:Int)]) 1 1 ([(0:Int)]) 1 1 ([(4613937818241073152:Int)])).2.2.1):Int)==(1:Int))))||(decide ((0:Int)<(vA ((Dy 1 1 ([(4607182418800017408:Int)]) 1 1 ([(4607182418800017408:Int)]) 1 1 ([(0:Int)]) 1 1 ([(4613937818241073152:Int)])).2.2.1):Int)))) then xM (.bool (cond (bif (((Dy 1 1 ([(4607182418800017408:Int)]) 1 1 ([(4607182418800017408:Int)]) 1 1 ([(0:Int)]) 1 1 ([(4613937818241073152:Int)])).2.2.2)==(0:Int)) then ((vA ((Dy 1 1 ([(4607182418800017408:Int)]) 1 1 ([(4607182418800017408:Int)]) 1 1 ([(0:Int)]) 1 1 ([(4613937818241073152:Int)])).2.2.1):Int)==(1:Int)) else wy) ((vB ((Dy 1 1 ([(4607182418800017408:Int)]) 1 1 ([(4607182418800017408:Int)]) 1 1 ([(0:Int)]) 1 1 ([(4613937818241073152:Int)])).2.2.1) 0 0)==(4613937818241073152:Int)) wy)) else xN) xN:=
 Et (DJ (B4 (L8 (((Dy 1 1 ([(4607182418800017408:Int)]) 1 1 ([(4607182418800017408:Int)]) 1 1 ([(0:Int)]) 1 1 ([(4613937818241073152:Int)])).2.2.2)==(0:Int))) (B4 (Ka (((Dy 1 1 ([(4607182418800017408:Int)]) 1 1 ([(4607182418800017408:Int)]) 1 1 ([(0:Int)]) 1 1 ([(4613937818241073152:Int)])).2.2.2)==(0:Int))) (B4 (Ka (((Dy 1 1 ([(4607182418800017408:Int)]) 1 1 ([(4607182418800017408:Int)]) 1 1 ([(0:Int)]) 1 1 ([(4613937818241073152:Int)])).2.2.2)==(0:Int))) (B4 (Ka (((Dy 1 1 ([(4607182418800017408:Int)]) 1 1 ([(4607182418800017408:Int)]) 1 1 ([(0:Int)]) 1 1 ([(4613937818241073152:Int)])).2.2.2)==(0:Int))) (B4 (Pp (((Dy 1 1 ([(4607182418800017408:Int)]) 1 1 ([(4607182418800017408:Int)]) 1 1 ([(0:Int)]) 1 1 ([(4613937818241073152:Int)])).2.2.2)==(0:Int))) (B4 (AmM (((Dy 1 1 ([(4607182418800017408:Int)]) 1 1 ([(4607182418800017408:Int)]) 1 1 ([(0:Int)]) 1 1 ([(4613937818241073152:Int)])).2.2.2)==(0:Int)) ((vA ((Dy 1 1 ([(4607182418800017408:Int)]) 1 1 ([(4607182418800017408:Int)]) 1 1 ([(0:Int)]) 1 1 ([(4613937818241073152:Int)])).2.2.1):Int)==(1:Int))) (B4 (AfI (((Dy 1 1 ([(4607182418800017408:Int)]) 1 1 ([(4607182418800017408:Int)]) 1 1 ([(0:Int)]) 1 1 ([(4613937818241073152:Int)])).2.2.2)==(0:Int)) ((vA ((Dy 1 1 ([(4607182418800017408:Int)]) 1 1 ([(4607182418800017408:Int)]) 1 1 ([(0:Int)]) 1 1 ([(4613937818241073152:Int)])).2.2.1):Int)==(1:Int))) (C0 (Aor _ _ _) (B4 (AfI (((Dy 1 1 ([(4607182418800017408:Int)]) 1 1 ([(4607182418800017408:Int)]) 1 1 ([(0:Int)]) 1 1 ([(4613937818241073152:Int)])).2.2.2)==(0:Int)) ((vA ((Dy 1 1 ([(4607182418800017408:Int)]) 1 1 ([(4607182418800017408:Int)]) 1 1 ([(0:Int)]) 1 1 ([(4613937818241073152:Int)])).2.2.1):Int)==(1:Int))) (B4 (AfI (((Dy 1 1 ([(4607182418800017408:Int)]) 1 1 ([(4607182418800017408:Int)]) 1 1 ([(0:Int)]) 1 1 ([(4613937818241073152:Int)])).2.2.2)==(0:Int)) ((vA ((Dy 1 1 ([(4607182418800017408:Int)]) 1 1 ([(4607182418800017408:Int)]) 1 1 ([(0:Int)]) 1 1 ([(4613937818241073152:Int)])).2.2.1):Int)==(1:Int))) (B4 (AmN (((Dy 1 1 ([(4607182418800017408:Int)]) 1 1 ([(4607182418800017408:Int)]) 1 1 ([(0:Int)]) 1 1 ([(4613937818241073152:Int)])).2.2.2)==(0:Int)) ((vA ((Dy 1 1 ([(4607182418800017408:Int)]) 1 1 ([(4607182418800017408:Int)]) 1 1 ([(0:Int)]) 1 1 ([(4613937818241073152:Int)])).2.2.1):Int)==(1:Int))) rfl))) rfl)))))))) rfl)
abbrev D9.GG.Kn:=DR prog 5 D9.GG.Bk
theorem D9.GG.DF(hk:FD prog D9.GG.Il)(h:Unit->Hyp D9.GG.E f5 D9.GG.ts D9.GG.pre D9.GG.out):D9.GG.Kn :=Fk (Lj hk _ _ _) func5 (by kernel_rfl) (by kernel_rfl) (h ())
theorem D9.one.Bi:Kq 15 D9.one.Bk:=D6 D9.one.E Tryz.func15 .nil fun b _ =>
 ⟨0,_,[4],D9.one.ev 0 b,Tp (zh.2 rfl)⟩
theorem AjE:Dy 1 1 [4607182418800017408] 1 1 [4607182418800017408] 1 1 [0] 1 1 [4613937818241073152]=(1,1,[4613937818241073152],0):=by decide +kernel
theorem Abt{x:Int}(h:decide (0<=x/\x<18446744073709551616)=wg):Bg [x]=wg:=Bt.2 fun y hy=>by rw[zh.1 hy]; exact Bt.2 (A3 h)
theorem Rk:Sh [4607182418800017408] [4607182418800017408] [0] [4613937818241073152]=wg:=by unfold Sh;rw[Abt (by decide),Abt (x:=0) (by decide),Abt (x:=4613937818241073152) (by decide)]; rfl
theorem D9.GG.Bi:D9.GG.Kn:=D9.GG.DF (kc D9.one.Bi (kc Ec.Solve.Bi .nil)) fun _ _=>by refine⟨0,D9.GG.out [],[],?_,.bool⟩;rw[D9.GG.ev,Rk,AjE];rfl
def Bv.Gz.hint:Nat->Option BH
 | 0=>xM { CH:=[0,1,5],BW:=[],Cf:=[] }
 | _=>xN
def Bv.Gz.E:=CP (CC [(46,BJ.Finite.Bk),(47,BJ.Kind.Bk),(48,C2.N8.Bk)]) (fun _=>wy) Bv.Gz.hint (fun _=>xN)
section
variable(N M:Nat)(x:Bb)(k p5:Int)
def Bv.Gz.L0:Option DV:=BU Bv.Gz.E N f14 (Br f14) [1,0,1,0] [] M ⟨EP 43 [(0,.Bh .arg .u64 x),(1,.int .i64 k),(5,.int .i64 p5)],[]⟩
theorem Bv.Gz.B1:Bv.Gz.L0 N (M+1) x k p5=cond (BI p5 (vA x:Int)) (bif ((decide (0<=p5))&&(decide (p5<(vA x:Int)))) then cond (Bo (vB x (wz p5) 0)) (bif (!(CO (vB x (wz p5) 0))) then xM (.bool wy) else bif ((decide (0<=p5))&&(decide (p5<(vA x:Int)))) then cond (Jx (vB x (wz p5) 0)) (bif ((!((B8 (vB x (wz p5) 0)) !=(0:Int)))||((decide (0<=p5))&&(decide (p5<(vA x:Int))))) then cond ((!((B8 (vB x (wz p5) 0)) !=(0:Int)))||(Bo (vB x (wz p5) 0))) (bif ((!(((B8 (vB x (wz p5) 0)) !=(0:Int))&&(!(BI (BK (vB x (wz p5) 0)) (Be ((0:Int)-k))))))||((decide (0<=p5))&&(decide (p5<(vA x:Int))))) then cond ((!(((B8 (vB x (wz p5) 0)) !=(0:Int))&&(!(BI (BK (vB x (wz p5) 0)) (Be ((0:Int)-k))))))||(Bo (vB x (wz p5) 0))) (bif (((B8 (vB x (wz p5) 0)) !=(0:Int))&&((BI (BK (vB x (wz p5) 0)) (Be ((0:Int)-k)))||(Eu k (BK (vB x (wz p5) 0))))) then xM (.bool wy) else Bv.Gz.L0 N M x k (Be (p5+1))) xN else xN) xN else xN) xN else xN) xN else xN) (xM (.bool wg)) :=Et (DJ (DJ (DJ (DJ rfl (DJ (DJ (B4 (L8 ((B8 (vB x (wz p5) 0)) !=(0:Int))) (B4 (L8 ((B8 (vB x (wz p5) 0)) !=(0:Int))) (C0 (AmL _ _ _) (B4 (Ka ((B8 (vB x (wz p5) 0)) !=(0:Int))) (C0 (All _ _) (B4 (L8 ((B8 (vB x (wz p5) 0)) !=(0:Int))) (B4 (Ka ((B8 (vB x (wz p5) 0)) !=(0:Int))) (B4 (WQ ((B8 (vB x (wz p5) 0)) !=(0:Int))) (B4 (Ka ((B8 (vB x (wz p5) 0)) !=(0:Int))) (B4 (AfO ((B8 (vB x (wz p5) 0)) !=(0:Int)) (BI (BK (vB x (wz p5) 0)) (Be ((0:Int)-k)))) (B4 (AfO ((B8 (vB x (wz p5) 0)) !=(0:Int)) (BI (BK (vB x (wz p5) 0)) (Be ((0:Int)-k)))) (C0 (Aoo _ _ _ _) (B4 (Anf ((B8 (vB x (wz p5) 0)) !=(0:Int)) (BI (BK (vB x (wz p5) 0)) (Be ((0:Int)-k)))) (C0 (Aop _ _ _) (B4 (AfO ((B8 (vB x (wz p5) 0)) !=(0:Int)) (BI (BK (vB x (wz p5) 0)) (Be ((0:Int)-k)))) (B4 (Ane ((B8 (vB x (wz p5) 0)) !=(0:Int)) (BI (BK (vB x (wz p5) 0)) (Be ((0:Int)-k)))) (B4 (Anh ((B8 (vB x (wz p5) 0)) !=(0:Int)) (BI (BK (vB x (wz p5) 0)) (Be ((0:Int)-k)))) (B4 (Pp ((B8 (vB x (wz p5) 0)) !=(0:Int))) (C0 (Aoq _ _ _) rfl rfl))))) rfl)) rfl))))))) rfl)) rfl))) rfl) rfl)) rfl) rfl) rfl)
theorem Bv.Gz.ev:BX Bv.Gz.E N f14 (Br f14) [.Bh .arg .u64 x,.int .i64 k]=
 Bv.Gz.L0 N N x k 0:=by kernel_rfl
end
def B6.Gz.E:=E0 [(14,Bv.Gz.Bk),(13,B3.Js.Bk)]
theorem B6.Gz.ev(N:Nat)(r c:Int)(l:Bb)(k:Int):BX B6.Gz.E N f4 (Br f4) [.agg [.int .i64 r,.int .i64 c,.Bh .arg .u64 l],.int .i64 k]=cond ((!(B5 r c l))||(CW l&&CE (0<=k/\k<=1000))) (xM (.bool (cond (B5 r c l) (JG l k) wy))) xN :=Et (B4 (L8 (B5 r c l)) (B4 (Ka (B5 r c l)) (B4 (L8 (B5 r c l)) (C0 (Aon _ _) (B4 (Pp (B5 r c l)) rfl) rfl))))
theorem AdD{k b:Int}(hk:0<=k/\k<=1000):((B8 b !=(0:Int))&&((BI (BK b) (Be ((0:Int)-k)))||(Eu k (BK b))))=!(decide (B8 b=0)||(decide (-k<=BK b)&&decide (BK b<k))):=by rw[Bq (by omega) (by omega),Bw,DX,Ar];simp only[Am,Bool.or_eq_true,yK,Bool.or_eq_false_iff,yP,Ai,Av,bne_iff_ne,ne_eq];omega
theorem AdB(N:Nat){x:Bb}(ax:Bg x=wg)(hx:x.length<4611686018427387904){k:Int}(hk:0<=k/\k<=1000):∀(t d:Bb) (F:Nat),x=d++t->t.length<F ->
 Bv.Gz.L0 N F x k (d.length:Int)=xM (.bool (t.all (VC k))):=by
 intro t
 induction t with
 | nil =>
   intro d F hy hF;obtain⟨F,rfl⟩:∃G,F=G+1:=⟨F-1,by omega⟩
   rw[yF] at hy;subst hy;rw[Bv.Gz.B1,Bw,Ag (by omega),Af];rfl
 | cons b t ih =>
   intro d F hy hF;obtain⟨F,rfl⟩:∃G,F=G+1:=⟨F-1,by omega⟩
   have hl:d.length<x.length:=by rw[hy,A5,zt]; omega
   have hb:vB x d.length 0=b:=by rw[hy,Al,AS (A7 _),Nat.sub_self]; rfl
   have ib:Bo b=wg:=by rw[<- hb]; exact GS ax hl
   obtain⟨n,hn,_⟩:=BR ib;have nb:Jx b=wg:=by rw[hn]; exact Ha n
   rw[Bv.Gz.B1,Bw,Ac (show(d.length:Int)<(x.length:Int) by omega),Ac (show(0:Int)<=(d.length:Int) by omega),Ad,hb,ib,nb,AdD hk];simp only[Aa,Ah,AQ];show(cond (!CO b) (xM (DV.bool wy)) _)=xM (DV.bool ((CO b&&(decide (B8 b=0)||(decide (-k<=BK b)&&decide (BK b<k))))&&t.all (VC k)));cases CO b with
   | false=>rfl
   | true =>
     rw[AD,Af,AR];cases (decide (B8 b=0)||(decide (-k<=BK b)&&decide (BK b<k))) with
     | false=>rfl
     | true =>have:=ih (d++[b]) F (by rw[hy,yu]; rfl) (by simp only[zt] at hF; omega);rw[A5] at this;rw[AD,Af,AR,Bq (by omega) (by omega)];exact this
theorem Bv.Gz.Bi:Kq 14 Bv.Gz.Bk:=D6 Bv.Gz.E Tryz.func14 (kc BJ.Finite.Bi (kc BJ.Kind.Bi (kc C2.N8.Bi .nil))) fun x k hp=>by obtain⟨ox,hk⟩:=Bf.1 (show(CW x&&CE (0<=k/\k<=1000))=wg from hp);refine⟨x.length+1,.bool (JG x k),[],?_,.bool⟩;rw[Bv.Gz.ev];exact AdB (x.length+1) (OZ ox) (Bt.1 ox).1 (Bt.1 hk) x [] (x.length+1) rfl (by omega)
theorem B6.Gz.Bi:Kq 4 B6.Gz.Bk:=D6 B6.Gz.E Tryz.func4 (kc Bv.Gz.Bi (kc B3.Js.Bi .nil)) fun r c l k hp=>by
 obtain⟨al,hk⟩:=Bf.1 (show(Bg l&&CE (0<=k/\k<=1000))=wg from hp);refine⟨0,.bool (B5 r c l&&JG l k),[],?_,.bool⟩;rw[B6.Gz.ev,hk];cases hr:B5 r c l with
 | false=>rfl
 | true =>rw[GN al (by have:=Hf hr; omega)];rfl
def Bp.single.hint:Nat->Option BH
 | 0=>xM { CH:=[0,1,5,6,7],BW:=[(0,5,100005,.Bh 97 .u32 [])],Cf:=[] }
 | _=>xN
def Bp.single.E:=CP (CC []) (fun _=>wy) Bp.single.hint (fun _=>xN)
section
variable(N M:Nat)(a:Bb)(x p6 p7:Int)(p5:Bb)
def Bp.single.L0:Option DV:=BU Bp.single.E N f88 (Br f88) [1,1,1,0,1,0] [] M ⟨EP 39 [(0,.Bh .arg .u32 a),(1,.int .u32 x),(5,.De 100005),(6,.int .u64 p6),(7,.int .i64 p7)],[(100005,wy,.Bh 97 .u32 p5)]⟩
theorem Bp.single.B1:Bp.single.L0 N (M+1) a x p6 p7 p5=cond (BI p7 (vA a:Int)) (bif ((decide (0<=p7))&&(decide (p7<(vA a:Int)))) then cond (decide ((vA p5)+1<=GL)) (Bp.single.L0 N M a x (BQ (Int.tdiv (BQ ((BQ ((BQ (vB a (wz p7) 0))*(BQ x)))+p6)) 4294967296)) (Be (p7+1)) (p5++[(Ii (Int.tmod (BQ ((BQ ((BQ (vB a (wz p7) 0))*(BQ x)))+p6)) 4294967296))])) xN else xN) (bif (decide ((vA p5)+1<=GL)) then xM (.Bh (.own 38 97) .u32 (p5++[(Ii p6)])) else xN):=by kernel_rfl
theorem Bp.single.ev:BX Bp.single.E N f88 (Br f88) [.Bh .arg .u32 a,.int .u32 x]=
 Bp.single.L0 N N a x 0 0 []:=by kernel_rfl
end
def Bp.Mul.hint:Nat->Option BH
 | 0=>xM { CH:=[2,3,4,5,6],BW:=[(0,5,100005,.Bh 97 .u32 [])],Cf:=[2,3,4] }
 | _=>xN
def Bp.Mul.E:=CP (CC [(84,Bp.Made.Bk),(87,Bp.plus.own.Bk),(88,Bp.single.Bk)]) (fun n=>Nat.beq n 29) Bp.Mul.hint (fun _=>xN)
section
variable(N M:Nat)(n:Bool)(a:Bb)(m:Bool)(b:Bb)(p6:Int)(p5:Bb)
def Bp.Mul.L0:Option DV:=BU Bp.Mul.E N f32 (Br f32) [1,1,0,1,0] [] M ⟨EP 37 [(2,.ptr 2 0 0),(3,.ptr 3 0 0),(4,.ptr 4 0 0),(5,.De 100005),(6,.int .i64 p6)],[(2,wy,.box [.bool n,.Bh .arg .u32 a]),(3,wy,.box [.bool m,.Bh .arg .u32 b]),(4,wy,.box [.bool wy,.nil]),(100005,wy,.Bh 97 .u32 p5)]⟩
theorem Bp.Mul.B1:Bp.Mul.L0 N (M+1) n a m b p6 p5=cond (Eu 0 p6) (bif (decide (1+(vA p5)<=GL)) then cond ((decide (0<=p6))&&(decide (p6<(vA b:Int)))) (bif (Hk a&&Ah6 (vB b (wz p6) 0)) then cond (Hk ([(0:Int)]++p5)&&Hk (singleL a (vB b (wz p6) 0))) (Bp.Mul.L0 N M n a m b (Be (p6-1)) (IH ([(0:Int)]++p5) (singleL a (vB b (wz p6) 0)))) xN else xN) xN else xN) (bif (Hk p5) then xM (.agg [.bool (BB (wv (!(n==m)) p5)),.Bh .arg .u32 (Bn (wv (!(n==m)) p5))]) else xN) :=Et (DJ (DJ (C0 (I1 _ _) (C0 (Cp _) (C0 (Cp _) rfl rfl) rfl) rfl) rfl) rfl)
theorem Bp.Mul.ev:BX Bp.Mul.E N f32 (Br f32) [.agg [.bool n,.Bh .arg .u32 a],.agg [.bool m,.Bh .arg .u32 b]]=
 Bp.Mul.L0 N N n a m b (Be ((vA b:Int)-1)) []:=by kernel_rfl
end
def Bx.Mul.E:=E0 [(32,Bp.Mul.Bk),(31,Bx.Of.Bk)]
theorem Bx.Mul.ev(N:Nat)(n:Bool)(a:Bb)(e:Int)(m:Bool)(b:Bb)(f:Int):BX Bx.Mul.E N f9 (Br f9) [.agg [.bool n,.Bh .arg .u32 a,.int .i64 e],.agg [.bool m,.Bh .arg .u32 b,.int .i64 f]]=cond (okM n a&&okM m b) (bif (IS (BB (wv n a*wv m b)) (Bn (wv n a*wv m b))&&PJ (Be (e+f))) then xM (.agg [.bool (BB (mD (wv (BB (wv n a*wv m b)) (Bn (wv n a*wv m b))))),.Bh .arg .u32 (Bn (mD (wv (BB (wv n a*wv m b)) (Bn (wv n a*wv m b))))),.int .i64 (eD (wv (BB (wv n a*wv m b)) (Bn (wv n a*wv m b))) (Be (e+f)))]) else xN) xN :=Et (C0 (Cp _) (C0 (Cp _) rfl rfl) rfl)
abbrev Bx.Mul.q.Kn:Prop:=DR prog 9 Bx.Mul.q.Bk
abbrev Bp.plus.own.Kn:Prop:=DR prog 87 Bp.plus.own.Bk
theorem Bp.plus.own.call:∀(args:Array Value) (w:World),(callFunc 87 args).run prog w=.ok (.enter 87 args) w:=Nm func87 (by kernel_rfl) (show f87.body=xM (Br f87) by kernel_rfl)
theorem Bp.plus.meets{E:Env}(he:Ix prog E){ts:List AT}{pre:List G0->Bool}{out:List G0->DV}(h:∀ats ds,EZ ts ats ds->pre ats=wg->∃fuel d drops,BX E fuel f87 (Br f87) ds=xM d/\Wk drops d (out ats)):SC prog 87 (B9 ts pre out):=NY he func87 (show f87.body=xM (Br f87) by kernel_rfl) h
theorem SZ{n:Bool}{l:Bb}(h:okM n l=wg):∃v,n=BB v/\l=Bn v/\D3 v.natAbs<33554432:=by have h:=Bt.1 h;obtain⟨h1,h2,h3⟩:=h;obtain⟨e1,e2⟩:=Sb h2 h3;refine⟨wv n l,e1,e2,?_⟩;rw[e2,CD] at h1;exact h1
theorem Bp.plus.own.Bi:Bp.plus.own.Kn:=by refine⟨Bp.plus.meets (E:=Bp.plus.E) (Lj (kc Bp.Le.Bi .nil) _ _ _) fun ats dvs he hp=>?_,Bp.plus.own.call⟩;obtain⟨a,_,_,rfl,rfl,he0⟩:=he.AkJ;obtain⟨b,_,_,rfl,rfl,he1⟩:=he0.AkJ;obtain⟨rfl,rfl⟩:=he1.Ta;obtain⟨ha,hb⟩:=Bf.1 (show(Hk a&&Hk b)=wg from hp);refine⟨max a.length b.length+2,.Bh (.own 100005 tW) .u32 (IH a b),[],?_,.CH _ _ _ _ (List.not_mem_nil)⟩;rw[Bp.plus.ev];exact VO _ ha hb (max a.length b.length+1) 0 0 _ (by omega) (by omega) (by omega) (by simp)
theorem Xb{x y c:Nat}(hx:x<4294967296)(hy:y<4294967296)(hc:c<4294967296):x*y+c<18446744073709551616:=by have:=A9 (show x<=4294967295 by omega) (show y<=4294967295 by omega);omega
theorem YF(N:Nat){a:Bb}{X:Nat}(ha:Hk a=wg)(hX:X<4294967296):∀(k i c F:Nat),i+k=a.length->k<F->c<4294967296 ->
 Cx a / 2^(32*i)*X+c=Cx a*X / 2^(32*i) ->
 Bp.single.L0 N F a (X:Int) (c:Int) (i:Int) (digits i (Cx a*X))=xM (.Bh (.own 38 tW) .u32 (singleL a (X:Int))):=by
 obtain⟨la,ia⟩:=IX ha;intro k
 induction k with
 | zero =>
   intro i c F hi hF hc h;obtain⟨F,rfl⟩:∃G,F=G+1:=⟨F-1,by omega⟩
   have t0:decide ((i:Int)<(a.length:Int))=wy:=Ag (by omega);have t1:decide ((digits i (Cx a*X)).length+1<=GL)=wg:=Ac (by rw[Ed]; unfold GL; omega);have hz:Cx a / 2^(32*i)=0:=z8 (by rw[show i=a.length by omega]; exact IT ia);rw[hz,zI,AO] at h;rw[Bp.single.B1,Bw,t0,Af,t1,Aa,Ih (by omega) (by omega)];unfold singleL;rw[Ad,IN,<- show i=a.length by omega,<- h,Ao hc]
 | succ k ih =>
   intro i c F hi hF hc h;obtain⟨F,rfl⟩:∃G,F=G+1:=⟨F-1,by omega⟩
   have t0:decide ((i:Int)<(a.length:Int))=wg:=Ac (by omega);have t2:decide ((0:Int)<=(i:Int))=wg:=Ac (by omega);have t1:decide ((digits i (Cx a*X)).length+1<=GL)=wg:=Ac (by rw[Ed]; unfold GL; omega);rw[Bp.single.B1,Bw,t0,t1,t2];simp only[Aa,Ah];rw[Ad,LO ia i];have ih:=ih (i+1);rw[Kj,A1 4294967296,<- A6,<- A6,IN] at ih;generalize Cx a / 2^(32*i)=x at *
   generalize Cx a*X / 2^(32*i)=z at *
   have hb:=Xb (x:=x%4294967296) (y:=X) (c:=c) (zv _ (by decide)) hX hc
   have hm:x*X=x / 4294967296*X*4294967296+x%4294967296*X:=by rw[Nat.mul_right_comm,<- AI];congr 1;omega
   have e1:BQ (BQ (BQ ((x%4294967296:Nat):Int)*BQ (X:Int))+(c:Int))=((x%4294967296*X+c:Nat):Int):=by rw[Di (x:=((x%4294967296:Nat):Int)) (by omega) (by omega),Di (x:=(X:Int)) (by omega) (by omega),<- Ax,Di (x:=((x%4294967296*X:Nat):Int)) (by omega) (by omega),Di (by omega) (by omega)];omega
   have hlt:(x%4294967296*X+c) / 4294967296<4294967296:=by omega
   rw[e1,Zp,Ij,Ik,Ih (by omega) (by omega),Di (by omega) (by omega),Bq (by omega) (by omega)];rw[hm] at h;generalize x%4294967296*X=p at *
   generalize x / 4294967296*X=q at *
   have e2:(p+c)%4294967296=z%4294967296:=by omega
   rw[e2];exact ih ((p+c) / 4294967296) F (by omega) (by omega) hlt (by omega)
theorem Bp.single.Bi:Kq 88 Bp.single.Bk:=D6 Bp.single.E Tryz.func88 .nil fun a x hp=>by
 obtain⟨ha,hx⟩:=Bf.1 hp;have hx:=Bt.1 hx;obtain⟨X,rfl⟩:∃k:Nat,x=k:=⟨x.toNat,by omega⟩
 refine⟨a.length+1,.Bh (.own 38 tW) .u32 (singleL a X),[38],?_,Xv⟩;rw[Bp.single.ev];exact YF _ ha (by omega) a.length 0 0 _ (by omega) (by omega) (by omega) (by simp)
theorem T0(a:Bb)(x:Int):QR (singleL a x):=KO _ _
theorem NN(a:Bb)(x:Int):(singleL a x).length=a.length+1:=Ed _ _
theorem YG{a:Bb}(ia:QR a){X:Nat}(hX:X<4294967296):Cx (singleL a (X:Int))=Cx a*X:=by have h:=IT ia;unfold singleL;rw[I9,Ad,Ao];rw[Kj,A1 4294967296];exact wi h hX
theorem AgV(N:Nat){n m:Bool}{a b:Bb}(ha:QR a)(hb:QR b)(la:a.length<33554432)(lb:b.length<33554432):
 ∀(j F:Nat) (p:Bb),j<=b.length->j<F->QR p->p.length<=a.length+2*(b.length-j)->Cx p=Cx a*(Cx b / 2^(32*j)) ->
 Bp.Mul.L0 N F n a m b ((j:Int)-1) p=xM (.agg [.bool (BB (FX (!(n==m)) (Cx a*Cx b))),.Bh .arg .u32 (Bn (FX (!(n==m)) (Cx a*Cx b)))]):=by
 intro j
 induction j with
 | zero =>
   intro F p hj hF ip lp vp;obtain⟨F,rfl⟩:∃G,F=G+1:=⟨F-1,by omega⟩
   have o:Hk p=wg:=IW (by omega) ip;rw[yj,AB,Nat.div_one] at vp;rw[Bp.Mul.B1,DX,Ag (by omega),Af,o,Aa];unfold wv;rw[vp]
 | succ j ih =>
   intro F p hj hF ip lp vp;obtain⟨F,rfl⟩:∃G,F=G+1:=⟨F-1,by omega⟩
   have e0:((j+1:Nat):Int)-1=(j:Int):=by omega
   have hX:Cx b / 2^(32*j)%4294967296<4294967296:=zv _ (by decide);have o1:Hk a=wg:=IW (by omega) ha;have i0:QR ([(0:Int)]++p):=Z0 ip;have o2:Hk ([(0:Int)]++p)=wg:=IW (by rw[A5]; show 1+p.length<_; omega) i0;have o3:Hk (singleL a ((Cx b / 2^(32*j)%4294967296:Nat):Int))=wg:=IW (by rw[NN]; omega) (T0 _ _);have o4:Ah6 ((Cx b / 2^(32*j)%4294967296:Nat):Int)=wg:=Bt.2 (by omega)
   have vz:Cx ([(0:Int)]++p)=4294967296*Cx p:=by show(0:Int).toNat+4294967296*Cx p=_;rw[show(0:Int).toNat=0 from rfl,AO]
   have c1:decide (1+p.length<=GL)=wg:=Ac (by unfold GL; omega);have c2:decide ((j:Int)<(b.length:Int))=wg:=Ac (by omega);have c3:decide ((0:Int)<=(j:Int))=wg:=Ac (by omega);rw[e0,Bp.Mul.B1,DX,c3,Aa,c1,Aa,c2,Ah,Aa,Ad,LO hb j,o1,o4,Ah,Aa,o2,o3,Ah,Aa,Bq (by omega) (by omega)];refine ih F _ (by omega) (by omega) (TO _ _) ?_ ?_
   ·rw[ML,A5,NN];show max (1+p.length) _+1<=_;omega
   ·rw[VP i0 (T0 _ _),vz,YG ha hX,vp,Kj,A1 4294967296 (2^(32*j)),<- A6,Nat.mul_left_comm,<- yc];congr 1;omega
theorem Ajj(s t:Bool)(x y:Nat):FX (!(s==t)) (x*y)=FX s x*FX t y:=by unfold FX;cases s<;>cases t<;>simp[Ax,Int.neg_mul,Int.mul_neg]
theorem Bp.Mul.Bi:Kq 32 Bp.Mul.Bk:=D6 Bp.Mul.E Tryz.func32 (kc Bp.Made.Bi (kc Bp.plus.own.Bi (kc Bp.single.Bi .nil))) fun n a m b hp=>by obtain⟨h1,h2⟩:=Bf.1 hp;obtain⟨v,rfl,rfl,hv⟩:=SZ h1;obtain⟨w,rfl,rfl,hw⟩:=SZ h2;refine⟨(Bn w).length+1,Bp.Mul.out [.b (BB v),.l (Bn v),.b (BB w),.l (Bn w)],[],?_,WD⟩;have lv:=CD v;have lw:=CD w;have iw:=FI w;have hz:Cx (Bn w) / 2^(32*(Bn w).length)=0:=z8 (IT iw);rw[Bp.Mul.ev,Bq (by omega) (by omega)];refine(AgV _ (FI v) iw (by omega) (by omega) (Bn w).length _ [] (A7 _) (by omega) (fun x h=>by cases h) (by show 0<=_; omega) (by rw[hz,yj]; rfl)).trans ?_;rw[Ajj];rfl
theorem Ahy(n m:Nat):D3 (n*m)<=D3 n+D3 m:=by refine JB ?_;rw[yc,A2];exact wi (Jd n) (Jd m)
theorem Bx.Mul.Bi:Kq 9 Bx.Mul.Bk:=D6 Bx.Mul.E Tryz.func9 (kc Bp.Mul.Bi (kc Bx.Of.Bi .nil)) fun n a e m b f hp=>by obtain⟨h1,h2⟩:=Bf.1 hp;obtain⟨h3,h4⟩:=Bf.1 h2;have he:=Bt.1 h3;have hf:=Bt.1 h4;obtain⟨h5,h6⟩:=Bf.1 h1;obtain⟨v,rfl,rfl,hv⟩:=SZ h5;obtain⟨w,rfl,rfl,hw⟩:=SZ h6;refine⟨0,Bx.Mul.out [.b (BB v),.l (Bn v),.i e,.b (BB w),.l (Bn w),.i f],[],?_,wdy⟩;have hl:=Ahy v.natAbs w.natAbs;have o1:IS (BB (v*w)) (Bn (v*w))=wg:=Hj (by rw[Int.natAbs_mul]; omega);have o2:PJ (e+f)=wg:=Bt.2 (by omega);rw[Bx.Mul.ev,h5,h6,Ah,Aa,Bq (by omega) (by omega)];simp only[EE];rw[o1,o2,Ah,Aa];show _=xM (DV.agg [.bool (BB (mD (wv (BB v) (Bn v)*wv (BB w) (Bn w)))),.Bh .arg .u32 (Bn (mD (wv (BB v) (Bn v)*wv (BB w) (Bn w)))),.int .i64 (eD (wv (BB v) (Bn v)*wv (BB w) (Bn w)) (e+f))]);rw[EE,EE]
def Rn(R C:Nat)(x:MX):Prop:=∃l,x=((R:Int),(C:Int),l,0)/\R<=6/\C<=6/\l.length=R*C/\Bg l=wg
def FM(x:MX):Prop:=Dc x.2.2.1=wg
theorem AeM{r c:Int}{l:Bb}(h:Cm r c l=0):(Hr r c l).1=Li r c l:=by unfold Hr;rw[Ay (fun k=>k h)]
section
variable{R C K:Nat}{x y:MX}
theorem Rn.right(h:Rn R C x):B5 x.1 x.2.1 x.2.2.1=wg:=by obtain⟨l,rfl,r6,c6,hl,al⟩:=h;exact D8 r6 c6 hl
theorem Rn.inn(h:Rn R C x):Bg x.2.2.1=wg:=by obtain⟨l,rfl,r6,c6,hl,al⟩:=h; exact al
theorem Rn.err(h:Rn R C x):x.2.2.2=0:=by obtain⟨l,rfl,_⟩:=h; rfl
theorem Rn.r6(h:Rn R C x):R<=6:=by obtain⟨l,rfl,r6,_⟩:=h; exact r6
theorem Rn.c6(h:Rn R C x):C<=6:=by obtain⟨l,rfl,_,c6,_⟩:=h; exact c6
theorem Rn.chk(h:Rn R C x)(f:FM x):Aky x=0:=Kh h.right f
theorem Ag6{i k a b:Nat}(ha:i+a<=R)(hb:k+b<=C):GI (R:Int) (C:Int) (i:Int) (k:Int) (a:Int) (b:Int)=wg:=Ac (by omega)
end
end Go.Proofs.S1
namespace Go.CI
open Go.Den
theorem F8(n:Bool):Bj (BG n 0)=0/\Bs (BG n 0)=0/\By (BG n 0)=-1074:=by cases n<;>decide +kernel
theorem I6{s:Nat}(hs:s<2^64)(k3:Bj s≠3)(k4:Bj s≠4)(hn:s≠2^63)(n:Bool):(Em s (BG n 0)).1=s:=by
 obtain⟨z1,z2,z3⟩:=F8 n;have he:=C4 s;have em:min (By s) (By (BG n 0))=-1074:=by rw[z3]; omega
 rw[Ls (by omega) k3 (by omega),em]
 have vz:DT (BG n 0) (-1074)=0:=by unfold DT;rw[z2,zI];cases BE (BG n 0)<;>rfl
 rw[vz,Int.add_zero];have hw:=KG k4;by_cases h0:Bs s=0
 ·have vs:DT s (-1074)=0:=by unfold DT;rw[h0,zI];cases BE s<;>rfl
  rw[h0,Ju] at hw;have s0:s=0:=by omega
  unfold HV;rw[vs,Az rfl,s0];cases n<;>rfl
 ·obtain⟨d,hd⟩:∃d:Nat,By s=-1074+(d:Int):=⟨(By s+1074).toNat,by omega⟩
  have e1:(By s - -1074).toNat=d:=by omega
  unfold DT;rw[e1,MJ _ _ (GO h0)];have:=(CZ (Bs s) d (By s)).1;have e2:By s-(d:Int)=-1074:=by omega
  rw[e2] at this;rw[this];exact UA hs k4
theorem AaY{b:Nat}(k3:Bj b≠3)(k4:Bj b≠4):(EA 0 b).1=BG (BE b) 0:=by
 have z:Bj 0=0/\Bs 0=0/\BE 0=wy:=by decide
 unfold EA;rw[Ay (by omega),Ay (by omega),z.2.1,zI,Ju,z.2.2];cases BE b<;>rfl
structure Good(x:Int):Prop where
 word:Bo x=wg
 k3:Bj x.toNat≠3
 k4:Bj x.toNat≠4
 ne:x.toNat≠2^63
theorem F4{x:Int}(h:Bo x=wg):x.toNat<2^64:=by have:=Bt.1 h;omega
theorem Wn:Good 0:=⟨Bt.2 (by omega),by decide,by decide,by decide⟩
open Go.Den
structure Fw(x:Int):Prop where
 word:Bo x=wg
 fin:CO x=wg
theorem Fw.k{x:Int}(h:Fw x):Bj x.toNat≠3/\Bj x.toNat≠4:=⟨(F2 h.fin).2,(F2 h.fin).1⟩
theorem Fw.Abv{x:Int}(h:Fw x)(hn:x≠9223372036854775808):Good x:=⟨h.word,h.k.1,h.k.2,fun e=>hn (by have:=Bt.1 h.word; omega)⟩
theorem Good.fn{x:Int}(h:Good x):Fw x:=⟨h.word,by show F9 x.toNat=wg;rw[Hh]; simp[h.k3,h.k4]⟩
def Zr(x:Int):Prop:=x=0\/x=9223372036854775808
def Jp(x y:Int):Prop:=x=y\/(Zr x/\Zr y)
def Fs(x:Int):Int:=if x=9223372036854775808 then 0 else x
theorem TN(x:Int):Jp (Fs x) x:=by
 unfold Fs;split
 ·rename_i h; exact .inr ⟨.inl rfl,.inr h⟩
 ·exact .inl rfl
theorem Jp.refl(x:Int):Jp x x:=.inl rfl
theorem Jp.trans{x y z:Int}(h:Jp x y)(g:Jp y z):Jp x z:=by
 rcases h with rfl | ⟨h1,h2⟩
 ·exact g
 ·rcases g with rfl | ⟨g1,g2⟩
  ·exact .inr ⟨h1,h2⟩
  ·exact .inr ⟨h1,g2⟩
theorem Am2{x:Int}(h:Zr x):Fw x:=by
 rcases h with rfl | rfl
 ·exact⟨Bt.2 (by decide),by decide⟩
 ·exact⟨Bt.2 (by decide),by decide⟩
theorem RB{x:Int}(h:Fw x):Good (Fs x):=by
 unfold Fs;split
 ·exact Wn
 ·rename_i g; exact h.Abv g
theorem AhO{n i:Nat}(hi:i<n){g:Nat->Int}(hg:∀j,j<n->Fw (g j)):∀(k j:Nat) (s:Int),j+k=n->(j<=i->s=0)->(i<j->s=Fs (g i)) ->
 J4 s.toNat (((zg n).map fun b:Nat=>Hc (i:Int) (b:Int)).drop j) (((zg n).map g).drop j)=(Fs (g i)).toNat:=by
 intro k
 induction k with
 | zero =>
   intro j s hj h1 h2;have l1:((zg n).map fun b:Nat=>Hc (i:Int) (b:Int)).length=n:=by rw[AK,AH]
   rw[Ap (by omega),h2 (by omega)];rfl
 | succ k ih =>
   intro j s hj h1 h2;have l1:j<((zg n).map fun b:Nat=>Hc (i:Int) (b:Int)).length:=by rw[AK,AH]; omega
   have l2:j<((zg n).map g).length:=by rw[AK,AH]; omega
   have gj:=hg j (by omega)
   have sg:Good s:=by
    rcases AA i j with h | h
    ·rw[h2 h]; exact RB (hg i hi)
    ·rw[h1 h]; exact Wn
   rw[yL l1,yL l2,List.getElem_map,List.getElem_map,List.getElem_range];show J4 (Em s.toNat (EA (Hc (i:Int) (j:Int)).toNat (g j).toNat).1).1 _ _=_;by_cases hij:i=j
   ·subst hij;have e1:Hc (i:Int) (i:Int)=4607182418800017408:=Az rfl;have s0:=h1 (A7 i);have w:=F4 gj.word
    have em:(EA (4607182418800017408:Int).toNat (g i).toNat).1=(g i).toNat:=by rw[Mw];exact congrArg Prod.fst (mul_one w gj.k.1 gj.k.2)
    have ea:(Em s.toNat (g i).toNat).1=(Fs (g i)).toNat:=by
     rw[s0,Si];by_cases hz:g i=9223372036854775808
     ·unfold Fs; rw[Az hz,hz]; decide +kernel
     ·unfold Fs; rw[Ay hz];exact I6 w gj.k.1 gj.k.2 (gj.Abv hz).ne wy
    rw[e1,em,ea];exact ih (i+1) (Fs (g i)) (by omega) (fun h=>by omega) (fun _=>rfl)
   ·have e1:Hc (i:Int) (j:Int)=0:=Ay (by omega)
    have ea:(Em s.toNat (EA (0:Int).toNat (g j).toNat).1).1=s.toNat:=by show(Em s.toNat (EA 0 (g j).toNat).1).1=_;rw[AaY gj.k.1 gj.k.2];exact I6 (F4 sg.word) sg.k3 sg.k4 sg.ne _
    rw[e1,ea];exact ih (j+1) s (by omega) (fun h=>h1 (by omega)) (fun h=>h2 (by omega))
theorem ZG{n i:Nat}(hi:i<n){g:Nat->Int}(hg:∀j,j<n->Fw (g j)):Fu ((zg n).map fun b:Nat=>Hc (i:Int) (b:Int)) ((zg n).map g)=Fs (g i):=by have h:=AhO hi hg n 0 0 (by omega) (fun _=>rfl) (fun h=>by omega);rw[zJ,zJ] at h;have w:=Bt.1 (RB (hg i hi)).word;show((J4 0 _ _:Nat):Int)=Fs (g i);have h:J4 0 ((zg n).map fun b:Nat=>Hc (i:Int) (b:Int)) ((zg n).map g)=(Fs (g i)).toNat:=h;rw[h];omega
end Go.CI
namespace Go.Proofs.S1
open Go Go.Den Go.CI Go.Proofs
theorem NU{R C:Nat}{l:Bb}(hl:l.length=R*C){I:Nat}(hI:I<R):Ee (C:Int) l (I:Int)=(zg C).map fun k:Nat=>Cc (C:Int) l (I:Int) (k:Int):=by
 have hlen:=KX hl hI;have e1:((I:Int)*(C:Int)).toNat=I*C:=by rw[<- Ax,Ad]
 have e2:(((I:Int)+1)*(C:Int)).toNat=(I+1)*C:=by
  have:((I:Int)+1)*(C:Int)=(((I+1)*C:Nat):Int):=by rw[Ax]; rfl
  rw[this,Ad]
 refine QK (by rw[hlen,AK,AH]) fun j hj=>?_
 rw[hlen] at hj;have hp:=HJ hI hj;have h1:(I+1)*C=I*C+C:=by rw[AI,zA]
 rw[AW,yA hj];unfold Ee;rw[List.getElem?_drop,e1,e2,List.getElem?_take,Az (by omega)];show l[I*C+j]?=xM (Cc (C:Int) l (I:Int) (j:Int));rw[Jg,Al,As (by omega)];rfl
theorem Z4{r c:Nat}{f:Nat->Nat->Int}(g:Int->Int):(Cg r c f).map g=Cg r c fun i k=>g (f i k):=by unfold Cg;rw[List.map_map];rfl
def Ab6(n:Nat):MX:=((n:Int),(n:Int),Fe n,0)
theorem AhN(i k:Int):Bo (Hc i k)=wg:=by
 unfold Hc;split
 ·exact Cq (n:=4607182418800017408) (by decide)
 ·exact Cq (n:=0) (by decide)
theorem ZH{n:Nat}(h:n<=6):Rn n n (Ab6 n):=⟨_,rfl,h,h,Ca _ _ _,FV fun _ _=>AhN _ _⟩
def Xu(x:MX):MX:=(x.1,x.2.1,x.2.2.1.map Fs,0)
theorem Abx{l:Bb}(al:Bg l=wg)(fl:Dc l=wg){j:Nat}(hj:j<l.length):Fw (l.getD j 0) :=⟨GS al hj,by unfold Dc at fl;rw[zE] at fl;rw[Al,As hj];exact fl _ (List.getElem_mem hj)⟩
theorem AkR{R C i k:Nat}{x:MX}(h:Rn R C x)(f:FM x)(hi:i<R)(hk:k<C):Fw (Cc (C:Int) x.2.2.1 (i:Int) (k:Int)):=by obtain⟨l,rfl,r6,c6,hl,al⟩:=h;rw[Jg];exact Abx al f (by have:=HJ hi hk; omega)
theorem XA{n K:Nat}{y:MX}(h:Rn n K y)(f:FM y):mulM (Ab6 n) y=Xu y:=by
 have hr:=h.right;have he:=(ZH h.r6).right;have hfn:=fun(i k:Nat) (hi:i<n) (hk:k<K)=>AkR h f hi hk
 obtain⟨l,rfl,r6,c6,hl,al⟩:=h;unfold mulM E6;rw[he,hr,Ah,Az rfl];unfold Xu Ab6;rw[Az rfl];dsimp only;rw[Ad,Ad]
 have e:(Cg n K fun(i k:Nat)=>Fu (Ee (n:Int) (Fe n) (i:Int)) (Hw (n:Int) (K:Int) l (k:Int)))=l.map Fs:=by
  conv=>rhs; rw[<- KN hl,Z4]
  refine Dv fun i k hi hk=>?_
  rw[NU (show(Fe n).length=n*n from Ca _ _ _) hi];unfold Hw;rw[Ad]
  have e1:((zg n).map fun b:Nat=>Cc (n:Int) (Fe n) (i:Int) (b:Int))=(zg n).map fun b:Nat=>Hc (i:Int) (b:Int) :=y8 fun b hb=>G2 hi (zO.1 hb)
  rw[e1];exact ZG hi fun j hj=>hfn j k hj hk
 rw[e]
theorem Vq{R n:Nat}{x:MX}(h:Rn R n x)(f:FM x):mulM x (Ab6 n)=Xu x:=by
 have hr:=h.right;have he:=(ZH h.c6).right;have hfn:=fun(i k:Nat) (hi:i<R) (hk:k<n)=>AkR h f hi hk
 obtain⟨l,rfl,r6,c6,hl,al⟩:=h;unfold mulM E6;rw[he,hr,Ah,Az rfl];unfold Xu Ab6;rw[Az rfl];dsimp only;rw[Ad,Ad]
 have e:(Cg R n fun(i k:Nat)=>Fu (Ee (n:Int) l (i:Int)) (Hw (n:Int) (n:Int) (Fe n) (k:Int)))=l.map Fs:=by
  conv=>rhs; rw[<- KN hl,Z4]
  refine Dv fun i k hi hk=>?_
  rw[NU hl hi,AeU];unfold Hw;rw[Ad]
  have e1:((zg n).map fun j:Nat=>Cc (n:Int) (Fe n) (j:Int) (k:Int))=(zg n).map fun b:Nat=>Hc (k:Int) (b:Int):=by
   refine y8 fun b hb=>?_
   rw[show Cc (n:Int) (Fe n) (b:Int) (k:Int)=Hc (b:Int) (k:Int) from G2 (zO.1 hb) hk];unfold Hc;by_cases hbk:(b:Int)=(k:Int)
   ·rw[Az hbk,Az hbk.symm]
   ·rw[Ay hbk,Ay (fun h=>hbk h.symm)]
  rw[e1];exact ZG hk fun j hj=>hfn i j hi hj
 rw[e]
theorem Xt{R C:Nat}{x:MX}(h:Rn R C x)(f:FM x):Rn R C (Xu x)/\FM (Xu x):=by
 obtain⟨l,rfl,r6,c6,hl,al⟩:=h
 have hg:∀y∈l.map Fs,Good y:=fun y hy=>by obtain⟨z,hz,rfl⟩:=zu.1 hy;obtain⟨j,hj,rfl⟩:=List.mem_iff_getElem.1 hz;have:=Abx al f hj;rw[Al,As hj] at this;exact RB this
 refine⟨⟨_,rfl,r6,c6,by rw[AK]; exact hl,Bt.2 fun y hy=>(hg y hy).word⟩,?_⟩;show(l.map Fs).all CO=wg;rw[zE];exact fun y hy=>(hg y hy).fn.fin
theorem Ag5{R C:Nat}{x:MX}(h:Rn R C x):GA x 0 0 (R:Int) (C:Int)=x:=by
 have hr:=h.right;obtain⟨l,rfl,r6,c6,hl,al⟩:=h;unfold GA EW;dsimp only;rw[Az hr,Az (show GI (R:Int) (C:Int) 0 0 (R:Int) (C:Int)=wg from Ag6 (i:=0) (k:=0) (by omega) (by omega)),Ad,Ad]
 have e:(Cg R C fun(i k:Nat)=>Cc (C:Int) l (0+(i:Int)) (0+(k:Int)))=l:=by
  conv=>rhs; rw[<- KN hl]
  refine Dv fun i k _ _=>?_
  rw[xf,xf]
 rw[e]
end Go.Proofs.S1
namespace Go.CI
open Go.Den
theorem Ho(s:Bool):vR (BG s 0)=0:=by
 have e3:Bs (BG s 0)=0:=by cases s<;>decide
 unfold vR;rw[e3];have z:((0:Nat):Rat)=0:=rfl;rw[z]; grind
theorem NG{a:Nat}(h:Bj a=0):vR a=0:=by
 have h3:Bj a≠3:=by omega
 have h4:Bj a≠4:=by omega
 unfold vR;rw[(Dd h3 h4).2 h];have z:((0:Nat):Rat)=0:=rfl;rw[z]; grind
theorem Acu(S:Int):Mj (decide (S<0))*((S.natAbs:Nat):Rat)=(S:Rat):=by
 rw[<- Xg];congr 1;unfold FX;by_cases h:S<0
 ·rw[Az (Ac h)]; omega
 ·rw[Ay (by rw[Ag h]; decide)]; omega
theorem NQ{s:Bool}{V:Nat}{E:Int}(h:Bj (BG s (Cj V E))≠3):Cj V E<Dk:=by
 have:=HE V E;rcases AA (Cj V E) Dk with g | g
 ·exact g
 ·exfalso;have e:Cj V E=Dk:=by omega
  rw[e] at h;exact h (Ah2 s)
theorem Ai2{s:Bool}{V:Nat}{E:Int}{B:Rat}(h:Ab (Mj s*((V:Rat)*tw E)) B):(V:Rat)*tw E<=B:=(Xh (Mc V E)).1 h
theorem Hp{x B:Rat}(h:x<=B):uR*x<=uR*B:=zl h (zc E5)
theorem Tk{a b:Nat}(a3:Bj a≠3)(a4:Bj a≠4)(b3:Bj b≠3)(b4:Bj b≠4)(hf:Bj (Em a b).1≠3){B:Rat}(hB:Ab (vR a+vR b) B):Nr (vR (Em a b).1) (vR a+vR b) (uR*B):=by
 have pa:=C4 a;have pb:=C4 b;rw[Ls (by omega) a3 b3] at hf ⊢;obtain⟨m,hm⟩:∃m,m=min (By a) (By b):=⟨_,rfl⟩
 have ea:=Af1 (a:=a) (g:=m) (by omega);have eb:=Af1 (a:=b) (g:=m) (by omega);rw[<- hm] at hf ⊢;generalize hS:DT a m+DT b m=S at hf ⊢
 have es:vR a+vR b=(S:Rat)*tw m:=by rw[<- ea,<- eb,<- hS,Rat.intCast_add]; grind
 rw[es] at hB ⊢;unfold HV at hf ⊢;by_cases h0:S=0
 ·rw[Az h0];dsimp only;rw[Ho,h0];have z:((0:Int):Rat)=0:=rfl;have:=ze (zc E5) hB.nn;rw[z];unfold Nr; grind
 ·rw[Ay h0] at hf ⊢;dsimp only at hf ⊢;have h:=(NR (decide (S<0)) (NQ hf)).2.1 (by omega);rw[<- xw (Mj _),Acu] at h;refine h.mono (Hp (Ai2 (s:=decide (S<0)) ?_));rw[<- xw,Acu]; exact hB
theorem OJ{a b:Nat}(a3:Bj a≠3)(a4:Bj a≠4)(b3:Bj b≠3)(b4:Bj b≠4)(hf:Bj (EA a b).1≠3){B:Rat}(hB:Ab (vR a*vR b) B):Nr (vR (EA a b).1) (vR a*vR b) (uR*B+Cv):=by
 unfold EA at hf ⊢;rw[Ay (by omega),Ay (by omega)] at hf ⊢;dsimp only at hf ⊢
 have e:vR a*vR b=Mj (BE a !=BE b)*(((Bs a*Bs b:Nat):Rat)*tw (By a+By b)):=by unfold vR;rw[Acs,zU,Ex]; grind
 rw[e] at hB ⊢;refine(NR _ (NQ hf)).1.mono ?_;have:=Hp (Ai2 hB);grind
theorem Yy{b:Nat}(h:b<2^64):vR (D5 b)=-(vR b):=by obtain⟨h1,h2,h3⟩:=H2 h;unfold vR Bs By;rw[h1,h2,h3];unfold Mj;cases BE b<;>simp<;>grind
theorem Qk{a b:Nat}(hb:b<2^64)(a3:Bj a≠3)(a4:Bj a≠4)(b3:Bj b≠3)(b4:Bj b≠4)(hf:Bj (Rx a b).1≠3){B:Rat}(hB:Ab (vR a-vR b) B):Nr (vR (Rx a b).1) (vR a-vR b) (uR*B):=by
 have k:=Ux b;have e:vR a-vR b=vR a+vR (D5 b):=by rw[Yy hb]; grind
 rw[e] at hB ⊢;exact Tk a3 a4 (by omega) (by omega) hf hB
theorem OD{a:Nat}{n:Int}(a3:Bj a≠3)(a4:Bj a≠4)(hf:Bj (Co a n).1≠3):Nr (vR (Co a n).1) (vR a*tw n) Cv:=by
 by_cases k0:Bj a=0
 ·have e:(Co a n).1=a:=by unfold Co; rw[Ay a4,Az (.inr k0)]
  have he:=Ek;rw[e,NG k0];unfold Nr; grind
 ·rw[He a4 (by omega)] at hf ⊢;dsimp only at hf ⊢;have h:=(NR (BE a) (NQ hf)).2.2 (E1 a)
  have e:vR a*tw n=Mj (BE a)*(((Bs a:Nat):Rat)*tw (By a+n)):=by unfold vR;rw[Ex]; grind
  rw[e];exact h
open Go.Den
theorem AdG{X Y K:Nat}(hY:0<Y):Ey X Y K*Y<=2*(X*2^K)+Y/\2*(X*2^K)<=Ey X Y K*Y+Y:=by
 have hd:=Nat.div_add_mod (X*2^K) Y;have hm:=zv (X*2^K) hY;unfold Ey;rw[AI,A4,A1 (X*2^K / Y)];split
 ·rw[zI]; omega
 ·rw[zA]; omega
theorem CR{m n:Nat}(h:m<=n):(m:Rat)<=(n:Rat):=Rat.natCast_le_natCast.2 h
theorem AdH{X Y:Nat}{e f:Int}{q:Rat}(hX:0<X)(hY:0<Y)(hY2:Y<2^53)(hq:q*((Y:Rat)*tw f)=(X:Rat)*tw e):Nr ((Ey X Y 120:Rat)*tw (e-f-121)) q (tw (-68)*q)/\0<=q:=by
 obtain⟨h1,h2⟩:=AdG (X:=X) (K:=120) hY;have g1:=CR h1;have g2:=CR h2;rw[yz,zU,zU,zU] at g1;rw[yz,zU,zU,zU] at g2;have t2:((2:Nat):Rat)=2:=rfl;have t120:((2^120:Nat):Rat)=tw 120:=(HS 120).symm;rw[t2,t120] at g1 g2;have pE:=DC (e-f-121);have pf:=DC f
 have yp:(0:Rat)<(Y:Rat):=by have:((0:Nat):Rat)<(Y:Rat):=ui.2 hY;exact this
 have ypos:0<(Y:Rat)*tw f:=yl yp pf
 have e1:2*tw 120*(tw (e-f-121)*tw f)=tw e:=by have:2*tw 120=tw 121:=(SK 120).symm;rw[this,<- Ex,<- Ex]; congr 1; omega
 have m1:=zd g1 (zc (yl pE pf));have m2:=zd g2 (zc (yl pE pf));generalize tw (e-f-121)=T at *
 generalize (Ey X Y 120:Rat)=S at *
 have s1:S*T*((Y:Rat)*tw f)<=(q+T)*((Y:Rat)*tw f):=by
  have:(q+T)*((Y:Rat)*tw f)=(X:Rat)*tw e+T*((Y:Rat)*tw f):=by rw[<- hq]; grind
  rw[this,<- e1];grind
 have s2:q*((Y:Rat)*tw f)<=(S*T+T)*((Y:Rat)*tw f):=by rw[hq,<- e1];grind
 have k1:=zZ s1 ypos;have k2:=zZ s2 ypos
 have hT:T<=tw (-68)*q:=by
  refine zZ (c:=(Y:Rat)*tw f) ?_ ypos;have e3:tw (-68)*q*((Y:Rat)*tw f)=tw (-68)*((X:Rat)*tw e):=by rw[<- hq]; grind
  have x1:(1:Rat)<=(X:Rat):=CR (show 1<=X from hX)
  have y1:(Y:Rat)<=tw 53:=by have:=CR (Nat.le_of_lt hY2);rw[<- HS] at this;exact this
  have z1:=zl y1 (zc (yl pE pf));have pe:=DC e;have z2:=zd x1 (zc (yl (DC (-68)) pe))
  have e4:T*tw f*tw 53=tw (-68)*tw e:=by
   rw[<- e1]
   have:tw (-68)*(2*tw 120)=tw 53:=by rw[<- SK,<- Ex]; rfl
   grind
  rw[e3];grind
 have hq0:0<=q:=by refine zZ (c:=(Y:Rat)*tw f) ?_ ypos;rw[hq];have:=Mc X e;grind
 refine⟨?_,hq0⟩;unfold Nr;grind
theorem AaA(s:Bool):Mj s*Mj s=1:=by cases s<;>decide +kernel
theorem Th{a b:Nat}(a3:Bj a≠3)(a4:Bj a≠4)(b3:Bj b≠3)(b4:Bj b≠4)(b0:Bj b≠0)(hf:Bj (JW a b).1≠3){q B:Rat}(hq:q*vR b=vR a)(hB:Ab q B):Nr (vR (JW a b).1) q (2*uR*B+Cv):=by
 have hBn:=hB.nn;have hu:=E5;have he:=Ek;have bm:Bs b≠0:=fun h=>b0 ((Dd b3 b4).1 h)
 have yp:(0:Rat)<((Bs b:Nat):Rat):=by have:((0:Nat):Rat)<((Bs b:Nat):Rat):=ui.2 (by omega);exact this
 have ypos:0<((Bs b:Nat):Rat)*tw (By b):=yl yp (DC _);have hub:=ze (zc E5) hBn
 have hq2:(Mj (BE a !=BE b)*q)*(((Bs b:Nat):Rat)*tw (By b))=((Bs a:Nat):Rat)*tw (By a):=by
  unfold vR at hq;rw[Acs];have h1:=AaA (BE a);generalize Mj (BE a)=sa at *
  generalize Mj (BE b)=sb at *
  grind
 by_cases k0:Bj a=0
 ·have ea:Bs a=0:=(Dd a3 a4).2 k0;have z:((0:Nat):Rat)=0:=rfl;rw[ea,z] at hq2
  have q0:q=0:=by
   have:(Mj (BE a !=BE b)*q)*(((Bs b:Nat):Rat)*tw (By b))=0:=by rw[hq2]; grind
   have h1:Mj (BE a !=BE b)*q=0:=by
    rcases Rat.mul_eq_zero.1 this with h | h
    ·exact h
    ·grind
   have h2:=AaA (BE a !=BE b);generalize Mj (BE a !=BE b)=sx at *
   grind
  have ed:(JW a b).1=BG (BE a !=BE b) 0:=by unfold JW;rw[Ay (by omega),Ay (by omega),Ay a3,Az (.inr k0)]
  rw[ed,Ho,q0];unfold Nr;grind
 ·have am:Bs a≠0:=fun h=>k0 ((Dd a3 a4).1 h)
  have ed:(JW a b).1=BG (BE a !=BE b) (Cj (Ey (Bs a) (Bs b) 120) (By a-By b-121)):=by unfold JW;rw[Ay (by omega),Ay (by omega),Ay a3,Ay (by omega),Ay b0]
  rw[ed] at hf ⊢;obtain⟨h1,h2⟩:=AdH (X:=Bs a) (Y:=Bs b) (by omega) (by omega) (E1 b) hq2;have h3:=(NR (BE a !=BE b) (NQ hf)).1;have h4:=Agg (s:=BE a !=BE b) h1
  have sq:Mj (BE a !=BE b)*(Mj (BE a !=BE b)*q)=q:=by
   have h2:=AaA (BE a !=BE b);generalize Mj (BE a !=BE b)=sx at *
   grind
  rw[sq] at h4
  have hB2:Mj (BE a !=BE b)*q<=B:=by
   unfold Ab at hB;unfold Mj;cases (BE a !=BE b)
   ·have e:(if wy=wg then (-1:Rat) else 1)=1:=rfl;rw[e]; grind
   ·have e:(if wg=wg then (-1:Rat) else 1)=-1:=rfl;rw[e]; grind
  generalize Mj (BE a !=BE b)*q=p at *
  generalize ((Ey (Bs a) (Bs b) 120:Nat):Rat)*tw (By a-By b-121)=W at *
  refine(h3.trans h4).mono ?_;have t68:tw (-68)=uR*tw (-15):=by unfold uR; rw[<- Ex]; rfl
  have t15:tw (-15)<=1 / 4:=by decide +kernel
  have t0:=zc (DC (-15))
  have n1:W<=2*p:=by
   have:=h1.1;have m:=zd t15 h2
   have:tw (-68)*p<=p:=by
    have u1:tw (-68)<=1:=by decide +kernel
    have:=zd u1 h2;grind
   grind
  have n2:tw (-68)*p<=1 / 4*(uR*p):=by have m:=zd t15 (ze (zc hu) h2);rw[t68]; grind
  have n3:=h1.1;have n4:W<=p+tw (-68)*p:=n3;have n5:tw (-68)<=1 / 4:=by decide +kernel
  have n6:tw (-68)*p<=1 / 4*p:=zd n5 h2;have n7:uR*W<=uR*(5 / 4*p):=Hp (by grind);have n8:uR*p<=uR*B:=Hp hB2;grind
end Go.CI
end
