/- A verified evaluator of the program's form and its use for this seat: S1PHouse, S1PApply, S1EqSol, S1PTri, S1EqFew, S1PSol, S1EqQr, S1PQr, S1PQrA, S1EqRef17, S1PRef17, S1EqRef14, S1PRef13. -/
import Derived.Test.YtfpbkmeodcgcbaaGreatTJ
import Derived.Test.YtfpbkmeodcgcbaaGreatTK
import Derived.Test.YtfpbkmeodcgcbaaGreatTE
import Derived.Test.YtfpbkmeodcgcbaaGreatTF
import Derived.Test.YtfpbkmeodcgcbaaGreatTG
set_option linter.unusedVariables false
set_option linter.unusedSimpArgs false
open Option renaming some->xM,none->xN
open Bool renaming true->wg,false->wy
open Int renaming toNat->wz
open List renaming length->vA,getD->vB
open List renaming all_cons->z9,take_of_length_le->yY,length_take->zV,mem_singleton->zh,range->zg,take->zC,drop_zero->zJ,mem_map->zu,set->zw,not_mem_nil->wo,nil_append->zT,drop_eq_getElem_cons->yL,any_cons->xG
open Nat renaming beq->zj
open Bool renaming false_or->yr,and_eq_false_iff->yP
noncomputable section
open Go.Proofs.Tryz
namespace Go.Proofs.S1
open Go Go.Den Go.CI Go.Proofs
theorem Te(x:Int):((B8 x) !=(0:Int))=!(decide (B8 x=0)):=by rw[Ar]; simp
theorem X4(N:Nat){x:Bb}(hx:CW x=wg):∀(k i F:Nat),i+k=x.length->k<F->B7.Cy.L0 N F x (i:Int)=xM (.bool (CX (x.drop i))):=by
 obtain⟨hl,hu⟩:=Hq hx;intro k
 induction k with
 | zero =>
   intro i F hi hF;obtain⟨F,rfl⟩:∃G,F=G+1:=⟨F-1,by omega⟩
   rw[B7.Cy.B1,Bw,Ag (by omega),Af,Ap (by omega)]; rfl
 | succ k ih =>
   intro i F hi hF;obtain⟨F,rfl⟩:∃G,F=G+1:=⟨F-1,by omega⟩
   rw[B7.Cy.B1,Bw,Ac (show(i:Int)<(x.length:Int) by omega),Aa,Ac (show(0:Int)<=(i:Int) by omega),Ah,Aa,Ad,hu i (by omega),Aa,Te,GD (by omega)];unfold CX;rw[z9];cases decide (B8 (x.getD i 0)=0) with
   | false=>rfl
   | true =>rw[AD,Af,AR,Bq (by omega) (by omega)];exact ih (i+1) F (by omega) (by omega)
theorem B7.Cy.Bi:Kq 153 B7.Cy.Bk:=D6 B7.Cy.E Tryz.func153 (kc soft.Kind.Bi .nil) fun x hp=>by refine⟨x.length+1,B7.Cy.out [.l x],[],?_,.bool⟩;rw[B7.Cy.ev];exact X4 (x.length+1) hp x.length 0 (x.length+1) (by omega) (by omega)
theorem AeB(N:Nat){x:Bb}(hx:CW x=wg):∀(k i F:Nat),i+k=x.length->k<F->B7.lead.L0 N F x (i:Int)=xM (.int .u64 (IK (x.drop i))):=by
 obtain⟨hl,hu⟩:=Hq hx;intro k
 induction k with
 | zero =>
   intro i F hi hF;obtain⟨F,rfl⟩:∃G,F=G+1:=⟨F-1,by omega⟩
   rw[B7.lead.B1,Bw,Ag (by omega),Af,Ap (by omega)]; rfl
 | succ k ih =>
   intro i F hi hF;obtain⟨F,rfl⟩:∃G,F=G+1:=⟨F-1,by omega⟩
   rw[B7.lead.B1,Bw,Ac (show(i:Int)<(x.length:Int) by omega),Aa,Ac (show(0:Int)<=(i:Int) by omega),Ah,Aa,Ad,hu i (by omega),Aa,Te,GD (by omega),IK];by_cases h:B8 (x.getD i 0)=0
   ·rw[Ac h,Az h,AD,Af,Bq (by omega) (by omega)];exact ih (i+1) F (by omega) (by omega)
   ·rw[Ag h,Ay h]; rfl
theorem B7.lead.Bi:Kq 160 B7.lead.Bk:=D6 B7.lead.E Tryz.func160 (kc soft.Kind.Bi .nil) fun x hp=>by refine⟨x.length+1,B7.lead.out [.l x],[],?_,.int⟩;rw[B7.lead.ev];exact AeB (x.length+1) hp x.length 0 (x.length+1) (by omega) (by omega)
theorem Tu{x:Bb}{i:Nat}(h:i<x.length)(f:Int->Int):(x.take (i+1)).map f=(x.take i).map f++[f (x.getD i 0)]:=by rw[List.take_succ_eq_append_getElem h,List.map_append,Al,As h]; rfl
theorem Xd(N:Nat){x:Bb}{e:Int}(hx:CW x=wg)(hl:x.length<=1000)(he:-2300<=e/\e<=2300):∀(k i F:Nat),i+k=x.length->k<F ->
 B7.Eo.L0 N F x e (i:Int) ((x.take i).map fun b=>BP b e)=xM (.Bh (.own 100005 tB) .u64 (BM x e)):=by
 obtain⟨_,hu⟩:=Hq hx;intro k
 induction k with
 | zero =>
   intro i F hi hF;obtain⟨F,rfl⟩:∃G,F=G+1:=⟨F-1,by omega⟩
   rw[B7.Eo.B1,Bw,Ag (by omega),Af,yY (by omega)]; rfl
 | succ k ih =>
   intro i F hi hF;obtain⟨F,rfl⟩:∃G,F=G+1:=⟨F-1,by omega⟩
   rw[B7.Eo.B1,Bw,Ac (show(i:Int)<(x.length:Int) by omega),Aa,Ac (show(0:Int)<=(i:Int) by omega),Ah,Aa,Ad,
    show D1 (vB x i 0) e=wg from Bf.2 ⟨hu i (by omega),Bt.2 he⟩,Aa,Ac (by rw[AK,zV]; unfold GL; omega),Aa,Bq (by omega) (by omega)]
   have:=ih (i+1) F (by omega) (by omega);rw[Tu (by omega)] at this;exact this
theorem B7.Eo.Bi:Kq 157 B7.Eo.Bk:=D6 B7.Eo.E Tryz.func157 (kc Bu.Ct.Bi .nil) fun x k hp=>by obtain⟨h1,h2⟩:=Bf.1 hp;have h2:=Bt.1 h2;refine⟨x.length+1,.Bh (.own 100005 tB) .u64 (BM x k),[100005],?_,.drop _ _ _ _ (zh.2 rfl)⟩;rw[B7.Eo.ev];exact Xd (x.length+1) h1 h2.1 h2.2 x.length 0 (x.length+1) (by omega) (by omega)
theorem B7.Ic.Bi:Kq 155 B7.Ic.Bk:=D6 B7.Ic.E Tryz.func155 .nil fun i _=>⟨0,B7.Ic.out [.i i],[],by rw[B7.Ic.ev]; rfl,.int⟩
theorem B7.Ib.Bi:Kq 161 B7.Ib.Bk:=D6 B7.Ib.E Tryz.func161 (kc Bu.Div.Bi .nil) fun i y d hp=>by obtain⟨h1,h2⟩:=Bf.1 (show((CE (0<=i/\i<vA y)&&Bg y)&&Bo d)=wg from hp);obtain⟨h3,h4⟩:=Bf.1 h1;have h3:=Bt.1 h3;refine⟨0,B7.Ib.out [.i i,.l y,.i d],[],?_,.int⟩;rw[B7.Ib.ev,Ac h3.1,Ac h3.2,Gk h4,h2]; rfl
theorem IE(n i:Nat)(f:Nat->Int)(h:i+1=n):Gc n f=AgC::(zg i).map fun j=>f (j+1):=by unfold Gc; rw[show n-1=i by omega]
theorem Acv{n:Nat}(f:Nat->Int)(h:n≠0):(((decide ((0:Int)<=(n:Int)))&&(decide ((n:Int)<=(n:Int))))&&((decide ((0:Int)<=(n:Int)))&&(decide ((n:Int)<=(vA (Gc n f):Int)))))=wg /\
 zC (wz ((n:Int)-(0:Int))) (List.drop 0 (Gc n f))=Gc n f:=by
 have:=HF h f;refine⟨?_,?_⟩
 ·rw[Ac (by omega),Ac (by omega),Ac (by omega)]; rfl
 ·rw[zJ,yY (by omega)]
theorem Vf(N:Nat){n:Nat}(h64:n<=64)(h0:n≠0):∀(k i F:Nat),i+1+k=n->k<F ->
 B7.row.Zero.L0 N F (n:Int) ((i+1:Nat):Int) (Gc (i+1) fun _=>0)=xM (.Bh .BF .u64 (Gc n fun _=>0)):=by
 intro k
 induction k with
 | zero =>
   intro i F hi hF;obtain⟨F,rfl⟩:∃G,F=G+1:=⟨F-1,by omega⟩
   obtain rfl:i+1=n:=by omega
   obtain⟨e1,e2⟩:=Acv (fun _=>0) h0;rw[B7.row.Zero.B1,Bw,Ag (by omega),Af,e1,Aa,e2]
 | succ k ih =>
   intro i F hi hF;obtain⟨F,rfl⟩:∃G,F=G+1:=⟨F-1,by omega⟩
   rw[B7.row.Zero.B1,Bw,Ac (by omega),Aa,Ac (by rw[HF (by omega)]; unfold GL; omega),Aa,Bq (by omega) (by omega)];have:=ih (i+1) F (by omega) (by omega);rw[IE (i+1+1) (i+1) _ rfl,GY] at this;rw[IE (i+1) i _ rfl];exact this
theorem B7.row.Zero.Bi:Kq 154 B7.row.Zero.Bk:=D6 B7.row.Zero.E Tryz.func154 (kc B7.Ic.Bi .nil) fun n hp=>by
 have hp:=Bt.1 (show CE (1<=n/\n<=64)=wg from hp);obtain⟨m,rfl⟩:∃m:Nat,n=m:=⟨n.toNat,by omega⟩
 refine⟨65,B7.row.Zero.out [.i m],[],?_,.Na⟩;show _=xM (DV.Bh .BF .u64 (Gc (wz (m:Int)) fun _=>0));rw[B7.row.Zero.ev,Ad];exact Vf 65 (by omega) (by omega) (m-1) 0 65 (by omega) (by omega)
theorem Xl(N:Nat){n:Nat}{y:Bb}{d:Int}(h64:n<=64)(h0:n≠0)(hy:n=y.length)(al:Bg y=wg)(hd:Bo d=wg):∀(k i F:Nat),i+1+k=n->k<F ->
 B7.row.Div.L0 N F (n:Int) y d ((i+1:Nat):Int) (Gc (i+1) fun j=>El (y.getD j 0) d)=xM (.Bh .BF .u64 (Gc n fun j=>El (y.getD j 0) d)):=by
 intro k
 induction k with
 | zero =>
   intro i F hi hF;obtain⟨F,rfl⟩:∃G,F=G+1:=⟨F-1,by omega⟩
   obtain rfl:i+1=n:=by omega
   obtain⟨e1,e2⟩:=Acv (fun j=>El (y.getD j 0) d) h0;rw[B7.row.Div.B1,Bw,Ag (by omega),Af,e1,Aa,e2]
 | succ k ih =>
   intro i F hi hF;obtain⟨F,rfl⟩:∃G,F=G+1:=⟨F-1,by omega⟩
   rw[B7.row.Div.B1,Bw,Ac (by omega),Aa,Bt.2 (show 0<=((i+1:Nat):Int)/\((i+1:Nat):Int)<(y.length:Int) by omega),al,hd,Ah,Ah,Aa,Ac (by rw[HF (by omega)]; unfold GL; omega),Aa,Bq (by omega) (by omega),Ad];have:=ih (i+1) F (by omega) (by omega);rw[IE (i+1+1) (i+1) _ rfl,GY] at this;rw[IE (i+1) i _ rfl];exact this
theorem B7.row.Div.Bi:Kq 154 B7.row.Div.Bk:=D6 B7.row.Div.E Tryz.func154 (kc B7.Ib.Bi .nil) fun n y d hp=>by
 obtain⟨h1,h2⟩:=Bf.1 (show((CE (1<=n/\n<=64/\n=vA y)&&Bg y)&&Bo d)=wg from hp);obtain⟨h3,h4⟩:=Bf.1 h1;have h3:=Bt.1 h3;obtain⟨m,rfl⟩:∃m:Nat,n=m:=⟨n.toNat,by omega⟩
 refine⟨65,B7.row.Div.out [.i m,.l y,.i d],[],?_,.Na⟩;show _=xM (DV.Bh .BF .u64 (Gc (wz (m:Int)) fun j=>El (vB y j 0) d));rw[B7.row.Div.ev,Ad];exact Xl 65 (by omega) (by omega) (by omega) h4 h2 (m-1) 0 65 (by omega) (by omega)
theorem O5{x:Bb}{k:Int}{j:Nat}(h:j<x.length):(BM x k).getD j 0=BP (x.getD j 0) k:=by unfold BM;rw[Al,AW,As h,Al,As h]; rfl
theorem VG(x:Bb)(k:Int):(BM x k).length=x.length:=by unfold BM; rw[AK]
theorem VH{x:Bb}(k:Int)(h:Bg x=wg):Bg (BM x k)=wg:=Pa fun y hy=>by obtain⟨b,hb,rfl⟩:=zu.1 hy;exact FP (Bt.1 h b hb)
theorem Td:∀{x:Bb},Bg x=wg->Bo (IK x)=wg
 | [],_=>Hn
 | b::l,h=>by
   unfold IK;split
   ·exact Td (Pa fun y hy=>Bt.1 h y (AJ _ hy))
   ·exact Bt.1 h b AU
theorem OZ{x:Bb}(h:CW x=wg):Bg x=wg:=Bt.2 (Bt.1 h).2
theorem Kv{drops:List Nat}{g:Aai}:Wk drops .nil (.Bh g .u64 []):=.nil g .u64
theorem VI{n:Nat}{f g:Nat->Int}(h:∀j,j<n->f j=g j):Gc n f=Gc n g:=by unfold Gc;congr 1;exact List.map_congr_left fun j hj=>h _ (by have:=List.mem_range.1 hj; omega)
theorem B7.En.Bi:Kq 134 B7.En.Bk:=D6 B7.En.E Tryz.func134 (kc compare.N8.Bi (kc B7.lead.Bi (kc B7.Cy.Bi (.cons (DR.alt B7.row.Zero.Bi B7.row.Div.Bi) (kc B7.Eo.Bi (kc soft.Finite.Bi (kc soft.DO.Bi (kc soft.Sign.Bi (kc Bu.Cu.Bi (kc Bu.Div.Bi (kc Bu.Finite.Bi (kc Bu.Norm.Bi (kc Bu.Ct.Bi (kc Bu.Sub.Bi .nil)))))))))))))) fun x hp=>by
 have hx:CW x=wg:=hp;have al:=OZ hx;have he:=UH (BA x);show ∃N dv drops,_=xM dv/\Wk drops dv (DV.Cw [.Bh .BF .u64 (BV x).1,.int .u64 (BV x).2.1,.int .u64 (BV x).2.2.1,.int .i64 (BV x).2.2.2]);unfold BV;by_cases h1:x.length=0\/64<x.length
 ·rw[Az h1];refine⟨0,.Cw [.nil,.int .u64 0,.int .u64 0,.int .i64 3],[],?_,Wk.Gx (.cons Kv (.cons .int (.cons .int (.cons .int .nil))))⟩
  have:(((vA x:Int)==(0:Int))||(BI (64:Int) (vA x:Int)))=wg:=by rw[Bw,Bool.or_eq_true,beq_iff_eq,Ai]; omega
  rw[B7.En.ev,this,Aa]
 have c1:(((vA x:Int)==(0:Int))||(BI (64:Int) (vA x:Int)))=wy:=by rw[Bw,Bool.or_eq_false_iff,A8,Av]; omega
 rw[Ay h1];by_cases h2:Dc x=wg
 ·rw[Az h2];unfold I2;have ok1:CW (x.drop 1)=wg:=GN (Pa fun y hy=>Bt.1 al y (List.mem_of_mem_drop hy)) (by rw[List.length_drop]; omega);have d1:decide ((1:Int)<=(x.length:Int))=wg:=Ac (by omega);have d0:decide ((0:Int)<(x.length:Int))=wg:=Ac (by omega);by_cases h3:CX (x.drop 1)=wg
  ·rw[Az h3];refine⟨0,.Cw [.Bh .BF .u64 (Gc x.length fun _=>0),.int .u64 0,.int .u64 (x.getD 0 0),.int .i64 0],[],?_,Wk.Gx (.cons .Na (.cons .int (.cons .int (.cons .int .nil))))⟩;rw[B7.En.ev,c1,Af,hx,Aa,h2,AD,Af,d1,Aa,ok1,Aa,h3,Aa,Bt.2 (show 1<=(x.length:Int)/\(x.length:Int)<=64 by omega),Aa,d0,Aa,Ad]
  ·rw[Ay h3];have h3:CX (x.drop 1)=wy:=by simpa using h3
   have ew:Be (0-BK (BA x))=-BK (BA x):=by rw[Bq (by omega) (by omega)]; omega
   have ly:=VG x (-BK (BA x));have ay:=VH (-BK (BA x)) al;have oky:CW (BM x (-BK (BA x)))=wg:=GN ay (by omega);have gy:=O5 (x:=x) (k:=-BK (BA x)) (j:=0) (by omega);have iy:=Gk ay 0
   have key:∀mu:Int,Jn x=mu->Bo mu=wg->∀b:Bool,CO (DK x)=b->∃dv:DV,(bif (!b) then
    xM (.Cw [.nil,.int .u64 (0:Int),.int .u64 (0:Int),.int .i64 (2:Int)])
    else xM (.Cw [.Bh .BF .u64 (Gc (wz (vA (BM x (-BK (BA x))):Int)) (fun j=>El (vB (BM x (-BK (BA x))) j 0) (CA (vB (BM x (-BK (BA x))) 0 0) mu))),.int .u64 (El (CA mu (vB (BM x (-BK (BA x))) 0 0)) mu),.int .u64 (BP mu (BK (BA x))),.int .i64 (0:Int)]))=xM dv /\
    Wk [] dv (DV.Cw [.Bh .BF .u64 (if CO (DK x)=wg then (K6 x,Lw x,DK x,(0:Int)) else ([],0,0,2)).1,.int .u64 (if CO (DK x)=wg then (K6 x,Lw x,DK x,(0:Int)) else ([],0,0,2)).2.1,.int .u64 (if CO (DK x)=wg then (K6 x,Lw x,DK x,(0:Int)) else ([],0,0,2)).2.2.1,.int .i64 (if CO (DK x)=wg then (K6 x,Lw x,DK x,(0:Int)) else ([],0,0,2)).2.2.2]):=by
    intro mu hmu _ b hb;rw[hb];cases b with
    | false=>exact⟨_,rfl,Wk.Gx (.cons Kv (.cons .int (.cons .int (.cons .int .nil))))⟩
    | true =>
      refine⟨_,rfl,?_⟩;rw[Az rfl];dsimp only
      have e1:Gc (wz (vA (BM x (-BK (BA x))):Int)) (fun j=>El (vB (BM x (-BK (BA x))) j 0) (CA (vB (BM x (-BK (BA x))) 0 0) mu))=K6 x:=by unfold K6;rw[Ad,ly,gy,<- hmu];exact VI fun j hj=>by rw[O5 hj]; rfl
      have e2:El (CA mu (vB (BM x (-BK (BA x))) 0 0)) mu=Lw x:=by unfold Lw;rw[gy,hmu]; rfl
      have e3:BP mu (BK (BA x))=DK x:=by unfold DK; rw[hmu]
      rw[e1,e2,e3];exact Wk.Gx (.cons .Na (.cons .int (.cons .int (.cons .int .nil))))
   have dz:decide ((0:Int)<((BM x (-BK (BA x))).length:Int))=wg:=Ac (by omega);have cz':CE (1<=((BM x (-BK (BA x))).length:Int)/\((BM x (-BK (BA x))).length:Int)<=64/\True)=wg:=Bt.2 ⟨by omega,by omega,trivial⟩;have p1:CE (x.length<=1000/\-2300<=-BK (BA x)/\-BK (BA x)<=2300)=wg:=Bt.2 (by omega);have p2:CE ((BM x (-BK (BA x))).length<=64)=wg:=Bt.2 (by omega);have sp:∀mu:Int,Bo mu=wg->D1 mu (BK (BA x))=wg:=fun mu h=>Bf.2 ⟨h,Bt.2 (by omega)⟩
   have ny:=Q7 (BM x (-BK (BA x)));cases hn:DI (IK x) with
   | true =>
     have hm:Jn x=CB (BM x (-BK (BA x))):=by unfold Jn; rw[Az hn]
     obtain⟨dv,k1,k2⟩:=key _ hm ny (CO (DK x)) rfl;refine⟨0,dv,[],?_,k2⟩;rw[<- k1];have eb:DK x=BP (CB (BM x (-BK (BA x)))) (BK (BA x)):=by unfold DK; rw[hm]
     rw[B7.En.ev,ew,eb];simp only[c1,Af,hx,Aa,h2,AD,d1,ok1,h3,Me,p1,oky,p2,Ah,Td al,hn,sp _ ny,FP ny,dz,cz',ay,iy,ny,Kb iy ny,Kb ny iy]
   | false =>
     have hm:Jn x=CM (CB (BM x (-BK (BA x)))):=by unfold Jn; rw[Ay (by rw[hn]; decide)]
     have my:=Uf ny;obtain⟨dv,k1,k2⟩:=key _ hm my (CO (DK x)) rfl;refine⟨0,dv,[],?_,k2⟩;rw[<- k1];have eb:DK x=BP (CM (CB (BM x (-BK (BA x))))) (BK (BA x)):=by unfold DK; rw[hm]
     rw[B7.En.ev,ew,eb];simp only[c1,Af,hx,Aa,h2,AD,d1,ok1,h3,Me,p1,oky,p2,Ah,Td al,hn,AZ,sp _ my,FP my,dz,cz',ay,iy,ny,my,Kb iy my,Kb my iy]
 ·rw[Ay h2];have h2:Dc x=wy:=by simpa using h2
  refine⟨0,.Cw [.nil,.int .u64 0,.int .u64 0,.int .i64 4],[],?_,Wk.Gx (.cons Kv (.cons .int (.cons .int (.cons .int .nil))))⟩;rw[B7.En.ev,c1,Af,hx,Aa,h2,AZ,Aa]
open Go Go.Den Go.CI Go.Proofs
def apD(i k c j a b:Nat):Bool:=decide (k<=b/\i<=a/\(b<c\/(b=c/\a<i+j)))
def Yt(R C:Nat)(l:Bb)(i k:Nat)(v:Bb)(t:Int)(c j:Nat):Bb :=Cg R C fun a b=>if apD i k c j a b=wg/\a<i+v.length then FB (C:Int) l (i:Int) (k:Int) v t (a:Int) (b:Int) else Cc (C:Int) l (a:Int) (b:Int)
section
variable{R C i k:Nat}{l v:Bb}{t:Int}
theorem Adt(c j:Nat):(Yt R C l i k v t c j).length=R*C:=Ca _ _ _
theorem ZY(h:l.length=R*C):Yt R C l i k v t k 0=l:=by
 unfold Yt
 conv=>rhs; rw[<- KN h]
 refine Dv fun a b ha hb=>?_
 rw[Ay]
 rintro ⟨h,_⟩
 have:=A3 h;omega
theorem ZZ(c:Nat):Yt R C l i k v t c v.length=Yt R C l i k v t (c+1) 0:=by
 unfold Yt;refine Dv fun a b ha hb=>?_
 have:(apD i k c v.length a b=wg/\a<i+v.length)↔(apD i k (c+1) 0 a b=wg/\a<i+v.length):=by unfold apD;rw[Ai,Ai];omega
 by_cases h:apD i k c v.length a b=wg/\a<i+v.length
 ·rw[Az h,Az (this.1 h)]
 ·rw[Ay h,Ay (fun hh=>h (this.2 hh))]
theorem Adu:Yt R C l i k v t C 0=Eh R C l (i:Int) (k:Int) v t:=by
 unfold Yt Eh;refine Dv fun a b ha hb=>?_
 by_cases h:apD i k C 0 a b=wg/\a<i+v.length
 ·rw[Az h]
 ·rw[Ay h];unfold FB;rw[Ay];intro hh;refine h ⟨?_,by omega⟩;unfold apD;rw[Ai]; omega
theorem Ads{c j:Nat}(hc:c<C)(hk:k<=c)(hj:j<v.length){x:Int}(hx:x=FB (C:Int) l (i:Int) (k:Int) v t ((i+j:Nat):Int) (c:Int)):
 zw (Yt R C l i k v t c j) ((i+j)*C+c) x=Yt R C l i k v t c (j+1):=by
 unfold Yt;rw[QS hc];refine Dv fun a b ha hb=>?_
 by_cases h:a=i+j/\b=c
 ·obtain⟨rfl,rfl⟩:=h;rw[Az ⟨rfl,rfl⟩,Az ⟨by unfold apD; rw[Ai]; omega,by omega⟩,hx]
 ·rw[Ay h]
  have:(apD i k c j a b=wg/\a<i+v.length)↔(apD i k c (j+1) a b=wg/\a<i+v.length):=by unfold apD;rw[Ai,Ai];omega
  by_cases h2:apD i k c j a b=wg/\a<i+v.length
  ·rw[Az h2,Az (this.1 h2)]
  ·rw[Ay h2,Ay (fun hh=>h2 (this.2 hh))]
theorem ZX{c j:Nat}(hk:k<=c)(hj:j<v.length):FB (C:Int) l (i:Int) (k:Int) v t ((i+j:Nat):Int) (c:Int)=
 CA ((Cb (C:Int) l (c:Int) (i:Int) v.length).getD j 0) (CN (HB (C:Int) l (i:Int) v t (c:Int)) (v.getD j 0)):=by
 unfold FB;rw[Az ⟨by omega,by omega,by omega⟩];have e1:(((i+j:Nat):Int)-(i:Int)).toNat=j:=by omega
 have e2:(Cb (C:Int) l (c:Int) (i:Int) v.length).getD j 0=Cc (C:Int) l ((i+j:Nat):Int) (c:Int):=by unfold Cb;rw[Al,AW,List.getElem?_range hj];show Cc (C:Int) l ((i:Int)+(j:Int)) (c:Int)=_;rw[<- Int.natCast_add]
 rw[e1,e2]
theorem YL{c b i:Int}{l:Bb}{m n:Nat}(h:m<=n):zC m (Cb c l b i n)=Cb c l b i m:=by unfold Cb;rw[<- List.map_take,List.take_range,Nat.min_eq_left h]
theorem AbL(N M0:Nat)(r6:R<=6)(c6:C<=6)(al:Bg l=wg)(av:Bg v=wg)(hv:i+v.length<=R){c:Nat}(hc:c<C)(hk:k<=c):∀(cnt j F:Nat),j+cnt=v.length->cnt<F ->
 B7.Apply.L1 N M0 F (R:Int) (C:Int) l (i:Int) v t (j:Int) (Yt R C l i k v t c j) (c:Int) (HB (C:Int) l (i:Int) v t (c:Int)) (Cb (C:Int) l (c:Int) (i:Int) v.length) (v.length:Int)=
 B7.Apply.L0 N M0 (R:Int) (C:Int) l (i:Int) v t ((c+1:Nat):Int) (Yt R C l i k v t (c+1) 0):=by
 intro cnt
 induction cnt with
 | zero =>
   intro j F hj hF;obtain⟨F,rfl⟩:∃G,F=G+1:=⟨F-1,by omega⟩
   obtain rfl:j=v.length:=by omega
   rw[B7.Apply.BZ,Bw,Ag (by omega),Af,Bq (by omega) (by omega),ZZ];rfl
 | succ cnt ih =>
   intro j F hj hF;obtain⟨F,rfl⟩:∃G,F=G+1:=⟨F-1,by omega⟩
   have hm:=IB (a:=((i+j:Nat):Int)) (b:=(C:Int)) (by omega) (by omega) (by omega) (by omega);have hpl:=HJ (show i+j<R by omega) hc;have e1:Be ((i:Int)+(j:Int))=((i+j:Nat):Int):=by rw[Bq (by omega) (by omega)]; omega
   have e2:Be (((i+j:Nat):Int)*(C:Int))=(((i+j)*C:Nat):Int):=by rw[Bq (by omega) (by omega)]; exact(Ax _ _).symm
   have h36:=A9 r6 c6;have e3:Be ((((i+j)*C:Nat):Int)+(c:Int))=(((i+j)*C+c:Nat):Int):=by rw[Bq (by omega) (by omega)]; omega
   have hlen:=Adt (R:=R) (C:=C) (l:=l) (i:=i) (k:=k) (v:=v) (t:=t) c j;have sl:=FO (C:Int) (c:Int) (i:Int) v.length l;rw[B7.Apply.BZ,Bw,Ac (show(j:Int)<(v.length:Int) by omega),Aa,e1,e2,e3,sl,Ac (show(0:Int)<=(j:Int) by omega),Ac (show(j:Int)<(v.length:Int) by omega),Ah,Aa,Ad,Ad];have a1:=Gk av j;have a2:=Gk (HU (c:=(C:Int)) (b:=(c:Int)) (i:=(i:Int)) (n:=v.length) al) j;have a3:Bo (HB (C:Int) l (i:Int) v t (c:Int))=wg:=Ft _ _
   rw[Aa,a3,a1,Ah,Aa,a2,Ft,Ah,Aa,Ac (by omega),Ac (by omega),Ah,Aa,Ac (by omega),Aa,
    Ads hc hk (by omega) (ZX hk (by omega)).symm,Bq (by omega) (by omega)]
   exact ih (j+1) F (by omega) (by omega)
theorem AbM(N:Nat)(r6:R<=6)(c6:C<=6)(hN:7<N)(hr:B5 (R:Int) (C:Int) l=wg)(al:Bg l=wg)(av:Bg v=wg)(ht:Bo t=wg)(hv:i+v.length<=R):∀(cnt c F:Nat),c+cnt=C->k<=c->cnt<F ->
 B7.Apply.L0 N F (R:Int) (C:Int) l (i:Int) v t (c:Int) (Yt R C l i k v t c 0)=
 xM (.Cw [.agg [.int .i64 (R:Int),.int .i64 (C:Int),.Bh (.own 114002 tB) .u64 (Eh R C l (i:Int) (k:Int) v t)],.int .i64 (0:Int)]):=by
 intro cnt
 induction cnt with
 | zero =>
   intro c F hc hk hF;obtain⟨F,rfl⟩:∃G,F=G+1:=⟨F-1,by omega⟩
   obtain rfl:c=C:=by omega
   rw[B7.Apply.B1,Bw,Ag (by omega),Af,Adu]
 | succ cnt ih =>
   intro c F hc hk hF;obtain⟨F,rfl⟩:∃G,F=G+1:=⟨F-1,by omega⟩
   have cp:EM (R:Int) (C:Int) l (c:Int)=wg:=Bf.2 ⟨hr,Bt.2 (by omega)⟩;have e0:wz ((R:Int)-(i:Int))=R-i:=by omega
   have st:=YL (c:=(C:Int)) (b:=(c:Int)) (i:=(i:Int)) (l:=l) (m:=v.length) (n:=R-i) (by omega);have sl:=FO (C:Int) (c:Int) (i:Int) v.length l;have sl2:=FO (C:Int) (c:Int) (i:Int) (R-i) l;have sa:=HU (c:=(C:Int)) (b:=(c:Int)) (i:=(i:Int)) (n:=v.length) al;have ft:NA v (Cb (C:Int) l (c:Int) (i:Int) v.length)=wg:=OT.2 ⟨by omega,by omega⟩
   rw[B7.Apply.B1,Bw,Ac (by omega),Aa,cp,Bt.2 (show 0<=(i:Int)/\(i:Int)<=(R:Int) by omega),Ah,Aa,e0,Ad,st,sl2,sl,
    Ac (show(0:Int)<=(v.length:Int) by omega),Ac (show(v.length:Int)<=(v.length:Int) by omega),Ac (show(v.length:Int)<=((R-i:Nat):Int) by omega),Ah,Ah,Aa,ft,av,sa,Ah,Ah,Aa,ht,OY,Ah,Aa]
   have:=AbL (t:=t) N F r6 c6 al av hv (show c<C by omega) hk v.length 0 N (by omega) (by omega);exact this.trans (ih (c+1) F (by omega) (by omega) (by omega))
end
theorem B7.Apply.Bi:Kq 103 B7.Apply.Bk:=D6 B7.Apply.E Tryz.func103 (kc Bc.Check.Bi (kc Bc.EB.Bi (kc Bu.FL.Bi (kc Bu.Mul.Bi (kc Bu.Sub.Bi .nil))))) fun r c l i k v t hp=>by
 obtain⟨h1,ht⟩:=Bf.1 (show(((B5 r c l&&HW r c i k v)&&(Bg l&&Bg v))&&Bo t)=wg from hp);obtain⟨h2,h3⟩:=Bf.1 h1;obtain⟨hr,hb⟩:=Bf.1 h2;obtain⟨al,av⟩:=Bf.1 h3;have hb:=A3 hb;have hc:Ki r c l=0:=by unfold Ki; rw[Az hr]
 have h36:=Hf hr;obtain⟨R,C,rfl,rfl,r6,c6,hl⟩:=CU hr;obtain⟨i,rfl⟩:∃j:Nat,i=j:=⟨i.toNat,by omega⟩
 obtain⟨k,rfl⟩:∃j:Nat,k=j:=⟨k.toNat,by omega⟩
 refine⟨8,B7.Apply.out [.i (R:Int),.i (C:Int),.l l,.i (i:Int),.i (k:Int),.l v,.i t],[],?_,Wk.Gx (.cons (Wk.Gt (.cons .int (.cons .int (.cons (.CH _ _ _ _ wo) .nil)))) (.cons .int .nil))⟩;show _=xM (DV.Cw [.agg [.int .i64 (R:Int),.int .i64 (C:Int),.Bh (.own 114002 tB) .u64 (Eh (wz (R:Int)) (wz (C:Int)) l (i:Int) (k:Int) v t)],.int .i64 0])
 have hlt:(((((BI (i:Int) (0:Int))||(BI (R:Int) (vA v:Int)))||(BI (Be ((R:Int)-(vA v:Int))) (i:Int)))||(BI (k:Int) (0:Int)))||(BI (C:Int) (k:Int)))=wy:=by rw[Bw,Bw,Bw,Bw,Bw,Bq (by omega) (by omega),Ag (by omega),Ag (by omega),Ag (by omega),Ag (by omega),Ag (by omega)]; rfl
 rw[B7.Apply.ev,hc,show((0:Int) !=(0:Int))=wy from rfl,Af,hlt,Af,Ac (show 0+l.length<=GL by unfold GL; omega),Aa,zT,Ad,Ad];have:=AbM (R:=R) (C:=C) (i:=i) (k:=k) (l:=l) (v:=v) (t:=t) 8 r6 c6 (by omega) hr al av ht (by omega) (C-k) k 8 (by omega) (by omega) (by omega);rw[ZY hl] at this;exact this
set_option maxRecDepth 100000
def solve.check.hint:Nat->Option BH
 | 0=>xM { CH:=[2,3,11,12],BW:=[],Cf:=[2,3] }
 | 2=>xM { CH:=[2,34,35],BW:=[],Cf:=[2] }
 | _=>xN
def solve.check.E:=CP (CC [(49,Dw.Check.Bk),(133,soft.Kind.Bk)]) (fun _=>wy) solve.check.hint (fun _=>xN)
section
variable(N M:Nat)(r c:Int)(l:Bb)(p q:Int)(m:Bb)(p35:Int)
def solve.check.L0:Option DV:=BU solve.check.E N f109 (Br f109) [1,1,1,0,1,0] [] M ⟨EP 51 [(2,.ptr 2 0 0),(34,.int .i64 r),(35,.int .i64 p35)],[(2,wy,.box [.int .i64 r,.int .i64 c,.Bh .arg .u64 l])]⟩
theorem solve.check.B1:solve.check.L0 (N+4) (M+1) r c l p35=cond (BI p35 r) (bif ((decide (0<=(Be ((Be (p35*c))+p35))))&&(decide ((Be ((Be (p35*c))+p35))<(vA l:Int)))) then cond (Bo (vB l (wz (Be ((Be (p35*c))+p35))) 0)) (bif ((B8 (vB l (wz (Be ((Be (p35*c))+p35))) 0))==(0:Int)) then xM (.int .i64 5) else solve.check.L0 (N+4) M r c l (Be (p35+1))) xN else xN) (xM (.int .i64 0)):=by kernel_rfl
theorem solve.check.ev:BX solve.check.E (N+4) f109 (Br f109) [.agg [.int .i64 r,.int .i64 c,.Bh .arg .u64 l],.agg [.int .i64 p,.int .i64 q,.Bh .arg .u64 m]]=cond (Bg l) (bif ((Cm r c l) !=(0:Int)) then xM (.int .i64 (Cm r c l)) else bif (Bg m) then cond ((Cm p q m) !=(0:Int)) (xM (.int .i64 (Cm p q m))) (bif ((r !=c)||(r !=p)) then xM (.int .i64 3) else solve.check.L0 (N+4) (N+4) r c l (0:Int)) else xN) xN :=Et (DJ (DJ rfl (DJ (DJ rfl (B4 (O1 (r !=c)) (B4 (Nx (r !=c)) (B4 (O1 (r !=c)) (B4 (Nx (r !=c)) (B4 (tt8 (r !=c)) (B4 (SM (r !=c)) (C0 (tt5 _ _) rfl rfl)))))))) rfl)) rfl)
end
def EO.EH.up.E:=E0 []
theorem EO.EH.up.ev(N:Nat)(n k:Int):BX EO.EH.up.E N f118 (Br f118) [.int .i64 n,.int .i64 k]=xM (.int .i64 (Be ((Be (n-1))-k))):=by kernel_rfl
def solve.G4.E:=E0 []
theorem solve.G4.ev(N:Nat)(i k:Int):BX solve.G4.E N f119 (Br f119) [.int .i64 i,.int .i64 k]=xM (.bool (BI i k)):=by kernel_rfl
def Bc.of.CF.own.hint:Nat->Option BH
 | 0=>xM { CH:=[1,2,6,7,13,14],BW:=[(8,2,108002,.Bh 47 .u64 [])],Cf:=[6,7] }
 | 2=>xM { CH:=[1,2,6,7,8,13,14,17,18],BW:=[(8,2,108002,.Bh 47 .u64 [])],Cf:=[6,7] }
 | _=>xN
def Bc.of.CF.own.E:=CP (CC [(165,Bc.Gl.Bk)]) (fun _=>wy) Bc.of.CF.own.hint (fun _=>xN)
def Bc.CF.own.E:=CP (CC [(55,Bc.of.CF.own.Bk),(116,Bc.size.Bk)]) (fun n=>zj n 17) (fun _=>xN) (fun _=>xN)
theorem Bc.CF.own.ev(N:Nat)(a b:Int):BX Bc.CF.own.E N f138 (Br f138) [.int .i64 a,.int .i64 b]=cond ((!(Ce a))||(!(Ce b))) (some (.Cw [.agg [.int .i64 0,.int .i64 0,.nil],.int .i64 3])) (bif (Ce a&&Ce b) then some (.Cw [.agg [.int .i64 a,.int .i64 b,.Bh (.own 1136 47) .u64 (Cg (wz a) (wz b) (fun _ _=>0))],.int .i64 0]) else xN) :=Et (B4 (WN (Ce a)) (B4 (PA (Ce a)) (B4 (PA (Ce a)) (B4 (WO (Ce a)) (C0 (AfN _ _) rfl rfl)))))
def solve.BC.Up.hint:Nat->Option BH
 | 0=>xM { CH:=[2,3,4,5,8,10,11,28,29],BW:=[(12,2,112002,.Bh 47 .u64 [])],Cf:=[4,5,8,11] }
 | 2=>xM { CH:=[2,3,4,5,8,10,11,13,28,29,32,33],BW:=[(12,2,112002,.Bh 47 .u64 [])],Cf:=[4,5,8,11] }
 | 4=>xM { CH:=[2,3,4,5,8,10,11,13,15,16,28,29,32,33,49,50],BW:=[(12,2,112002,.Bh 47 .u64 [])],Cf:=[4,5,8,11] }
 | _=>xN
def solve.BC.Up.E:=CP (CC [(118,EO.EH.up.Bk),(138,Bc.CF.own.Bk),(119,solve.G4.Bk),(139,Bu.Div.Bk),(104,Bu.Finite.Bk),(115,Bu.Mul.Bk),(64,Bu.Sub.Bk)]) (fun n=>zj n 24) solve.BC.Up.hint (fun _=>xN)
section
variable(N M0 M1 M:Nat)(r c:Int)(l:Bb)(p q:Int)(m:Bb)(n p16 p50 p13_1 p15 p29_2 p33_1:Int)(p2_1:Bb)(p33:Int)(p2:Bb)(p13 p29_1 p29:Int)(p2_2:Bb)
def solve.BC.Up.L0:Option DV:=BU solve.BC.Up.E N f110 (Br f110) [1,1,1,0,1,0] [] M ⟨EP 108 [(2,.fn 118 [.int .i64 n] []),(3,.fn 119 [] []),(4,.ptr 4 0 0),(5,.ptr 5 0 0),(8,.ptr 8 0 0),(10,.int .i64 r),(11,.ptr 11 0 0),(28,.int .i64 q),(29,.int .i64 p29)],[(4,wy,.box [.int .i64 r,.int .i64 c,.Bh .arg .u64 l]),(5,wy,.box [.int .i64 p,.int .i64 q,.Bh .arg .u64 m]),(8,wy,.box [.int .i64 0,.int .i64 0,.nil]),(11,wy,.box [.int .i64 r,.int .i64 q,.De 112002]),(112002,wy,.Bh 47 .u64 p2_2)]⟩
def solve.BC.Up.L1:Option DV:=BU solve.BC.Up.E N f110 (Br f110) [1,1,1,0,1,0,0,1,1,0,0,1,0,1,1,0] [M0] M ⟨EP 108 [(2,.fn 118 [.int .i64 n] []),(3,.fn 119 [] []),(4,.ptr 4 0 0),(5,.ptr 5 0 0),(8,.ptr 8 0 0),(10,.int .i64 r),(11,.ptr 11 0 0),(13,.int .i64 p13),(28,.int .i64 q),(29,.int .i64 p29_1),(32,.int .i64 r),(33,.int .i64 p33)],[(4,wy,.box [.int .i64 r,.int .i64 c,.Bh .arg .u64 l]),(5,wy,.box [.int .i64 p,.int .i64 q,.Bh .arg .u64 m]),(8,wy,.box [.int .i64 0,.int .i64 0,.nil]),(11,wy,.box [.int .i64 r,.int .i64 q,.De 112002]),(112002,wy,.Bh 47 .u64 p2)]⟩
def solve.BC.Up.L2:Option DV:=BU solve.BC.Up.E N f110 (Br f110) [1,1,1,0,1,0,0,1,1,0,0,1,0,1,1,0,0,1,1,0,0,1,1,1,0,1,0] [M0,M1] M ⟨EP 108 [(2,.fn 118 [.int .i64 n] []),(3,.fn 119 [] []),(4,.ptr 4 0 0),(5,.ptr 5 0 0),(8,.ptr 8 0 0),(10,.int .i64 r),(11,.ptr 11 0 0),(13,.int .i64 p13_1),(15,.int .i64 p15),(16,.int .u64 p16),(28,.int .i64 q),(29,.int .i64 p29_2),(32,.int .i64 r),(33,.int .i64 p33_1),(49,.int .i64 r),(50,.int .i64 p50)],[(4,wy,.box [.int .i64 r,.int .i64 c,.Bh .arg .u64 l]),(5,wy,.box [.int .i64 p,.int .i64 q,.Bh .arg .u64 m]),(8,wy,.box [.int .i64 0,.int .i64 0,.nil]),(11,wy,.box [.int .i64 r,.int .i64 q,.De 112002]),(112002,wy,.Bh 47 .u64 p2_1)]⟩
theorem solve.BC.Up.B1:solve.BC.Up.L0 N (M+1) r c l p q m n p29 p2_2=cond (BI p29 q) (solve.BC.Up.L1 N M N r c l p q m n 0 p2_2 p29 p29) (bif (CW p2_2) then cond (!(Dc p2_2)) (xM (.Cw [.agg [.int .i64 0,.int .i64 0,.nil],.int .i64 2])) (xM (.Cw [.agg [.int .i64 r,.int .i64 q,.Bh (.own 112002 47) .u64 p2_2],.int .i64 0])) else xN):=by kernel_rfl
theorem solve.BC.Up.BZ:solve.BC.Up.L1 N M0 (M+1) r c l p q m n p33 p2 p13 p29_1=cond (BI p33 r) (bif (CE (0<=p33/\p33<n/\n<=10)) then cond ((decide (0<=(Be ((Be ((n-1-p33)*q))+p13))))&&(decide ((Be ((Be ((n-1-p33)*q))+p13))<(vA m:Int)))) (solve.BC.Up.L2 N M0 M N r c l p q m n (vB m (wz (Be ((Be ((n-1-p33)*q))+p13))) 0) 0 p13 (n-1-p33) p29_1 p33 p2) xN else xN) (solve.BC.Up.L0 N M0 r c l p q m n (Be (p29_1+1)) p2):=by kernel_rfl
theorem solve.BC.Up.EU:solve.BC.Up.L2 N M0 M1 (M+1) r c l p q m n p16 p50 p13_1 p15 p29_2 p33_1 p2_1=cond (BI p50 r) (bif (decide (p15<p50)) then cond ((decide (0<=(Be ((Be (p15*r))+p50))))&&(decide ((Be ((Be (p15*r))+p50))<(vA l:Int)))) (bif ((decide (0<=(Be ((Be (p50*q))+p13_1))))&&(decide ((Be ((Be (p50*q))+p13_1))<(vA p2_1:Int)))) then cond (decide ((wz (Be ((Be (p50*q))+p13_1)))<(vA p2_1))) (bif (Bo (vB l (wz (Be ((Be (p15*r))+p50))) 0)&&Bo (vB p2_1 (wz (Be ((Be (p50*q))+p13_1))) 0)) then cond (Bo p16&&Bo (CN (vB l (wz (Be ((Be (p15*r))+p50))) 0) (vB p2_1 (wz (Be ((Be (p50*q))+p13_1))) 0))) (solve.BC.Up.L2 N M0 M1 M r c l p q m n (CA p16 (CN (vB l (wz (Be ((Be (p15*r))+p50))) 0) (vB p2_1 (wz (Be ((Be (p50*q))+p13_1))) 0))) (Be (p50+1)) p13_1 p15 p29_2 p33_1 p2_1) xN else xN) xN else xN) xN else solve.BC.Up.L2 N M0 M1 M r c l p q m n p16 (Be (p50+1)) p13_1 p15 p29_2 p33_1 p2_1) (bif ((decide (0<=(Be ((Be (p15*r))+p15))))&&(decide ((Be ((Be (p15*r))+p15))<(vA l:Int)))) then cond (Bo p16&&Bo (vB l (wz (Be ((Be (p15*r))+p15))) 0)) (bif ((decide (0<=(Be ((Be (p15*q))+p13_1))))&&(decide ((Be ((Be (p15*q))+p13_1))<(vA p2_1:Int)))) then cond (decide ((wz (Be ((Be (p15*q))+p13_1)))<(vA p2_1))) (solve.BC.Up.L1 N M0 M1 r c l p q m n (Be (p33_1+1)) (zw p2_1 (wz (Be ((Be (p15*q))+p13_1))) (El p16 (vB l (wz (Be ((Be (p15*r))+p15))) 0))) p13_1 p29_2) xN else xN) xN else xN) :=Et (DJ (DJ (C0 (I1 _ _) (C0 (I1 _ _) (C0 (Cp _) (C0 (Cp _) (C0 (Cp _) rfl rfl) rfl) rfl) rfl) rfl) rfl) (C0 (I1 _ _) (C0 (Cp _) (C0 (I1 _ _) (C0 (Cp _) rfl rfl) rfl) rfl) rfl))
theorem solve.BC.Up.ev:BX solve.BC.Up.E N f110 (Br f110) [.agg [.int .i64 r,.int .i64 c,.Bh .arg .u64 l],.agg [.int .i64 p,.int .i64 q,.Bh .arg .u64 m],.fn 118 [.int .i64 n] [],.fn 119 [] []]=cond (Ce r&&Ce q) (solve.BC.Up.L0 N N r c l p q m n 0 (Cg (wz r) (wz q) (fun _ _=>0))) xN:=by kernel_rfl
end
def solve.Dt.E:=E0 [(109,solve.check.Bk),(110,solve.BC.Up.Bk)]
theorem solve.Dt.ev(N:Nat)(r c:Int)(l:Bb)(p q:Int)(m:Bb):BX solve.Dt.E N f67 (Br f67) [.agg [.int .i64 r,.int .i64 c,.Bh .arg .u64 l],.agg [.int .i64 p,.int .i64 q,.Bh .arg .u64 m]]=cond (Bg l&&Bg m) (bif ((Jo r c l p q m) !=(0:Int)) then xM (.Cw [.agg [.int .i64 0,.int .i64 0,.nil],.int .i64 (Jo r c l p q m)]) else bif (NI r c l p q m&&decide (r=r)) then xM (.Cw [.agg [.int .i64 ((Hb r q (Rt c l q m (wz r) (wz q))).1),.int .i64 ((Hb r q (Rt c l q m (wz r) (wz q))).2.1),.Bh .BF .u64 ((Hb r q (Rt c l q m (wz r) (wz q))).2.2.1)],.int .i64 ((Hb r q (Rt c l q m (wz r) (wz q))).2.2.2)]) else xN) xN:=by kernel_rfl
def solve.Flat.hint:Nat->Option BH
 | 0=>xM { CH:=[1,5,6],BW:=[(0,5,100005,.Bh 47 .u64 [])],Cf:=[1] }
 | 2=>xM { CH:=[7,44,45,46],BW:=[(0,44,100044,.Bh 47 .u64 [])],Cf:=[] }
 | _=>xN
def solve.Flat.E:=CP (CC [(49,Dw.Check.Bk),(105,compare.J8.Bk),(108,compare.Po.Bk),(107,Bu.Cu.Bk),(106,Bu.Ct.Bk)]) (fun _=>wy) solve.Flat.hint (fun _=>xN)
section
variable(N M:Nat)(r c:Int)(l:Bb)(p6:Int)(p5:Bb)(p46:Int)
def solve.Flat.L0:Option DV:=BU solve.Flat.E N f52 (Br f52) [1,1,1,0,1,0] [] M ⟨EP 55 [(1,.ptr 1 0 0),(5,.De 100005),(6,.int .i64 p6)],[(1,wy,.box [.int .i64 r,.int .i64 c,.Bh .arg .u64 l]),(100005,wy,.Bh 47 .u64 p5)]⟩
def solve.Flat.L1:Option DV:=BU solve.Flat.E N f52 (Br f52) [1,1,1,1,1,0,1,0] [] M ⟨EP 55 [(7,.int .u64 (BP (BA p5) (-40:Int))),(44,.De 100044),(45,.int .i64 (vA p5:Int)),(46,.int .i64 p46)],[(100044,wy,.Bh 47 .u64 p5)]⟩
theorem solve.Flat.B1:solve.Flat.L0 N (M+1) r c l p6 p5=cond ((BI p6 r)&&(BI p6 c)) (bif ((decide (0<=(Be ((Be (p6*c))+p6))))&&(decide ((Be ((Be (p6*c))+p6))<(vA l:Int)))) then cond (Bo (vB l (wz (Be ((Be (p6*c))+p6))) 0)) (bif (decide ((vA p5)+1<=GL)) then solve.Flat.L0 N M r c l (Be (p6+1)) (p5++[(Gf (vB l (wz (Be ((Be (p6*c))+p6))) 0))]) else xN) xN else xN) (bif (CW p5) then cond (D1 (BA p5) (-40:Int)) (solve.Flat.L1 N N p5 (0:Int)) xN else xN) :=Et (B4 (L8 (BI p6 r)) (B4 (L8 (BI p6 r)) (B4 (Ka (BI p6 r)) (B4 (WQ (BI p6 r)) (B4 (Pp (BI p6 r)) (C0 (tt1 _ _) rfl rfl))))))
theorem solve.Flat.BZ:solve.Flat.L1 N (M+1) p5 p46=cond (BI p46 (vA p5:Int)) (bif ((decide (0<=p46))&&(decide (p46<(vA p5:Int)))) then cond (decide ((wz p46)<(vA p5))) (bif (Bo (BP (BA p5) (-40:Int))&&Bo (vB p5 (wz p46) 0)) then cond (!(decide (Ma (BP (BA p5) (-40:Int)) (vB p5 (wz p46) 0)<0))) (xM (.Cw [.bool wg,.int .i64 0])) (solve.Flat.L1 N M p5 (Be (p46+1))) else xN) xN else xN) (xM (.Cw [.bool wy,.int .i64 0])):=by kernel_rfl
theorem solve.Flat.ev:BX solve.Flat.E N f52 (Br f52) [.agg [.int .i64 r,.int .i64 c,.Bh .arg .u64 l]]=cond (Bg l) (bif ((Cm r c l) !=(0:Int)) then xM (.Cw [.bool wy,.int .i64 (Cm r c l)]) else solve.Flat.L0 N N r c l 0 []) xN:=by kernel_rfl
end
theorem solve.G4.Bi:Kq 119 solve.G4.Bk:=D6 solve.G4.E Tryz.func119 .nil fun i k _=>by refine⟨0,solve.G4.out [.i i,.i k],[],?_,.bool⟩;rw[solve.G4.ev,Bw]; rfl
theorem Ag7.Bi:Kq 118 EO.EH.up.Bk:=D6 EO.EH.up.E Tryz.func118 .nil fun n k hp=>by have hp:=Bt.1 (show CE (0<=k/\k<n/\n<=10)=wg from hp);refine⟨0,EO.EH.up.out [.i n,.i k],[],?_,.int⟩;rw[EO.EH.up.ev,Bq (x:=n-1) (by omega) (by omega),Bq (by omega) (by omega)]; rfl
theorem Bc.of.CF.own.Bi:Kq 55 Bc.of.CF.own.Bk:=D6 Bc.of.CF.own.E Tryz.func55 (kc Bc.Gl.Bi .nil) fun a b hp=>by have h1:(Ce a&&Ce b)=wg:=hp;obtain⟨ha,hb⟩:=Bf.1 h1;obtain⟨A,rfl,hA⟩:=EF ha;obtain⟨B,rfl,hB⟩:=EF hb;refine⟨8,.agg [.int .i64 (A:Int),.int .i64 (B:Int),.Bh (.own 108002 tB) .u64 (Cg A B fun(i j:Nat)=>(0:Int))],[],?_,Wk.Gt (.cons .int (.cons .int (.cons (.CH _ _ _ _ wo) .nil)))⟩;have n:=of.CF.outer 8 hA hB (by omega) (F:=fun(i j:Nat)=>(0:Int)) (fun _ _=>rfl) A 0 8 (by omega) (by omega);rw[J0] at n;exact(Bc.of.CF.ev 8 (A:Int) (B:Int)).trans n
theorem Bc.CF.own.Bi:Kq 138 Bc.CF.own.Bk:=D6 Bc.CF.own.E Tryz.func138 (kc Bc.of.CF.own.Bi (kc Bc.size.Bi .nil)) fun a b hp=>by
 have hp:(Ce a&&Ce b)=wg:=hp;obtain⟨ha,hb⟩:=Bf.1 hp;refine⟨0,Bc.CF.own.out [.i a,.i b],[],?_,?_⟩
 ·rw[Bc.CF.own.ev,ha,hb]; rfl
 ·exact Wk.Gx (.cons (Wk.Gt (.cons .int (.cons .int (.cons (.CH _ _ _ _ wo) .nil)))) (.cons .int .nil))
section
variable{n Q:Nat}{l m:Bb}
def upF(n Q:Nat)(l m:Bb)(i j:Nat):Int:=(LY (n:Int) l (fun i=>Cc (Q:Int) m (i:Int) (j:Int)) n n).getD i 0
def upD(n j k a b:Nat):Bool:=decide (b<j\/(b=j/\n-k<=a))
def Pg(n Q:Nat)(l m:Bb)(j k:Nat):Bb:=Cg n Q fun a b=>if upD n j k a b=wg then upF n Q l m a b else 0
theorem Aat(i j:Nat):Bo (upF n Q l m i j)=wg:=QU (Aas _ _ _ _ _) i
theorem Af8(j k:Nat):Bg (Pg n Q l m j k)=wg:=FV fun a b=>by
 split
 ·exact Aat _ _
 ·exact Cq (n:=0) (by decide)
theorem Acd{j k t:Nat}(ht:t<n)(hj:j<Q)(hk:n-k<=t):Cc (Q:Int) (Pg n Q l m j k) (t:Int) (j:Int)=upF n Q l m t j:=by unfold Pg;have hd:upD n j k t j=wg:=Ac (.inr ⟨rfl,hk⟩);rw[G2 ht hj,hd,Az rfl]
theorem Qg(j k:Nat):(Pg n Q l m j k).length=n*Q:=Ca _ _ _
theorem Af7(N:Nat)(n6:n<=6)(q6:Q<=6)(hl:l.length=n*n)(al:Bg l=wg){i j k:Nat}(hi:i+k+1=n)(hj:j<Q)(M0 M1:Nat)(p29 p33:Int):
 ∀(cnt t F:Nat) (s:Int),t+cnt=n->cnt<F->i+1<=t->Bo s=wg ->
 solve.BC.Up.L2 N M0 M1 F (n:Int) (n:Int) l (n:Int) (Q:Int) m (n:Int) s (t:Int) (j:Int) (i:Int) p29 p33 (Pg n Q l m j k)=
 solve.BC.Up.L1 N M0 M1 (n:Int) (n:Int) l (n:Int) (Q:Int) m (n:Int) (Be (p33+(1:Int))) (zw (Pg n Q l m j k) (wz ((i:Int)*(Q:Int)+(j:Int))) (El (H5 (n:Int) l (i:Int) s (t:Int) ((LY (n:Int) l (fun i=>Cc (Q:Int) m (i:Int) (j:Int)) n n).drop t)) (Cc (n:Int) l (i:Int) (i:Int)))) (j:Int) p29:=by
 intro cnt
 induction cnt with
 | zero =>
   intro t F s ht hF hit hs;obtain⟨F,rfl⟩:∃G,F=G+1:=⟨F-1,by omega⟩
   obtain⟨e1,g1,g2⟩:=GR (R:=(n:Int)) (Dl n6 n6 hl (show i<n by omega) (show i<n by omega));obtain⟨e2,g3,g4⟩:=GR (R:=(n:Int)) (Dl n6 q6 (Qg (l:=l) (m:=m) j k) (show i<n by omega) hj);rw[Ap (by rw[Hx]; omega),H5]
   rw[solve.BC.Up.EU,Bw,Ag (show ¬(t:Int)<(n:Int) by omega),Af,e1,Ac g1,Ac g2,Ah,Aa,hs,show Bo (vB l (wz ((i:Int)*(n:Int)+(i:Int))) 0)=wg from FT (c:=(n:Int)) al,Ah,Aa,
    e2,Ac g3,Ac g4,Ah,Aa,Ac (show wz ((i:Int)*(Q:Int)+(j:Int))<(Pg n Q l m j k).length by omega),Aa]
   rfl
 | succ cnt ih =>
   intro t F s ht hF hit hs;obtain⟨F,rfl⟩:∃G,F=G+1:=⟨F-1,by omega⟩
   obtain⟨e1,g1,g2⟩:=GR (R:=(n:Int)) (Dl n6 n6 hl (show i<n by omega) (show t<n by omega));obtain⟨e2,g3,g4⟩:=GR (R:=(n:Int)) (Dl n6 q6 (Qg (l:=l) (m:=m) j k) (show t<n by omega) hj);have hx:vB (Pg n Q l m j k) (wz ((t:Int)*(Q:Int)+(j:Int))) 0=upF n Q l m t j:=Acd (by omega) hj (by omega)
   rw[solve.BC.Up.EU,Bw,Ac (show(t:Int)<(n:Int) by omega),Aa,Ac (show(i:Int)<(t:Int) by omega),Aa,e1,Ac g1,Ac g2,Ah,Aa,
    e2,Ac g3,Ac g4,Ah,Aa,Ac (show wz ((t:Int)*(Q:Int)+(j:Int))<(Pg n Q l m j k).length by omega),Aa,hx,
    show Bo (vB l (wz ((i:Int)*(n:Int)+(t:Int))) 0)=wg from FT (c:=(n:Int)) al,Aat,Ah,Aa,hs,Ft,Ah,Aa,Bq (x:=(t:Int)+1) (by omega) (by omega)]
   have:=ih (t+1) F (CA s (CN (Cc (n:Int) l (i:Int) (t:Int)) (upF n Q l m t j))) (by omega) (by omega) (by omega) (Kb hs (Ft _ _));rw[RO (by rw[Hx]; omega)];exact this
theorem AiG(N:Nat)(n6:n<=6){i j k:Nat}(hi:i<n)(M0 M1:Nat)(p29 p33 s:Int):∀(cnt t F:Nat),t+cnt=i+1 ->
 solve.BC.Up.L2 N M0 M1 (F+cnt) (n:Int) (n:Int) l (n:Int) (Q:Int) m (n:Int) s (t:Int) (j:Int) (i:Int) p29 p33 (Pg n Q l m j k)=
 solve.BC.Up.L2 N M0 M1 F (n:Int) (n:Int) l (n:Int) (Q:Int) m (n:Int) s ((i+1:Nat):Int) (j:Int) (i:Int) p29 p33 (Pg n Q l m j k):=by
 intro cnt
 induction cnt with
 | zero =>
   intro t F ht;obtain rfl:t=i+1:=by omega
   rfl
 | succ cnt ih =>intro t F ht;rw[<- Nat.add_assoc,solve.BC.Up.EU,Bw,Ac (show(t:Int)<(n:Int) by omega),Aa,Ag (show ¬(i:Int)<(t:Int) by omega),Af,Bq (by omega) (by omega)];exact ih (t+1) F (by omega)
theorem Acb{i j k:Nat}(hi:i+k+1=n)(hj:j<Q){x:Int}(hx:x=upF n Q l m i j):zw (Pg n Q l m j k) (wz ((i:Int)*(Q:Int)+(j:Int))) x=Pg n Q l m j (k+1):=by
 refine UM hj hx fun a b ha hb=>?_
 unfold upD;rw[Ai,Ai];omega
theorem AiH(N:Nat)(n6:n<=6)(q6:Q<=6)(hN:7<N)(hl:l.length=n*n)(hm:m.length=n*Q)(al:Bg l=wg)(am:Bg m=wg){j:Nat}(hj:j<Q)(M0:Nat):∀(cnt k F:Nat),k+cnt=n->cnt<F ->
 solve.BC.Up.L1 N M0 F (n:Int) (n:Int) l (n:Int) (Q:Int) m (n:Int) (k:Int) (Pg n Q l m j k) (j:Int) (j:Int)=
 solve.BC.Up.L0 N M0 (n:Int) (n:Int) l (n:Int) (Q:Int) m (n:Int) ((j+1:Nat):Int) (Pg n Q l m j n):=by
 intro cnt
 induction cnt with
 | zero =>
   intro k F hk hF;obtain⟨F,rfl⟩:∃G,F=G+1:=⟨F-1,by omega⟩
   obtain rfl:k=n:=by omega
   rw[solve.BC.Up.BZ,Bw,Ag (by omega),Af,Bq (by omega) (by omega)];rfl
 | succ cnt ih =>
   intro k F hk hF;obtain⟨F,rfl⟩:∃G,F=G+1:=⟨F-1,by omega⟩
   obtain⟨i,hi⟩:∃i:Nat,i+k+1=n:=⟨n-k-1,by omega⟩
   have ei:(n:Int)-1-(k:Int)=(i:Int):=by omega
   obtain⟨e2,g3,g4⟩:=GR (R:=(n:Int)) (Dl n6 q6 hm (show i<n by omega) hj);rw[solve.BC.Up.BZ,Bw,Ac (show(k:Int)<(n:Int) by omega),Aa,Bt.2 (show 0<=(k:Int)/\(k:Int)<(n:Int)/\(n:Int)<=10 by omega),Aa,ei,e2,Ac g3,Ac g4,Ah,Aa];obtain⟨G,rfl⟩:∃G,N=G+(i+1):=⟨N-(i+1),by omega⟩
   have hs:=AiG (n:=n) (Q:=Q) (l:=l) (m:=m) (G+(i+1)) n6 (i:=i) (j:=j) (k:=k) (by omega) M0 F (j:Int) (k:Int) (Cc (Q:Int) m (i:Int) (j:Int)) (i+1) 0 G (by omega);have hr:=Af7 (n:=n) (Q:=Q) (l:=l) (m:=m) (G+(i+1)) n6 q6 hl al hi hj M0 F (j:Int) (k:Int) (n-(i+1)) (i+1) G (Cc (Q:Int) m (i:Int) (j:Int)) (by omega) (by omega) (by omega) (FT (c:=(Q:Int)) am);rw[Acb hi hj (WL (show i<n by omega)).symm,Bq (by omega) (by omega)] at hr;exact(hs.trans hr).trans (ih (k+1) F (by omega) (by omega))
theorem Y1(j:Nat):Pg n Q l m j n=Pg n Q l m (j+1) 0:=by
 unfold Pg;refine Dv fun a b ha hb=>?_
 have:upD n j n a b=upD n (j+1) 0 a b:=by unfold upD;rw[decide_eq_decide];omega
 rw[this]
theorem Y0:Pg n Q l m 0 0=Cg n Q fun _ _=>0:=by
 unfold Pg;refine Dv fun a b ha hb=>?_
 have:upD n 0 0 a b=wy:=Ag (by omega);rw[this]; rfl
theorem Ace:Pg n Q l m Q 0=Rt (n:Int) l (Q:Int) m n Q:=by
 unfold Pg Rt;refine Dv fun a b ha hb=>?_
 have:upD n Q 0 a b=wg:=Ac (.inl hb);rw[this]; rfl
theorem AiI(N:Nat)(n6:n<=6)(q6:Q<=6)(hN:7<N)(hl:l.length=n*n)(hm:m.length=n*Q)(al:Bg l=wg)(am:Bg m=wg):∀(cnt j F:Nat),j+cnt=Q->cnt<F ->
 solve.BC.Up.L0 N F (n:Int) (n:Int) l (n:Int) (Q:Int) m (n:Int) (j:Int) (Pg n Q l m j 0)=
 cond (Dc (Pg n Q l m Q 0)) (xM (.Cw [.agg [.int .i64 (n:Int),.int .i64 (Q:Int),.Bh (.own 112002 tB) .u64 (Pg n Q l m Q 0)],.int .i64 (0:Int)])) (xM (AaT 2)):=by
 intro cnt
 induction cnt with
 | zero =>
   intro j F hj hF;obtain⟨F,rfl⟩:∃G,F=G+1:=⟨F-1,by omega⟩
   obtain rfl:j=Q:=by omega
   have h36:=A9 n6 q6;rw[solve.BC.Up.B1,Bw,Ag (by omega),Af,GN (Af8 _ _) (by rw[Qg]; omega),Aa];cases Dc (Pg n j l m j 0)<;>rfl
 | succ cnt ih =>
   intro j F hj hF;obtain⟨F,rfl⟩:∃G,F=G+1:=⟨F-1,by omega⟩
   have hr:=AiH N n6 q6 hN hl hm al am (show j<Q by omega) F n 0 N (by omega) (by omega);rw[Y1] at hr;rw[solve.BC.Up.B1,Bw,Ac (show(j:Int)<(Q:Int) by omega),Aa];exact hr.trans (ih (j+1) F (by omega) (by omega))
end
theorem solve.BC.Up.Bi:Kq 110 solve.BC.Up.Bk:=D6 solve.BC.Up.E Tryz.func110 (kc Ag7.Bi (kc Bc.CF.own.Bi (kc solve.G4.Bi (kc Bu.Div.Bi (kc Bu.Finite.Bi (kc Bu.Mul.Bi (kc Bu.Sub.Bi .nil))))))) fun r c l p q m n hp=>by
 show ∃N dv drops,_=xM dv/\Wk drops dv (PH (Hb r q (Rt c l q m (wz r) (wz q))));obtain⟨h1,hn⟩:=Bf.1 (show(NI r c l p q m&&decide (n=r))=wg from hp);obtain⟨h2,h3⟩:=Bf.1 h1;obtain⟨hr,hm⟩:=Bf.1 h2;obtain⟨h4,h5⟩:=Bf.1 h3;obtain⟨al,am⟩:=Bf.1 h4;obtain⟨rfl,rfl⟩:=Bt.1 h5;obtain rfl:=A3 hn;have s1:=(Fb hr).1;have s2:=(Fb hm).2;obtain⟨R,C,rfl,hC,r6,c6,hl⟩:=CU hr;obtain⟨P,Q,hP,rfl,p6,q6,hl2⟩:=CU hm;obtain rfl:R=C:=by omega
 obtain rfl:R=P:=by omega
 have h:=AiI (n:=R) (Q:=Q) (l:=l) (m:=m) 8 r6 q6 (by omega) hl hl2 al am Q 0 8 (by omega) (by omega);rw[Y0,Ace,show((0:Nat):Int)=0 from rfl] at h;rw[Ad,Ad];unfold Hb;cases hf:Dc (Rt (R:Int) l (Q:Int) m R Q) with
 | true =>rw[hf,Aa] at h;rw[Az rfl];refine⟨8,.Cw [.agg [.int .i64 (R:Int),.int .i64 (Q:Int),.Bh (.own 112002 tB) .u64 (Rt (R:Int) l (Q:Int) m R Q)],.int .i64 0],[112002],?_,Wk.Gx (.cons (Tp (zh.2 rfl)) (.cons .int .nil))⟩;rw[solve.BC.Up.ev,s1,s2,Ah,Aa,Ad,Ad];exact h
 | false =>rw[hf,Af] at h;rw[Ay (by decide)];refine⟨8,AaT 2,[],?_,Ig⟩;rw[solve.BC.Up.ev,s1,s2,Ah,Aa,Ad,Ad];exact h
def qr.HY.E:=E0 [(19,Bc.Mul.Bk),(50,Bc.Du.Bk)]
theorem qr.HY.ev(N:Nat)(r c:Int)(l:Bb)(p q:Int)(m:Bb):BX qr.HY.E N f66 (Br f66) [.agg [.int .i64 r,.int .i64 c,.Bh .arg .u64 l],.agg [.int .i64 p,.int .i64 q,.Bh .arg .u64 m]]=cond (((CG r c l).2.2.2) !=(0:Int)) (xM (.Cw [.agg [.int .i64 0,.int .i64 0,.nil],.int .i64 ((CG r c l).2.2.2)])) (bif (Bg ((CG r c l).2.2.1)&&Bg m) then xM (.Cw [.agg [.int .i64 ((E6 ((CG r c l).1) ((CG r c l).2.1) ((CG r c l).2.2.1) p q m).1),.int .i64 ((E6 ((CG r c l).1) ((CG r c l).2.1) ((CG r c l).2.2.1) p q m).2.1),.Bh .BF .u64 ((E6 ((CG r c l).1) ((CG r c l).2.1) ((CG r c l).2.2.1) p q m).2.2.1)],.int .i64 ((E6 ((CG r c l).1) ((CG r c l).2.1) ((CG r c l).2.2.1) p q m).2.2.2)]) else xN):=by kernel_rfl
theorem TJ{n i:Nat}(h:i<n):(zg n).drop i=i::(zg n).drop (i+1):=by rw[yL (by rw[AH]; exact h),List.getElem_range]
theorem Gj{r c:Int}{l:Bb}(h:Cm r c l=0):B5 r c l=wg/\Dc l=wg:=by
 unfold Cm at h;by_cases h1:B5 r c l=wg
 ·rw[Az h1] at h;by_cases h2:Dc l=wg
  ·exact⟨h1,h2⟩
  ·rw[Ay h2] at h; exact absurd h (by decide)
 ·rw[Ay h1] at h; exact absurd h (by decide)
theorem Kh{r c:Int}{l:Bb}(h1:B5 r c l=wg)(h2:Dc l=wg):Cm r c l=0:=by unfold Cm; rw[Az h1,Az h2]
theorem Pu{x:Int}(h:x≠0):(x !=(0:Int))=wg:=by simpa using h
theorem Fv{x:Int}(h:x=0):(x !=(0:Int))=wy:=by rw[h]; rfl
theorem AbG(N:Nat){n:Nat}{l:Bb}(n6:n<=6)(hl:l.length=n*n)(al:Bg l=wg):∀(cnt i F:Nat),i+cnt=n->cnt<F ->
 solve.check.L0 (N+4) F (n:Int) (n:Int) l (i:Int)=xM (.int .i64 (if ((zg n).drop i).any (fun i:Nat=>decide (B8 (Cc (n:Int) l (i:Int) (i:Int))=0))=wg then 5 else 0)):=by
 intro cnt
 induction cnt with
 | zero =>
   intro i F hi hF;obtain⟨F,rfl⟩:∃G,F=G+1:=⟨F-1,by omega⟩
   rw[solve.check.B1,Bw,Ag (by omega),Af,Ap (by rw[AH]; omega)]; rfl
 | succ cnt ih =>
   intro i F hi hF;obtain⟨F,rfl⟩:∃G,F=G+1:=⟨F-1,by omega⟩
   obtain⟨e1,g1,g2⟩:=GR (R:=(n:Int)) (Dl n6 n6 hl (show i<n by omega) (show i<n by omega));have hx:vB l (wz ((i:Int)*(n:Int)+(i:Int))) 0=Cc (n:Int) l (i:Int) (i:Int):=rfl;rw[solve.check.B1,Bw,Ac (show(i:Int)<(n:Int) by omega),Aa,e1,Ac g1,Ac g2,Ah,Aa,hx,FT al,Aa,TJ (by omega),xG];by_cases hk:B8 (Cc (n:Int) l (i:Int) (i:Int))=0
   ·have e:(B8 (Cc (n:Int) l (i:Int) (i:Int))==(0:Int))=wg:=by rw[hk]; rfl
    rw[e,Aa,Ac hk]; rfl
   ·have e:(B8 (Cc (n:Int) l (i:Int) (i:Int))==(0:Int))=wy:=by simpa using hk
    rw[e,Af,Ag hk,yr,Bq (by omega) (by omega)];exact ih (i+1) F (by omega) (by omega)
theorem AkL{r c p:Int}:((r !=c)||(r !=p))=decide (r≠c\/r≠p):=by rw[Ar]; simp
theorem solve.check.Bi:Kq 109 solve.check.Bk:=D6 solve.check.E Tryz.func109 (kc Dw.Check.Bi (kc soft.Kind.Bi .nil)) fun r c l p q m hp=>by
 obtain⟨al,am⟩:=Bf.1 (show(Bg l&&Bg m)=wg from hp);refine⟨14,solve.check.out [.i r,.i c,.l l,.i p,.i q,.l m],[],?_,.int⟩;show _=xM (DV.int .i64 (Jo r c l p q m));rw[show(14:Nat)=10+4 from rfl,solve.check.ev,al,Aa,am,Aa,AkL];unfold Jo;by_cases h1:Cm r c l=0
 ·rw[Fv h1,Af,Ay (by rw[h1]; decide)];by_cases h2:Cm p q m=0
  ·rw[Fv h2,Af,Ay (by rw[h2]; decide)];by_cases h3:r≠c\/r≠p
   ·rw[Ac h3,Aa,Az h3]
   ·rw[Ag h3,Af,Ay h3];obtain rfl:r=c:=Decidable.byContradiction fun h=>h3 (.inl h)
    obtain⟨R,C,rfl,hC,r6,c6,hl⟩:=CU (Gj h1).1;obtain rfl:R=C:=by omega
    rw[Ad];exact AbG 10 r6 hl al R 0 14 (by omega) (by omega)
  ·rw[Pu h2,Aa,Az h2]
 ·rw[Pu h1,Aa,Az h1]
theorem RZ{r c:Int}{l:Bb}{p q:Int}{m:Bb}(h:Jo r c l p q m=0):B5 r c l=wg/\B5 p q m=wg/\r=c/\r=p:=by
 unfold Jo at h;by_cases h1:Cm r c l=0
 ·rw[Ay (by rw[h1]; decide)] at h;by_cases h2:Cm p q m=0
  ·rw[Ay (by rw[h2]; decide)] at h;by_cases h3:r≠c\/r≠p
   ·rw[Az h3] at h; exact absurd h (by decide)
   ·exact⟨(Gj h1).1,(Gj h2).1,Decidable.byContradiction fun h=>h3 (.inl h),Decidable.byContradiction fun h=>h3 (.inr h)⟩
  ·rw[Az h2] at h; exact absurd h h2
 ·rw[Az h1] at h; exact absurd h h1
theorem solve.Dt.Bi:Kq 67 solve.Dt.Bk:=D6 solve.Dt.E Tryz.func67 (kc solve.check.Bi (kc solve.BC.Up.Bi .nil)) fun r c l p q m hp=>by
 have hp:(Bg l&&Bg m)=wg:=hp;show ∃N dv drops,_=xM dv/\Wk drops dv (PH (Rq r c l p q m));unfold Rq;by_cases h:Jo r c l p q m=0
 ·obtain⟨h1,h2,h3,h4⟩:=RZ h;have ht:NI r c l p q m=wg:=Bf.2 ⟨Bf.2 ⟨h1,h2⟩,Bf.2 ⟨hp,Bt.2 ⟨h3,h4⟩⟩⟩;rw[Ay (by rw[h]; decide)];exact⟨0,_,[],by rw[solve.Dt.ev,hp,Aa,Fv h,Af,ht,Ac rfl]; rfl,LW⟩
 ·rw[Az h];exact⟨0,_,[],by rw[solve.Dt.ev,hp,Aa,Pu h,Aa]; rfl,Ig⟩
theorem Agh{b:Nat}{n:Int}(h:b<2^64):(Co b n).1<2^64:=by
 unfold Co;by_cases h4:Bj b=4
 ·rw[Az h4]; exact(by decide:Jt<2^64)
 rw[Ay h4];by_cases h3:Bj b=3\/Bj b=0
 ·rw[Az h3]; exact h
 rw[Ay h3];exact Qr _ _ _
theorem FP{b n:Int}(h:Bo b=wg):Bo (BP b n)=wg:=by obtain⟨x,rfl,hx⟩:=BR h;exact Cq (Agh (by rw[Ad]; exact hx))
theorem UW:∀(l:Bb) (m:Nat),m<2^64->It l m<2^64
 | [],m,h=>h
 | x::l,m,h=>by
   unfold It;split
   ·exact(by decide:Jt<2^64)
   ·have h2:CV x.toNat<2^63:=WC x.toNat;exact UW l _ (by omega)
theorem Me(l:Bb):Bo (BA l)=wg:=Cq (UW l 0 (by decide))
theorem PQ(x:Int):Bo (Gf x)=wg:=Cq (Nat.lt_trans (WC x.toNat) (by decide))
theorem AeJ(N:Nat){d:Bb}(hd:CW d=wg)(h7:d.length<=1000):∀(cnt i F:Nat),i+cnt=d.length->cnt<F ->
 solve.Flat.L1 N F d (i:Int)=xM (.Cw [.bool ((d.drop i).any fun x=>!(decide (Ma (BP (BA d) (-40)) x<0))),.int .i64 0]):=by
 obtain⟨_,hu⟩:=Hq hd;intro cnt
 induction cnt with
 | zero =>
   intro i F hi hF;obtain⟨F,rfl⟩:∃G,F=G+1:=⟨F-1,by omega⟩
   rw[solve.Flat.BZ,Bw,Ag (by omega),Af,Ap (by omega)]; rfl
 | succ cnt ih =>
   intro i F hi hF;obtain⟨F,rfl⟩:∃G,F=G+1:=⟨F-1,by omega⟩
   rw[solve.Flat.BZ,Bw,Ac (show(i:Int)<(d.length:Int) by omega),Aa,Ac (show(0:Int)<=(i:Int) by omega),Ah,Aa,Ad,Ac (show i<d.length by omega),Aa,
    FP (Me d),hu i (by omega),Ah,Aa,GD (by omega),xG]
   cases decide (Ma (BP (BA d) (-40)) (d.getD i 0)<0) with
   | false=>rfl
   | true =>rw[AD,Af,yr,Bq (by omega) (by omega)];exact ih (i+1) F (by omega) (by omega)
theorem Aks(c:Int)(l:Bb)(n:Nat):Bg (DA c l n)=wg:=Bt.2 fun x hx=>by obtain⟨j,_,rfl⟩:=zu.1 hx;exact PQ _
theorem H8(c:Int)(l:Bb)(n:Nat):(DA c l n).length=n:=by unfold DA; rw[AK,AH]
theorem AeL(N:Nat){R C:Nat}{l:Bb}(r6:R<=6)(c6:C<=6)(hN:7<N)(hl:l.length=R*C)(al:Bg l=wg):∀(cnt i F:Nat),i+cnt=min R C->cnt<F ->
 solve.Flat.L0 N F (R:Int) (C:Int) l (i:Int) (DA (C:Int) l i)=xM (.Cw [.bool (P2 (DA (C:Int) l (min R C))),.int .i64 0]):=by
 intro cnt
 induction cnt with
 | zero =>
   intro i F hi hF;obtain⟨F,rfl⟩:∃G,F=G+1:=⟨F-1,by omega⟩
   obtain rfl:i=min R C:=by omega
   have hlt:(BI (((min R C:Nat)):Int) (R:Int)&&BI (((min R C:Nat)):Int) (C:Int))=wy:=by rw[Bw,Bw,yP,Av,Av]; omega
   have ok:=GN (Aks (C:Int) l (min R C)) (by rw[H8]; omega);have sp:D1 (BA (DA (C:Int) l (min R C))) (-40:Int)=wg:=Bf.2 ⟨Me _,Bt.2 (by omega)⟩;rw[solve.Flat.B1,hlt,Af,ok,Aa,sp,Aa];exact AeJ N ok (by rw[H8]; omega) (min R C) 0 N (by rw[H8]; omega) (by omega)
 | succ cnt ih =>
   intro i F hi hF;obtain⟨F,rfl⟩:∃G,F=G+1:=⟨F-1,by omega⟩
   obtain⟨e1,g1,g2⟩:=GR (R:=(R:Int)) (Dl r6 c6 hl (show i<R by omega) (show i<C by omega));have hx:vB l (wz ((i:Int)*(C:Int)+(i:Int))) 0=Cc (C:Int) l (i:Int) (i:Int):=rfl
   rw[solve.Flat.B1,Bw,Bw,Ac (show(i:Int)<(R:Int) by omega),Ac (show(i:Int)<(C:Int) by omega),Ah,Aa,e1,Ac g1,Ac g2,Ah,Aa,hx,FT al,Aa,
    H8,Ac (show i+1<=GL by unfold GL; omega),Aa,Bq (by omega) (by omega)]
   have:=ih (i+1) F (by omega) (by omega);unfold DA at this ⊢;rw[GY] at this;exact this
theorem solve.Flat.Bi:Kq 52 solve.Flat.Bk:=D6 solve.Flat.E Tryz.func52 (kc Dw.Check.Bi (kc compare.J8.Bi (kc compare.Po.Bi (kc Bu.Cu.Bi (kc Bu.Ct.Bi .nil))))) fun r c l hp=>by
 have hp:Bg l=wg:=hp;refine⟨8,solve.Flat.out [.i r,.i c,.l l],[],?_,Wk.Gx (.cons .bool (.cons .int .nil))⟩;show _=xM (DV.Cw [.bool (Hr r c l).1,.int .i64 (Hr r c l).2]);rw[solve.Flat.ev,hp,Aa];unfold Hr Li;by_cases h1:Cm r c l=0
 ·obtain⟨R,C,rfl,rfl,r6,c6,hl⟩:=CU (Gj h1).1;rw[Fv h1,Af,Ay (by rw[h1]; decide),Ad,Ad];exact AeL 8 r6 c6 (by omega) hl hp (min R C) 0 8 (by omega) (by omega)
 ·rw[Pu h1,Aa,Az h1]
theorem Qz{r c:Int}{l:Bb}(al:Bg l=wg)(x y a b:Int):Bg (EW r c l x y a b).2.2.1=wg:=by
 unfold EW;split
 ·split
  ·dsimp only;exact FV fun i k=>FT al
  ·exact Bt.2 fun x h=>by cases h
 ·exact Bt.2 fun x h=>by cases h
theorem Qi{r c:Int}{l:Bb}(al:Bg l=wg):Bg (CG r c l).2.2.1=wg:=by
 unfold CG;split
 ·dsimp only;exact FV fun i k=>FT al
 ·exact Bt.2 fun x h=>by cases h
theorem OY(x y:Bb):Bo (Fu x y)=wg:=Cq (XY x y 0 (by decide))
theorem K5(r c:Int)(l:Bb)(p q:Int)(m:Bb):Bg (E6 r c l p q m).2.2.1=wg:=by
 unfold E6;split
 ·split
  ·dsimp only;exact FV fun i k=>OY _ _
  ·exact Bt.2 fun x h=>by cases h
 ·exact Bt.2 fun x h=>by cases h
theorem Rv(r c:Int)(l:Bb)(p q:Int)(m:Bb):Bg (Dh r c l p q m).2.2.1=wg:=by
 unfold Dh;split
 ·exact Bt.2 fun x h=>by cases h
 ·exact K5 _ _ _ _ _ _
theorem qr.HY.Bi:Kq 66 qr.HY.Bk:=D6 qr.HY.E Tryz.func66 (kc Bc.Mul.Bi (kc Bc.Du.Bi .nil)) fun r c l p q m hp=>by
 obtain⟨al,am⟩:=Bf.1 (show(Bg l&&Bg m)=wg from hp);show ∃N dv drops,_=xM dv/\Wk drops dv (PH (Dh r c l p q m));unfold Dh;by_cases h:(CG r c l).2.2.2=0
 ·rw[Ay (by rw[h]; decide)];exact⟨0,_,[],by rw[qr.HY.ev,Fv h,Af,Qi al,am]; rfl,LW⟩
 ·rw[Az h];exact⟨0,_,[],by rw[qr.HY.ev,Pu h,Aa]; rfl,Ig⟩
def qr.down.hint:Nat->Option BH
 | 0=>xM { CH:=[1,2,5,6,7],BW:=[(0,6,100006,.C3 114 2 []),(6,2,106002,.Bh 47 .u64 [])],Cf:=[1,2,5] }
 | 2=>xM { CH:=[1,2,5,6,7,8,9,12],BW:=[(6,2,106002,.Bh 47 .u64 []),(0,6,100006,.C3 114 2 [])],Cf:=[1,2,5] }
 | _=>xN
def qr.down.E:=CP (CC [(103,B7.Apply.Bk),(134,B7.En.Bk),(59,Bc.EB.Bk)]) (fun n=>zj n 46) qr.down.hint (fun _=>xN)
section
variable(N M0 M:Nat)(r c:Int)(l:Bb)(p7:Int)(p6:List (List DV))(p2_2:Bb)(p12_1:Int)(p2_1:Bb)(p7_1:Int)(p8:Bb)(p9:Int)(p6_1:List (List DV))
def qr.down.L0:Option DV:=BU qr.down.E N f101 (Br f101) [1,1,1,0,1,0,0,1,0,0,1,1,1,1,0,1,0] [M0] M ⟨EP 88 [(1,.ptr 1 0 0),(2,.ptr 2 0 0),(5,.ptr 5 0 0),(6,.De 100006),(7,.int .i64 p7_1),(8,.Bh .BF .u64 p8),(9,.int .u64 p9),(12,.int .i64 p12_1)],[(1,wy,.box [.int .i64 r,.int .i64 c,.Bh .arg .u64 l]),(2,wy,.box [.int .i64 0,.int .i64 0,.nil]),(5,wy,.box [.int .i64 r,.int .i64 c,.De 106002]),(106002,wy,.Bh 47 .u64 p2_1),(100006,wy,.C3 114 2 p6_1)]⟩
def qr.down.L1:Option DV:=BU qr.down.E N f101 (Br f101) [1,1,1,0,1,0] [] M ⟨EP 88 [(1,.ptr 1 0 0),(2,.ptr 2 0 0),(5,.ptr 5 0 0),(6,.De 100006),(7,.int .i64 p7)],[(1,wy,.box [.int .i64 r,.int .i64 c,.Bh .arg .u64 l]),(2,wy,.box [.int .i64 0,.int .i64 0,.nil]),(5,wy,.box [.int .i64 r,.int .i64 c,.De 106002]),(100006,wy,.C3 114 2 p6),(106002,wy,.Bh 47 .u64 p2_2)]⟩
def qr.down.L2:Option DV:=BU qr.down.E N f101 (Br f101) [1,1,1,0,1,0] [] M ⟨EP 88 [(1,.ptr 1 0 0),(2,.ptr 2 0 0),(5,.ptr 5 0 0),(6,.De 100006),(7,.int .i64 0)],[(1,wy,.box [.int .i64 r,.int .i64 c,.Bh .arg .u64 l]),(2,wy,.box [.int .i64 0,.int .i64 0,.nil]),(5,wy,.box [.int .i64 r,.int .i64 c,.Bh .arg .u64 l]),(100006,wy,.C3 114 2 [])]⟩
theorem qr.down.B1:qr.down.L0 N M0 (M+1) r c l p12_1 p2_1 p7_1 p8 p9 p6_1=cond (BI p12_1 r) (bif ((decide (0<=(Be ((Be (p12_1*c))+p7_1))))&&(decide ((Be ((Be (p12_1*c))+p7_1))<(vA p2_1:Int)))) then cond (decide ((wz (Be ((Be (p12_1*c))+p7_1)))<(vA p2_1))) (qr.down.L0 N M0 M r c l (Be (p12_1+1)) (zw p2_1 (wz (Be ((Be (p12_1*c))+p7_1))) 0) p7_1 p8 p9 p6_1) xN else xN) (bif (decide ((vA p6_1)+1<=QL)) then qr.down.L1 N M0 r c l (Be (p7_1+1)) (p6_1++[[.Bh .arg .u64 p8,.int .u64 p9]]) p2_1 else xN):=by kernel_rfl
theorem qr.down.BZ:qr.down.L1 N (M+1) r c l p7 p6 p2_2=cond ((BI p7 c)&&(BI p7 (Be (r-1)))) (bif (EM r c p2_2 p7&&CE (0<=p7/\p7<=r)) then cond (CW (Cb c p2_2 p7 p7 (wz (r-p7)))) (bif (((BV (Cb c p2_2 p7 p7 (wz (r-p7)))).2.2.2) !=(0:Int)) then xM (.Cw [.agg [.int .i64 0,.int .i64 0,.nil],.nil,.int .i64 2]) else bif (((B5 r c p2_2&&HW r c p7 p7 ((BV (Cb c p2_2 p7 p7 (wz (r-p7)))).1))&&(Bg p2_2&&Bg ((BV (Cb c p2_2 p7 p7 (wz (r-p7)))).1)))&&Bo ((BV (Cb c p2_2 p7 p7 (wz (r-p7)))).2.1)) then cond ((decide (0<=(Be ((Be (p7*c))+p7))))&&(decide ((Be ((Be (p7*c))+p7))<(vA (Eh (wz r) (wz c) p2_2 p7 p7 ((BV (Cb c p2_2 p7 p7 (wz (r-p7)))).1) ((BV (Cb c p2_2 p7 p7 (wz (r-p7)))).2.1)):Int)))) (bif (decide ((wz (Be ((Be (p7*c))+p7)))<(vA (Eh (wz r) (wz c) p2_2 p7 p7 ((BV (Cb c p2_2 p7 p7 (wz (r-p7)))).1) ((BV (Cb c p2_2 p7 p7 (wz (r-p7)))).2.1))))) then qr.down.L0 N M N r c l (Be (p7+1)) (zw (Eh (wz r) (wz c) p2_2 p7 p7 ((BV (Cb c p2_2 p7 p7 (wz (r-p7)))).1) ((BV (Cb c p2_2 p7 p7 (wz (r-p7)))).2.1)) (wz (Be ((Be (p7*c))+p7))) ((BV (Cb c p2_2 p7 p7 (wz (r-p7)))).2.2.1)) p7 ((BV (Cb c p2_2 p7 p7 (wz (r-p7)))).1) ((BV (Cb c p2_2 p7 p7 (wz (r-p7)))).2.1) p6 else xN) xN else xN) xN else xN) (xM (.Cw [.agg [.int .i64 r,.int .i64 c,.Bh (.own 106002 47) .u64 p2_2],.C3 (.own 100006 114) 2 p6,.int .i64 0])) :=Et (B4 (L8 (BI p7 c)) (B4 (L8 (BI p7 c)) (B4 (Ka (BI p7 c)) (B4 (Ka (BI p7 c)) (B4 (WQ (BI p7 c)) (B4 (Pp (BI p7 c)) (C0 (tt1 _ _) rfl rfl)))))))
theorem qr.down.EU:qr.down.L2 N (M+1) r c l=cond ((BI 0 c)&&(BI 0 (Be (r-1)))) (bif (EM r c l 0&&CE (0<=(0:Int)/\(0:Int)<=r)) then cond (CW (Cb c l 0 0 (wz (r-0)))) (bif (((BV (Cb c l 0 0 (wz (r-0)))).2.2.2) !=(0:Int)) then xM (.Cw [.agg [.int .i64 0,.int .i64 0,.nil],.nil,.int .i64 2]) else bif (((B5 r c l&&HW r c 0 0 ((BV (Cb c l 0 0 (wz (r-0)))).1))&&(Bg l&&Bg ((BV (Cb c l 0 0 (wz (r-0)))).1)))&&Bo ((BV (Cb c l 0 0 (wz (r-0)))).2.1)) then cond ((decide (0<=(Be ((Be ((0:Int)*c))+0))))&&(decide ((Be ((Be ((0:Int)*c))+0))<(vA (Eh (wz r) (wz c) l 0 0 ((BV (Cb c l 0 0 (wz (r-0)))).1) ((BV (Cb c l 0 0 (wz (r-0)))).2.1)):Int)))) (bif (decide ((wz (Be ((Be ((0:Int)*c))+0)))<(vA (Eh (wz r) (wz c) l 0 0 ((BV (Cb c l 0 0 (wz (r-0)))).1) ((BV (Cb c l 0 0 (wz (r-0)))).2.1))))) then qr.down.L0 N M N r c l 1 (zw (Eh (wz r) (wz c) l 0 0 ((BV (Cb c l 0 0 (wz (r-0)))).1) ((BV (Cb c l 0 0 (wz (r-0)))).2.1)) (wz (Be ((Be ((0:Int)*c))+0))) ((BV (Cb c l 0 0 (wz (r-0)))).2.2.1)) 0 ((BV (Cb c l 0 0 (wz (r-0)))).1) ((BV (Cb c l 0 0 (wz (r-0)))).2.1) [] else xN) xN else xN) xN else xN) (xM (.Cw [.agg [.int .i64 r,.int .i64 c,.Bh .arg .u64 l],.C3 (.own 100006 114) 2 [],.int .i64 0])) :=Et (B4 (L8 (BI 0 c)) (B4 (L8 (BI 0 c)) (B4 (Ka (BI 0 c)) (B4 (Ka (BI 0 c)) (B4 (WQ (BI 0 c)) (B4 (Pp (BI 0 c)) (C0 (tt1 _ _) rfl rfl)))))))
theorem qr.down.ev:BX qr.down.E N f101 (Br f101) [.agg [.int .i64 r,.int .i64 c,.Bh .arg .u64 l]]=
 qr.down.L2 N N r c l:=by kernel_rfl
end
def qr.Ch.hint:Nat->Option BH
 | 0=>xM { CH:=[2,3,5,6],BW:=[],Cf:=[2,3] }
 | _=>xN
def qr.Ch.Il:List (Nat × EC):=[(49,Dw.Check.Bk),(103,B7.Apply.Bk),(102,Bc.FE.Bk),(101,qr.down.Bk),(104,Bu.Finite.Bk)]
def qr.Ch.E:Env:=Oj (CC qr.Ch.Il) (fun _=>wy) qr.Ch.hint (fun _=>xN) (Vc [(22,[.s .u64]),(47,[.i .u64])])
section
variable(N M:Nat)(r c:Int)(l:Bb)(p6:Int)(p2:Bb)
def qr.Ch.L0:Option DV:=BU qr.Ch.E N f51 (Br f51) [1,0,1,1,1,1,1,1,0,0] [] M ⟨EP 81 [(2,.ptr 2 0 0),(3,.ptr 3 0 0),(5,.C3 .BF 2 (M3 r c ([]++l))),(6,.int .i64 p6)],[(2,wy,.box [.int .i64 ((Ng r).1),.int .i64 ((Ng r).2.1),.Bh .BF .u64 p2]),(3,wy,.box [.int .i64 ((Ga r c ([]++l)).1),.int .i64 ((Ga r c ([]++l)).2.1),.Bh .arg .u64 ((Ga r c ([]++l)).2.2.1)])]⟩
theorem qr.Ch.B1:qr.Ch.L0 N (M+1) r c l p6 p2=cond (BI p6 0) (bif (CW p2) then cond ((!(Dc p2))||(CW ((Ga r c ([]++l)).2.2.1))) (bif ((!(Dc p2))||(!(Dc ((Ga r c ([]++l)).2.2.1)))) then xM (.Cw [.agg [.int .i64 0,.int .i64 0,.nil],.agg [.int .i64 0,.int .i64 0,.nil],.int .i64 2]) else xM (.Cw [.agg [.int .i64 ((Ng r).1),.int .i64 ((Ng r).2.1),.Bh .BF .u64 p2],.agg [.int .i64 ((Ga r c ([]++l)).1),.int .i64 ((Ga r c ([]++l)).2.1),.Bh .arg .u64 ((Ga r c ([]++l)).2.2.1)],.int .i64 0])) xN else xN) (bif ((decide (0<=p6))&&(decide (p6<(vA (M3 r c ([]++l)):Int)))) then cond (Wl (.s .u64) (vB (vB (M3 r c ([]++l)) (wz p6) []) 0 .undef)) (bif ((decide (0<=p6))&&(decide (p6<(vA (M3 r c ([]++l)):Int)))) then cond (Wl (.i .u64) (vB (vB (M3 r c ([]++l)) (wz p6) []) 1 .undef)) (bif (((B5 ((Ng r).1) ((Ng r).2.1) p2&&HW ((Ng r).1) ((Ng r).2.1) p6 0 (GC (vB (vB (M3 r c ([]++l)) (wz p6) []) 0 .undef)))&&(Bg p2&&Bg (GC (vB (vB (M3 r c ([]++l)) (wz p6) []) 0 .undef))))&&Bo (JT (vB (vB (M3 r c ([]++l)) (wz p6) []) 1 .undef))) then qr.Ch.L0 N M r c l (Be (p6-1)) (Eh (wz ((Ng r).1)) (wz ((Ng r).2.1)) p2 p6 0 (GC (vB (vB (M3 r c ([]++l)) (wz p6) []) 0 .undef)) (JT (vB (vB (M3 r c ([]++l)) (wz p6) []) 1 .undef))) else xN) xN else xN) xN else xN) :=Et (DJ (DJ (B4 (WN (Dc p2)) (B4 (PA (Dc p2)) (C0 (Ad9 _ _) (B4 (PA (Dc p2)) (B4 (WO (Dc p2)) (C0 (AfN _ _) rfl rfl))) rfl))) rfl) (C0 (I1 _ _) (C0 (Cp _) (C0 (I1 _ _) (C0 (Cp _) (C0 (Cp _) rfl rfl) rfl) rfl) rfl) rfl))
theorem qr.Ch.ev:BX qr.Ch.E N f51 (Br f51) [.agg [.int .i64 r,.int .i64 c,.Bh .arg .u64 l]]=cond (Bg l) (bif ((Cm r c l) !=(0:Int)) then xM (.Cw [.agg [.int .i64 0,.int .i64 0,.nil],.agg [.int .i64 0,.int .i64 0,.nil],.int .i64 (Cm r c l)]) else bif (decide (0+(vA l)<=GL)) then cond ((B5 r c ([]++l)&&Dc ([]++l))&&Bg ([]++l)) (bif (((Ga r c ([]++l)).2.2.2) !=(0:Int)) then xM (.Cw [.agg [.int .i64 0,.int .i64 0,.nil],.agg [.int .i64 0,.int .i64 0,.nil],.int .i64 ((Ga r c ([]++l)).2.2.2)]) else qr.Ch.L0 N N r c l (Be ((vA (M3 r c ([]++l)):Int)-1)) ((Ng r).2.2.1)) xN else xN) xN :=Et (DJ (DJ rfl (C0 (Cp _) (C0 (Cp _) rfl rfl) rfl)) rfl)
end
abbrev qr.Ch.Kn:=DR prog 51 qr.Ch.Bk
theorem qr.Ch.DF(hk:FD prog qr.Ch.Il)(h:Hyp qr.Ch.E f51 qr.Ch.ts qr.Ch.pre qr.Ch.out):qr.Ch.Kn :=Fk (OW hk _ _ _ _) func51 (by kernel_rfl) (by kernel_rfl) h
def qr.Iu.E:=E0 [(20,Bc.Part.Bk),(51,qr.Ch.Bk)]
theorem qr.Iu.ev(N:Nat)(r c:Int)(l:Bb):BX qr.Iu.E N f65 (Br f65) [.agg [.int .i64 r,.int .i64 c,.Bh .arg .u64 l]]=cond (Bg l) (bif ((DZ r c l) !=(0:Int)) then xM (.Cw [.agg [.int .i64 0,.int .i64 0,.nil],.agg [.int .i64 0,.int .i64 0,.nil],.int .i64 (DZ r c l)]) else xM (.Cw [.agg [.int .i64 ((EW ((qX r c l).1) ((qX r c l).2.1) ((qX r c l).2.2.1) 0 0 r (min r c)).1),.int .i64 ((EW ((qX r c l).1) ((qX r c l).2.1) ((qX r c l).2.2.1) 0 0 r (min r c)).2.1),.Bh .BF .u64 ((EW ((qX r c l).1) ((qX r c l).2.1) ((qX r c l).2.2.1) 0 0 r (min r c)).2.2.1)],.agg [.int .i64 ((EW ((rX r c l).1) ((rX r c l).2.1) ((rX r c l).2.2.1) 0 0 (min r c) c).1),.int .i64 ((EW ((rX r c l).1) ((rX r c l).2.1) ((rX r c l).2.2.1) 0 0 (min r c) c).2.1),.Bh .BF .u64 ((EW ((rX r c l).1) ((rX r c l).2.1) ((rX r c l).2.2.1) 0 0 (min r c) c).2.2.1)],.int .i64 0])) xN:=by kernel_rfl
def solve.F3.hint:Nat->Option BH
 | 0=>xM { CH:=[2,3,4,17,18],BW:=[],Cf:=[2,3,4] }
 | _=>xN
def solve.F3.E:=CP (CC [(49,Dw.Check.Bk),(65,qr.Iu.Bk),(66,qr.HY.Bk),(52,solve.Flat.Bk),(67,solve.Dt.Bk)]) (fun _=>wy) solve.F3.hint (fun _=>xN)
theorem solve.F3.ev(N:Nat)(r c:Int)(l:Bb)(p q:Int)(m:Bb):BX solve.F3.E (N+4) f22 (Br f22) [.agg [.int .i64 r,.int .i64 c,.Bh .arg .u64 l],.agg [.int .i64 p,.int .i64 q,.Bh .arg .u64 m]]=cond (Bg l) (bif ((Cm r c l) !=(0:Int)) then xM (.Cw [.agg [.int .i64 0,.int .i64 0,.nil],.int .i64 (Cm r c l)]) else bif (Bg m) then cond ((Cm p q m) !=(0:Int)) (xM (.Cw [.agg [.int .i64 0,.int .i64 0,.nil],.int .i64 (Cm p q m)])) (bif ((BI r c)||(r !=p)) then xM (.Cw [.agg [.int .i64 0,.int .i64 0,.nil],.int .i64 3]) else bif (Bg l) then cond ((DZ r c l) !=(0:Int)) (xM (.Cw [.agg [.int .i64 0,.int .i64 0,.nil],.int .i64 (DZ r c l)])) (bif (Bg ((GH r c l).2.2.1)) then cond ((Hr ((GH r c l).1) ((GH r c l).2.1) ((GH r c l).2.2.1)).1) (xM (.Cw [.agg [.int .i64 0,.int .i64 0,.nil],.int .i64 5])) (bif (Bg ((E3 r c l).2.2.1)&&Bg m) then cond (((Dh ((E3 r c l).1) ((E3 r c l).2.1) ((E3 r c l).2.2.1) p q m).2.2.2) !=(0:Int)) (xM (.Cw [.agg [.int .i64 0,.int .i64 0,.nil],.int .i64 ((Dh ((E3 r c l).1) ((E3 r c l).2.1) ((E3 r c l).2.2.1) p q m).2.2.2)])) (bif (Bg ((GH r c l).2.2.1)&&Bg ((Dh ((E3 r c l).1) ((E3 r c l).2.1) ((E3 r c l).2.2.1) p q m).2.2.1)) then xM (.Cw [.agg [.int .i64 ((Rq ((GH r c l).1) ((GH r c l).2.1) ((GH r c l).2.2.1) ((Dh ((E3 r c l).1) ((E3 r c l).2.1) ((E3 r c l).2.2.1) p q m).1) ((Dh ((E3 r c l).1) ((E3 r c l).2.1) ((E3 r c l).2.2.1) p q m).2.1) ((Dh ((E3 r c l).1) ((E3 r c l).2.1) ((E3 r c l).2.2.1) p q m).2.2.1)).1),.int .i64 ((Rq ((GH r c l).1) ((GH r c l).2.1) ((GH r c l).2.2.1) ((Dh ((E3 r c l).1) ((E3 r c l).2.1) ((E3 r c l).2.2.1) p q m).1) ((Dh ((E3 r c l).1) ((E3 r c l).2.1) ((E3 r c l).2.2.1) p q m).2.1) ((Dh ((E3 r c l).1) ((E3 r c l).2.1) ((E3 r c l).2.2.1) p q m).2.2.1)).2.1),.Bh .BF .u64 ((Rq ((GH r c l).1) ((GH r c l).2.1) ((GH r c l).2.2.1) ((Dh ((E3 r c l).1) ((E3 r c l).2.1) ((E3 r c l).2.2.1) p q m).1) ((Dh ((E3 r c l).1) ((E3 r c l).2.1) ((E3 r c l).2.2.1) p q m).2.1) ((Dh ((E3 r c l).1) ((E3 r c l).2.1) ((E3 r c l).2.2.1) p q m).2.2.1)).2.2.1)],.int .i64 ((Rq ((GH r c l).1) ((GH r c l).2.1) ((GH r c l).2.2.1) ((Dh ((E3 r c l).1) ((E3 r c l).2.1) ((E3 r c l).2.2.1) p q m).1) ((Dh ((E3 r c l).1) ((E3 r c l).2.1) ((E3 r c l).2.2.1) p q m).2.1) ((Dh ((E3 r c l).1) ((E3 r c l).2.1) ((E3 r c l).2.2.1) p q m).2.2.1)).2.2.2)]) else xN) else xN) else xN) else xN) else xN) xN :=Et (DJ (DJ rfl (DJ (DJ rfl (B4 (O1 (BI r c)) (B4 (Nx (BI r c)) (B4 (O1 (BI r c)) (B4 (Nx (BI r c)) (B4 (tt8 (BI r c)) (B4 (SM (BI r c)) (C0 (tt5 _ _) rfl rfl)))))))) rfl)) rfl)
def clS(R C:Nat)(l:Bb)(j:Nat)(x:Int)(i:Nat):Bb:=Cg R C fun a b=>if b=j/\j<=a/\a<i then (if a=j then x else 0) else Cc (C:Int) l (a:Int) (b:Int)
section
variable{R C j:Nat}{l:Bb}{x:Int}
theorem Ado(i:Nat):(clS R C l j x i).length=R*C:=Ca _ _ _
theorem RY(hl:l.length=R*C)(hj:j<C):zw l (j*C+j) x=clS R C l j x (j+1):=by
 unfold clS
 conv=>lhs; rw[<- KN hl]
 rw[QS hj];refine Dv fun a b ha hb=>?_
 by_cases h:a=j/\b=j
 ·rw[Az h,Az (by omega),Az h.1]
 ·rw[Ay h,Ay (by omega)]
theorem Adn{i:Nat}(hj:j<C)(hi:j<i):zw (clS R C l j x i) (i*C+j) 0=clS R C l j x (i+1):=by
 unfold clS;rw[QS hj];refine Dv fun a b ha hb=>?_
 by_cases h:a=i/\b=j
 ·rw[Az h,Az (by omega),Ay (by omega)]
 ·rw[Ay h];by_cases h2:b=j/\j<=a/\a<i
  ·rw[Az h2,Az (show b=j/\j<=a/\a<i+1 by omega)]
  ·rw[Ay h2,Ay (by omega)]
theorem Adp:clS R C l j x R=H9 R C l j x:=by
 unfold clS H9;refine Dv fun a b ha hb=>?_
 by_cases h:b=j/\j<=a
 ·rw[Az h,Az (by omega)]
 ·rw[Ay h,Ay (by omega)]
end
theorem Uc{C i j:Nat}(hi:i<=6)(hC:C<=6)(hj:j<=6):Be (Be ((i:Int)*(C:Int))+(j:Int))=((i*C+j:Nat):Int):=by have h36:=A9 hi hC;rw[Bq (x:=(i:Int)*(C:Int)) (by rw[<- Ax]; omega) (by rw[<- Ax]; omega),<- Ax,Bq (by omega) (by omega)];omega
section
variable{R C:Nat}
theorem UJ(N M0:Nat)(l0:Bb)(r6:R<=6)(c6:C<=6){j:Nat}(hj:j<C)(l:Bb)(x:Int)(v:Bb)(t:Int)(ms:List (List DV))(hms:ms.length<=100):∀(cnt i F:Nat),i+cnt=R->j<i->cnt<F ->
 qr.down.L0 N M0 F (R:Int) (C:Int) l0 (i:Int) (clS R C l j x i) (j:Int) v t ms=qr.down.L1 N M0 (R:Int) (C:Int) l0 ((j+1:Nat):Int) (ms++[[.Bh .arg .u64 v,.int .u64 t]]) (H9 R C l j x):=by
 intro cnt
 induction cnt with
 | zero =>
   intro i F hi hji hF;obtain⟨F,rfl⟩:∃G,F=G+1:=⟨F-1,by omega⟩
   obtain rfl:i=R:=by omega
   rw[qr.down.B1,Bw,Ag (by omega),Af,Ac (by unfold QL; omega),Aa,Bq (by omega) (by omega),Adp];rfl
 | succ cnt ih =>
   intro i F hi hji hF;obtain⟨F,rfl⟩:∃G,F=G+1:=⟨F-1,by omega⟩
   have hlen:=Ado (R:=R) (C:=C) (l:=l) (j:=j) (x:=x) i;have hp:=HJ (show i<R by omega) hj;rw[qr.down.B1,Bw,Ac (by omega),Aa,Uc (by omega) c6 (by omega),Ac (by omega),Ac (by omega),Ah,Aa,Ad,Ac (by omega),Aa,Adn hj hji,Bq (by omega) (by omega)];exact ih (i+1) F (by omega) (by omega) (by omega)
def P5(r c:Nat)(ms:List (List DV)):Option (Bb × List (Bb × Int))->DV
 | none=>.Cw [.agg [.int .i64 0,.int .i64 0,.nil],.nil,.int .i64 2]
 | some x=>.Cw [.agg [.int .i64 (r:Int),.int .i64 (c:Int),.Bh (.own 106002 tB) .u64 x.1],.C3 (.own 100006 tMR) 2 (ms++Ue x.2),.int .i64 0]
theorem AeR(N:Nat)(hN:7<N)(l0:Bb)(r6:R<=6)(c6:C<=6):∀(cnt j F:Nat) (l:Bb) (ms:List (List DV)),j+cnt=Er R C->cnt<F->l.length=R*C->Bg l=wg->ms.length=j ->
 qr.down.L1 N F (R:Int) (C:Int) l0 (j:Int) ms l=xM (P5 R C ms (FZ R C cnt j l)):=by
 intro cnt
 induction cnt with
 | zero =>
   intro j F l ms hj hF hl al hms;obtain⟨F,rfl⟩:∃G,F=G+1:=⟨F-1,by omega⟩
   unfold Er at hj
   have hlt:(BI (j:Int) (C:Int)&&BI (j:Int) (Be ((R:Int)-1)))=wy:=by rw[Bw,Bw,Bq (by omega) (by omega),yP,Av,Av]; omega
   rw[qr.down.BZ,hlt,Af];simp[FZ,P5,Ue]
 | succ cnt ih =>
   intro j F l ms hj hF hl al hms;obtain⟨F,rfl⟩:∃G,F=G+1:=⟨F-1,by omega⟩
   have hj0:=hj;unfold Er at hj;have hr:=D8 r6 c6 hl
   have hlt:(BI (j:Int) (C:Int)&&BI (j:Int) (Be ((R:Int)-1)))=wg:=by rw[Bw,Bw,Bq (by omega) (by omega),Ac (by omega),Ac (by omega)]; rfl
   have cp:EM (R:Int) (C:Int) l (j:Int)=wg:=Bf.2 ⟨hr,Bt.2 (by omega)⟩;have ec:Cb (C:Int) l (j:Int) (j:Int) (wz ((R:Int)-(j:Int)))=CT R C l j:=by unfold CT; rw[show wz ((R:Int)-(j:Int))=R-j by omega]
   have ca:Bg (CT R C l j)=wg:=HU al;have cl:(CT R C l j).length=R-j:=FO _ _ _ _ _;rw[qr.down.BZ,hlt,Aa,cp,Bt.2 (show 0<=(j:Int)/\(j:Int)<=(R:Int) by omega),Ah,Aa,ec,GN ca (by omega),Aa];unfold FZ;by_cases he:(BV (CT R C l j)).2.2.2=0
   ·have hml:=Ld he;have hma:=QD ca;have hap:HW (R:Int) (C:Int) (j:Int) (j:Int) (BV (CT R C l j)).1=wg:=Ac (by omega);have hp:=HJ (show j<R by omega) (show j<C by omega);have hlen:=JC R C l (j:Int) (j:Int) (BV (CT R C l j)).1 (BV (CT R C l j)).2.1;have hg:=UJ N F l0 r6 c6 (show j<C by omega) (Eh R C l (j:Int) (j:Int) (BV (CT R C l j)).1 (BV (CT R C l j)).2.1) (BV (CT R C l j)).2.2.1 (BV (CT R C l j)).1 (BV (CT R C l j)).2.1 ms (by omega) (R-(j+1)) (j+1) N (by omega) (by omega) (by omega);have hn:=ih (j+1) F (Kg R C l j) (ms++[[.Bh .arg .u64 (BV (CT R C l j)).1,.int .u64 (BV (CT R C l j)).2.1]]) (by omega) (by omega) (LK _ _ _ _) (LL al j) (by rw[A5,hms]; rfl)
    rw[Fv he,Af,hr,hap,al,hma.1,hma.2.1,Ah,Ah,Ah,Aa,Uc (by omega) c6 (by omega),Ad,Ad,Ad,Ac (by omega),Ac (by omega),Ah,Aa,Ac (by omega),Aa,
     RY hlen (by omega),Bq (by omega) (by omega),Az he]
    refine(hg.trans hn).trans ?_;show xM (P5 R C _ (FZ R C cnt (j+1) (Kg R C l j)))=xM (P5 R C ms _);cases FZ R C cnt (j+1) (Kg R C l j) with
    | none=>rfl
    | some x=>simp[P5,Ue]
   ·rw[Pu he,Aa,Ay he]; rfl
theorem Ab8(N:Nat)(hN:7<N){l:Bb}(r6:R<=6)(c6:C<=6)(hl:l.length=R*C)(al:Bg l=wg)(h0:Er R C≠0):
 qr.down.L2 N N (R:Int) (C:Int) l=xM (P5 R C [] (Gw R C l)):=by
 obtain⟨cnt,hc⟩:∃cnt,Er R C=cnt+1:=⟨Er R C-1,by omega⟩
 obtain⟨F,rfl⟩:∃G,N=G+1:=⟨N-1,by omega⟩
 have hj:=hc;unfold Er at hj;have hr:=D8 r6 c6 hl
 have hlt:(BI (0:Int) (C:Int)&&BI (0:Int) (Be ((R:Int)-1)))=wg:=by rw[Bw,Bw,Bq (by omega) (by omega),Ac (by omega),Ac (by omega)]; rfl
 have cp:EM (R:Int) (C:Int) l (0:Int)=wg:=Bf.2 ⟨hr,Bt.2 (by omega)⟩;have ec:Cb (C:Int) l (0:Int) (0:Int) (wz ((R:Int)-(0:Int)))=CT R C l 0:=by unfold CT; rw[show wz ((R:Int)-(0:Int))=R-0 by omega]; rfl
 have ca:Bg (CT R C l 0)=wg:=HU al;have cl:(CT R C l 0).length=R-0:=FO _ _ _ _ _;unfold Gw;rw[hc,qr.down.EU,hlt,Aa,cp,Bt.2 (show 0<=(0:Int)/\(0:Int)<=(R:Int) by omega),Ah,Aa,ec,GN ca (by omega),Aa];unfold FZ;by_cases he:(BV (CT R C l 0)).2.2.2=0
 ·have hml:=Ld he;have hma:=QD ca;have hap:HW (R:Int) (C:Int) (0:Int) (0:Int) (BV (CT R C l 0)).1=wg:=Ac (by omega);have hp:=HJ (show 0<R by omega) (show 0<C by omega);have hlen:=JC R C l (0:Int) (0:Int) (BV (CT R C l 0)).1 (BV (CT R C l 0)).2.1;have hg:=UJ (F+1) F l r6 c6 (show 0<C by omega) (Eh R C l (0:Int) (0:Int) (BV (CT R C l 0)).1 (BV (CT R C l 0)).2.1) (BV (CT R C l 0)).2.2.1 (BV (CT R C l 0)).1 (BV (CT R C l 0)).2.1 [] (Nat.zero_le _) (R-1) 1 (F+1) (by omega) (by omega) (by omega);have hn:=AeR (R:=R) (C:=C) (F+1) hN l r6 c6 cnt 1 F (Kg R C l 0) [[.Bh .arg .u64 (BV (CT R C l 0)).1,.int .u64 (BV (CT R C l 0)).2.1]] (by omega) (by unfold Er at hc; omega) (LK _ _ _ _) (LL al 0) rfl;have mc:=Uc (i:=0) (C:=C) (j:=0) (by omega) c6 (by omega);have mc:Be (Be ((0:Int)*(C:Int))+(0:Int))=((0*C+0:Nat):Int):=mc
  rw[Fv he,Af,hr,hap,al,hma.1,hma.2.1,Ah,Ah,Ah,Aa,mc,Ad,Ad,Ad,Ac (by omega),Ac (by omega),Ah,Aa,Ac (by omega),Aa,
   RY hlen (by omega),Az he]
  refine(hg.trans hn).trans ?_;show xM (P5 R C _ (FZ R C cnt 1 (Kg R C l 0)))=xM (P5 R C [] _);cases FZ R C cnt (0+1) (Kg R C l 0) with
  | none=>rfl
  | some x=>simp[P5,Ue]
 ·rw[Pu he,Aa,Ay he]; rfl
end
theorem qr.down.Bi:Kq 101 qr.down.Bk:=D6 qr.down.E Tryz.func101 (kc B7.Apply.Bi (kc B7.En.Bi (kc Bc.EB.Bi .nil))) fun r c l hp=>by
 obtain⟨h1,al⟩:=Bf.1 (show((B5 r c l&&Dc l)&&Bg l)=wg from hp);obtain⟨hr,hf⟩:=Bf.1 h1;obtain⟨R,C,rfl,rfl,r6,c6,hl⟩:=CU hr;by_cases h0:Er R C=0
 ·have hx:Gw R C l=xM (l,[]):=by unfold Gw; rw[h0]; rfl
  refine⟨8,.Cw [.agg [.int .i64 (R:Int),.int .i64 (C:Int),.Bh .arg .u64 l],.C3 (.own 100006 tMR) 2 [],.int .i64 0],[100006],?_,?_⟩
  ·unfold Er at h0
   have hlt:(BI (0:Int) (C:Int)&&BI (0:Int) (Be ((R:Int)-1)))=wy:=by rw[Bw,Bw,Bq (by omega) (by omega),yP,Av,Av]; omega
   rw[qr.down.ev,show(8:Nat)=7+1 from rfl,qr.down.EU,hlt,Af]
  ·show Wk _ _ (DV.Cw [.agg [.int .i64 (Ga (R:Int) (C:Int) l).1,.int .i64 (Ga (R:Int) (C:Int) l).2.1,.Bh .arg .u64 (Ga (R:Int) (C:Int) l).2.2.1],.C3 .BF 2 (M3 (R:Int) (C:Int) l),.int .i64 (Ga (R:Int) (C:Int) l).2.2.2]);unfold Ga M3 Fc;rw[Ad,Ad,hx];exact Wk.Gx (.cons (Wk.Gt (.cons .int (.cons .int (.cons .Sd .nil)))) (.cons (.AhW _ _ _ _ (zh.2 rfl)) (.cons .int .nil)))
 ·refine⟨8,P5 R C [] (Gw R C l),[106002,100006],?_,?_⟩
  ·rw[qr.down.ev];exact Ab8 8 (by omega) r6 c6 hl al h0
  ·show Wk _ _ (DV.Cw [.agg [.int .i64 (Ga (R:Int) (C:Int) l).1,.int .i64 (Ga (R:Int) (C:Int) l).2.1,.Bh .arg .u64 (Ga (R:Int) (C:Int) l).2.2.1],.C3 .BF 2 (M3 (R:Int) (C:Int) l),.int .i64 (Ga (R:Int) (C:Int) l).2.2.2]);unfold Ga M3 Fc;rw[Ad,Ad];cases Gw R C l with
   | none=>exact Wk.Gx (.cons (Wk.Gt (.cons .int (.cons .int (.cons Kv .nil)))) (.cons (.Anz _ _) (.cons .int .nil)))
   | some x=>exact Wk.Gx (.cons (Wk.Gt (.cons .int (.cons .int (.cons (.AhX _ _ _ _ AU) .nil)))) (.cons (.AhW _ _ _ _ (AJ _ AU)) (.cons .int .nil)))
def TY(e:Int):DV:=.Cw [.agg [.int .i64 0,.int .i64 0,.nil],.agg [.int .i64 0,.int .i64 0,.nil],.int .i64 e]
theorem RJ{r:Nat}:∀{j:Nat} {ms:List (Bb × Int)},Wa r j ms->∀i:Nat,i<ms.length->Bg (ms.getD i ([],0)).1=wg/\Bo (ms.getD i ([],0)).2=wg/\(ms.getD i ([],0)).1.length+(j+i)=r
 | _,[],_,i,h=>absurd h (Nat.not_lt_zero _)
 | j,m::ms,hm,0,_=>hm.1
 | j,m::ms,hm,i+1,h=>by have:=RJ hm.2 i (by simpa using h);rw[show j+(i+1)=j+1+i by omega];exact this
theorem AgZ{ms:List (Bb × Int)}{i:Nat}(h:i<ms.length):vB (Ue ms) i []=[.Bh .arg .u64 (ms.getD i ([],0)).1,.int .u64 (ms.getD i ([],0)).2]:=by unfold Ue;rw[Al,AW,As h,Al,As h]; rfl
theorem Zd(ms:List (Bb × Int)):(Ue ms).length=ms.length:=by unfold Ue; rw[AK]
theorem W5{n i:Nat}{ms:List (Bb × Int)}(h:i<ms.length)(q:Bb):Fo n i (ms.drop i) q=Eh n n (Fo n (i+1) (ms.drop (i+1)) q) (i:Int) 0 (ms.getD i ([],0)).1 (ms.getD i ([],0)).2:=by rw[yL h,Fo,Al,As h]; rfl
theorem Ab5{R:Nat}(h:R<=6):Ng (R:Int)=((R:Int),(R:Int),Fe R,0):=by unfold Ng Fe;rw[Az (O3 h),Ad]
theorem Aga{n:Nat}(h:n<=6):n*n<=36:=A9 h h
theorem ZE(N:Nat){R C:Nat}{l:Bb}(r6:R<=6){x:Bb × List (Bb × Int)}(hx:Gw R C l=xM x)(hm:Wa R 0 x.2)(hxr:Bg x.1=wg)(hxl:x.1.length<=36):∀(j F:Nat),j<=x.2.length->j<F ->
 qr.Ch.L0 N F (R:Int) (C:Int) l ((j:Int)-1) (Fo R j (x.2.drop j) (Fe R))=
 bif IM R C l then xM (.Cw [.agg [.int .i64 (R:Int),.int .i64 (R:Int),.Bh .BF .u64 (FW R C l)],.agg [.int .i64 (R:Int),.int .i64 (C:Int),.Bh .arg .u64 (Fc R C l)],.int .i64 0])
 else xM (TY 2):=by
 have hq:FW R C l=Fo R 0 x.2 (Fe R):=by unfold FW; rw[hx]
 have hr:Fc R C l=x.1:=by unfold Fc; rw[hx]
 have hd:Ga (R:Int) (C:Int) ([]++l)=((R:Int),(C:Int),x.1,0):=by unfold Ga;rw[zT,Ad,Ad,hx,hr]; rfl
 have hmd:M3 (R:Int) (C:Int) ([]++l)=Ue x.2:=by unfold M3;rw[zT,Ad,Ad,hx]
 have h36:=Aga r6;intro j
 induction j with
 | zero =>
   intro F _ hF;obtain⟨F,rfl⟩:∃G,F=G+1:=⟨F-1,by omega⟩
   have hb:=Nq R x.2 0 (Fe R) (Nh R) (by unfold Fe; exact Ca _ _ _);have ok1:CW (Fo R 0 x.2 (Fe R))=wg:=GN hb.1 (by omega);have ok2:CW x.1=wg:=GN hxr (by omega);have hfo:IM R C l=(Dc (Fo R 0 x.2 (Fe R))&&Dc x.1):=by unfold IM; rw[hx,hq,hr]; rfl
   rw[qr.Ch.B1,Bw,Ac (by omega),Aa,zJ,ok1,Aa,hd,Ab5 r6,ok2,AQ,Aa,hfo,hq,hr];cases Dc (Fo R 0 x.2 (Fe R)) with
   | false=>rfl
   | true=>cases Dc x.1<;>rfl
 | succ j ih =>
   intro F hj hF;obtain⟨F,rfl⟩:∃G,F=G+1:=⟨F-1,by omega⟩
   have ej:(((j+1:Nat):Int))-1=(j:Int):=by omega
   have hg:=RJ hm j (by omega);have hb:=Nq R (x.2.drop (j+1)) (j+1) (Fe R) (Nh R) (by unfold Fe; exact Ca _ _ _);have hr1:=D8 r6 r6 hb.2;have hap:HW (R:Int) (R:Int) (j:Int) 0 (x.2.getD j ([],0)).1=wg:=Ac (by omega);have hmg:=AgZ (ms:=x.2) (i:=j) (by omega);rw[qr.Ch.B1,ej,Bw,Ag (show ¬(j:Int)<0 by omega),Af,hmd,Zd,Ac (show(0:Int)<=(j:Int) by omega),Ac (show(j:Int)<(x.2.length:Int) by omega),Ah,Aa,Ad,hmg,Ab5 r6]
   show(bif wg then bif wg then bif wg then (bif (((B5 (R:Int) (R:Int) (Fo R (j+1) (x.2.drop (j+1)) (Fe R))&&HW (R:Int) (R:Int) (j:Int) (0:Int) (x.2.getD j ([],0)).1)&&(Bg (Fo R (j+1) (x.2.drop (j+1)) (Fe R))&&Bg (x.2.getD j ([],0)).1))&&Bo (x.2.getD j ([],0)).2) then
    qr.Ch.L0 N F (R:Int) (C:Int) l (Be ((j:Int)-(1:Int))) (Eh (wz (R:Int)) (wz (R:Int)) (Fo R (j+1) (x.2.drop (j+1)) (Fe R)) (j:Int) (0:Int) (x.2.getD j ([],0)).1 (x.2.getD j ([],0)).2) else xN) else xN else xN else xN)=_
   rw[Aa,Aa,Aa,hr1,hap,hb.1,hg.1,hg.2.1,Ah,Ah,Ah,Aa,Ad,Bq (by omega) (by omega),<- W5 (by omega)];exact ih F (by omega) (by omega)
theorem ZM{R C:Nat}{l:Bb}(hl:l.length=R*C)(al:Bg l=wg){x:Bb × List (Bb × Int)}(hx:Gw R C l=xM x):Bg x.1=wg/\x.1.length=R*C/\x.2.length=Er R C/\Wa R 0 x.2 :=UK R C (Er R C) 0 l x al hl (by unfold Er; omega) hx
theorem OV{r c:Int}{l:Bb}(h:Cm r c l=0):DZ r c l=if IM r.toNat c.toNat l=wg then 0 else 2:=by unfold DZ; rw[Ay (by rw[h]; decide)]
theorem ZF{r c:Int}{l:Bb}(h:Cm r c l≠0):DZ r c l=Cm r c l:=by unfold DZ; rw[Az h]
theorem PG{r c:Int}{l:Bb}{e:Int}(h:DZ r c l=e)(he:e≠0):qX r c l=Gv e/\rX r c l=Gv e:=by unfold qX rX; rw[h,Az he,Az he]; exact⟨rfl,rfl⟩
theorem OF{r c:Int}{l:Bb}(h:DZ r c l=0):qX r c l=(r,r,FW r.toNat c.toNat l,0)/\rX r c l=(r,c,Fc r.toNat c.toNat l,0):=by unfold qX rX; rw[h]; exact⟨rfl,rfl⟩
theorem Rs{drops:List Nat}{e:Int}{g h:Aai}:Wk drops (TY e) (DV.Cw [.agg [.int .i64 (Gv e).1,.int .i64 (Gv e).2.1,.Bh g .u64 (Gv e).2.2.1],.agg [.int .i64 (Gv e).1,.int .i64 (Gv e).2.1,.Bh h .u64 (Gv e).2.2.1],.int .i64 e]) :=Wk.Gx (.cons (Wk.Gt (.cons .int (.cons .int (.cons Kv .nil)))) (.cons (Wk.Gt (.cons .int (.cons .int (.cons Kv .nil)))) (.cons .int .nil)))
theorem qr.Ch.Bi:qr.Ch.Kn:=qr.Ch.DF (kc Dw.Check.Bi (kc B7.Apply.Bi (kc Bc.FE.Bi (kc qr.down.Bi (kc Bu.Finite.Bi .nil))))) fun r c l hp=>by
 have al:Bg l=wg:=hp;show ∃N dv drops,_=xM dv/\Wk drops dv (DV.Cw [.agg [.int .i64 (qX r c l).1,.int .i64 (qX r c l).2.1,.Bh .arg .u64 (qX r c l).2.2.1],.agg [.int .i64 (rX r c l).1,.int .i64 (rX r c l).2.1,.Bh .arg .u64 (rX r c l).2.2.1],.int .i64 (DZ r c l)]);by_cases h1:Cm r c l=0
 ·obtain⟨hr,hf⟩:=Gj h1;have h36:=Hf hr;obtain⟨R,C,rfl,rfl,r6,c6,hl⟩:=CU hr;have d0:decide (0+l.length<=GL)=wg:=Ac (by unfold GL; omega);cases hx:Gw R C l with
  | none =>
    have hfo:IM R C l=wy:=by unfold IM; rw[hx]; rfl
    have he:DZ (R:Int) (C:Int) l=2:=by rw[OV h1,Ad,Ad,hfo]; rfl
    obtain⟨e1,e2⟩:=PG he (by decide)
    have hd:Ga (R:Int) (C:Int) ([]++l)=Gv 2:=by unfold Ga;rw[zT,Ad,Ad,hx]; rfl
    rw[e1,e2,he];exact⟨0,TY 2,[],by rw[qr.Ch.ev,al,Aa,Fv h1,Af,d0,Aa,hd,zT,hr,hf,al,Ah,Ah,Aa,show((Gv 2).2.2.2 !=(0:Int))=wg from rfl,Aa]; rfl,Rs⟩
  | some x =>
    obtain⟨x1,x2,x3,x4⟩:=ZM hl al hx
    have hd:Ga (R:Int) (C:Int) ([]++l)=((R:Int),(C:Int),x.1,0):=by unfold Ga Fc;rw[zT,Ad,Ad,hx]; rfl
    have hmd:M3 (R:Int) (C:Int) ([]++l)=Ue x.2:=by unfold M3;rw[zT,Ad,Ad,hx]
    have hn:x.2.length<=6:=by rw[x3]; unfold Er; omega
    have hloop:=ZE 8 r6 hx x4 x1 (by rw[x2]; exact A9 r6 c6) x.2.length 8 (A7 _) (by omega);rw[Ap (A7 _)] at hloop;have hrun:=qr.Ch.ev 8 (R:Int) (C:Int) l;rw[al,Aa,Fv h1,Af,d0,Aa,hd,hmd,Zd,zT,hr,hf,al,Ah,Ah,Aa,show(((R:Int),(C:Int),x.1,(0:Int)).2.2.2 !=(0:Int))=wy from rfl,Af,Ab5 r6,Bq (by omega) (by omega)] at hrun;have hrun:=hrun.trans hloop;cases hfo:IM R C l with
    | false =>
      have he:DZ (R:Int) (C:Int) l=2:=by rw[OV h1,Ad,Ad,hfo]; rfl
      obtain⟨e1,e2⟩:=PG he (by decide);rw[hfo,Af] at hrun;rw[e1,e2,he];exact⟨8,TY 2,[],hrun,Rs⟩
    | true =>
      have he:DZ (R:Int) (C:Int) l=0:=by rw[OV h1,Ad,Ad,hfo]; rfl
      obtain⟨e1,e2⟩:=OF he;rw[hfo,Aa] at hrun;rw[e1,e2,he,Ad,Ad];exact⟨8,_,[],hrun,Wk.Gx (.cons (Wk.Gt (.cons .int (.cons .int (.cons (.BF _ _) .nil)))) (.cons (Wk.Gt (.cons .int (.cons .int (.cons .Sd .nil)))) (.cons .int .nil)))⟩
 ·have he:=ZF h1;obtain⟨e1,e2⟩:=PG he h1;rw[e1,e2,he];exact⟨0,TY (Cm r c l),[],by rw[qr.Ch.ev,al,Aa,Pu h1,Aa]; rfl,Rs⟩
theorem AbF{r c:Int}{l:Bb}(h:DZ r c l=0):Cm r c l=0:=by
 by_cases h1:Cm r c l=0
 ·exact h1
 ·rw[ZF h1] at h; exact absurd h h1
theorem UG{r c:Int}{l:Bb}(al:Bg l=wg)(h:DZ r c l=0):∃R C:Nat,r=R/\c=C/\R<=6/\C<=6/\l.length=R*C/\Bg (FW R C l)=wg/\(FW R C l).length=R*R/\Bg (Fc R C l)=wg/\(Fc R C l).length=R*C/\Dc (FW R C l)=wg/\Dc (Fc R C l)=wg:=by
 have h1:=AbF h;rw[OV h1] at h;obtain⟨R,C,rfl,rfl,r6,c6,hl⟩:=CU (Gj h1).1;rw[Ad,Ad] at h;by_cases ho:IM R C l=wg
 ·unfold IM at ho;obtain⟨o1,o2⟩:=Bf.1 ho;obtain⟨o3,o4⟩:=Bf.1 o2;obtain⟨q1,q2⟩:=AcU o1;obtain⟨g1,g2⟩:=AcT al hl o1;exact⟨R,C,rfl,rfl,r6,c6,hl,q1,q2,g1,g2,o3,o4⟩
 ·rw[Ay ho] at h; exact absurd h (by decide)
theorem SY{R C:Nat}{l:Bb}(r6:R<=6)(c6:C<=6)(hl:l.length=R*C){x y a b:Int}(hp:GI (R:Int) (C:Int) x y a b=wg):
 EW (R:Int) (C:Int) l x y a b=(a,b,Cg a.toNat b.toNat fun i k=>Cc (C:Int) l (x+(i:Int)) (y+(k:Int)),0):=by
 unfold EW; rw[Az (D8 r6 c6 hl),Az hp]
theorem Rw{r c:Int}{l:Bb}(al:Bg l=wg)(h:DZ r c l=0):
 EW r r (FW r.toNat c.toNat l) 0 0 r (min r c)=E3 r c l/\EW r c (Fc r.toNat c.toNat l) 0 0 (min r c) c=GH r c l:=by
 obtain⟨R,C,rfl,rfl,r6,c6,hl,q1,q2,g1,g2,_,_⟩:=UG al h;unfold E3 GH;rw[h,Ay (by decide),Ay (by decide),Ad,Ad];have p1:GI (R:Int) (R:Int) 0 0 (R:Int) (min (R:Int) (C:Int))=wg:=Ac (by omega);have p2:GI (R:Int) (C:Int) 0 0 (min (R:Int) (C:Int)) (C:Int)=wg:=Ac (by omega);rw[SY r6 r6 q2 p1,SY r6 c6 g2 p2];exact⟨rfl,rfl⟩
theorem AhL{r c:Int}{l:Bb}(al:Bg l=wg)(h:DZ r c l=0):Bg (FW r.toNat c.toNat l)=wg/\Bg (Fc r.toNat c.toNat l)=wg:=by obtain⟨R,C,rfl,rfl,_,_,_,q1,_,g1,_,_,_⟩:=UG al h;rw[Ad,Ad];exact⟨q1,g1⟩
theorem AiV{r c:Int}{l:Bb}(al:Bg l=wg)(h:DZ r c l=0):Bg (E3 r c l).2.2.1=wg/\Bg (GH r c l).2.2.1=wg:=by obtain⟨a,b⟩:=Rw al h;obtain⟨q1,g1⟩:=AhL al h;rw[<- a,<- b];exact⟨Qz q1 _ _ _ _,Qz g1 _ _ _ _⟩
theorem qr.Iu.Bi:Kq 65 qr.Iu.Bk:=D6 qr.Iu.E Tryz.func65 (kc Bc.Part.Bi (kc qr.Ch.Bi .nil)) fun r c l hp=>by
 have al:Bg l=wg:=hp;show ∃N dv drops,_=xM dv/\Wk drops dv (DV.Cw [.agg [.int .i64 (E3 r c l).1,.int .i64 (E3 r c l).2.1,.Bh .BF .u64 (E3 r c l).2.2.1],.agg [.int .i64 (GH r c l).1,.int .i64 (GH r c l).2.1,.Bh .BF .u64 (GH r c l).2.2.1],.int .i64 (DZ r c l)]);by_cases h:DZ r c l=0
 ·obtain⟨e1,e2⟩:=OF h;obtain⟨t1,t2⟩:=Rw al h;refine⟨0,DV.Cw [.agg [.int .i64 (E3 r c l).1,.int .i64 (E3 r c l).2.1,.Bh .BF .u64 (E3 r c l).2.2.1],.agg [.int .i64 (GH r c l).1,.int .i64 (GH r c l).2.1,.Bh .BF .u64 (GH r c l).2.2.1],.int .i64 0],[],by rw[qr.Iu.ev,al,Aa,Fv h,Af,e1,e2,t1,t2],by rw[h]; exact Wk.Gx (.cons (Wk.Gt (.cons .int (.cons .int (.cons .Na .nil)))) (.cons (Wk.Gt (.cons .int (.cons .int (.cons .Na .nil)))) (.cons .int .nil)))⟩
 ·have e1:E3 r c l=Gv (DZ r c l):=by unfold E3; rw[Az h]
  have e2:GH r c l=Gv (DZ r c l):=by unfold GH; rw[Az h]
  rw[e1,e2];exact⟨0,TY (DZ r c l),[],by rw[qr.Iu.ev,al,Aa,Pu h,Aa]; rfl,Rs⟩
theorem AkN{r c p:Int}:((BI r c)||(r !=p))=decide (r<c\/r≠p):=by rw[Bw,Ar]; simp
theorem solve.F3.Bi:Kq 22 solve.F3.Bk:=D6 solve.F3.E Tryz.func22 (kc Dw.Check.Bi (kc qr.Iu.Bi (kc qr.HY.Bi (kc solve.Flat.Bi (kc solve.Dt.Bi .nil))))) fun r c l p q m hp=>by
 obtain⟨al,am⟩:=Bf.1 (show(Bg l&&Bg m)=wg from hp);show ∃N dv drops,_=xM dv/\Wk drops dv (PH (Dz r c l p q m));have hrun:=solve.F3.ev 0 r c l p q m;rw[al,Aa] at hrun;unfold Dz;by_cases c1:Cm r c l=0
 ·rw[Fv c1,Af,am,Aa] at hrun;rw[Ay (by rw[c1]; decide)];by_cases c2:Cm p q m=0
  ·rw[Fv c2,Af,AkN] at hrun;rw[Ay (by rw[c2]; decide)];by_cases c3:r<c\/r≠p
   ·rw[Ac c3,Aa] at hrun;rw[Az c3];exact⟨0+4,_,[],hrun,Ig⟩
   ·rw[Ag c3,Af,Aa] at hrun;rw[Ay c3];by_cases c4:DZ r c l=0
    ·obtain⟨i1,i2⟩:=AiV al c4;rw[Fv c4,Af,i2,Aa] at hrun;rw[Ay (by rw[c4]; decide)];by_cases c5:(Hr (GH r c l).1 (GH r c l).2.1 (GH r c l).2.2.1).1=wg
     ·rw[c5,Aa] at hrun;rw[Az c5];exact⟨0+4,_,[],hrun,Ig⟩
     ·have c5':(Hr (GH r c l).1 (GH r c l).2.1 (GH r c l).2.2.1).1=wy:=by simpa using c5
      rw[c5',Af,i1,Ah,Aa] at hrun;rw[Ay c5];unfold Aar;by_cases c6:(Dh (E3 r c l).1 (E3 r c l).2.1 (E3 r c l).2.2.1 p q m).2.2.2=0
      ·rw[Fv c6,Af,Rv,Ah,Aa] at hrun;rw[Ay (by rw[c6]; decide)];exact⟨0+4,_,[],hrun,LW⟩
      ·rw[Pu c6,Aa] at hrun;rw[Az c6];exact⟨0+4,_,[],hrun,Ig⟩
    ·rw[Pu c4,Aa] at hrun;rw[Az c4];exact⟨0+4,_,[],hrun,Ig⟩
  ·rw[Pu c2,Aa] at hrun;rw[Az c2];exact⟨0+4,_,[],hrun,Ig⟩
 ·rw[Pu c1,Aa] at hrun;rw[Az c1];exact⟨0+4,_,[],hrun,Ig⟩
def Bv.Div.E:=E0 [(126,Bv.B.Bk),(128,Bv.F.Bk)]
theorem Bv.Div.ev(N:Nat)(a b:Int):BX Bv.Div.E N f81 (Br f81) [.int .u64 a,.int .u64 b]=cond (Bo a) (bif (Bo b) then xM (.int .u64 (FA ((Ieee.double.div (wz a) (wz b)).getD nanBits))) else xN) xN:=by kernel_rfl
def Bv.Finite.hint:Nat->Option BH
 | 0=>xM { CH:=[0,3],BW:=[],Cf:=[] }
 | _=>xN
def Bv.Finite.E:=CP (CC [(46,BJ.Finite.Bk)]) (fun _=>wy) Bv.Finite.hint (fun _=>xN)
section
variable(N M:Nat)(x:Bb)(p3:Int)
def Bv.Finite.L0:Option DV:=BU Bv.Finite.E N f69 (Br f69) [1,0,1,0] [] M ⟨EP 16 [(0,.Bh .arg .u64 x),(3,.int .i64 p3)],[]⟩
theorem Bv.Finite.B1:Bv.Finite.L0 N (M+1) x p3=cond (BI p3 (vA x:Int)) (bif ((decide (0<=p3))&&(decide (p3<(vA x:Int)))) then cond (Bo (vB x (wz p3) 0)) (bif (!(CO (vB x (wz p3) 0))) then xM (.bool wy) else Bv.Finite.L0 N M x (Be (p3+1))) xN else xN) (xM (.bool wg)):=by kernel_rfl
theorem Bv.Finite.ev:BX Bv.Finite.E N f69 (Br f69) [.Bh .arg .u64 x]=
 Bv.Finite.L0 N N x 0:=by kernel_rfl
end
def B6.Check.E:=E0 [(69,Bv.Finite.Bk),(13,B3.Js.Bk)]
theorem B6.Check.ev(N:Nat)(r c:Int)(l:Bb):BX B6.Check.E N f24 (Br f24) [.agg [.int .i64 r,.int .i64 c,.Bh .arg .u64 l]]=cond (!(B5 r c l)) (xM (.int .i64 1)) (bif (CW l) then cond (!(Dc l)) (xM (.int .i64 4)) (xM (.int .i64 0)) else xN):=by kernel_rfl
def BS.Check.hint:Nat->Option BH
 | 0=>xM { CH:=[2,5],BW:=[],Cf:=[2] }
 | _=>xN
def BS.Check.E:=CP (CC [(47,BJ.Kind.Bk),(44,B3.At.Bk),(24,B6.Check.Bk)]) (fun _=>wy) BS.Check.hint (fun _=>xN)
section
variable(N M:Nat)(r c:Int)(l:Bb)(p q:Int)(m:Bb)(p5:Int)
def BS.Check.L0:Option DV:=BU BS.Check.E N f76 (Br f76) [1,1,1,1,0,1,0] [] M ⟨EP 40 [(2,.ptr 2 0 0),(5,.int .i64 p5)],[(2,wy,.box [.int .i64 r,.int .i64 c,.Bh .arg .u64 l])]⟩
theorem BS.Check.B1:BS.Check.L0 N (M+1) r c l p5=cond (BI p5 r) (bif (Db r c l p5 p5) then cond (Jx (Cc c l p5 p5)) (bif ((B8 (Cc c l p5 p5))==(0:Int)) then xM (.int .i64 5) else BS.Check.L0 N M r c l (Be (p5+1))) xN else xN) (xM (.int .i64 0)):=by kernel_rfl
theorem BS.Check.ev:BX BS.Check.E N f76 (Br f76) [.agg [.int .i64 r,.int .i64 c,.Bh .arg .u64 l],.agg [.int .i64 p,.int .i64 q,.Bh .arg .u64 m]]=cond (Bg l) (bif ((Cm r c l) !=(0:Int)) then cond (Bg l) (xM (.int .i64 (Cm r c l))) xN else bif (Bg m) then cond ((Cm p q m) !=(0:Int)) (bif (Bg m) then xM (.int .i64 (Cm p q m)) else xN) (bif ((r !=c)||(r !=p)) then xM (.int .i64 3) else BS.Check.L0 N N r c l (0:Int)) else xN) xN :=Et (DJ (DJ rfl (DJ (DJ rfl (B4 (O1 (r !=c)) (B4 (Nx (r !=c)) (B4 (O1 (r !=c)) (B4 (Nx (r !=c)) (B4 (tt8 (r !=c)) (B4 (SM (r !=c)) (C0 (tt5 _ _) rfl rfl)))))))) rfl)) rfl)
end
def BS.finite.E:=E0 [(69,Bv.Finite.Bk)]
theorem BS.finite.ev(N:Nat)(r c:Int)(l:Bb):BX BS.finite.E N f82 (Br f82) [.agg [.int .i64 r,.int .i64 c,.Bh .arg .u64 l]]=cond (CW l) (bif (!(Dc l)) then xM (.Cw [.agg [.int .i64 0,.int .i64 0,.nil],.int .i64 2]) else xM (.Cw [.agg [.int .i64 r,.int .i64 c,.Bh .arg .u64 l],.int .i64 0])) xN:=by kernel_rfl
def BS.Dt.hint:Nat->Option BH
 | 0=>xM { CH:=[2,3,4,6,7],BW:=[],Cf:=[2,3,4,6] }
 | 2=>xM { CH:=[2,3,4,6,7,8],BW:=[],Cf:=[2,3,4,6] }
 | 4=>xM { CH:=[2,3,4,6,7,8,9,10],BW:=[],Cf:=[2,3,4,6] }
 | _=>xN
def BS.Dt.E:=CP (CC [(81,Bv.Div.Bk),(79,Bv.Mul.Bk),(78,Bv.Sub.Bk),(44,B3.At.Bk),(80,B3.Gy.Bk),(77,B3.CF.Bk),(76,BS.Check.Bk),(82,BS.finite.Bk)]) (fun _=>wy) BS.Dt.hint (fun _=>xN)
section
variable(N M0 M1 M:Nat)(r c:Int)(l:Bb)(p q:Int)(m:Bb)(p9 p10 p7_2 p8_1:Int)(p6_1:Bb)(p8:Int)(p6:Bb)(p7_1 p7:Int)(p6_2:Bb)
def BS.Dt.L0:Option DV:=BU BS.Dt.E N f27 (Br f27) [1,1,1,0,1,0] [] M ⟨EP 74 [(2,.ptr 2 0 0),(3,.ptr 3 0 0),(4,.ptr 4 0 0),(6,.ptr 6 0 0),(7,.int .i64 p7)],[(2,wy,.box [.int .i64 r,.int .i64 c,.Bh .arg .u64 l]),(3,wy,.box [.int .i64 p,.int .i64 q,.Bh .arg .u64 m]),(4,wy,.box [.int .i64 0,.int .i64 0,.nil]),(6,wy,.box [.int .i64 p,.int .i64 q,.Bh .BF .u64 p6_2])]⟩
def BS.Dt.L1:Option DV:=BU BS.Dt.E N f27 (Br f27) [1,1,1,0,1,0,0,1,0,0,1,0] [M0] M ⟨EP 74 [(2,.ptr 2 0 0),(3,.ptr 3 0 0),(4,.ptr 4 0 0),(6,.ptr 6 0 0),(7,.int .i64 p7_1),(8,.int .i64 p8)],[(2,wy,.box [.int .i64 r,.int .i64 c,.Bh .arg .u64 l]),(3,wy,.box [.int .i64 p,.int .i64 q,.Bh .arg .u64 m]),(4,wy,.box [.int .i64 0,.int .i64 0,.nil]),(6,wy,.box [.int .i64 p,.int .i64 q,.Bh .BF .u64 p6])]⟩
def BS.Dt.L2:Option DV:=BU BS.Dt.E N f27 (Br f27) [1,1,1,0,1,0,0,1,0,0,1,0,0,1,0,0,1,0,1,0] [M0,M1] M ⟨EP 74 [(2,.ptr 2 0 0),(3,.ptr 3 0 0),(4,.ptr 4 0 0),(6,.ptr 6 0 0),(7,.int .i64 p7_2),(8,.int .i64 p8_1),(9,.int .u64 p9),(10,.int .i64 p10)],[(2,wy,.box [.int .i64 r,.int .i64 c,.Bh .arg .u64 l]),(3,wy,.box [.int .i64 p,.int .i64 q,.Bh .arg .u64 m]),(4,wy,.box [.int .i64 0,.int .i64 0,.nil]),(6,wy,.box [.int .i64 p,.int .i64 q,.Bh .BF .u64 p6_1])]⟩
theorem BS.Dt.B1:BS.Dt.L0 N (M+1) r c l p q m p7 p6_2=cond (BI p7 q) (BS.Dt.L1 N M N r c l p q m (Be (r-1)) p6_2 p7) (bif (Bg p6_2&&B5 p q p6_2) then xM (.Cw [.agg [.int .i64 ((Hb p q p6_2).1),.int .i64 ((Hb p q p6_2).2.1),.Bh .arg .u64 ((Hb p q p6_2).2.2.1)],.int .i64 ((Hb p q p6_2).2.2.2)]) else xN):=by kernel_rfl
theorem BS.Dt.BZ:BS.Dt.L1 N M0 (M+1) r c l p q m p8 p6 p7_1=cond (Eu 0 p8) (bif (Db p q m p8 p7_1) then BS.Dt.L2 N M0 M N r c l p q m (Cc q m p8 p7_1) (Be (p8+1)) p7_1 p8 p6 else xN) (BS.Dt.L0 N M0 r c l p q m (Be (p7_1+1)) p6):=by kernel_rfl
theorem BS.Dt.EU:BS.Dt.L2 N M0 M1 (M+1) r c l p q m p9 p10 p7_2 p8_1 p6_1=cond (BI p10 r) (bif (Db r c l p8_1 p10) then cond (Db p q p6_1 p10 p7_2) (bif (Bo (Cc c l p8_1 p10)&&Bo (Cc q p6_1 p10 p7_2)) then cond (Bo p9&&Bo (CN (Cc c l p8_1 p10) (Cc q p6_1 p10 p7_2))) (BS.Dt.L2 N M0 M1 M r c l p q m (CA p9 (CN (Cc c l p8_1 p10) (Cc q p6_1 p10 p7_2))) (Be (p10+1)) p7_2 p8_1 p6_1) xN else xN) xN else xN) (bif (Db r c l p8_1 p8_1) then cond (Bo p9&&Bo (Cc c l p8_1 p8_1)) (bif (Db p q p6_1 p8_1 p7_2) then BS.Dt.L1 N M0 M1 r c l p q m (Be (p8_1-1)) (zw p6_1 (wz (p8_1*q+p7_2)) (El p9 (Cc c l p8_1 p8_1))) p7_2 else xN) xN else xN) :=Et (DJ (C0 (Cp _) (C0 (Cp _) (C0 (Cp _) (C0 (Cp _) rfl rfl) rfl) rfl) rfl) (C0 (Cp _) (C0 (Cp _) (C0 (Cp _) rfl rfl) rfl) rfl))
theorem BS.Dt.ev:BX BS.Dt.E N f27 (Br f27) [.agg [.int .i64 r,.int .i64 c,.Bh .arg .u64 l],.agg [.int .i64 p,.int .i64 q,.Bh .arg .u64 m]]=cond (Bg l&&Bg m) (bif ((Jo r c l p q m) !=(0:Int)) then cond (Bg l&&Bg m) (xM (.Cw [.agg [.int .i64 0,.int .i64 0,.nil],.int .i64 (Jo r c l p q m)])) xN else bif (Ce p&&Ce q) then BS.Dt.L0 N N r c l p q m 0 (Cg (wz p) (wz q) (fun _ _=>0)) else xN) xN:=by kernel_rfl
end
theorem Bv.Div.Bi:Kq 81 Bv.Div.Bk:=D6 Bv.Div.E Tryz.func81 (kc Bv.B.Bi (kc Bv.F.Bi .nil)) fun a b hp=>by obtain⟨ha,hb⟩:=Bf.1 hp;obtain⟨a,rfl,hn⟩:=BR ha;obtain⟨b,rfl,hm⟩:=BR hb;refine⟨0,Bv.Div.out [.i a,.i b],[],?_,.int⟩;rw[Bv.Div.ev,ha,hb,Ad,Ad];unfold FA;rw[Aid hn hm Gd]; rfl
theorem SE(N:Nat){x:Bb}(hx:CW x=wg):∀(k i F:Nat),i+k=x.length->k<F->Bv.Finite.L0 N F x (i:Int)=xM (.bool ((x.drop i).all CO)):=by
 obtain⟨hl,hu⟩:=Hq hx;intro k
 induction k with
 | zero =>
   intro i F hi hF;obtain⟨F,rfl⟩:∃G,F=G+1:=⟨F-1,by omega⟩
   rw[Bv.Finite.B1,Bw,Ag (by omega),Af,Ap (by omega)]; rfl
 | succ k ih =>
   intro i F hi hF;obtain⟨F,rfl⟩:∃G,F=G+1:=⟨F-1,by omega⟩
   rw[Bv.Finite.B1,Bw,Ac (show(i:Int)<(x.length:Int) by omega),Aa,Ac (show(0:Int)<=(i:Int) by omega),Ah,Aa,Ad,hu i (by omega),Aa,GD (by omega),z9];cases CO (x.getD i 0) with
   | false=>rfl
   | true =>rw[AD,Af,Bq (by omega) (by omega),AR];exact ih (i+1) F (by omega) (by omega)
theorem Bv.Finite.Bi:Kq 69 Bv.Finite.Bk:=D6 Bv.Finite.E Tryz.func69 (kc BJ.Finite.Bi .nil) fun x hp=>by have hp:CW x=wg:=hp;refine⟨x.length+1,Bv.Finite.out [.l x],[],?_,.bool⟩;show _=xM (DV.bool (x.all CO));rw[Bv.Finite.ev];exact SE _ hp x.length 0 (x.length+1) (by omega) (by omega)
theorem B6.Check.Bi:Kq 24 B6.Check.Bk:=D6 B6.Check.E Tryz.func24 (kc Bv.Finite.Bi (kc B3.Js.Bi .nil)) fun r c l hp=>by
 have hp:Bg l=wg:=hp;refine⟨0,B6.Check.out [.i r,.i c,.l l],[],?_,.int⟩;show _=xM (DV.int .i64 (Cm r c l));rw[B6.Check.ev];unfold Cm;by_cases h:B5 r c l=wg
 ·have:=Hf h;rw[h,AD,Af,GN hp (by omega),Aa,Az rfl];cases Dc l<;>rfl
 ·have h':B5 r c l=wy:=by simpa using h
  rw[h']; rfl
theorem TF(N:Nat){n:Nat}{l:Bb}(n6:n<=6)(hl:l.length=n*n)(al:Bg l=wg):∀(cnt i F:Nat),i+cnt=n->cnt<F ->
 BS.Check.L0 N F (n:Int) (n:Int) l (i:Int)=xM (.int .i64 (if ((zg n).drop i).any (fun i:Nat=>decide (B8 (Cc (n:Int) l (i:Int) (i:Int))=0))=wg then 5 else 0)):=by
 intro cnt
 induction cnt with
 | zero =>
   intro i F hi hF;obtain⟨F,rfl⟩:∃G,F=G+1:=⟨F-1,by omega⟩
   rw[BS.Check.B1,Bw,Ag (by omega),Af,Ap (by rw[AH]; omega)]; rfl
 | succ cnt ih =>
   intro i F hi hF;obtain⟨F,rfl⟩:∃G,F=G+1:=⟨F-1,by omega⟩
   have hn:Jx (Cc (n:Int) l (i:Int) (i:Int))=wg:=by obtain⟨k,hk,_⟩:=BR (FT (c:=(n:Int)) (i:=(i:Int)) (k:=(i:Int)) al);rw[hk]; exact Ha k
   rw[BS.Check.B1,Bw,Ac (show(i:Int)<(n:Int) by omega),Aa,Dl n6 n6 hl (show i<n by omega) (show i<n by omega),Aa,hn,Aa,TJ (by omega),xG];by_cases hk:B8 (Cc (n:Int) l (i:Int) (i:Int))=0
   ·have e:(B8 (Cc (n:Int) l (i:Int) (i:Int))==(0:Int))=wg:=by rw[hk]; rfl
    rw[e,Aa,Ac hk]; rfl
   ·have e:(B8 (Cc (n:Int) l (i:Int) (i:Int))==(0:Int))=wy:=by simpa using hk
    rw[e,Af,Ag hk,yr,Bq (by omega) (by omega)];exact ih (i+1) F (by omega) (by omega)
theorem BS.Check.Bi:Kq 76 BS.Check.Bk:=D6 BS.Check.E Tryz.func76 (kc BJ.Kind.Bi (kc B3.At.Bi (kc B6.Check.Bi .nil))) fun r c l p q m hp=>by
 obtain⟨al,am⟩:=Bf.1 (show(Bg l&&Bg m)=wg from hp);refine⟨8,BS.Check.out [.i r,.i c,.l l,.i p,.i q,.l m],[],?_,.int⟩;show _=xM (DV.int .i64 (Jo r c l p q m));rw[BS.Check.ev,al,Aa,Aa,am,Aa,Aa,AkL];unfold Jo;by_cases h1:Cm r c l=0
 ·rw[Fv h1,Af,Ay (by rw[h1]; decide)];by_cases h2:Cm p q m=0
  ·rw[Fv h2,Af,Ay (by rw[h2]; decide)];by_cases h3:r≠c\/r≠p
   ·rw[Ac h3,Aa,Az h3]
   ·rw[Ag h3,Af,Ay h3];obtain rfl:r=c:=Decidable.byContradiction fun h=>h3 (.inl h)
    obtain⟨R,C,rfl,hC,r6,c6,hl⟩:=CU (Gj h1).1;obtain rfl:R=C:=by omega
    rw[Ad];exact TF 8 r6 hl al R 0 8 (by omega) (by omega)
  ·rw[Pu h2,Aa,Az h2]
 ·rw[Pu h1,Aa,Az h1]
def Xw(x:MX):DV:=.Cw [.agg [.int .i64 x.1,.int .i64 x.2.1,.Bh .arg .u64 x.2.2.1],.int .i64 x.2.2.2]
theorem Qd{drops:List Nat}{x:MX}:Wk drops (Xw x) (Xw x) :=Wk.Gx (.cons (Wk.Gt (.cons .int (.cons .int (.cons .Sd .nil)))) (.cons .int .nil))
theorem LV{drops:List Nat}{e:Int}:Wk drops (AaT e) (Xw (Gv e)) :=Wk.Gx (.cons (Wk.Gt (.cons .int (.cons .int (.cons (.nil _ _) .nil)))) (.cons .int .nil))
theorem BS.finite.Bi:Kq 82 BS.finite.Bk:=D6 BS.finite.E Tryz.func82 (kc Bv.Finite.Bi .nil) fun r c l hp=>by
 obtain⟨al,hr⟩:=Bf.1 (show(Bg l&&B5 r c l)=wg from hp);have:=Hf hr;show ∃N dv drops,_=xM dv/\Wk drops dv (Xw (Hb r c l));unfold Hb;cases hf:Dc l with
 | true =>rw[Az rfl];exact⟨0,_,[],by rw[BS.finite.ev,GN al (by omega),hf]; rfl,Qd⟩
 | false =>rw[Ay (by decide)];exact⟨0,_,[],by rw[BS.finite.ev,GN al (by omega),hf]; rfl,LV⟩
section
variable{n Q:Nat}{l m:Bb}
theorem Xm(N:Nat)(n6:n<=6)(q6:Q<=6)(hl:l.length=n*n)(al:Bg l=wg){i j k:Nat}(hi:i+k+1=n)(hj:j<Q)(M0 M1:Nat):
 ∀(cnt t F:Nat) (s:Int),t+cnt=n->cnt<F->i+1<=t->Bo s=wg ->
 BS.Dt.L2 N M0 M1 F (n:Int) (n:Int) l (n:Int) (Q:Int) m s (t:Int) (j:Int) (i:Int) (Pg n Q l m j k)=
 BS.Dt.L1 N M0 M1 (n:Int) (n:Int) l (n:Int) (Q:Int) m (Be ((i:Int)-(1:Int))) (zw (Pg n Q l m j k) (wz ((i:Int)*(Q:Int)+(j:Int))) (El (H5 (n:Int) l (i:Int) s (t:Int) ((LY (n:Int) l (fun i=>Cc (Q:Int) m (i:Int) (j:Int)) n n).drop t)) (Cc (n:Int) l (i:Int) (i:Int)))) (j:Int):=by
 intro cnt
 induction cnt with
 | zero =>
   intro t F s ht hF hit hs;obtain⟨F,rfl⟩:∃G,F=G+1:=⟨F-1,by omega⟩
   rw[Ap (by rw[Hx]; omega),H5]
   rw[BS.Dt.EU,Bw,Ag (show ¬(t:Int)<(n:Int) by omega),Af,Dl n6 n6 hl (show i<n by omega) (show i<n by omega),Aa,hs,FT al,Ah,Aa,
    Dl n6 q6 (Qg (l:=l) (m:=m) j k) (show i<n by omega) hj,Aa]
 | succ cnt ih =>
   intro t F s ht hF hit hs;obtain⟨F,rfl⟩:∃G,F=G+1:=⟨F-1,by omega⟩
   rw[BS.Dt.EU,Bw,Ac (show(t:Int)<(n:Int) by omega),Aa,Dl n6 n6 hl (show i<n by omega) (show t<n by omega),Aa,Dl n6 q6 (Qg (l:=l) (m:=m) j k) (show t<n by omega) hj,Aa,
    Acd (show t<n by omega) hj (by omega),FT al,Aat,Ah,Aa,hs,Ft,Ah,Aa,Bq (x:=(t:Int)+1) (by omega) (by omega)]
   have:=ih (t+1) F (CA s (CN (Cc (n:Int) l (i:Int) (t:Int)) (upF n Q l m t j))) (by omega) (by omega) (by omega) (Kb hs (Ft _ _));rw[RO (by rw[Hx]; omega)];exact this
theorem YV(N:Nat)(n6:n<=6)(q6:Q<=6)(hN:7<N)(hl:l.length=n*n)(hm:m.length=n*Q)(al:Bg l=wg)(am:Bg m=wg){j:Nat}(hj:j<Q)(M0:Nat):∀(cnt k F:Nat),k+cnt=n->cnt<F ->
 BS.Dt.L1 N M0 F (n:Int) (n:Int) l (n:Int) (Q:Int) m ((n:Int)-1-(k:Int)) (Pg n Q l m j k) (j:Int)=
 BS.Dt.L0 N M0 (n:Int) (n:Int) l (n:Int) (Q:Int) m ((j+1:Nat):Int) (Pg n Q l m j n):=by
 intro cnt
 induction cnt with
 | zero =>
   intro k F hk hF;obtain⟨F,rfl⟩:∃G,F=G+1:=⟨F-1,by omega⟩
   obtain rfl:k=n:=by omega
   rw[BS.Dt.BZ,DX,Ag (by omega),Af,Bq (by omega) (by omega)];rfl
 | succ cnt ih =>
   intro k F hk hF;obtain⟨F,rfl⟩:∃G,F=G+1:=⟨F-1,by omega⟩
   obtain⟨i,hi⟩:∃i:Nat,i+k+1=n:=⟨n-k-1,by omega⟩
   have ei:(n:Int)-1-(k:Int)=(i:Int):=by omega
   have hr:=Xm (n:=n) (Q:=Q) (l:=l) (m:=m) N n6 q6 hl al hi hj M0 F (n-(i+1)) (i+1) N (Cc (Q:Int) m (i:Int) (j:Int)) (by omega) (by omega) (by omega) (FT (c:=(Q:Int)) am);rw[Acb hi hj (WL (show i<n by omega)).symm,Bq (by omega) (by omega),show(i:Int)-1=(n:Int)-1-((k+1:Nat):Int) by omega] at hr;rw[ei,BS.Dt.BZ,DX,Ac (show(0:Int)<=(i:Int) by omega),Aa,Dl n6 q6 hm (show i<n by omega) hj,Aa,Bq (x:=(i:Int)+1) (by omega) (by omega)];exact hr.trans (ih (k+1) F (by omega) (by omega))
theorem YW(N:Nat)(n6:n<=6)(q6:Q<=6)(hN:7<N)(hl:l.length=n*n)(hm:m.length=n*Q)(al:Bg l=wg)(am:Bg m=wg):∀(cnt j F:Nat),j+cnt=Q->cnt<F ->
 BS.Dt.L0 N F (n:Int) (n:Int) l (n:Int) (Q:Int) m (j:Int) (Pg n Q l m j 0)=xM (Xw (Hb (n:Int) (Q:Int) (Pg n Q l m Q 0))):=by
 intro cnt
 induction cnt with
 | zero =>
   intro j F hj hF;obtain⟨F,rfl⟩:∃G,F=G+1:=⟨F-1,by omega⟩
   obtain rfl:j=Q:=by omega
   have hr:B5 (n:Int) (j:Int) (Pg n j l m j 0)=wg:=MZ _ n6 q6;rw[BS.Dt.B1,Bw,Ag (by omega),Af,Af8,hr,Ah,Aa];rfl
 | succ cnt ih =>
   intro j F hj hF;obtain⟨F,rfl⟩:∃G,F=G+1:=⟨F-1,by omega⟩
   have hr:=YV N n6 q6 hN hl hm al am (show j<Q by omega) F n 0 N (by omega) (by omega);rw[Y1,show(n:Int)-1-((0:Nat):Int)=(n:Int)-1 by omega] at hr;rw[BS.Dt.B1,Bw,Ac (show(j:Int)<(Q:Int) by omega),Aa,Bq (x:=(n:Int)-1) (by omega) (by omega)];exact hr.trans (ih (j+1) F (by omega) (by omega))
end
theorem BS.Dt.Bi:Kq 27 BS.Dt.Bk:=D6 BS.Dt.E Tryz.func27 (kc Bv.Div.Bi (kc Bv.Mul.Bi (kc Bv.Sub.Bi (kc B3.At.Bi (kc B3.Gy.Bi (kc B3.CF.Bi (kc BS.Check.Bi (kc BS.finite.Bi .nil)))))))) fun r c l p q m hp=>by
 have hp:(Bg l&&Bg m)=wg:=hp;obtain⟨al,am⟩:=Bf.1 hp;show ∃N dv drops,_=xM dv/\Wk drops dv (Xw (Rq r c l p q m));unfold Rq;by_cases h:Jo r c l p q m=0
 ·obtain⟨h1,h2,rfl,rfl⟩:=RZ h;have s1:=Fb h2;obtain⟨R,C,rfl,hC,r6,c6,hl⟩:=CU h1;obtain⟨P,Q,hP,rfl,p6,q6,hl2⟩:=CU h2;obtain rfl:R=C:=by omega
  obtain rfl:R=P:=by omega
  have n:=YW (n:=R) (Q:=Q) (l:=l) (m:=m) 8 r6 q6 (by omega) hl hl2 al am Q 0 8 (by omega) (by omega);rw[Y0,Ace,show((0:Nat):Int)=0 from rfl] at n;rw[Ay (by rw[h]; decide),Ad,Ad];refine⟨8,_,[],?_,Qd⟩;rw[BS.Dt.ev,al,am,Ah,Aa,Fv h,Af,s1.1,s1.2,Ah,Aa,Ad,Ad];exact n
 ·rw[Az h];exact⟨0,_,[],by rw[BS.Dt.ev,hp,Aa,Aa,Pu h,Aa]; rfl,LV⟩
def Cz.Ch.hint:Nat->Option BH
 | 0=>xM { CH:=[1,2,3,4,5],BW:=[(0,4,100004,.C3 128 3 [])],Cf:=[1,2,3] }
 | 2=>xM { CH:=[2,3,4,9,10],BW:=[(0,4,100004,.C3 128 3 [])],Cf:=[2,3,9] }
 | _=>xN
def Cz.Ch.Il:List (Nat × EC):=[(69,Bv.Finite.Bk),(42,B3.P7.Bk),(123,B3.FE.arg.Bk),(122,BT.Apply.Bk),(120,BT.En.Bk),(121,Cz.Es.Bk)]
def Cz.Ch.E:Env:=Oj (CC Cz.Ch.Il) (fun _=>wy) Cz.Ch.hint (fun _=>xN) (Vc [(22,[.s .u64]),(47,[.i .u64])])
section
variable(N M:Nat)(r c p10:Int)(p3_1:Bb)(p4_1:List (List DV))(p9 l:Bb)(p5:Int)(p3:Bb)(p4:List (List DV))
def Cz.Ch.L0:Option DV:=BU Cz.Ch.E N f70 (Br f70) [1,1,1,0,1,0] [] M ⟨EP 95 [(1,.ptr 1 0 0),(2,.ptr 2 0 0),(3,.ptr 3 0 0),(4,.De 100004),(5,.int .i64 p5)],[(1,wy,.box [.int .i64 r,.int .i64 c,.Bh .arg .u64 l]),(2,wy,.box [.int .i64 0,.int .i64 0,.nil,.int .i64 0,.int .i64 0,.nil,.bool wy]),(3,wy,.box [.int .i64 r,.int .i64 c,.Bh .arg .u64 p3]),(100004,wy,.C3 128 3 p4)]⟩
def Cz.Ch.L1:Option DV:=BU Cz.Ch.E N f70 (Br f70) [1,1,1,1,1,0,1,0] [] M ⟨EP 95 [(2,.ptr 2 0 0),(3,.ptr 3 0 0),(4,.De 100004),(9,.ptr 9 0 0),(10,.int .i64 p10)],[(2,wy,.box [.int .i64 0,.int .i64 0,.nil,.int .i64 0,.int .i64 0,.nil,.bool wy]),(3,wy,.box [.int .i64 r,.int .i64 c,.Bh .arg .u64 p3_1]),(9,wy,.box [.int .i64 r,.int .i64 r,.Bh .arg .u64 p9]),(100004,wy,.C3 128 3 p4_1)]⟩
theorem Cz.Ch.B1:Cz.Ch.L0 N (M+1) r c l p5 p3 p4=cond ((BI p5 c)&&(BI p5 (Be (r-1)))) (bif (EM r c p3 p5&&CE (0<=p5/\p5<=r)) then cond (CW (Cb c p3 p5 p5 (wz (r-p5)))) (bif (!(Dc (Cb c p3 p5 p5 (wz (r-p5))))) then xM (.agg [.int .i64 0,.int .i64 0,.nil,.int .i64 0,.int .i64 0,.nil,.bool wy]) else bif (CW (Cb c p3 p5 p5 (wz (r-p5)))&&CE (1<=vA (Cb c p3 p5 p5 (wz (r-p5)))/\vA (Cb c p3 p5 p5 (wz (r-p5)))<=64)) then cond (!(decide ((I2 (Cb c p3 p5 p5 (wz (r-p5)))).2.2.2=0))) (xM (.agg [.int .i64 0,.int .i64 0,.nil,.int .i64 0,.int .i64 0,.nil,.bool wy])) (bif (((B5 r c p3&&HW r c p5 p5 ((I2 (Cb c p3 p5 p5 (wz (r-p5)))).1))&&(Bg p3&&Bg ((I2 (Cb c p3 p5 p5 (wz (r-p5)))).1)))&&Bo ((I2 (Cb c p3 p5 p5 (wz (r-p5)))).2.1)) then cond (B5 r c (Eh (wz r) (wz c) p3 p5 p5 ((I2 (Cb c p3 p5 p5 (wz (r-p5)))).1) ((I2 (Cb c p3 p5 p5 (wz (r-p5)))).2.1))&&CE (0<=p5/\p5<r/\p5<c)) (bif (decide ((vA p4)+1<=QL)) then Cz.Ch.L0 N M r c l (Be (p5+1)) (H9 (wz r) (wz c) (Eh (wz r) (wz c) p3 p5 p5 ((I2 (Cb c p3 p5 p5 (wz (r-p5)))).1) ((I2 (Cb c p3 p5 p5 (wz (r-p5)))).2.1)) (wz p5) ((I2 (Cb c p3 p5 p5 (wz (r-p5)))).2.2.1)) (p4++[[.Bh .arg .u64 ((I2 (Cb c p3 p5 p5 (wz (r-p5)))).1),.int .u64 ((I2 (Cb c p3 p5 p5 (wz (r-p5)))).2.1),.int .u64 ((I2 (Cb c p3 p5 p5 (wz (r-p5)))).2.2.1)]]) else xN) xN else xN) else xN) xN else xN) (bif (Ce r) then Cz.Ch.L1 N N r c (Be ((vA p4:Int)-1)) p3 p4 (Fe (wz r)) else xN) :=Et (B4 (L8 (BI p5 c)) (B4 (L8 (BI p5 c)) (B4 (Ka (BI p5 c)) (B4 (Ka (BI p5 c)) (B4 (WQ (BI p5 c)) (B4 (Pp (BI p5 c)) (C0 (tt1 _ _) (DJ (DJ (DJ rfl (DJ (DJ rfl (C0 (Cp _) (C0 (Cp _) rfl rfl) rfl)) rfl)) rfl) rfl) rfl)))))))
theorem Cz.Ch.BZ:Cz.Ch.L1 N (M+1) r c p10 p3_1 p4_1 p9=cond (Eu 0 p10) (bif ((decide (0<=p10))&&(decide (p10<(vA p4_1:Int)))) then cond ((decide ((wz p10)<(vA p4_1)))&&(Wl (.s .u64) (vB (vB p4_1 (wz p10) []) 0 .undef))) (bif ((decide (0<=p10))&&(decide (p10<(vA p4_1:Int)))) then cond ((decide ((wz p10)<(vA p4_1)))&&(Wl (.i .u64) (vB (vB p4_1 (wz p10) []) 1 .undef))) (bif (((B5 r r p9&&HW r r p10 0 (GC (vB (vB p4_1 (wz p10) []) 0 .undef)))&&(Bg p9&&Bg (GC (vB (vB p4_1 (wz p10) []) 0 .undef))))&&Bo (JT (vB (vB p4_1 (wz p10) []) 1 .undef))) then Cz.Ch.L1 N M r c (Be (p10-1)) p3_1 p4_1 (Eh (wz r) (wz r) p9 p10 0 (GC (vB (vB p4_1 (wz p10) []) 0 .undef)) (JT (vB (vB p4_1 (wz p10) []) 1 .undef))) else xN) xN else xN) xN else xN) (bif (CW p9) then cond ((!(Dc p9))||(CW p3_1)) (bif ((!(Dc p9))||(!(Dc p3_1))) then xM (.agg [.int .i64 0,.int .i64 0,.nil,.int .i64 0,.int .i64 0,.nil,.bool wy]) else xM (.agg [.int .i64 r,.int .i64 r,.Bh .arg .u64 p9,.int .i64 r,.int .i64 c,.Bh .arg .u64 p3_1,.bool wg])) xN else xN) :=Et (DJ (C0 (I1 _ _) (C0 (I1 _ _) (C0 (I1 _ _) (C0 (I1 _ _) (C0 (Cp _) rfl rfl) rfl) rfl) rfl) rfl) (DJ (B4 (WN (Dc p9)) (B4 (PA (Dc p9)) (C0 (Ad9 _ _) (B4 (PA (Dc p9)) (B4 (WO (Dc p9)) (C0 (AfN _ _) rfl rfl))) rfl))) rfl))
theorem Cz.Ch.ev:BX Cz.Ch.E N f70 (Br f70) [.agg [.int .i64 r,.int .i64 c,.Bh .arg .u64 l]]=
 Cz.Ch.L0 N N r c l 0 l []:=by kernel_rfl
end
abbrev Cz.Ch.Kn:=DR prog 70 Cz.Ch.Bk
theorem Cz.Ch.DF(hk:FD prog Cz.Ch.Il)(h:Hyp Cz.Ch.E f70 Cz.Ch.ts Cz.Ch.pre Cz.Ch.out):Cz.Ch.Kn :=Fk (OW hk _ _ _ _) func70 (by kernel_rfl) (by kernel_rfl) h
def Cz.Iu.E:=E0 [(71,B3.Part.Bk),(70,Cz.Ch.Bk)]
theorem Cz.Iu.ev(N:Nat)(r c:Int)(l:Bb):BX Cz.Iu.E N f25 (Br f25) [.agg [.int .i64 r,.int .i64 c,.Bh .arg .u64 l]]=cond ((B5 r c l&&Dc l)&&Bg l) (bif (!(decide (DZ r c l=0))) then xM (.agg [.int .i64 ((qX r c l).1),.int .i64 ((qX r c l).2.1),.Bh .arg .u64 ((qX r c l).2.2.1),.int .i64 ((rX r c l).1),.int .i64 ((rX r c l).2.1),.Bh .arg .u64 ((rX r c l).2.2.1),.bool (decide (DZ r c l=0))]) else bif (B5 ((qX r c l).1) ((qX r c l).2.1) ((qX r c l).2.2.1)&&GI ((qX r c l).1) ((qX r c l).2.1) 0 0 r (min r c)) then cond (B5 ((rX r c l).1) ((rX r c l).2.1) ((rX r c l).2.2.1)&&GI ((rX r c l).1) ((rX r c l).2.1) 0 0 (min r c) c) (xM (.agg [.int .i64 r,.int .i64 (min r c),.Bh .BF .u64 (Cg (wz r) (wz (min r c)) (fun j1 j2=>Cc ((qX r c l).2.1) ((qX r c l).2.2.1) ((0:Int)+j1) ((0:Int)+j2))),.int .i64 (min r c),.int .i64 c,.Bh .BF .u64 (Cg (wz (min r c)) (wz c) (fun j1 j2=>Cc ((rX r c l).2.1) ((rX r c l).2.2.1) ((0:Int)+j1) ((0:Int)+j2))),.bool wg])) xN else xN) xN :=Et (DJ (DJ rfl (C0 (Cp _) (C0 (Cp _) rfl rfl) rfl)) rfl)
def BS.F3.E:=E0 [(28,B3.Mul.Bk),(29,B3.Du.Bk),(24,B6.Check.Bk),(25,Cz.Iu.Bk),(26,BS.Flat.Bk),(27,BS.Dt.Bk)]
theorem BS.F3.ev(N:Nat)(r c:Int)(l:Bb)(p q:Int)(m:Bb):BX BS.F3.E N f7 (Br f7) [.agg [.int .i64 r,.int .i64 c,.Bh .arg .u64 l],.agg [.int .i64 p,.int .i64 q,.Bh .arg .u64 m]]=cond (Bg l) (bif ((Cm r c l) !=(0:Int)) then cond (Bg l) (xM (.Cw [.agg [.int .i64 0,.int .i64 0,.nil],.int .i64 (Cm r c l)])) xN else bif (Bg m) then cond ((Cm p q m) !=(0:Int)) (bif (Bg m) then xM (.Cw [.agg [.int .i64 0,.int .i64 0,.nil],.int .i64 (Cm p q m)]) else xN) (bif ((BI r c)||(r !=p)) then xM (.Cw [.agg [.int .i64 0,.int .i64 0,.nil],.int .i64 3]) else bif ((B5 r c l&&Dc l)&&Bg l) then cond (!(decide (DZ r c l=0))) (xM (.Cw [.agg [.int .i64 0,.int .i64 0,.nil],.int .i64 2])) (bif ((B5 ((GH r c l).1) ((GH r c l).2.1) ((GH r c l).2.2.1)&&Bg ((GH r c l).2.2.1))&&Dc ((GH r c l).2.2.1)) then cond (Li ((GH r c l).1) ((GH r c l).2.1) ((GH r c l).2.2.1)) (xM (.Cw [.agg [.int .i64 0,.int .i64 0,.nil],.int .i64 5])) (bif (B5 ((E3 r c l).1) ((E3 r c l).2.1) ((E3 r c l).2.2.1)) then cond ((B5 ((E3 r c l).2.1) ((E3 r c l).1) (Cg (wz ((E3 r c l).2.1)) (wz ((E3 r c l).1)) (fun j1 j2=>Cc ((E3 r c l).2.1) ((E3 r c l).2.2.1) j2 j1))&&B5 p q m)&&((Bg (Cg (wz ((E3 r c l).2.1)) (wz ((E3 r c l).1)) (fun j1 j2=>Cc ((E3 r c l).2.1) ((E3 r c l).2.2.1) j2 j1))&&Bg m)&&decide (((E3 r c l).1)=p))) (bif (Bg ((GH r c l).2.2.1)&&Bg (Cg (wz ((E3 r c l).2.1)) (wz q) (fun j1 j2=>Fu (Ee ((E3 r c l).1) (Cg (wz ((E3 r c l).2.1)) (wz ((E3 r c l).1)) (fun j1 j2=>Cc ((E3 r c l).2.1) ((E3 r c l).2.2.1) j2 j1)) j1) (Hw p q m j2)))) then xM (.Cw [.agg [.int .i64 ((Rq ((GH r c l).1) ((GH r c l).2.1) ((GH r c l).2.2.1) ((E3 r c l).2.1) q (Cg (wz ((E3 r c l).2.1)) (wz q) (fun j1 j2=>Fu (Ee ((E3 r c l).1) (Cg (wz ((E3 r c l).2.1)) (wz ((E3 r c l).1)) (fun j1 j2=>Cc ((E3 r c l).2.1) ((E3 r c l).2.2.1) j2 j1)) j1) (Hw p q m j2)))).1),.int .i64 ((Rq ((GH r c l).1) ((GH r c l).2.1) ((GH r c l).2.2.1) ((E3 r c l).2.1) q (Cg (wz ((E3 r c l).2.1)) (wz q) (fun j1 j2=>Fu (Ee ((E3 r c l).1) (Cg (wz ((E3 r c l).2.1)) (wz ((E3 r c l).1)) (fun j1 j2=>Cc ((E3 r c l).2.1) ((E3 r c l).2.2.1) j2 j1)) j1) (Hw p q m j2)))).2.1),.Bh .arg .u64 ((Rq ((GH r c l).1) ((GH r c l).2.1) ((GH r c l).2.2.1) ((E3 r c l).2.1) q (Cg (wz ((E3 r c l).2.1)) (wz q) (fun j1 j2=>Fu (Ee ((E3 r c l).1) (Cg (wz ((E3 r c l).2.1)) (wz ((E3 r c l).1)) (fun j1 j2=>Cc ((E3 r c l).2.1) ((E3 r c l).2.2.1) j2 j1)) j1) (Hw p q m j2)))).2.2.1)],.int .i64 ((Rq ((GH r c l).1) ((GH r c l).2.1) ((GH r c l).2.2.1) ((E3 r c l).2.1) q (Cg (wz ((E3 r c l).2.1)) (wz q) (fun j1 j2=>Fu (Ee ((E3 r c l).1) (Cg (wz ((E3 r c l).2.1)) (wz ((E3 r c l).1)) (fun j1 j2=>Cc ((E3 r c l).2.1) ((E3 r c l).2.2.1) j2 j1)) j1) (Hw p q m j2)))).2.2.2)]) else xN) xN else xN) else xN) else xN) else xN) xN:=
 Et (DJ (DJ rfl (DJ (DJ rfl (B4 (O1 (BI r c)) (B4 (Nx (BI r c)) (B4 (O1 (BI r c)) (B4 (Nx (BI r c)) (B4 (tt8 (BI r c)) (B4 (SM (BI r c)) (C0 (tt5 _ _) rfl (DJ (DJ rfl (DJ (DJ rfl (C0 (Cp _) (C0 (Cp _) (C0 (Cp _) rfl rfl) rfl) rfl)) rfl)) rfl))))))))) rfl)) rfl)
theorem B3.Gy.arg.Bi:B3.Gy.arg.Kn:=DR.SD (P:=_) (pre:=B3.Gy.pre) (out:=B3.Gy.out) B3.Gy.Bi [] fun ats h=>by
 unfold B3.Gy.arg.pre at h;split at h
 ·exact⟨h,Wk.Gt (.cons .int (.cons .int (.cons (.BF _ _) .nil)))⟩
 ·cases h
theorem B3.FE.arg.Bi:B3.FE.arg.Kn:=DR.SD (P:=_) (pre:=B3.FE.pre) (out:=B3.FE.out) B3.FE.Bi [] fun ats h=>by
 unfold B3.FE.arg.pre at h;split at h
 ·exact⟨h,Wk.Gt (.cons .int (.cons .int (.cons (.BF _ _) .nil)))⟩
 ·cases h
theorem R7(N:Nat){x:Bb}(hx:CW x=wg):∀(k i F:Nat),i+k=x.length->k<F->BT.Cy.L0 N F x (i:Int)=xM (.bool (CX (x.drop i))):=by
 obtain⟨hl,hu⟩:=Hq hx;intro k
 induction k with
 | zero =>
   intro i F hi hF;obtain⟨F,rfl⟩:∃G,F=G+1:=⟨F-1,by omega⟩
   rw[BT.Cy.B1,Bw,Ag (by omega),Af,Ap (by omega)]; rfl
 | succ k ih =>
   intro i F hi hF;obtain⟨F,rfl⟩:∃G,F=G+1:=⟨F-1,by omega⟩
   obtain⟨n,hn,_⟩:=BR (hu i (by omega));rw[BT.Cy.B1,Bw,Ac (show(i:Int)<(x.length:Int) by omega),Aa,Ac (show(0:Int)<=(i:Int) by omega),Ah,Aa,Ad,show Jx (x.getD i 0)=wg by rw[hn]; exact Ha n,Aa,Te,GD (by omega)];unfold CX;rw[z9];cases decide (B8 (x.getD i 0)=0) with
   | false=>rfl
   | true =>rw[AD,Af,AR,Bq (by omega) (by omega)];exact ih (i+1) F (by omega) (by omega)
theorem BT.Cy.Bi:Kq 143 BT.Cy.Bk:=D6 BT.Cy.E Tryz.func143 (kc BJ.Kind.Bi .nil) fun x hp=>by
 refine⟨x.length+1,.bool (CX (x.drop 1)),[],?_,.bool⟩;rw[BT.Cy.ev];by_cases h:x.length=0
 ·rw[BT.Cy.B1,Bw,Ag (by omega),Af,Ap (by omega)]; rfl
 ·exact R7 (x.length+1) hp (x.length-1) 1 (x.length+1) (by omega) (by omega)
theorem Vk(N:Nat){x:Bb}(hx:CW x=wg):∀(k i F:Nat),i+k=x.length->k<F->BT.lead.L0 N F x (i:Int)=xM (.int .i64 (N4 (x.drop i) (i:Int))):=by
 obtain⟨hl,hu⟩:=Hq hx;intro k
 induction k with
 | zero =>
   intro i F hi hF;obtain⟨F,rfl⟩:∃G,F=G+1:=⟨F-1,by omega⟩
   rw[BT.lead.B1,Bw,Ag (by omega),Af,Ap (by omega)]; rfl
 | succ k ih =>
   intro i F hi hF;obtain⟨F,rfl⟩:∃G,F=G+1:=⟨F-1,by omega⟩
   obtain⟨n,hn,_⟩:=BR (hu i (by omega));rw[BT.lead.B1,Bw,Ac (show(i:Int)<(x.length:Int) by omega),Aa,Ac (show(0:Int)<=(i:Int) by omega),Ah,Aa,Ad,show Jx (x.getD i 0)=wg by rw[hn]; exact Ha n,Aa,Te,GD (by omega),N4];by_cases h:B8 (x.getD i 0)=0
   ·rw[Ac h,Az h,AD,Af,Bq (by omega) (by omega)];exact ih (i+1) F (by omega) (by omega)
   ·rw[Ag h,Ay h]; rfl
theorem BT.lead.Bi:Kq 146 BT.lead.Bk:=D6 BT.lead.E Tryz.func146 (kc BJ.Kind.Bi .nil) fun x hp=>by refine⟨x.length+1,.int .i64 (N4 x 0),[],?_,.int⟩;rw[BT.lead.ev];exact Vk (x.length+1) hp x.length 0 (x.length+1) (by omega) (by omega)
theorem AcI:∀(x:Bb) (i:Nat),CX x=wy->∃j:Nat,N4 x (i:Int)=((i+j:Nat):Int)/\j<x.length/\x.getD j 0=IK x
 | [],i,h=>by cases h
 | b::l,i,h=>by
   unfold N4 IK;by_cases hk:B8 b=0
   ·rw[Az hk,Az hk]
    have h':CX l=wy:=by unfold CX at h ⊢;rw[z9,Ac hk,AR] at h;exact h
    obtain⟨j,e1,e2,e3⟩:=AcI l (i+1) h';refine⟨j+1,?_,by simp; omega,by simpa using e3⟩;have:((i:Int)+1)=((i+1:Nat):Int):=rfl;rw[this,e1]; omega
   ·rw[Ay hk,Ay hk];exact⟨0,rfl,by simp,rfl⟩
theorem X5{x:Bb}(h:CX (x.drop 1)=wy):CX x=wy:=by
 cases x with
 | nil=>exact h
 | cons b l =>have h:CX l=wy:=h;unfold CX at h ⊢;rw[z9,h,Bool.and_false]
theorem Vi(N:Nat){x:Bb}(h64:x.length<=64):∀(k i F:Nat),i+1+k=x.length->k<F ->
 BT.En.L0 N F x ((i+1:Nat):Int) (Gc (i+1) fun _=>0)=xM (.Cw [.agg [.Bh (.own 100004 tB) .u64 (Gc x.length fun _=>0),.int .u64 0,.int .u64 (x.getD 0 0)],.bool wg]):=by
 intro k
 induction k with
 | zero =>
   intro i F hi hF;obtain⟨F,rfl⟩:∃G,F=G+1:=⟨F-1,by omega⟩
   rw[BT.En.B1,Bw,Ag (by omega),Af,Ac (by omega),Aa,show i+1=x.length by omega]
 | succ k ih =>
   intro i F hi hF;obtain⟨F,rfl⟩:∃G,F=G+1:=⟨F-1,by omega⟩
   rw[BT.En.B1,Bw,Ac (by omega),Aa,Ac (by rw[HF (by omega)]; unfold GL; omega),Aa,Bq (by omega) (by omega)];have:=ih (i+1) F (by omega) (by omega);rw[IE (i+1+1) (i+1) _ rfl,GY] at this;rw[IE (i+1) i _ rfl];exact this
theorem Xq(N:Nat){y:Bb}{mu beta d:Int}(ay:Bg y=wg)(hmu:Bo mu=wg)(hd:Bo d=wg)(h64:y.length<=64):∀(k i F:Nat),i+1+k=y.length->k<F ->
 BT.En.L2 N F y mu beta d ((i+1:Nat):Int) (Gc (i+1) fun j=>El (y.getD j 0) d)=xM (.Cw [.agg [.Bh (.own 100004 tB) .u64 (Gc y.length fun j=>El (y.getD j 0) d),.int .u64 (El (CA mu (y.getD 0 0)) mu),.int .u64 beta],.bool wg]):=by
 intro k
 induction k with
 | zero =>
   intro i F hi hF;obtain⟨F,rfl⟩:∃G,F=G+1:=⟨F-1,by omega⟩
   have hy:=Gk ay 0;rw[BT.En.EU,Bw,Ag (by omega),Af,Ac (show(0:Int)<(y.length:Int) by omega),Aa,Ac (show 0<y.length by omega),Aa,hmu,hy,Ah,Aa,Kb hmu hy,Ah,Aa,show i+1=y.length by omega]
 | succ k ih =>
   intro i F hi hF;obtain⟨F,rfl⟩:∃G,F=G+1:=⟨F-1,by omega⟩
   rw[BT.En.EU,Bw,Ac (show((i+1:Nat):Int)<(y.length:Int) by omega),Aa,Ac (show(0:Int)<=((i+1:Nat):Int) by omega),Ah,Aa,Ad,Ac (show i+1<y.length by omega),Aa,Gk ay,hd,Ah,Aa,Ac (by rw[HF (by omega)]; unfold GL; omega),Aa,Bq (by omega) (by omega)];have:=ih (i+1) F (by omega) (by omega);rw[IE (i+1+1) (i+1) _ rfl,GY] at this;rw[IE (i+1) i _ rfl];exact this
theorem TE(N:Nat){x:Bb}(hx:CW x=wg)(hl:x.length<=64):∀(k i F:Nat),i+k=x.length->k<F ->
 BT.En.L1 N F x (i:Int) ((x.take i).map fun b=>BP b (-BK (BA x)))=BT.En.L1 N (F-k) x (x.length:Int) (BM x (-BK (BA x))):=by
 obtain⟨_,hu⟩:=Hq hx;have he:=UH (BA x);intro k
 induction k with
 | zero =>intro i F hi hF;rw[show i=x.length by omega,yY (A7 _)]; rfl
 | succ k ih =>
   intro i F hi hF;obtain⟨F,rfl⟩:∃G,F=G+1:=⟨F-1,by omega⟩
   rw[BT.En.BZ,Bw,Ac (show(i:Int)<(x.length:Int) by omega),Aa,Ac (show(0:Int)<=(i:Int) by omega),Ah,Aa,Ad,Bq (x:=(0:Int)-BK (BA x)) (by omega) (by omega),show(0:Int)-BK (BA x)=-BK (BA x) by omega,
    show D1 (vB x i 0) (-BK (BA x))=wg from Bf.2 ⟨hu i (by omega),Bt.2 (by omega)⟩,Aa,Ac (by rw[AK,zV]; unfold GL; omega),Aa,Bq (by omega) (by omega)]
   have:=ih (i+1) F (by omega) (by omega);rw[Tu (by omega)] at this;rw[show F+1-(k+1)=F-k by omega];exact this
theorem BT.En.Bi:Kq 120 BT.En.Bk:=D6 BT.En.E Tryz.func120 (kc BJ.Finite.Bi (kc BJ.DO.Bi (kc BJ.Neg.Bi (kc C2.N8.Bi (kc Bv.Cu.Bi (kc Bv.Div.Bi (kc Bv.Norm.Bi (kc Bv.Ct.Bi (kc Bv.Sub.Bi (kc BT.lead.Bi (kc BT.Cy.Bi .nil))))))))))) fun x hp=>by
 obtain⟨hx,hl⟩:=Bf.1 (show(CW x&&CE (1<=vA x/\vA x<=64))=wg from hp);have hl:=Bt.1 hl;have al:=OZ hx;have he:=UH (BA x);show ∃N dv drops,_=xM dv/\Wk drops dv (DV.Cw [.agg [.Bh .BF .u64 (I2 x).1,.int .u64 (I2 x).2.1,.int .u64 (I2 x).2.2.1],.bool (decide ((I2 x).2.2.2=0))]);have hrun:=BT.En.ev 66 x;rw[hx,Aa] at hrun;unfold I2;by_cases h3:CX (x.drop 1)=wg
 ·rw[h3,Aa] at hrun;rw[Az h3];exact⟨66,_,[100004],hrun.trans (Vi 66 (by omega) (x.length-1) 0 66 (by omega) (by omega)),Wk.Gx (.cons (Wk.Gt (.cons (.drop _ _ _ _ (zh.2 rfl)) (.cons .int (.cons .int .nil)))) (.cons .bool .nil))⟩
 ·rw[Ay h3];have h3:CX (x.drop 1)=wy:=by simpa using h3
  rw[h3,Af,Aa,Me,Aa] at hrun;have hs:=TE 66 hx hl.2 x.length 0 66 (by omega) (by omega);have hrun:=hrun.trans hs;obtain⟨j,j1,j2,j3⟩:=AcI x 0 (X5 h3);rw[AO] at j1;have j1:N4 x 0=(j:Int):=j1;have ly:=VG x (-BK (BA x));have ay:=VH (-BK (BA x)) al;have oky:CW (BM x (-BK (BA x)))=wg:=GN ay (by omega);have iy:=Gk ay 0;have gy:=O5 (x:=x) (k:=-BK (BA x)) (j:=0) (by omega);have sp:∀mu:Int,Bo mu=wg->D1 mu (BK (BA x))=wg:=fun mu h=>Bf.2 ⟨h,Bt.2 (by omega)⟩
  have ny:=Q7 (BM x (-BK (BA x)));obtain⟨F,hF⟩:∃F,66-x.length=F+1:=⟨65-x.length,by omega⟩
  have key:∀mu:Int,Jn x=mu->Bo mu=wg->BT.En.L2 66 66 (BM x (-BK (BA x))) mu (BP mu (BK (BA x))) (CA ((BM x (-BK (BA x))).getD 0 0) mu) 1 [4607182418800017408]=xM (.Cw [.agg [.Bh (.own 100004 tB) .u64 (K6 x),.int .u64 (Lw x),.int .u64 (DK x)],.bool wg]):=by
   intro mu hmu hi;have:=Xq 66 (y:=BM x (-BK (BA x))) (mu:=mu) (beta:=BP mu (BK (BA x))) (d:=CA ((BM x (-BK (BA x))).getD 0 0) mu) ay hi (Kb iy hi) (by omega) (x.length-1) 0 66 (by omega) (by omega)
   have e1:Gc (BM x (-BK (BA x))).length (fun j=>El (vB (BM x (-BK (BA x))) j 0) (CA (vB (BM x (-BK (BA x))) 0 0) mu))=K6 x:=by unfold K6;rw[ly,gy,<- hmu];exact VI fun j hj=>by rw[O5 hj]; rfl
   have e2:El (CA mu (vB (BM x (-BK (BA x))) 0 0)) mu=Lw x:=by unfold Lw;rw[gy,hmu]; rfl
   have e3:BP mu (BK (BA x))=DK x:=by unfold DK; rw[hmu]
   rw[e1,e2] at this;rw[e3] at this ⊢;exact this
  have fin:∀(b:Bool) (d:Option DV),CO (DK x)=b->(d=cond (!b) (xM (.Cw [.agg [.nil,.int .u64 (0:Int),.int .u64 (0:Int)],.bool wy])) (xM (.Cw [.agg [.Bh (.own 100004 tB) .u64 (K6 x),.int .u64 (Lw x),.int .u64 (DK x)],.bool wg]))) ->
   ∃dv drops,d=xM dv/\Wk drops dv (DV.Cw [.agg [.Bh .BF .u64 (if CO (DK x)=wg then (K6 x,Lw x,DK x,(0:Int)) else ([],0,0,2)).1,.int .u64 (if CO (DK x)=wg then (K6 x,Lw x,DK x,(0:Int)) else ([],0,0,2)).2.1,.int .u64 (if CO (DK x)=wg then (K6 x,Lw x,DK x,(0:Int)) else ([],0,0,2)).2.2.1],.bool (decide ((if CO (DK x)=wg then (K6 x,Lw x,DK x,(0:Int)) else ([],0,0,2)).2.2.2=0))]):=by
   intro b d hb h;cases b with
   | true =>rw[hb,Az rfl];exact⟨_,[100004],h,Wk.Gx (.cons (Wk.Gt (.cons (.drop _ _ _ _ (zh.2 rfl)) (.cons .int (.cons .int .nil)))) (.cons .bool .nil))⟩
   | false =>rw[hb,Ay (by decide)];exact⟨_,[],h,Wk.Gx (.cons (Wk.Gt (.cons Kv (.cons .int (.cons .int .nil)))) (.cons .bool .nil))⟩
  have go:=fin (CO (DK x)) _ rfl (hrun.trans ?_)
  ·obtain⟨dv,drops,k1,k2⟩:=go;exact⟨66,dv,drops,k1,k2⟩
  have hlead:=Td al;rw[hF,BT.En.BZ,Bw,Ag (show ¬(x.length:Int)<(x.length:Int) by omega),Af,oky,Aa,hx,Aa,j1,Ac (show(0:Int)<=(j:Int) by omega),Ac (show(j:Int)<(x.length:Int) by omega),Ah,Aa,Ad,j3,hlead,Aa];have d1:decide ((0:Int)<((BM x (-BK (BA x))).length:Int))=wg:=Ac (by omega);have d2:decide (0<(BM x (-BK (BA x))).length)=wg:=Ac (by omega);cases hn:DI (IK x) with
  | true =>
    have hm:Jn x=CB (BM x (-BK (BA x))):=by unfold Jn; rw[Az hn]
    have eb:DK x=BP (CB (BM x (-BK (BA x)))) (BK (BA x)):=by unfold DK; rw[hm]
    rw[AD,Af,sp _ ny,Aa,FP ny,Aa,key _ hm ny,d1,Aa,d2,Aa,iy,ny,Ah,Aa,eb]
  | false =>
    have hm:Jn x=CM (CB (BM x (-BK (BA x)))):=by unfold Jn; rw[Ay (by rw[hn]; decide)]
    have my:=Uf ny;have eb:DK x=BP (CM (CB (BM x (-BK (BA x))))) (BK (BA x)):=by unfold DK; rw[hm]
    rw[AZ,Aa,ny,Aa,sp _ my,Aa,FP my,Aa,key _ hm my,d1,Aa,d2,Aa,iy,my,Ah,Aa,eb]
end Go.Proofs.S1
end
