/- A verified evaluator of the program's form and its use for this seat: Den10, Den11, Den12, Den13, Den14, Den15, Den16, Den17, Den18, Den19, Den20. -/
import Derived.Test.YthajngaadbanfaaGreatTA
set_option linter.unusedVariables false
set_option linter.unusedSimpArgs false
open Option renaming some->xQ,none->xY
open Bool renaming true->xZ,false->x5
open List renaming length->wj,getD->wt
open List renaming mem_append->zA,take_zero->xx,length_nil->xw,getElem?_take_eq_none->yU,getElem?_take_of_lt->yV,getElem?_drop->yL,mem_of_mem_drop->yo,mem_of_mem_take->yX,mem_singleton->ze,drop_zero->zY,take_length->z9,getElem?_append_left->yC,getElem?_cons_zero->wz,foldl_cons->wA,map_cons->yq,length_drop->zP,flatten_cons->yB,length_take->zM,replicate->zp,mem_replicate->xJ,getElem?_replicate->xK,length_replicate->xe,nodup_cons->xz,mem_map_of_mem->vD,getElem?_of_mem->xM,getElem?_eq_some_iff->xv,mem_of_getElem?->yW,length_cons->zj,length_set->yN,nil_append->zX
open Option renaming map_some->yn,some.inj->xL,bind_none->wB
open Bool renaming false_eq_true->zW,not_eq_true->zE
open Array renaming length_toList->z5,foldl_toList->vA,range->xd,toList_inj->yh,toList_map->xf,eq_empty_of_size_eq_zero->xg,toList_append->vE
open Nat renaming succ_mul->z8,min_eq_left->yv
namespace Go.Den
def HC(I:Nat->Prop):Ctx:={ ok:=I,B:=0,fr:=x5,own:=fun _=>xY,at_:=fun _=>xY }
def DW(I:Nat->Prop)(own:Nat->Option Nat)(w w':World):Ctx :={ ok:=fun b=>b<w'.heap.size/\(I b\/w.heap.size<=b)/\∀i,own i≠xQ b,B:=w.heap.size,fr:=xZ,own:=own,at_:=fun _=>xY }
structure Ahz(own:Nat->Option Nat)(w w':World):Prop where
 lt:∀i b,own i=xQ b->w.heap.size<=b/\b<w'.heap.size
 inj:∀i j b,own i=xQ b->own j=xQ b->i=j
def MG(P:Program)(f:FuncId)(args:List DV)(out:DV):Prop:=
 ∀(w:World) (vals:Array Value) (I:Nat->Prop),(∀b,I b->b<w.heap.size)->BM (HC I) w args vals.toList ->
  Calls P f vals w fun e w'=>∃v own,e=.returned v/\Go.RowKit.Below w.heap.size w w'/\Ahz own w w'/\B0 (DW I own w w') w' out v
structure Aet(P:Program)(g:FuncId)(e:TypeId):Prop where
 call:∀(args:Array Value) (w:World),(callFunc g args).run P w=.ok (.enter g args) w
 run:∀(w:World) (r c:Int) (v:Value) (l:Bf),w.ownsRow 0 e 1 v l.length (l.map (Value.int .u64)) ->
  Calls P g #[.agg #[.int .i64 r,.int .i64 c,v]] w fun en w'=>(∃u,en=.returned u)/\Go.RowKit.Below 0 w w'/\∀b,b<w.heap.size->v.ownBlock≠xQ b->w'.heap[b]?=w.heap[b]?
structure LC(P:Program)(g:FuncId)(W:Writer):Prop where
 call:∀(args:Array Value) (w:World),(callFunc g args).run P w=.ok (.enter g args) w
 run:∀(w:World) (v:Value) (l:Bf) (ds:List DV) (vals:List Value),w.ownsRow 0 W.elem 1 v l.length (l.map (Value.int W.kind)) ->
  BM (HC fun b=>b<w.heap.size/\v.ownBlock≠xQ b) w ds vals->W.pre l ds=xZ ->
  Calls P g (v::vals).toArray w fun en w'=>(∃u,en=.returned u)/\w'.ownsRow 0 W.elem 1 v (W.out l ds).length ((W.out l ds).map (Value.int W.kind)) /\
   Go.RowKit.Below 0 w w'/\∀b,b<w.heap.size->v.ownBlock≠xQ b->w'.heap[b]?=w.heap[b]?
def RV(P:Program)(g:FuncId)(e:Ez):Prop:=∀args,e.pre args=xZ->MG P g args (e.out args)
def seen(I0:Nat->Prop)(B:Nat)(A:Nat->Option Place)(w:World)(ns:List Nat)(b:Nat):Prop :=(Cc I0 B A w).ok b\/∃n p,n∈ns/\A n=xQ p/\p.st≠.dead/\p.FP=xQ b
theorem seen.mono{I0:Nat->Prop}{B:Nat}{A:Nat->Option Place}{w:World}{ns ms:List Nat}(h:∀n∈ns,n∈ms){b:Nat}:seen I0 B A w ns b->seen I0 B A w ms b:=fun hb =>
 hb.imp id fun⟨n,p,hn,r⟩=>⟨n,p,h n hn,r⟩
theorem Kj{I I':Nat->Prop}(h:∀b,I b->I' b):I6 (HC I) (HC I'):=⟨h,rfl,fun _=>rfl,fun _=>rfl⟩
def Ik(h:DG)(f:Nat)(l:List DV):Option (List DV × List Nat) :=l.foldr (fun d acc=>(lower h f d).bind fun(x,ns)=>acc.bind fun(xs,ms)=>xQ (x::xs,ns++ms)) (xQ ([],[]))
theorem Y9(h:DG)(f:Nat)(d:DV)(l:List DV):Ik h f (d::l)=(lower h f d).bind fun(x,ns)=>(Ik h f l).bind fun(xs,ms)=>xQ (x::xs,ns++ms):=rfl
theorem Ri{h:DG}{f:Nat}{d:DV}{l:List DV}{r:List DV × List Nat}(hh:Ik h f (d::l)=xQ r):
 ∃x ns xs ms,lower h f d=xQ (x,ns)/\Ik h f l=xQ (xs,ms)/\r=(x::xs,ns++ms):=by
 rw[Y9] at hh;cases h1:lower h f d with
 | none=>simp[h1] at hh
 | some a =>
   obtain⟨x,ns⟩:=a;cases h2:Ik h f l with
   | none=>simp[h1,h2] at hh
   | some b =>obtain⟨xs,ms⟩:=b;simp only[h1,h2,Aj,Ae] at hh;exact⟨x,ns,xs,ms,rfl,rfl,hh.symm⟩
section
variable{I0:Nat->Prop}{B:Nat}{A:Nat->Option Place}{h:DG}{w:World}
theorem Ks{f:Nat}(ih:∀(d:DV) (v:Value) d' ns,lower h f d=xQ (d',ns)->B0 (Cc I0 B A w) w d v->B0 (HC (seen I0 B A w ns)) w d' v):
 ∀(l:List DV) (vs:List Value) l' ns,Ik h f l=xQ (l',ns)->BM (Cc I0 B A w) w l vs->BM (HC (seen I0 B A w ns)) w l' vs
 | [],vs,l',ns,hl,hv=>by simp only[Ik,List.foldr_nil,Ae,Ak] at hl;obtain⟨rfl,rfl⟩:=hl;rw[BM.Gj] at hv ⊢; exact hv
 | d::l,vs,l',ns,hl,hv=>by
   obtain⟨x,n1,xs,ms,h1,h2,e⟩:=Ri hl;cases e;rw[BM.CW] at hv ⊢;obtain⟨u,us,rfl,hu,hus⟩:=hv
   exact⟨u,us,rfl,B0.Fg (Kj fun b=>seen.mono (fun n hn=>zA.2 (.inl hn))) _ _ (ih d u _ _ h1 hu),
    BM.Fg (Kj fun b=>seen.mono (fun n hn=>zA.2 (.inr hn))) _ _ (Ks ih l us xs ms h2 hus)⟩
theorem R7{sv:Value}{sz off len:Nat}{v:Value}(hs:KN sv sz off len v):∃a cap,v=.slice a len cap/\len<=cap/\(len=0\/∃g n c,sv=.slice (xQ ⟨g,0,xY⟩) n c/\a=xQ ⟨g,off*sz,xY⟩/\off+len<=n):=by
 unfold KN at hs;split at hs
 ·rename_i g n c;obtain⟨hle,a,cap,rfl,hc,ha⟩:=hs;exact⟨xQ a,cap,rfl,hc,ha.imp id fun e=>⟨g,n,c,rfl,by rw[e],hle⟩⟩
 ·obtain⟨rfl,rfl,rfl⟩:=hs; exact⟨xY,0,rfl,AB _,.inl rfl⟩
 ·exact hs.elim
theorem Iw{p:Place}{sv:Value}(hk:p.kind=.row sv 1){e:TypeId}{k:IntKind}{l:Bf}(ho:w.ownsRow B e 1 sv l.length (l.map (Value.int k))){off len:Nat}{v:Value}(hs:KN sv 1 off len v){ok:Nat->Prop}(hok:∀b,p.FP=xQ b->ok b):
 ∃a cap,v=.slice a ((l.drop off).take len).length cap/\((l.drop off).take len).length<=cap/\((l.drop off).take len=[]\/∃b o,a=xQ ⟨b,o,xY⟩/\ok b/\∀(i:Nat) n,((l.drop off).take len)[i]?=xQ n->w.cell? ⟨b,o+i,xY⟩=xQ (.int k n)):=by
 obtain⟨a,cap,rfl,hc,hcase⟩:=R7 hs;rcases hcase with rfl | ⟨g,n,c,rfl,rfl,hle⟩
 ·simp only[xx,xw]; exact⟨a,cap,rfl,hc,.inl trivial⟩
 ·have hn:n=l.length:=by rcases FG ho with ⟨e,_⟩ | ⟨_,_,e,_⟩<;>cases e; rfl
  have hlen:((l.drop off).take len).length=len:=by simp; omega
  rw[hlen];refine⟨_,cap,rfl,hc,?_⟩;by_cases h0:len=0
  ·subst h0; simp
  ·obtain⟨g',c',e',_,hrd⟩:=FH ho (by omega);cases e';refine .inr ⟨g,off*1,rfl,hok g (by unfold Place.FP; rw[hk]; rfl),fun i m hi=>?_⟩
   have hlt:i<len:=by
    rcases AF i len with h' | h'
    ·exact h'
    ·rw[yU h'] at hi; cases hi
   rw[yV hlt,yL] at hi;have:=hrd (off+i) (.int k m) (by rw[Ba,hi]; rfl);rw[AS] at this;rw[AR]; exact this
theorem Iv{p:Place}{sv:Value}{sz:Nat}(hk:p.kind=.row sv sz){e:TypeId}{l:List (List DV)}{rows:List (List Value)}{c:Ctx}(hrr:Dx c w l rows)(hlen:∀r∈rows,r.length=sz/\∀u∈r,u.oneCell'=xZ)(ho:w.ownsRow B e sz sv l.length rows.flatten){off len:Nat}{v:Value}(hs:KN sv sz off len v){ok:Nat->Prop}(hok:∀b,p.FP=xQ b->ok b):
 ∃a cap,v=.slice a ((l.drop off).take len).length cap/\((l.drop off).take len).length<=cap/\((l.drop off).take len=[]\/∃b o rows',a=xQ ⟨b,o,xY⟩/\ok b/\Dx c w ((l.drop off).take len) rows'/\(∀r∈rows',r.length=sz/\∀u∈r,u.oneCell'=xZ)/\∀(i:Nat) u,rows'.flatten[i]?=xQ u->w.cell? ⟨b,o+i,xY⟩=xQ u):=by
 obtain⟨a,cap,rfl,hc,hcase⟩:=R7 hs;rcases hcase with rfl | ⟨g,n,cc,rfl,rfl,hle⟩
 ·simp only[xx,xw]; exact⟨a,cap,rfl,hc,.inl trivial⟩
 ·have hn:n=l.length:=by rcases FG ho with ⟨e,_⟩ | ⟨_,_,e,_⟩<;>cases e; rfl
  have hlen':((l.drop off).take len).length=len:=by simp; omega
  rw[hlen'];refine⟨_,cap,rfl,hc,?_⟩;by_cases h0:len=0
  ·subst h0; simp
  ·obtain⟨g',c',e',_,hrd⟩:=FH ho (by omega);cases e';refine .inr ⟨g,off*sz,(rows.drop off).take len,rfl,hok g (by unfold Place.FP; rw[hk]; rfl),(hrr.drop off).take len,fun r hr=>hlen r (yo (yX hr)),fun i u hi=>?_⟩;rw[Kg (fun r hr=>(hlen r (yo hr)).1),Mt (fun r hr=>(hlen r hr).1)] at hi
   have hlt:i<len*sz:=by
    rcases AF i (len*sz) with h' | h'
    ·exact h'
    ·rw[yU h'] at hi; cases hi
   rw[yV hlt,yL] at hi;have:=hrd _ _ hi;rwa[AS] at this
theorem PR{n:Nat}{p:Place}(hp:A n=xQ p)(hnd:p.st≠.dead){ns:List Nat}(hn:n∈ns):∀b,p.FP=xQ b->seen I0 B A w ns b :=fun _ hb=>.inr ⟨n,p,hn,hp,hnd,hb⟩
theorem Qj(hm:Mem I0 B A h w):∀(f:Nat) (d:DV) (v:Value) d' ns,lower h f d=xQ (d',ns)->B0 (Cc I0 B A w) w d v->B0 (HC (seen I0 B A w ns)) w d' v:=by
 intro f
 induction f with
 | zero=>intro d v d' ns hl; simp[lower] at hl
 | succ f ih =>
   intro d v d' ns hl hv;have hL:=Ks ih;cases d with
   | undef=>simp only[lower,Ae,Ak] at hl; obtain⟨rfl,rfl⟩:=hl; simp[B0]
   | nil=>simp only[lower,Ae,Ak] at hl; obtain⟨rfl,rfl⟩:=hl; simpa only[B0] using hv
   | bool b=>simp only[lower,Ae,Ak] at hl; obtain⟨rfl,rfl⟩:=hl; simpa only[B0] using hv
   | int k n=>simp only[lower,Ae,Ak] at hl; obtain⟨rfl,rfl⟩:=hl; simpa only[B0] using hv
   | fl n=>simp only[lower,Ae,Ak] at hl; obtain⟨rfl,rfl⟩:=hl; simpa only[B0] using hv
   | nb n=>simp only[lower,Ae,Ak] at hl; obtain⟨rfl,rfl⟩:=hl; simpa only[B0] using hv
   | agg l =>
     have e:lower h (f+1) (.agg l)=(Ik h f l).bind fun(l,ns)=>xQ (.agg l,ns):=rfl
     rw[e] at hl;cases h1:Ik h f l with
     | none=>simp[h1] at hl
     | some a =>obtain⟨l',ns'⟩:=a;simp only[h1,Aj,Ae,Ak] at hl; obtain⟨rfl,rfl⟩:=hl;simp only[B0] at hv ⊢;obtain⟨vs,rfl,hls⟩:=hv;exact⟨vs,rfl,hL l _ _ _ h1 hls⟩
   | CR l=>simp[lower] at hl
   | Bj g k l =>
     cases g with
     | own i e=>simp[lower] at hl
     | arg =>simp only[lower,Ae,Ak] at hl; obtain⟨rfl,rfl⟩:=hl;simp only[B0] at hv ⊢;obtain⟨a,cap,rfl,hc,hh⟩:=hv;exact⟨a,cap,rfl,hc,hh.imp id fun⟨b,o,e,hb,hr⟩=>⟨b,o,e,.inl hb,hr⟩⟩
     | BE =>simp only[lower,Ae,Ak] at hl; obtain⟨rfl,rfl⟩:=hl;simp only[B0] at hv ⊢;obtain⟨a,cap,rfl,hc,hh⟩:=hv;exact⟨a,cap,rfl,hc,hh.imp id fun⟨b,o,e,hb,hr⟩=>⟨b,o,e,.inl hb.1,hr⟩⟩
   | Cu g sz l =>
     have wd:I6 (Cc I0 B A w).bare (HC (seen I0 B A w [])).bare:=⟨fun b hb=>.inl hb,rfl,fun _=>rfl,fun _=>rfl⟩
     cases g with
     | own i e=>simp[lower] at hl
     | arg =>simp only[lower,Ae,Ak] at hl; obtain⟨rfl,rfl⟩:=hl;simp only[B0] at hv ⊢;obtain⟨a,cap,rfl,hc,hh⟩:=hv;exact⟨a,cap,rfl,hc,hh.imp id fun⟨b,o,rows,e,hb,hrr,hlen,hr⟩=>⟨b,o,rows,e,.inl hb,Dx.Fg wd _ _ hrr,hlen,hr⟩⟩
     | BE =>simp only[lower,Ae,Ak] at hl; obtain⟨rfl,rfl⟩:=hl;simp only[B0] at hv ⊢;obtain⟨a,cap,rfl,hc,hh⟩:=hv;exact⟨a,cap,rfl,hc,hh.imp id fun⟨b,o,rows,e,hb,hrr,hlen,hr⟩=>⟨b,o,rows,e,.inl hb.1,Dx.Fg wd _ _ hrr,hlen,hr⟩⟩
   | Dh n =>
     simp only[B0] at hv;obtain⟨_,p,hp,hd⟩:=hv;simp only[lower] at hl;split at hl
     ·rename_i fz e k l hlk;simp only[Ae,Ak] at hl; obtain⟨rfl,rfl⟩:=hl;obtain⟨hst,sv,hk,ho⟩:=Em hm hp hlk;obtain⟨size,hk'⟩:=hd.resolve_left (Cm hst);rw[hk] at hk'; cases hk';have:=Iw hk ho (ER ho) (PR (I0:=I0) (B:=B) (A:=A) (w:=w) hp (Cm hst) (ze.2 rfl));simp only[zY,z9] at this;simp only[B0];exact this
     ·rename_i fz e sz l hlk;simp only[Ae,Ak] at hl; obtain⟨rfl,rfl⟩:=hl;obtain⟨hst,_,sv,rows,hk,hrr,hlen,ho⟩:=EE hm hp hlk;obtain⟨size,hk'⟩:=hd.resolve_left (Cm hst);rw[hk] at hk'; cases hk';have wd:I6 (Cc I0 B A w).bare (HC (seen I0 B A w [n])).bare:=⟨fun b hb=>.inl hb,rfl,fun _=>rfl,fun _=>rfl⟩
      have:=Iv hk (Dx.Fg wd _ _ hrr) hlen ho (ER ho) (PR (I0:=I0) (B:=B) (A:=A) (w:=w) hp (Cm hst) (ze.2 rfl));simp only[zY,z9] at this;simp only[B0];exact this
     ·cases hl
   | JX n off len =>
     simp only[B0] at hv;obtain⟨_,p,hp,hd⟩:=hv;simp only[lower] at hl;split at hl
     ·rename_i fz e k l hlk;simp only[Ae,Ak] at hl; obtain⟨rfl,rfl⟩:=hl;obtain⟨hst,sv,hk,ho⟩:=Em hm hp hlk;obtain⟨sv',size,hk',hs⟩:=hd.resolve_left (Cm hst);rw[hk] at hk'; cases hk';simp only[B0];exact Iw hk ho hs (PR (I0:=I0) (B:=B) (A:=A) (w:=w) hp (Cm hst) (ze.2 rfl))
     ·rename_i fz e sz l hlk;simp only[Ae,Ak] at hl; obtain⟨rfl,rfl⟩:=hl;obtain⟨hst,_,sv,rows,hk,hrr,hlen,ho⟩:=EE hm hp hlk;obtain⟨sv',size,hk',hs⟩:=hd.resolve_left (Cm hst);rw[hk] at hk'; cases hk';have wd:I6 (Cc I0 B A w).bare (HC (seen I0 B A w [n])).bare:=⟨fun b hb=>.inl hb,rfl,fun _=>rfl,fun _=>rfl⟩
      simp only[B0];exact Iv hk (Dx.Fg wd _ _ hrr) hlen ho hs (PR (I0:=I0) (B:=B) (A:=A) (w:=w) hp (Cm hst) (ze.2 rfl))
     ·cases hl
   | ptr n i j =>
     cases i with
     | succ i=>simp[lower] at hl
     | zero =>
     have e:lower h (f+1) (.ptr n 0 j)=match look h n with | some (_,.box cs)=>(Ik h f (cs.drop j)).bind fun(l,ns)=>xQ (.CS l,n::ns) | _=>xY:=rfl
     rw[e] at hl;simp only[B0] at hv;obtain⟨_,p,hp,hd⟩:=hv;split at hl
     ·rename_i fz cs hlk;obtain⟨hst,b,e,cells,hk,hh,hls⟩:=Mm hm hp hlk;have hd:=hd.resolve_left (Cm hst);unfold HX at hd; rw[hk] at hd;obtain⟨_,rfl⟩:=hd;cases h1:Ik h f (cs.drop j) with
      | none=>simp[h1] at hl
      | some a =>
        obtain⟨l',ns'⟩:=a;simp only[h1,Aj,Ae,Ak] at hl; obtain⟨rfl,rfl⟩:=hl;simp only[B0];refine⟨b,j,cells.toList.drop j,rfl,.inr ⟨n,p,by simp,hp,Cm hst,by unfold Place.FP; rw[hk]⟩,?_,?_⟩
        ·exact BM.Fg (Kj fun b=>seen.mono (fun n hn=>AN _ hn)) _ _ (hL _ _ _ _ h1 (hls.drop j))
        ·have:=(VT hh).drop j;rw[AS] at this;exact this
     ·cases hl
   | CS cs =>
     simp only[lower,Ae,Ak] at hl; obtain⟨rfl,rfl⟩:=hl;have wd:I6 (Cc I0 B A w).bare (HC (seen I0 B A w [])).bare:=⟨fun b hb=>.inl hb,rfl,fun _=>rfl,fun _=>rfl⟩
     simp only[B0] at hv ⊢;obtain⟨b,o,vs,rfl,hb,hls,hrd⟩:=hv;exact⟨b,o,vs,rfl,.inl hb,BM.Fg wd _ _ hls,hrd⟩
   | fn g a c =>
     have e:lower h (f+1) (.fn g a c)=(Ik h f a).bind fun(a,ns)=>(Ik h f c).bind fun(c,ms)=>xQ (.fn g a c,ns++ms):=rfl
     rw[e] at hl;cases h1:Ik h f a with
     | none=>simp[h1] at hl
     | some x =>
       obtain⟨a',n1⟩:=x;cases h2:Ik h f c with
       | none=>simp[h1,h2] at hl
       | some y =>
         obtain⟨c',n2⟩:=y;simp only[h1,h2,Aj,Ae,Ak] at hl; obtain⟨rfl,rfl⟩:=hl;simp only[B0] at hv ⊢;obtain⟨fs',cs',rfl,hf,hcs⟩:=hv
         exact⟨fs',cs',rfl,BM.Fg (Kj fun b=>seen.mono (fun n hn=>zA.2 (.inl hn))) _ _ (hL a _ _ _ h1 hf),
          BM.Fg (Kj fun b=>seen.mono (fun n hn=>zA.2 (.inr hn))) _ _ (hL c _ _ _ h2 hcs)⟩
   | gd g d=>simp[lower] at hl
end
open Go.RowKit (Below)
section
variable{I0 I:Nat->Prop}{B:Nat}{own:Nat->Option Nat}{w w':World}{ad:Bool}
structure Good(I0 I:Nat->Prop)(B:Nat)(own:Nat->Option Nat)(w w':World)(ad:Bool)(A:Nat->Option Place):Prop where
 ok:∀b,(DW I own w w').ok b->(Cc I0 B A w').ok b
 own:ad=x5->∀i b,own i=xQ b->w.heap.size<=b->(Cc I0 B A w').ok b
 hB:B<=w.heap.size
theorem K9{w:World}{base base':Nat}{e:TypeId}{size n:Nat}{v:Value}{xs:List Value}(h:w.ownsRow base e size v n xs)(hb:base'<=base):w.ownsRow base' e size v n xs:=by
 obtain⟨h1,h2⟩:=h;refine⟨h1,?_⟩;rcases h2 with h2 | ⟨g,cap,cur,hv,hg,r⟩
 ·exact Or.inl h2
 ·exact Or.inr ⟨g,cap,cur,hv,AP hb hg,r⟩
theorem G6{w:World}{base:Nat}{e:TypeId}{size n:Nat}{v:Value}{xs:List Value}(h:w.ownsRow base e size v n xs):v.oneCell'=xZ:=by rcases h.2 with ⟨rfl,_⟩ | ⟨g,cap,cur,rfl,_⟩<;>rfl
theorem Ml{w:World}{base:Nat}{e:TypeId}{size n:Nat}{v:Value}{xs:List Value}(h:w.ownsRow base e size v n xs){b:Nat}(hb:v.ownBlock=xQ b):base<=b:=by
 rcases h.2 with ⟨rfl,_⟩ | ⟨g,cap,cur,rfl,hg,_⟩
 ·cases hb
 ·cases hb; exact hg
def Gm(I0 I:Nat->Prop)(B:Nat)(own:Nat->Option Nat)(w w':World)(ad:Bool)(os:List (Nat × OB))(is:List Nat)(G:Ctx->Prop):Prop:=
 ∃ps:List (Nat × Place),ps.map (·.1)=os.map (·.1)/\is.length=ps.length /\
  (∀(j:Nat) n p,ps[j]?=xQ (n,p)->p.st=.live/\∃i,is[j]?=xQ i/\∀b,p.FP=xQ b->own i=xQ b) /\
  ∀A,Good I0 I B own w w' ad A->(∀n p,(n,p)∈ps->A n=xQ p) ->
   G (Cc I0 B A w')/\∀(j:Nat) n p ob,ps[j]?=xQ (n,p)->os[j]?=xQ (n,ob)->Dy (Cc I0 B A w') w' p (x5,ob)
theorem Gm.none{G:Ctx->Prop}(h:∀A,Good I0 I B own w w' ad A->G (Cc I0 B A w')):Gm I0 I B own w w' ad [] [] G :=⟨[],rfl,rfl,fun j n p hj=>by simp at hj,fun A hA _=>⟨h A hA,fun j n p ob hj=>by simp at hj⟩⟩
theorem Gm.append{os os':List (Nat × OB)}{is is':List Nat}{G G':Ctx->Prop}(h:Gm I0 I B own w w' ad os is G)(h':Gm I0 I B own w w' ad os' is' G'):
 Gm I0 I B own w w' ad (os++os') (is++is') (fun c=>G c/\G' c):=by
 obtain⟨ps,h1,h2,h3,h4⟩:=h;obtain⟨ps',h1',h2',h3',h4'⟩:=h';have hl:os.length=ps.length:=by have:=congrArg wj h1; simpa using this.symm
 refine⟨ps++ps',by simp[h1,h1'],by simp[h2,h2'],?_,?_⟩
 ·intro j n p hj;rcases AF j ps.length with hlt | hge
  ·rw[yC hlt] at hj;obtain⟨a,i,b,c⟩:=h3 j n p hj;exact⟨a,i,by rw[yC (by omega)]; exact b,c⟩
  ·rw[AX hge] at hj;obtain⟨a,i,b,c⟩:=h3' _ n p hj;exact⟨a,i,by rw[AX (by omega),h2]; exact b,c⟩
 ·intro A hA hps;obtain⟨a,b⟩:=h4 A hA fun n p hn=>hps n p (zA.2 (.inl hn))
  obtain⟨a',b'⟩:=h4' A hA fun n p hn=>hps n p (zA.2 (.inr hn))
  refine⟨⟨a,a'⟩,fun j n p ob hj ho=>?_⟩;rcases AF j ps.length with hlt | hge
  ·rw[yC hlt] at hj;rw[yC (by omega)] at ho;exact b j n p ob hj ho
  ·rw[AX hge] at hj;rw[AX (by omega),hl] at ho;exact b' _ n p ob hj ho
theorem Gm.mono{os:List (Nat × OB)}{is:List Nat}{G G':Ctx->Prop}(h:Gm I0 I B own w w' ad os is G)(hG:∀c,G c->G' c):Gm I0 I B own w w' ad os is G':=by obtain⟨ps,h1,h2,h3,h4⟩:=h;exact⟨ps,h1,h2,h3,fun A hA hps=>let ⟨a,b⟩:=h4 A hA hps; ⟨hG _ a,b⟩⟩
theorem NR{g:Nat->DV->Option (DV × List (Nat × OB) × List Nat)}
 (ih:∀nm d v d' os is,B0 (DW I own w w') w' d v->g nm d=xQ (d',os,is)->Gm I0 I B own w w' ad os is (fun c=>B0 c w' d' v)):
 ∀(l:List DV) nm (vs:List Value) l' os is,BM (DW I own w w') w' l vs->IN g nm l=xQ (l',os,is)->Gm I0 I B own w w' ad os is (fun c=>BM c w' l' vs)
 | [],nm,vs,l',os,is,hl,h=>by simp only[IN,Ae,Ak] at h;obtain⟨rfl,rfl,rfl⟩:=h;rw[BM.Gj] at hl;exact Gm.none fun A _=>by rw[BM.Gj]; exact hl
 | d::l,nm,vs,l',os,is,hl,h=>by
   rw[BM.CW] at hl;obtain⟨u,us,rfl,hu,hus⟩:=hl;simp only[IN] at h;split at h
   ·rename_i x os1 is1 hg;split at h
    ·rename_i xs os2 is2 hg2;simp only[Ae,Ak] at h;obtain⟨rfl,rfl,rfl⟩:=h
     exact((ih nm d u x os1 is1 hu hg).append (NR ih l _ us xs os2 is2 hus hg2)).mono fun c hc=>by rw[BM.CW]; exact⟨u,us,rfl,hc.1,hc.2⟩
    ·cases h
   ·cases h
theorem KH{A:Nat->Option Place}(h:Good I0 I B own w w' ad A):I6 (DW I own w w').bare (Cc I0 B A w').bare :=⟨h.ok,rfl,fun _=>rfl,fun _=>rfl⟩
theorem Aep:∀(f:Nat) nm d v d' os is,B0 (DW I own w w') w' d v->Fm ad f nm d=xQ (d',os,is)->Gm I0 I B own w w' ad os is (fun c=>B0 c w' d' v):=by
 intro f
 induction f with
 | zero=>intro nm d v d' os is hv h; simp[Fm] at h
 | succ f ih =>
   intro nm d v d' os is hv h
   have plain:(∀A,Good I0 I B own w w' ad A->B0 (Cc I0 B A w') w' d v)->Fm ad (f+1) nm d=xQ (d,[],[])->Gm I0 I B own w w' ad os is (fun c=>B0 c w' d' v):=by intro hp he;rw[he] at h;simp only[Ae,Ak] at h;obtain⟨rfl,rfl,rfl⟩:=h;exact Gm.none hp
   cases d with
   | undef=>exact plain (fun A _=>by simp[B0]) rfl
   | nil=>exact plain (fun A _=>by simpa only[B0] using hv) rfl
   | bool b=>exact plain (fun A _=>by simpa only[B0] using hv) rfl
   | int k n=>exact plain (fun A _=>by simpa only[B0] using hv) rfl
   | fl n=>exact plain (fun A _=>by simpa only[B0] using hv) rfl
   | nb n=>exact plain (fun A _=>by simpa only[B0] using hv) rfl
   | agg l =>
     simp only[Fm] at h;split at h
     ·rename_i l' os' is' hg;simp only[Ae,Ak] at h;obtain⟨rfl,rfl,rfl⟩:=h;simp only[B0] at hv;obtain⟨vs,rfl,hl⟩:=hv;exact(NR ih l nm _ l' os' is' hl hg).mono fun c hc=>by simp only[B0]; exact⟨vs,rfl,hc⟩
     ·cases h
   | CR l =>
     simp only[Fm] at h;split at h
     ·rename_i l' os' is' hg;simp only[Ae,Ak] at h;obtain⟨rfl,rfl,rfl⟩:=h;simp only[B0] at hv;obtain⟨vs,rfl,hl⟩:=hv;exact(NR ih l nm _ l' os' is' hl hg).mono fun c hc=>by simp only[B0]; exact⟨vs,rfl,hc⟩
     ·cases h
   | Bj g k l =>
     cases g with
     | arg =>refine plain (fun A hA=>?_) rfl;simp only[B0] at hv ⊢;obtain⟨a,cap,rfl,hc,hh⟩:=hv;exact⟨a,cap,rfl,hc,hh.imp id fun⟨b,o,e,hb,hr⟩=>⟨b,o,e,hA.ok _ hb,hr⟩⟩
     | BE =>refine plain (fun A hA=>?_) rfl;simp only[B0] at hv ⊢;obtain⟨a,cap,rfl,hc,hh⟩:=hv;exact⟨a,cap,rfl,hc,hh.imp id fun⟨b,o,e,hb,hr⟩=>⟨b,o,e,⟨hA.ok _ hb.1,rfl,AP hA.hB hb.2.2⟩,hr⟩⟩
     | own i e =>
       simp only[B0] at hv;obtain⟨ho,hob⟩:=hv;cases ad with
       | true =>
         simp only[Fm,Aa,Ae,Ak] at h;obtain⟨rfl,rfl,rfl⟩:=h;refine⟨[(nm,⟨.live,.row v 1⟩)],rfl,rfl,?_,?_⟩
         ·intro j n p hj;cases j with
          | zero=>simp at hj; obtain⟨rfl,rfl⟩:=hj; exact⟨rfl,i,rfl,fun b hb=>hob b hb⟩
          | succ j=>simp at hj
         ·intro A hA hps;refine⟨by simp only[B0]; exact⟨G6 ho,⟨.live,.row v 1⟩,hps nm _ (by simp),.inr ⟨1,rfl⟩⟩,fun j n p ob hj hob'=>?_⟩;cases j with
          | zero =>simp only[wz,Ae,Ak] at hj hob'; obtain⟨rfl,rfl⟩:=hj; obtain⟨_,rfl⟩:=hob';unfold Dy;exact⟨rfl,v,rfl,K9 ho hA.hB⟩
          | succ j=>simp at hj
       | false =>
         simp only[Fm,Af,Ae,Ak] at h;obtain⟨rfl,rfl,rfl⟩:=h;refine Gm.none fun A hA=>?_
         simp only[B0];rcases FG ho with ⟨rfl,h0⟩ | ⟨g,cap,rfl,hc⟩
         ·have:l=[]:=AJ h0;subst this;exact⟨xY,0,rfl,AB _,.inl rfl⟩
         ·refine⟨_,cap,rfl,hc,.inr ⟨g,0,rfl,⟨hA.own rfl i g (hob g rfl) (Ml ho rfl),rfl,AP hA.hB (Ml ho rfl)⟩,fun j n hj=>?_⟩⟩;have:=ho.cells (g:=g) rfl j (.int k n) (by rw[Ba,hj]; rfl);rw[Addr.add_lit] at this;exact this
   | Cu g sz l =>
     cases g with
     | arg =>refine plain (fun A hA=>?_) rfl;simp only[B0] at hv ⊢;obtain⟨a,cap,rfl,hc,hh⟩:=hv;exact⟨a,cap,rfl,hc,hh.imp id fun⟨b,o,rows,e,hb,hrr,hlen,hr⟩=>⟨b,o,rows,e,hA.ok _ hb,Dx.Fg (KH hA) _ _ hrr,hlen,hr⟩⟩
     | BE =>refine plain (fun A hA=>?_) rfl;simp only[B0] at hv ⊢;obtain⟨a,cap,rfl,hc,hh⟩:=hv;exact⟨a,cap,rfl,hc,hh.imp id fun⟨b,o,rows,e,hb,hrr,hlen,hr⟩=>⟨b,o,rows,e,⟨hA.ok _ hb.1,rfl,AP hA.hB hb.2.2⟩,Dx.Fg (KH hA) _ _ hrr,hlen,hr⟩⟩
     | own i e =>
       simp only[B0] at hv;obtain⟨rows,hrr,hlen,ho,hob⟩:=hv;cases ad with
       | true =>
         by_cases hsz:0<sz
         ·simp only[Fm,hsz,decide_true,Bool.and_true,Aa,Ae,Ak] at h;obtain⟨rfl,rfl,rfl⟩:=h;refine⟨[(nm,⟨.live,.row v sz⟩)],rfl,rfl,?_,?_⟩
          ·intro j n p hj;cases j with
           | zero=>simp at hj; obtain⟨rfl,rfl⟩:=hj; exact⟨rfl,i,rfl,fun b hb=>hob b hb⟩
           | succ j=>simp at hj
          ·intro A hA hps;refine⟨by simp only[B0]; exact⟨G6 ho,⟨.live,.row v sz⟩,hps nm _ (by simp),.inr ⟨sz,rfl⟩⟩,fun j n p ob hj hob'=>?_⟩;cases j with
           | zero =>simp only[wz,Ae,Ak] at hj hob'; obtain⟨rfl,rfl⟩:=hj; obtain⟨_,rfl⟩:=hob';unfold Dy;exact⟨rfl,hsz,v,rows,rfl,Dx.Fg (KH hA) _ _ hrr,hlen,K9 ho hA.hB⟩
           | succ j=>simp at hj
         ·simp[Fm,hsz] at h
       | false =>
         simp only[Fm,Bool.false_and,Af,Ae,Ak] at h;obtain⟨rfl,rfl,rfl⟩:=h;refine Gm.none fun A hA=>?_
         simp only[B0];rcases FG ho with ⟨rfl,h0⟩ | ⟨g,cap,rfl,hc⟩
         ·have:l=[]:=AJ h0;subst this;exact⟨xY,0,rfl,AB _,.inl rfl⟩
         ·refine⟨_,cap,rfl,hc,.inr ⟨g,0,rows,rfl,⟨hA.own rfl i g (hob g rfl) (Ml ho rfl),rfl,AP hA.hB (Ml ho rfl)⟩,Dx.Fg (KH hA) _ _ hrr,hlen,fun j u hj=>?_⟩⟩;have:=ho.cells (g:=g) rfl j u hj;rw[Addr.add_lit] at this;exact this
   | Dh n=>simp[Fm] at h
   | JX n off len=>simp[Fm] at h
   | ptr n i j=>simp[Fm] at h
   | CS cs =>refine plain (fun A hA=>?_) rfl;simp only[B0] at hv ⊢;obtain⟨b,o,vs,rfl,hb,hls,hrd⟩:=hv;exact⟨b,o,vs,rfl,hA.ok _ hb,BM.Fg (KH hA) _ _ hls,hrd⟩
   | fn g a c=>simp[Fm] at h
   | gd g d=>simp[Fm] at h
end
def EA(P:Program)(s:Sem Next)(w:World)(K:Value->World->Prop):Prop:=
 match s.run P w with
 | .ok (.value v) w'=>K v w'
 | .ok (.enter f args) w'=>Calls P f args w' fun e w''=>∃v,e=.returned v/\K v w''
 | _=>False
theorem EA.value{P:Program}{s:Sem Next}{w w':World}{v:Value}{K:Value->World->Prop}(h:s.run P w=.ok (.value v) w')(hk:K v w'):EA P s w K:=by unfold EA; rw[h]; exact hk
theorem EA.lift{P:Program}{s:Sem Value}{w w':World}{v:Value}{K:Value->World->Prop}(h:s.run P w=.ok v w')(hk:K v w'):EA P (do pure (.value (<- s))) w K :=EA.value (by simp[h]) hk
def UG(GJ:List Nat)(n:Nat)(p:Place):Place:={ p with st:=if p.st=.live/\n∈GJ then .frozen else p.st }
structure HY(I0:Nat->Prop)(B:Nat)(A:Nat->Option Place)(w:World)(Cg:List (Nat × OB))(GJ:List Nat)(A':Nat->Option Place)(w':World):Prop where
 below:Below w.heap.size w w'
 MV:∀n p,A n=xQ p->A' n=xQ (UG GJ n p)
 new:∀n p,A n=xY->A' n=xQ p->p.st=.live/\(∀b,p.FP=xQ b->w.heap.size<=b/\b<w'.heap.size)/\∃ob,(n,ob)∈Cg/\Dy (Cc I0 B A' w') w' p (x5,ob)
 inj:∀n m p q b,A n=xY->A m=xY->A' n=xQ p->A' m=xQ q->p.FP=xQ b->q.FP=xQ b->n=m
theorem Acl(n:Nat)(p:Place):UG [] n p=p:=by cases p; simp[UG]
theorem J9{GJ:List Nat}{n:Nat}{p:Place}:(UG GJ n p).st=.dead↔p.st=.dead:=by
 unfold UG; dsimp only; split
 ·rename_i h; simp[h.1]
 ·rfl
theorem LW{GJ:List Nat}{n:Nat}{p:Place}(h:(UG GJ n p).st=.live):p.st=.live/\n ∉ GJ:=by
 unfold UG at h; dsimp only at h; split at h
 ·cases h
 ·rename_i hn; exact⟨h,fun hm=>hn ⟨h,hm⟩⟩
section
variable{I0:Nat->Prop}{B:Nat}{A A':Nat->Option Place}{h:DG}{w w':World}{Cg:List (Nat × OB)}{GJ:List Nat}
theorem HY.refl(hd:Wd w w'):HY I0 B A w [] [] A w' where
 below:=by rcases hd with rfl | rfl; exact Below.refl _ _; exact(Below.refl _ _).drew
 MV:=fun n p hp=>by rw[Acl]; exact hp
 new:=fun n p h1 h2=>by rw[h1] at h2; cases h2
 inj:=fun n m p q b h1 _ h2=>by rw[h1] at h2; cases h2
theorem HY.idle(Cg:List (Nat × OB)):HY I0 B A w Cg [] A w where
 below:=Below.refl _ _
 MV:=fun n p hp=>by rw[Acl]; exact hp
 new:=fun n p h1 h2=>by rw[h1] at h2; cases h2
 inj:=fun n m p q b h1 _ h2=>by rw[h1] at h2; cases h2
theorem HY.Aj3(hg:HY I0 B A w Cg GJ A' w'):Hd A w A' w' where
 size:=hg.below.size
 names:=fun n p hp=>by
  refine⟨_,hg.MV n p hp,?_⟩;by_cases hd:p.st=.dead
  ·exact .inl (J9.2 hd)
  ·exact .inr ⟨hd,rfl⟩
 live:=fun n p b hp hl hb hlt=>by
  cases hA:A n with
  | none=>have:=((hg.new n p hA hp).2.1 b hb).1; omega
  | some q =>have:=hg.MV n q hA;rw[this] at hp; cases hp;exact⟨n,q,hA,(LW hl).1,hb⟩
 kept:=fun b hb _=>hg.below.block b hb
theorem Dy.fz{c:Ctx}{w:World}{p:Place}{n:Nat}{GJ:List Nat}:∀{fo:Bool × OB},Dy c w p fo->Dy c w (UG GJ n p) (fo.1||decide (n∈GJ),fo.2)
 | (fz,.dead),hr=>by unfold Dy at *; exact J9.2 hr
 | (fz,.box cs),hr=>by
   unfold Dy at *
   refine⟨?_,hr.2⟩;have:=hr.1;unfold UG; dsimp only;cases fz<;>simp at this<;>by_cases hn:n∈GJ<;>simp[this,hn]
 | (fz,.Bj e k l),hr=>by
   unfold Dy at *
   refine⟨?_,hr.2⟩;have:=hr.1;unfold UG; dsimp only;cases fz<;>simp at this<;>by_cases hn:n∈GJ<;>simp[this,hn]
 | (fz,.Cu e sz l),hr=>by
   unfold Dy at *
   refine⟨?_,hr.2⟩;have:=hr.1;unfold UG; dsimp only;cases fz<;>simp at this<;>by_cases hn:n∈GJ<;>simp[this,hn]
theorem HY.mem(hm:Mem I0 B A h w)(hg:HY I0 B A w Cg GJ A' w'){h':DG}
 (ho:∀n p fo',A n=xQ p->look h' n=xQ fo'->∃fo,look h n=xQ fo/\fo'=(fo.1||decide (n∈GJ),fo.2))
 (hn:∀n ob fo',(n,ob)∈Cg->A n=xY->look h' n=xQ fo'->fo'=(x5,ob)):Mem I0 B A' h' w' where
 hB:=AP hm.hB hg.below.size
 QF:=hm.QF
 obj:=fun n p fo' hp hl=>by
  cases hA:A n with
  | none =>obtain⟨_,_,ob,hob,hr⟩:=hg.new n p hA hp;rw[hn n ob fo' hob hA hl]; exact hr
  | some q =>
    have:=hg.MV n q hA;rw[this] at hp; cases hp;obtain⟨fo,hfo,rfl⟩:=ho n q fo' hA hl;have h1:=hm.obj n q fo hA hfo;refine Dy.fz ?_;by_cases hd:q.st=.dead
    ·obtain⟨fz,ob⟩:=fo;cases ob with
     | dead=>exact hd
     | box cs=>exact absurd hd (Cm (Mm hm hA hfo).1)
     | Bj e k l=>exact absurd hd (Cm (Em hm hA hfo).1)
     | Cu e sz l=>exact absurd hd (Cm (EE hm hA hfo).1)
    ·exact Dy.DD hg.Aj3.DD rfl rfl (fun b hb=>hg.below.block b (hm.Gz n q b hA hd hb).2) fo h1
 Gz:=fun n p b hp hd hb=>by
  cases hA:A n with
  | none=>have:=(hg.new n p hA hp).2.1 b hb; have:=hm.hB; omega
  | some q =>have:=hg.MV n q hA;rw[this] at hp; cases hp;have h1:=hm.Gz n q b hA (fun e=>hd (J9.2 e)) hb;have:=hg.below.size;omega
 inj:=fun n m p q b hp hq hdp hdq hbp hbq=>by
  cases hA:A n with
  | none =>
    have h1:=(hg.new n p hA hp).2.1 b hbp;cases hA2:A m with
    | none=>exact hg.inj n m p q b hA hA2 hp hq hbp hbq
    | some q' =>have:=hg.MV m q' hA2;rw[this] at hq; cases hq;have h2:=hm.Gz m q' b hA2 (fun e=>hdq (J9.2 e)) hbq;omega
  | some p' =>
    have:=hg.MV n p' hA;rw[this] at hp; cases hp;have h1:=hm.Gz n p' b hA (fun e=>hdp (J9.2 e)) hbp;cases hA2:A m with
    | none=>have h2:=(hg.new m q hA2 hq).2.1 b hbq; omega
    | some q' =>have:=hg.MV m q' hA2;rw[this] at hq; cases hq;exact hm.inj n m p' q' b hA hA2 (fun e=>hdp (J9.2 e)) (fun e=>hdq (J9.2 e)) hbp hbq
def QC(A:Nat->Option Place)(GJ:List Nat)(n:Nat)(p:Place):Nat->Option Place:=fun m=>if m=n then xQ p else (A m).map (UG GJ m)
theorem U2{A:Nat->Option Place}{GJ:List Nat}{n m:Nat}{p q:Place}(hn:A n=xY)(hm:A m=xQ q):QC A GJ n p m=xQ (UG GJ m q):=by unfold QC; rw[Ay (fun e=>by rw[e,hn] at hm; cases hm),hm]; rfl
theorem NU{A:Nat->Option Place}{GJ:List Nat}{n m:Nat}{p q:Place}(h:QC A GJ n p m=xQ q):(m=n/\q=p)\/∃r,A m=xQ r/\q=UG GJ m r:=by
 unfold QC at h;split at h
 ·cases h; exact .inl ⟨‹_›,rfl⟩
 ·cases hA:A m with
  | none=>simp[hA] at h
  | some r=>simp only[hA,yn,Ae] at h; exact .inr ⟨r,rfl,h.symm⟩
theorem HY.alloc{nm:Nat}(hnm:A nm=xY){cells:Array Value}{e:TypeId}{p:Place}{ob:OB}(hst:p.st=.live)(hblk:∀b,p.FP=xQ b->b=w.heap.size)
 (hrel:Hd A w (QC A GJ nm p) (w.alloc (.cells cells e))->Dy (Cc I0 B (QC A GJ nm p) (w.alloc (.cells cells e))) (w.alloc (.cells cells e)) p (x5,ob)):
 HY I0 B A w [(nm,ob)] GJ (QC A GJ nm p) (w.alloc (.cells cells e)):=by
 have hmv:Hd A w (QC A GJ nm p) (w.alloc (.cells cells e)):=by
  refine⟨by simp,fun n q hq=>?_,fun n q b hq hl hb hlt=>?_,fun b hb _=>Below.heap_alloc _ _ _ hb⟩
  ·refine⟨_,U2 hnm hq,?_⟩;by_cases hd:q.st=.dead
   ·exact .inl (J9.2 hd)
   ·exact .inr ⟨hd,rfl⟩
  ·rcases NU hq with ⟨rfl,rfl⟩ | ⟨r,hr,rfl⟩
   ·have:=hblk b hb; omega
   ·exact⟨n,r,hr,(LW hl).1,hb⟩
 refine⟨(Below.refl _ _).alloc (AB _) _,fun n q hq=>U2 hnm hq,fun n q h1 h2=>?_,fun n m q r b h1 h2 h3 h4 _ _=>?_⟩
 ·rcases NU h2 with ⟨rfl,rfl⟩ | ⟨r,hr,rfl⟩
  ·exact⟨hst,fun b hb=>by rw[hblk b hb]; simp,ob,by simp,hrel hmv⟩
  ·rw[h1] at hr; cases hr
 ·rcases NU h3 with ⟨rfl,rfl⟩ | ⟨r,hr,rfl⟩
  ·rcases NU h4 with ⟨rfl,rfl⟩ | ⟨r,hr,rfl⟩
   ·rfl
   ·rw[h2] at hr; cases hr
  ·rw[h1] at hr; cases hr
end
theorem YV{c:Ctx}{w:World}{d:DV}{v:Value}(hf:OT d=xZ)(h:B0 c w d v):v.oneCell'=xZ:=by
 cases d<;>simp only[OT,zW] at hf<;>try simp only[B0] at h
 case nil=>subst h; rfl
 case bool=>subst h; rfl
 case int=>subst h; rfl
 case fl=>obtain⟨m,rfl,_⟩:=h; rfl
 case nb=>obtain⟨m,rfl,_⟩:=h; rfl
 case Bj g k l =>
  cases g with
  | own i e=>simp only[B0] at h; exact G6 h.1
  | arg=>simp only[B0] at h; obtain⟨a,cap,rfl,_⟩:=h; rfl
  | BE=>simp only[B0] at h; obtain⟨a,cap,rfl,_⟩:=h; rfl
 case Cu g sz l =>
  cases g with
  | own i e=>simp only[B0] at h; obtain⟨rows,_,_,ho,_⟩:=h; exact G6 ho
  | arg=>simp only[B0] at h; obtain⟨a,cap,rfl,_⟩:=h; rfl
  | BE=>simp only[B0] at h; obtain⟨a,cap,rfl,_⟩:=h; rfl
 case Dh=>exact h.1
 case JX=>exact h.1
 case ptr=>exact h.1
 case CS=>obtain⟨b,o,vs,rfl,_⟩:=h; rfl
 case fn=>obtain⟨fs,cs,rfl,_⟩:=h; rfl
theorem Aeg{v:Value}(h:v.oneCell'=xZ):v.cells=#[v]:=by cases v<;>simp[Value.oneCell'] at h<;>rfl
theorem XN{d:DV}(hd:∀l,d≠.agg l)(h:Lx d=xZ):OT d=xZ:=by cases d<;>first | exact h | exact absurd rfl (hd _)
theorem Abe{d:DV}(hd:∀l,d≠.agg l):cells d=[d]:=by cases d<;>first | rfl | exact absurd rfl (hd _)
theorem Rt{c:Ctx}{w:World}{d:DV}{v:Value}(hf:Lx d=xZ)(h:B0 c w d v):BM c w (cells d) v.cells.toList:=by
 by_cases hd:∃l,d=.agg l
 ·obtain⟨l,rfl⟩:=hd;simp only[B0] at h;obtain⟨vs,rfl,hl⟩:=h;exact hl
 ·have hd':∀l,d≠.agg l:=fun l e=>hd ⟨l,e⟩
  rw[Aeg (YV (XN hd' hf) h),Abe hd'];simp only[BM];exact⟨v,[],rfl,h,rfl⟩
theorem X8{c:Ctx}{w:World}:∀{ds:List DV} {vs:List Value},ds.all OT=xZ->BM c w ds vs->∀v∈vs,v.oneCell'=xZ
 | [],vs,_,h,v,hv=>by rw[BM.Gj] at h; subst h; cases hv
 | d::ds,vs,hf,h,v,hv=>by
   rw[BM.CW] at h;obtain⟨u,us,rfl,h1,h2⟩:=h;simp only[List.all_cons,Am] at hf;cases hv with
   | head=>exact YV hf.1 h1
   | tail _ hm=>exact X8 hf.2 h2 v hm
theorem OR{c:Ctx}{w:World}(off:Nat):∀(ds:List DV) (vs:List Value) (k:Nat) (cs:List DV) (cells:Array Value),BM c w ds vs->BM c w cs cells.toList ->
 BM c w ((ds.zipIdx k).foldl (fun cs (c,j)=>cs.set (off+j) c) cs) ((vs.zipIdx k).foldl (fun cs (c,j)=>cs.setIfInBounds (off+j) c) cells).toList
 | [],vs,k,cs,cells,h,hc=>by rw[BM.Gj] at h; subst h; simpa using hc
 | d::ds,vs,k,cs,cells,h,hc=>by rw[BM.CW] at h;obtain⟨u,us,rfl,h1,h2⟩:=h;simp only[List.zipIdx_cons,wA];exact OR off ds us (k+1) _ _ h2 (by rw[Array.toList_setIfInBounds]; exact hc.set _ h1)
inductive IQ(c:Ctx)(w:World):List (Nat × DV)->List (Nat × Value)->Prop
 | nil:IQ c w [] []
 | cons {i:Nat} {d:DV} {v:Value} {ds:List (Nat × DV)} {vs:List (Nat × Value)}:B0 c w d v->IQ c w ds vs->IQ c w ((i,d)::ds) ((i,v)::vs)
theorem Xh{c:Ctx}{w:World}{pl:Nat->Option (Nat × Nat)}{pl':Nat->Option (Nat × Nat)}(hpl:∀i x,pl i=xQ x->pl' i=xQ x):
 ∀{ps:List (Nat × DV)} {vs:List (Nat × Value)},IQ c w ps vs->∀(cs cs':List DV) (cells:Array Value),BM c w cs cells.toList->Qy pl cs ps=xQ cs' ->
  ∃cells',Instr.fill pl' cells vs=xQ cells'/\BM c w cs' cells'.toList:=by
 intro ps vs h
 induction h with
 | nil=>intro cs cs' cells hc hf; simp only[Qy,Ae] at hf; subst hf; exact⟨cells,rfl,hc⟩
 | @cons i d v ds vs hd _ ih =>
   intro cs cs' cells hc hf;simp only[Qy] at hf;cases hp:pl i with
   | none=>simp[hp] at hf
   | some x =>
     obtain⟨off,size⟩:=x;simp only[hp] at hf;by_cases hq:(Lx d&&(Go.Den.cells d).length==size&&decide (off+(Go.Den.cells d).length<=cs.length))=xZ
     ·rw[hq,Aa] at hf;simp only[Am,beq_iff_eq,Ai] at hq;obtain⟨⟨hw,hs⟩,hb⟩:=hq;have hr:=Rt hw hd;have hlen:=hr.length;have hcl:=hc.length;have hset:=OR off _ _ 0 cs cells hr hc;obtain⟨cells',h1,h2⟩:=ih _ _ _ hset hf;refine⟨cells',?_,h2⟩;simp only[Instr.fill,hpl i _ hp]
      have e1:¬(v.cells.size≠size||decide (off+v.cells.size>cells.size))=xZ:=by simp only[z5] at hlen hcl;simp; omega
      rw[Ay (by simpa using e1)];rw[<- h1];congr 1;rw[<- vA,Array.toList_zipIdx]
     ·simp only[zE] at hq;rw[hq] at hf; simp at hf
section
variable{P:Program}{E:Env}{I0:Nat->Prop}{B:Nat}{A:Nat->Option Place}{h:DG}{w:World}{t:TypeId}
theorem run_places(hty:∀t ti,E.ty t=xQ ti->CI P t ti):∀(gs:List Field) (l:List (Nat × Nat)),PW E (gs.map fun f=>(f.offset,f.type))=xQ l ->
 (gs.mapM (fun f=>(do pure (f.offset,<- sizeOf f.type):Sem (Nat × Nat)))).run P w=.ok l w
 | [],l,h=>by simp only[List.map_nil,PW,Ae] at h; subst h; rfl
 | f::gs,l,h=>by
   simp only[yq,PW] at h;split at h
   ·rename_i ti hT;split at h
    ·rename_i l' hl;simp only[Ae] at h; subst h;have ih:=run_places hty gs l' hl;simp only[List.mapM_cons,Sem.run_bind,(hty _ _ hT).Hn w,Result.andThen_ok,Sem.run_pure,ih]
    ·cases h
   ·cases h
theorem Ahf(hty:∀t ti,E.ty t=xQ ti->CI P t ti){c:Ctx}{ti:TI}(hT:E.ty t=xQ ti){pl:Nat->Option (Nat × Nat)}(hp:S2 E t=xQ pl)
 {ps:List (Nat × DV)} {vs:Array (Nat × Value)} (hr:IQ c w ps vs.toList) {cs:List DV} (hf:Qy pl ti.zero ps=xQ cs):
 ∃v,(Instr.build t vs).run P w=.ok v w/\B0 c w (.agg cs) v:=by
 obtain⟨z,hz,hzr,_,_⟩:=(hty _ _ hT).Tq w;unfold S2 at hp;split at hp
 ·rename_i fs _ hT';have hd:=(hty _ _ hT').desc;simp only[CV] at hd;obtain⟨gs,hu,hg⟩:=hd;split at hp
  ·rename_i l hl;simp only[Ae] at hp; subst hp;rw[<- hg] at hl;have hm:=run_places (P:=P) (w:=w) hty gs.toList l hl;obtain⟨cells',h1,h2⟩:=Xh (pl':=fun i=>l.toArray[i]?) (fun i x hx=>by simpa using hx) hr _ _ _ (hzr c w) hf;refine⟨.agg cells',?_,by simp only[B0]; exact⟨_,rfl,h2⟩⟩
   have hm':(gs.mapM (fun f=>(do pure (f.offset,<- sizeOf f.type):Sem (Nat × Nat)))).run P w=.ok l.toArray w:=by rw[Array.mapM_eq_mapM_toList];simp only[Sem.run_map,hm,Result.andThen_ok]
   simp only[Instr.build,Sem.run_bind,hz,Result.andThen_ok,run_underlying hu,hm',h1,Sem.run_pure]
  ·cases hp
 ·rename_i n e _ hT';have hu:=(hty _ _ hT').desc;simp only[CV] at hu;split at hp
  ·rename_i ei hE;simp only[Ae] at hp; subst hp;have hes:=(hty _ _ hE).Hn w;obtain⟨cells',h1,h2⟩:=Xh (pl':=fun i=>xQ (i*ei.size,ei.size)) (fun i x hx=>hx) hr _ _ _ (hzr c w) hf;refine⟨.agg cells',?_,by simp only[B0]; exact⟨_,rfl,h2⟩⟩;simp only[Instr.build,Sem.run_bind,hz,Result.andThen_ok,run_underlying hu,hes,h1,Sem.run_pure]
  ·cases hp
 ·cases hp
end
theorem TX{c:Ctx}{w:World}{k:IntKind}:∀{cs:List DV} {l:Bf} {vs:List Value},Oy k cs=xQ l->BM c w cs vs->vs=l.map (Value.int k)
 | [],l,vs,h,hr=>by simp only[Oy,Ae] at h; subst h; rw[BM.Gj] at hr; simpa using hr
 | d::cs,l,vs,h,hr=>by
   rw[BM.CW] at hr;obtain⟨u,us,rfl,h1,h2⟩:=hr;cases d<;>simp only[Oy,reduceCtorEq] at h;rename_i k' n;split at h
   ·rename_i hk;split at h
    ·rename_i l' hl;simp only[Ae] at h; subst h;simp only[B0] at h1;subst h1;have:k=k':=by simpa using hk
     subst this;rw[TX hl h2]; rfl
    ·cases h
   ·cases h
theorem VR{c:Ctx}{w:World}{sz:Nat}:∀(n:Nat) (ds:List DV) (vs:List Value),BM c w ds vs->vs.length=n*sz->(∀v∈vs,v.oneCell'=xZ) ->
 ∃rows:List (List Value),rows.flatten=vs/\Dx c w (chunk sz n ds) rows/\(∀r∈rows,r.length=sz/\∀u∈r,u.oneCell'=xZ)
 | 0,ds,vs,h,hl,_=>by have:vs=[]:=AJ (by omega);subst this;exact⟨[],rfl,by simp[chunk,Dx],by simp⟩
 | n+1,ds,vs,h,hl,h1=>by
   rw[z8] at hl;obtain⟨rows,e1,e2,e3⟩:=VR (sz:=sz) n (ds.drop sz) (vs.drop sz) (h.drop sz) (by rw[zP]; omega) (fun v hv=>h1 v (yo hv));refine⟨vs.take sz::rows,by rw[yB,e1,List.take_append_drop],?_,?_⟩
   ·simp only[chunk,Dx];exact⟨_,_,rfl,h.take sz,e2⟩
   ·intro r hr;cases hr with
    | head=>exact⟨by rw[zM]; omega,fun u hu=>h1 u (yX hu)⟩
    | tail _ hm=>exact e3 r hm
theorem Q1(sz:Nat):∀(n:Nat) (ds:List DV),(chunk sz n ds).length=n
 | 0,_=>rfl
 | n+1,ds=>by simp[chunk,Q1 sz n]
section
variable{P:Program}{E:Env}{I0:Nat->Prop}{B:Nat}{A:Nat->Option Place}{h:DG}{w:World}{t:TypeId}
theorem PY(hB:B<=w.heap.size)(cells:Array Value)(e:TypeId)(n sz:Nat)(hl:cells.size=n*sz)(hm:n<=maxLen):
 (w.alloc (.cells cells e)).ownsRow B e sz (.slice (xQ ⟨w.heap.size,0,xY⟩) n n) n cells.toList:=
 ⟨by rw[z5]; exact hl,.inr ⟨w.heap.size,n,cells,rfl,hB,heap_alloc_new w _,AB _,hm,hl,by rw[<- hl,<- z5,z9]⟩⟩
theorem RS{α:Type}[Inhabited α](z:Array α)(len:Nat)(hz:0<z.size):((xd (len*z.size)).map (z[·%z.size]!)).toList=(zp len z.toList).flatten:=by
 apply List.ext_getElem?;intro i;by_cases hi:i<len*z.size
 ·have h1:((xd (len*z.size)).map (z[·%z.size]!)).toList[i]?=xQ (z[i%z.size]!):=by simp[hi]
  rw[h1]
  have h2:=Lm (sz:=z.size) (rows:=zp len z.toList) (fun r hr=>by rw[(xJ.1 hr).2]; simp) (i / z.size) z.toList (by rw[xK,Az (Nat.div_lt_of_lt_mul (by rw[A0]; exact hi))]) (i%z.size) (z[i%z.size]!) (by have:=Nat.mod_lt i hz;simp[this])
  rw[Nat.div_add_mod'] at h2;exact h2.symm
 ·rw[Bb (by simpa using hi),Bb];simp;simpa using hi
theorem RM{c:Ctx}{w:World}{ds:List DV}{vs:List Value}(h:BM c w ds vs):∀n,BM c w (zp n ds).flatten (zp n vs).flatten
 | 0=>by simp[BM]
 | n+1=>by simp only[List.replicate_succ,yB]; exact h.append (RM h n)
theorem NH(off:Nat):∀(l:List (Value × Nat)) (cells:Array Value),(l.foldl (fun cs (c,j)=>cs.setIfInBounds (off+j) c) cells).size=cells.size
 | [],_=>rfl
 | x::l,cells=>by simp only[wA]; rw[NH off l]; simp
theorem VJ{pl:Nat->Option (Nat × Nat)}:∀{vs:List (Nat × Value)} {cells cells':Array Value},Instr.fill pl cells vs=xQ cells'->cells'.size=cells.size
 | [],cells,cells',h=>by simp only[Instr.fill,Ae] at h; rw[h]
 | (i,v)::vs,cells,cells',h=>by
   simp only[Instr.fill] at h;split at h
   ·cases h
   ·split at h
    ·cases h
    ·rw[VJ h,<- vA];exact NH _ _ _
theorem AhZ(hm:Mem I0 B A h w){A':Nat->Option Place}{w':World}(hmv:Hd A w A' w'){ns:List Nat}(hf:∀n∈ns,∀p,A n=xQ p->∃q,A' n=xQ q/\q.st≠.live)
 (hinj:∀n m p q b,A' n=xQ p->p.st=.live->p.FP=xQ b->b<w.heap.size->A m=xQ q->q.st≠.dead->q.FP=xQ b->n=m) {b:Nat} (hb:seen I0 B A w ns b):(Cc I0 B A' w').ok b:=by
 rcases hb with hb | ⟨n,p,hn,hp,hnd,hpb⟩
 ·exact hmv.DD.ok b hb
 ·obtain⟨h1,h2⟩:=hm.Gz n p b hp hnd hpb;refine⟨AU h2 hmv.size,.inr h1,fun m q hq hl hqb=>?_⟩;have:=hinj m n q p b hq hl hqb h2 hp hnd hpb;subst this;obtain⟨q',hq',hnl⟩:=hf m hn p hp;rw[hq] at hq'; cases hq';exact hnl hl
theorem JF.Aiq{A':Nat->Option Place}{w':World}{ns:List Nat}(hm:Mem I0 B A h w)(hB:Below w.heap.size w w')(hok:∀b,seen I0 B A w ns b->(Cc I0 B A' w').ok b):JF (HC (seen I0 B A w ns)) w (Cc I0 B A' w').bare w' where
 ok:=hok
 B:=rfl
 fr:=rfl
 own:=fun _ _ h=>by cases h
 at_:=fun _ _ h=>by cases h
 cell:=fun b o hb=>World.cell?_of_block (hB.block b (by
  rcases hb with hb | ⟨n,p,hn,hp,hnd,hpb⟩
  ·exact hb.1
  ·exact(hm.Gz n p b hp hnd hpb).2))
 Ain:=fun _ _ h=>by cases h
theorem Ut(hty:∀t ti,E.ty t=xQ ti->CI P t ti)(hm:Mem I0 B A h w){nm len:Nat}{ps:List (Nat × DV)}{vs:Array (Nat × Value)}
 (hr:IQ (Cc I0 B A w) w ps vs.toList) {r:R2} (hl:NN E h nm t len ps=xQ r) (hnew:∀n ob,(n,ob)∈r.Cg->A n=xY):
 ∃v w' A',(Instr.buildSlice t len vs).run P w=.ok v w'/\HY I0 B A w r.Cg r.GJ A' w'/\B0 (Cc I0 B A' w') w' r.v v:=by
 unfold NN at hl;split at hl
 ·rename_i e _ hT;have hu:=(hty _ _ hT).desc;simp only[CV] at hu;cases hE:E.ty e with
  | none=>simp[hE] at hl
  | some ei =>
  simp only[hE,Aj] at hl;by_cases hq:(decide (len*ei.size<=4096)&&decide (0<ei.size))=xZ
  ·rw[hq,Aa] at hl;simp only[Am,Ai] at hq;obtain⟨hq1,hq2⟩:=hq;obtain⟨z,hz,hzr,hzs,hz1⟩:=(hty _ _ hE).Tq w;have hes:=(hty _ _ hE).Hn w;cases hfd:Qy (fun i=>xQ (i*ei.size,ei.size)) (zp len ei.zero).flatten ps with
   | none=>simp[hfd] at hl
   | some cs =>
   simp only[hfd,Aj] at hl
   have hzz:BM (Cc I0 B A w) w (zp len ei.zero).flatten ((xd (len*ei.size)).map (z.cells[·%z.cells.size]!)).toList:=by rw[<- hzs,RS _ _ (by omega)];exact RM (hzr _ _) len
   obtain⟨cells',h1,h2⟩:=Xh (pl':=fun i=>xQ (i*ei.size,ei.size)) (fun i x hx=>hx) hr _ _ _ hzz hfd
   have hsz:cells'.size=len*ei.size:=by rw[VJ h1]; simp
   have hrun:(Instr.buildSlice t len vs).run P w=.ok (.slice (xQ ⟨w.heap.size,0,xY⟩) len len) (w.alloc (.cells cells' e)):=by
    have hnb:¬len*ei.size>2^24:=by omega
    simp only[Instr.buildSlice,Sem.run_bind,run_underlying hu,Result.andThen_ok,hes,Ay hnb];by_cases h0:len*ei.size=0
    ·have h1':Instr.fill (fun i=>xQ (i*ei.size,ei.size)) #[] vs.toList=xQ cells':=by rw[<- h1,h0,show xd 0=#[] from rfl,Array.map_empty]
     have e0:(Array.map (fun x=>(#[]:Array Value)[x%(#[]:Array Value).size]!) (xd 0))=#[]:=by rw[show xd 0=#[] from rfl,Array.map_empty]
     simp only[h0,if_true,Sem.run_bind,Sem.run_pure,Result.andThen_ok,e0,h1'];simp[newRow]
    ·simp only[Ay h0,Sem.run_bind,hz,Result.andThen_ok,Sem.run_pure,h1];simp[newRow]
   have hlm:len<=maxLen:=by unfold maxLen;have:=Nat.mul_le_mul_left len (show 1<=ei.size by omega);omega
   have hone:(Value.slice (xQ ⟨w.heap.size,0,xY⟩) len len).ownBlock=xQ w.heap.size:=rfl;split at hl
   ·rename_i k hk;by_cases hs1:ei.size=1
    ·simp only[hs1,AI,Aa] at hl;cases hI:Oy k cs with
     | none=>simp[hI] at hl
     | some l =>
       simp only[hI,Aj,Ae] at hl; subst hl;have hnm:A nm=xY:=hnew nm _ (ze.2 rfl);have hv:=TX hI h2
       have hll:l.length=len:=by have:=congrArg wj hv;rw[z5,hsz,hs1] at this;simpa using this.symm
       refine⟨_,_,QC A [] nm ⟨.live,.row (.slice (xQ ⟨w.heap.size,0,xY⟩) len len) 1⟩,hrun,HY.alloc hnm rfl (fun b hb=>by cases hb; rfl) (fun _=>?_),?_⟩
       ·unfold Dy;refine⟨rfl,_,rfl,?_⟩;rw[<- hv,hll];exact PY hm.hB cells' e len 1 (by rw[hsz,hs1]) hlm
       ·simp only[B0];exact⟨rfl,_,Az rfl,.inr ⟨1,rfl⟩⟩
    ·rw[show(ei.size==1)=x5 by simpa using hs1] at hl; simp at hl
   ·by_cases hfl:cs.all OT=xZ
    ·rw[hfl,Aa] at hl;cases hlo:Hp h cs with
     | none=>simp[hlo] at hl
     | some a =>
     obtain⟨cs',ns⟩:=a;simp only[hlo,Aj,Ae] at hl; subst hl;have hnm:A nm=xY:=hnew nm _ (ze.2 rfl);have hlow:=Ks (Qj hm 8) cs _ cs' ns hlo h2;obtain⟨rows,e1,e2,e3⟩:=VR (sz:=ei.size) len cs' cells'.toList hlow (by rw[z5,hsz]) (X8 hfl h2);refine⟨_,_,QC A ns nm ⟨.live,.row (.slice (xQ ⟨w.heap.size,0,xY⟩) len len) ei.size⟩,hrun,HY.alloc hnm rfl (fun b hb=>by cases hb; rfl) (fun hmv=>?_),?_⟩
     ·unfold Dy;refine⟨rfl,hq2,_,rows,rfl,?_,e3,?_⟩
      ·have hlat:=JF.Aiq (ns:=ns) hm ((Below.refl w.heap.size w).alloc (AB _) (.cells cells' e)) (fun b hb=>AhZ hm hmv (fun n hn p hp=>⟨_,U2 hnm hp,fun hl=>(LW hl).2 hn⟩) (fun n m p q b h1 h2 h3 h4 h5 h6 h7=>by
        rcases NU h1 with ⟨rfl,rfl⟩ | ⟨r,hr,rfl⟩
        ·have:w.heap.size=b:=xL h3;omega
        ·exact hm.inj n m r q b hr h5 (by rw[(LW h2).1]; simp) h6 h3 h7) hb)
       exact Dx.DD hlat _ _ e2
      ·rw[Q1,e1];exact PY hm.hB cells' e len ei.size hsz hlm
     ·simp only[B0];exact⟨rfl,_,Az rfl,.inr ⟨_,rfl⟩⟩
    ·simp only[zE] at hfl; rw[hfl] at hl; simp at hl
  ·simp only[zE] at hq; rw[hq] at hl; simp at hl
 ·cases hl
theorem TM{n b:Nat}(h:n<=KF b):n<=maxLen:=by have:=TN h; unfold maxLen; omega
theorem UE(hty:∀t ti,E.ty t=xQ ti->CI P t ti)(hm:Mem I0 B A h w){nm:Nat}{a c:DV}{va vc:Value}(ha:B0 (Cc I0 B A w) w a va)(hc:B0 (Cc I0 B A w) w c vc)
 {r:R2} (hl:Pv E nm t a c=xQ r) (hr:r.Om=xZ) (hnew:∀n ob,(n,ob)∈r.Cg->A n=xY):
 ∃v w' A',(Instr.makeSlice t va vc).run P w=.ok v w'/\HY I0 B A w r.Cg r.GJ A' w'/\B0 (Cc I0 B A' w') w' r.v v:=by
 unfold Pv at hl;split at hl
 ·rename_i e _ k1 x k2 y hT;have hu:=(hty _ _ hT).desc;simp only[CV] at hu;simp only[B0] at ha hc;subst ha; subst hc;cases hE:E.ty e with
  | none=>simp[hE] at hl
  | some ei =>
  simp only[hE,Aj] at hl;by_cases hq:(decide (ei.bytes<=128)&&decide (0<ei.size))=xZ
  ·rw[hq,Aa] at hl;simp only[Am,Ai] at hq;obtain⟨hq1,hq2⟩:=hq;obtain⟨i,z,hi,hs,hb,hz,hzr,hzs,hz1⟩:=(hty _ _ hE).info
   have key:(0<=x/\x<=y/\y<=KF ei.bytes)->(Instr.makeSlice t (.int k1 x) (.int k2 y)).run P w=.ok (.slice (xQ ⟨w.heap.size,0,xY⟩) x.toNat y.toNat) (w.alloc (.cells (madeCells z.cells (y.toNat*ei.size)) e)) /\
    (w.alloc (.cells (madeCells z.cells (y.toNat*ei.size)) e)).ownsRow B e ei.size (.slice (xQ ⟨w.heap.size,0,xY⟩) x.toNat y.toNat) x.toNat (zp x.toNat z.cells.toList).flatten:=by
    intro⟨h0,h1,h2⟩
    have hbi:(i.bytes:Int)*y<=281474976710656:=by
     have hy:y.toNat<=KF ei.bytes:=by omega
     have hm:=RJ hy hq1
     have e1:(i.bytes:Int)*y=((y.toNat*ei.bytes:Nat):Int):=by rw[Ax,Int.toNat_of_nonneg (by omega),hb,Int.mul_comm]
     rw[e1]; omega
    refine⟨by rw[<- hs]; exact run_make w t e i z hu hi hz k1 k2 x y h0 h1 hbi (by have:=TN (show y.toNat<=KF ei.bytes by omega); omega),?_⟩;refine⟨by rw[IK (sz:=ei.size) (fun r hr=>by rw[(xJ.1 hr).2,z5,hzs])]; simp,.inr ⟨w.heap.size,y.toNat,_,rfl,hm.hB,heap_alloc_new w _,by omega,TM (show y.toNat<=KF ei.bytes by omega),by rw[size_madeCells],?_⟩⟩;unfold madeCells;rw[<- hzs,RS _ _ (by omega)];have e1:=Kg (sz:=z.cells.size) (rows:=zp y.toNat z.cells.toList) (fun r hr=>by rw[(xJ.1 hr).2]; simp) x.toNat;rw[<- e1,List.take_replicate,yv (by omega)]
   split at hl
   ·rename_i k hk;split at hl
    ·rename_i k' z0 hz0;by_cases hs1:(ei.size==1&&decide (k=k'))=xZ
     ·rw[hs1,Aa,Ae] at hl; subst hl;have hnm:A nm=xY:=hnew nm _ (ze.2 rfl);simp only[Am,Ai,beq_iff_eq] at hr hs1;obtain⟨hs1,rfl⟩:=hs1;obtain⟨hrun,hown⟩:=key ⟨hr.1.1,hr.1.2,hr.2⟩;refine⟨_,_,QC A [] nm ⟨.live,.row (.slice (xQ ⟨w.heap.size,0,xY⟩) x.toNat y.toNat) 1⟩,hrun,HY.alloc hnm rfl (fun b hb=>by cases hb; rfl) (fun _=>?_),?_⟩
      ·unfold Dy;refine⟨rfl,_,rfl,?_⟩
       have hzc:z.cells.toList=[.int k z0]:=by have:=hzr (Cc I0 B A w) w;rw[hz0] at this;simp only[BM,B0] at this;obtain⟨u,us,e1,rfl,rfl⟩:=this;exact e1
       rw[hzc] at hown;have:(zp x.toNat [Value.int k z0]).flatten=(zp x.toNat z0).map (Value.int k):=by simp
       rw[this] at hown;simp only[hs1] at hown ⊢;rw[xe];exact hown
      ·simp only[B0];exact⟨rfl,_,Az rfl,.inr ⟨1,rfl⟩⟩
     ·simp only[zE] at hs1; rw[hs1] at hl; simp at hl
    ·cases hl
   ·simp only[Ae] at hl; subst hl;have hnm:A nm=xY:=hnew nm _ (ze.2 rfl);simp only[Am,Ai] at hr;obtain⟨hrun,hown⟩:=key ⟨hr.1.1,hr.1.2,hr.2⟩;refine⟨_,_,QC A [] nm ⟨.live,.row (.slice (xQ ⟨w.heap.size,0,xY⟩) x.toNat y.toNat) ei.size⟩,hrun,HY.alloc hnm rfl (fun b hb=>by cases hb; rfl) (fun _=>?_),?_⟩
    ·unfold Dy;refine⟨rfl,hq2,_,zp x.toNat z.cells.toList,rfl,?_,?_,by rw[xe]; exact hown⟩
     ·refine Dx.JH (by simp) fun i d r h1 h2=>?_
      simp[xK] at h1 h2;obtain⟨_,rfl⟩:=h1;obtain⟨_,rfl⟩:=h2;exact hzr _ _
     ·intro r hr';rw[(xJ.1 hr').2];exact⟨by rw[z5,hzs],hz1⟩
    ·simp only[B0];exact⟨rfl,_,Az rfl,.inr ⟨_,rfl⟩⟩
  ·simp only[zE] at hq; rw[hq] at hl; simp at hl
 ·cases hl
end
def lk{α:Type}:List (Nat × α)->Nat->Option α
 | [],_=>xY
 | (m,x)::l,n=>if m=n then xQ x else lk l n
theorem AaE{α:Type}:∀{l:List (Nat × α)} {n:Nat} {x:α},lk l n=xQ x->(n,x)∈l
 | [],n,x,h=>by cases h
 | (m,y)::l,n,x,h=>by
   simp only[lk] at h;split at h
   ·rename_i e; cases h; subst e; exact AY
   ·exact AN _ (AaE h)
theorem Ov{α:Type}:∀{l:List (Nat × α)} {n:Nat} {x:α},(l.map (·.1)).Nodup->(n,x)∈l->lk l n=xQ x
 | [],n,x,_,h=>by cases h
 | (m,y)::l,n,x,hn,h=>by
   simp only[yq,xz] at hn;simp only[lk];cases h with
   | head=>rw[Az rfl]
   | tail _ h =>rw[Ay (fun e=>hn.1 (by rw[e]; exact vD (f:=fun x:Nat × α=>x.1) h))];exact Ov hn.2 h
theorem Iz:∀{l:List Nat},JI l=xZ->l.Nodup
 | [],_=>List.nodup_nil
 | a::l,h=>by simp only[JI,Am,Bool.not_eq_true'] at h;rw[xz];exact⟨by simpa using h.1,Iz h.2⟩
theorem KL{g:Nat->DV->Option (DV × List (Nat × OB) × List Nat)}(ih:∀nm d d' os is,g nm d=xQ (d',os,is)->os=[]):
 ∀(l:List DV) nm l' os is,IN g nm l=xQ (l',os,is)->os=[]
 | [],nm,l',os,is,h=>by simp only[IN,Ae,Ak] at h; exact h.2.1.symm
 | d::l,nm,l',os,is,h=>by
   simp only[IN] at h;split at h
   ·rename_i x os1 is1 hg;split at h
    ·rename_i xs os2 is2 hg2;simp only[Ae,Ak] at h;rw[<- h.2.1,ih _ _ _ _ _ hg,KL ih l _ _ _ _ hg2]; rfl
    ·cases h
   ·cases h
theorem X9:∀(f:Nat) nm d d' os is,Fm x5 f nm d=xQ (d',os,is)->os=[]:=by
 intro f
 induction f with
 | zero=>intro nm d d' os is h; simp[Fm] at h
 | succ f ih =>
   intro nm d d' os is h;cases d with
   | agg l =>
     simp only[Fm] at h;split at h
     ·rename_i l' os' is' hg;simp only[Ae,Ak] at h;rw[<- h.2.1]; exact KL ih l _ _ _ _ hg
     ·cases h
   | CR l =>
     simp only[Fm] at h;split at h
     ·rename_i l' os' is' hg;simp only[Ae,Ak] at h;rw[<- h.2.1]; exact KL ih l _ _ _ _ hg
     ·cases h
   | Bj g k l=>cases g<;>simp[Fm] at h<;>exact h.2.1
   | Cu g sz l=>cases g<;>simp[Fm] at h<;>exact h.2.1
   | _=>simp[Fm] at h<;>exact h.2.1
section
variable{I:Nat->Prop}{own:Nat->Option Nat}{w w':World}
theorem T5{f:Nat}(ih:∀d v,FB f d=x5->B0 (DW I own w w') w' d v->B0 (DW (fun _=>False) own w w') w' d v):
 ∀(l:List DV) (vs:List Value),l.any (FB f)=x5->BM (DW I own w w') w' l vs->BM (DW (fun _=>False) own w w') w' l vs
 | [],vs,_,h=>by rw[BM.Gj] at h ⊢; exact h
 | d::l,vs,ha,h=>by rw[BM.CW] at h ⊢;simp only[List.any_cons,Bool.or_eq_false_iff] at ha;obtain⟨u,us,rfl,h1,h2⟩:=h;exact⟨u,us,rfl,ih d u ha.1 h1,T5 ih l us ha.2 h2⟩
theorem Aiw:∀(f:Nat) (d:DV) (v:Value),FB f d=x5->B0 (DW I own w w') w' d v->B0 (DW (fun _=>False) own w w') w' d v:=by
 intro f
 induction f with
 | zero=>intro d v h; simp[FB] at h
 | succ f ih =>
   intro d v ha hv;cases d with
   | agg l=>simp only[FB] at ha; simp only[B0] at hv ⊢; obtain⟨vs,rfl,hl⟩:=hv; exact⟨vs,rfl,T5 ih l _ ha hl⟩
   | CR l=>simp only[FB] at ha; simp only[B0] at hv ⊢; obtain⟨vs,rfl,hl⟩:=hv; exact⟨vs,rfl,T5 ih l _ ha hl⟩
   | Bj g k l =>
     cases g with
     | arg=>simp[FB] at ha
     | own i e=>simp only[B0] at hv ⊢; exact hv
     | BE =>simp only[B0] at hv ⊢;obtain⟨a,cap,rfl,hc,hh⟩:=hv;exact⟨a,cap,rfl,hc,hh.imp id fun⟨b,o,e,hb,hr⟩=>⟨b,o,e,⟨⟨hb.1.1,.inr hb.2.2,hb.1.2.2⟩,rfl,hb.2.2⟩,hr⟩⟩
   | Cu g sz l=>simp[FB] at ha
   | undef=>simp[FB] at ha
   | CS cs=>simp[FB] at ha
   | fn g a c=>simp[FB] at ha
   | nil=>simpa only[B0] using hv
   | bool b=>simpa only[B0] using hv
   | int k n=>simpa only[B0] using hv
   | fl n=>simpa only[B0] using hv
   | nb n=>simpa only[B0] using hv
   | Dh n=>simp only[B0] at hv; obtain⟨_,p,hp,_⟩:=hv; cases hp
   | JX n o l=>simp only[B0] at hv; obtain⟨_,p,hp,_⟩:=hv; cases hp
   | ptr n i j=>simp only[B0] at hv; obtain⟨_,p,hp,_⟩:=hv; cases hp
   | gd g d=>simp[FB] at ha
end
section
variable{P:Program}{E:Env}{I0:Nat->Prop}{B:Nat}{A:Nat->Option Place}{h:DG}{w:World}
theorem Ajc(hm:Mem I0 B A h w)(htab:∀g e,E.GM g=xQ e->RV P g e){nm:Nat}{ad:Bool}{g:FuncId}{args:List DV}{r:R2}(hl:Ac2 E h nm ad g args=xQ r)(hreq:r.Om=xZ)
 (hnew:∀n ob,(n,ob)∈r.Cg->A n=xY) (hnd:(r.Cg.map (·.1)).Nodup) {vals:Array Value} (hv:BM (Cc I0 B A w) w args vals.toList):
 Calls P g vals w fun e w'=>∃v,e=.returned v/\∃A',HY I0 B A w r.Cg r.GJ A' w'/\B0 (Cc I0 B A' w') w' r.v v:=by
 unfold Ac2 at hl;cases h1:Hp h args with
 | none=>simp[h1] at hl
 | some a =>
 obtain⟨as,ns⟩:=a;cases h2:E.GM g with
 | none=>simp[h1,h2] at hl
 | some e =>
 cases h3:Fm ad 6 nm (e.out as) with
 | none=>simp[h1,h2,h3] at hl
 | some x =>
 obtain⟨d,os,is⟩:=x;simp only[h1,h2,h3,Aj] at hl;cases h4:JI is with
 | false=>simp[h4] at hl
 | true =>
 simp only[h4,Aa,Ae] at hl;subst hl;dsimp only at hreq hnew hnd ⊢;have hargs:=Ks (Qj hm 8) args vals.toList as ns h1 hv
 have hIlt:∀b,seen I0 B A w ns b->b<w.heap.size:=by
  intro b hb;rcases hb with hb | ⟨n,p,hn,hp,hdd,hpb⟩
  ·exact hb.1
  ·exact(hm.Gz n p b hp hdd hpb).2
 refine(htab g e h2 as hreq w vals _ hIlt hargs).mono fun en w' hpost=>?_
 obtain⟨v,own,rfl,hbel,hown,hres⟩:=hpost;refine⟨v,rfl,?_⟩;have hisn:=Iz h4
 have main:∀(J:Nat->Prop),(∀b,J b->seen I0 B A w ns b)->((cond (FB 6 (e.out as)) ns ([]))=ns\/∀b,¬J b)->B0 (DW J own w w') w' (e.out as) v ->
  ∃A',HY I0 B A w os (cond (FB 6 (e.out as)) ns ([])) A' w'/\B0 (Cc I0 B A' w') w' d v:=by
  intro J hJ hcase hresJ;generalize hfr:(cond (FB 6 (e.out as)) ns ([]))=GJ at hcase ⊢;obtain⟨ps,q1,q2,q3,q4⟩:=Aep (I0:=I0) (B:=B) 6 nm _ v d os is hresJ h3;have hpn:(ps.map (·.1)).Nodup:=by rw[q1]; exact hnd
  have hAnone:∀n p,(n,p)∈ps->A n=xY:=by
   intro n p hn;have:n∈os.map (·.1):=by rw[<- q1]; exact vD (f:=fun x:Nat × Place=>x.1) hn
   obtain⟨⟨n',ob⟩,hm',e'⟩:=List.mem_map.1 this;dsimp only at e';subst e';exact hnew n' ob hm'
  let A':Nat->Option Place:=fun m=>match lk ps m with | some p=>xQ p | none=>(A m).map (UG GJ m)
  have hA'new:∀n p,(n,p)∈ps->A' n=xQ p:=by intro n p hn;show(match lk ps n with | some p=>xQ p | none=>(A n).map (UG GJ n))=xQ p;rw[Ov hpn hn]
  have hA'old:∀n p,A n=xQ p->A' n=xQ (UG GJ n p):=by
   intro n p hp;show(match lk ps n with | some p=>xQ p | none=>(A n).map (UG GJ n))=_;cases hq:lk ps n with
   | some p'=>rw[hAnone n p' (AaE hq)] at hp; cases hp
   | none=>rw[hp]; rfl
  have hA'inv:∀n p,A' n=xQ p->(n,p)∈ps\/∃q,A n=xQ q/\p=UG GJ n q:=by
   intro n p hp;have hp:(match lk ps n with | some p=>xQ p | none=>(A n).map (UG GJ n))=xQ p:=hp;cases hq:lk ps n with
   | some p'=>rw[hq] at hp; cases hp; exact .inl (AaE hq)
   | none =>
     rw[hq] at hp;cases hA:A n with
     | none=>rw[hA] at hp; cases hp
     | some q=>rw[hA] at hp; cases hp; exact .inr ⟨q,rfl,rfl⟩
  have hpown:∀n p b,(n,p)∈ps->p.FP=xQ b->∃i,own i=xQ b:=by intro n p b hn hb;obtain⟨j,hj⟩:=xM hn;obtain⟨_,i,_,hi⟩:=q3 j n p hj;exact⟨i,hi b hb⟩
  have good:Good I0 J B own w w' ad A':=by
   refine⟨fun b ⟨hb1,hb2,hb3⟩=>⟨hb1,?_,fun n p hp hl hpb=>?_⟩,fun had i b hi hge=>⟨(hown.lt i b hi).2,.inr (AP hm.hB hge),fun n p hp hl hpb=>?_⟩,hm.hB⟩
   ·rcases hb2 with hb2 | hb2
    ·rcases hJ b hb2 with hb2 | ⟨n,p,hn,hp,hdd,hpb⟩
     ·exact hb2.2.1
     ·exact .inr (hm.Gz n p b hp hdd hpb).1
    ·exact .inr (AP hm.hB hb2)
   ·rcases hA'inv n p hp with hn | ⟨q,hq,rfl⟩
    ·obtain⟨i,hi⟩:=hpown n p b hn hpb;exact hb3 i hi
    ·obtain⟨hql,hnf⟩:=LW hl;have hqb:=hm.Gz n q b hq (by rw[hql]; simp) hpb;rcases hb2 with hb2 | hb2
     ·rcases hcase with hc | hc
      ·rcases hJ b hb2 with hs | ⟨m,p',hm',hp',hdd,hpb'⟩
       ·exact hs.2.2 n q hq hql hpb
       ·have:=hm.inj n m q p' b hq hp' (by rw[hql]; simp) hdd hpb hpb';subst this;exact hnf (by rw[hc]; exact hm')
      ·exact hc b hb2
     ·omega
   ·subst had;have hos:=X9 6 nm _ _ _ _ h3;rw[hos] at q1;have hps:ps=[]:=by simpa using q1
    rcases hA'inv n p hp with hn | ⟨q,hq,rfl⟩
    ·rw[hps] at hn; cases hn
    ·have hqb:=hm.Gz n q b hq (by rw[(LW hl).1]; simp) hpb;omega
  obtain⟨hvr,hobj⟩:=q4 A' good hA'new;refine⟨A',⟨hbel,hA'old,fun n p hn hp=>?_,fun n m p q b hn hm' hp hq hpb hqb=>?_⟩,hvr⟩
  ·rcases hA'inv n p hp with hmem | ⟨q,hq,rfl⟩
   ·obtain⟨j,hj⟩:=xM hmem;obtain⟨hl,i,hi,hio⟩:=q3 j n p hj;refine⟨hl,fun b hb=>hown.lt i b (hio b hb),?_⟩;have hlen:os.length=ps.length:=by have:=congrArg wj q1; simpa using this.symm
    have hjlt:j<os.length:=by rw[hlen]; exact(xv.1 hj).1
    have hoj:os[j]?=xQ os[j]:=As hjlt
    have hname:os[j].1=n:=by
     have e1:(ps.map (·.1))[j]?=xQ n:=by rw[Ba,hj]; rfl
     rw[q1,Ba,hoj] at e1;simpa using e1
    refine⟨os[j].2,?_,hobj j n p _ hj (by rw[hoj,<- hname])⟩;rw[<- hname]; exact yW hoj
   ·rw[hn] at hq; cases hq
  ·rcases hA'inv n p hp with hmem | ⟨q',hq',rfl⟩
   ·rcases hA'inv m q hq with hmem' | ⟨q',hq',rfl⟩
    ·obtain⟨j,hj⟩:=xM hmem;obtain⟨j',hj'⟩:=xM hmem';obtain⟨_,i,hi,hio⟩:=q3 j n p hj;obtain⟨_,i',hi',hio'⟩:=q3 j' m q hj';have hii:=hown.inj i i' b (hio b hpb) (hio' b hqb);subst hii;have hjl:j<is.length:=(xv.1 hi).1;have hjj:=(List.getElem?_inj hjl hisn).1 (hi.trans hi'.symm);subst hjj;rw[hj] at hj'; cases hj'; rfl
    ·rw[hm'] at hq'; cases hq'
   ·rw[hn] at hq'; cases hq'
 cases hal:FB 6 (e.out as) with
 | true =>have:=main (seen I0 B A w ns) (fun _ h=>h) (.inl (by rw[hal]; rfl)) hres;rw[hal] at this;exact this
 | false =>have:=main (fun _=>False) (fun _ h=>h.elim) (.inr fun _ h=>h) (Aiw 6 _ v hal hres);rw[hal] at this;exact this
end
def SY:Array Value->Sem Value:=fun args=>do
 let (x,y,b)<-Extern.MathBitsCarry.three "Sub64" args
 pure (Extern.MathBitsCarry.pair ((x+Extern.MathBitsCarry.m64-y-b)%Extern.MathBitsCarry.m64) (if x<y+b then 1 else 0))
theorem AcZ{P:Program}(x y b:Int)(hb:b<=1)(w:World):
 (SY #[.int .u64 x,.int .u64 y,.int .u64 b]).run P w=.ok (.tuple #[.int .u64 (KY x y b),.int .u64 (Gv x y b)]) w:=by
 cases b with
 | ofNat n =>
   have:n=0\/n=1:=by have:((n:Nat):Int)<=1:=hb; omega
   rcases this with rfl | rfl<;>rfl
 | negSucc n=>rfl
def Px:Ext->Array Value->Sem Value
 | .Ahg=>Extern.MathFloatBits.float64bits
 | .bits=>Extern.MathFloatBits.float64bits
 | .LX=>Extern.MathFloatBits.float64frombits
 | .sqrt=>Extern.MathSqrt.sqrt
 | .XV=>SY
structure He(P:Program)(E:Env):Prop where
 ty:∀t ti,E.ty t=xQ ti->CI P t ti
 GM:∀g e,E.GM g=xQ e->RV P g e
 call:∀g e,E.GM g=xQ e->∀(args:Array Value) (w:World),(callFunc g args).run P w=.ok (.enter g args) w
 ext:∀g x,E.ext g=xQ x->∀(args:Array Value) (w:World),(callFunc g args).run P w=((Px x args).run P w).andThen fun v w'=>.ok (.value v) w'
 eqs:∀t ti,E.eqs t=xZ->E.ty t=xQ ti->Abu P t ti
 mixed:P.follows .mixedOrders=xZ
 LH:∀g e,E.LH g=xQ e->Aet P g e:=by intro g e h; change xY=xQ e at h; cases h
 wr:∀g W,E.wr g=xQ W->LC P g W:=by intro g e h; change xY=xQ e at h; cases h
def Ops(c:Ctx)(w:World)(ρ:Operand->DV)(σ:Operand->Value)(op:Op):Prop:=∀x∈op.operands.toList,B0 c w (ρ x) (σ x)
section
variable{P:Program}{E:Env}{I0:Nat->Prop}{B:Nat}{A:Nat->Option Place}{h:DG}{w:World}
theorem AiM{c:Ctx}{x:Ext}{args:List DV}{vals:Array Value}{r:R2}(hr:AkD x args=xQ r)(hreq:r.Om=xZ)(hv:BM c w args vals.toList):
 ∃v w',(Px x vals).run P w=.ok v w'/\Wd w w'/\Any r.v v/\r.Cg=[]/\r.GJ=[]:=by
 unfold AkD at hr;split at hr
 ·rename_i n;simp only[Ae] at hr; subst hr;simp only[BM] at hv;obtain⟨u,us,e,hu,rfl⟩:=hv;simp only[B0] at hu;obtain⟨m,rfl,f⟩:=hu;have:vals=#[.float .f64 m]:=by apply yh.1; simpa using e
  subst this;exact⟨_,w,rfl,.inl rfl,fun _ _=>by simp only[B0]; exact⟨m,rfl,f⟩,rfl,rfl⟩
 ·rename_i n;simp only[Ae] at hr; subst hr;simp only[BM] at hv;obtain⟨u,us,e,hu,rfl⟩:=hv;simp only[B0] at hu;obtain⟨m,rfl,f⟩:=hu;have:vals=#[.float .f64 m]:=by apply yh.1; simpa using e
  subst this
  have hnm:n=m:=by
   rcases f with f | f
   ·exact f
   ·dsimp only at hreq;rw[f.1] at hreq; cases hreq
  subst hnm;exact⟨_,w,rfl,.inl rfl,fun _ _=>by simp only[B0],rfl,rfl⟩
 ·rename_i n;simp only[Ae] at hr; subst hr;simp only[BM] at hv;obtain⟨u,us,e,hu,rfl⟩:=hv;simp only[B0] at hu;subst hu;have:vals=#[.int .u64 n]:=by apply yh.1; simpa using e
  subst this;exact⟨_,w,rfl,.inl rfl,fun _ _=>by simp only[B0]; exact⟨_,rfl,.inl rfl⟩,rfl,rfl⟩
 ·rename_i n;simp only[Ae] at hr; subst hr;simp only[BM] at hv;obtain⟨u,us,e,hu,rfl⟩:=hv;simp only[B0] at hu;obtain⟨m,rfl,f⟩:=hu;have:vals=#[.int .u64 m]:=by apply yh.1; simpa using e
  subst this;exact⟨_,w,rfl,.inl rfl,fun _ _=>by simp only[B0]; exact⟨_,rfl,by simpa using f⟩,rfl,rfl⟩
 ·rename_i n;simp only[Ae] at hr; subst hr;simp only[BM] at hv;obtain⟨u,us,e,hu,rfl⟩:=hv;simp only[B0] at hu;obtain⟨m,rfl,f⟩:=hu;have:vals=#[.float .f64 m]:=by apply yh.1; simpa using e
  subst this;have hs:FloatKind.f64.format.sqrt m=Ieee.double.sqrt n:=MY.sqrt f;have hrun:Px .sqrt #[.float .f64 m]=(match FloatKind.f64.format.sqrt m with | some r=>pure (.float .f64 r) | none=>do pure (.float .f64 (<- choose (.nanBits .f64 m m))):Sem Value):=rfl;rw[hrun,hs];cases hq:Ieee.double.sqrt n with
  | some k=>exact⟨_,w,rfl,.inl rfl,Any.fl (.inl rfl),rfl,rfl⟩
  | none =>refine⟨.float .f64 ((Question.nanBits .f64 m m).cut (w.tape w.drawn (.nanBits .f64 m m))),w.drew,?_,.inr rfl,Any.fl (.inr ⟨OO,Aca _ _ _⟩),rfl,rfl⟩;simp only[Sem.run_bind,run_choose,Question.forced,Result.andThen_ok,Sem.run_pure,zW,if_false];rfl
 ·rename_i x y b;simp only[Ae] at hr; subst hr;dsimp only at hreq;simp only[BM] at hv;obtain⟨u,us,e,hu,u2,us2,rfl,hu2,u3,us3,rfl,hu3,rfl⟩:=hv;simp only[B0] at hu hu2 hu3;subst hu hu2 hu3;have:vals=#[.int .u64 x,.int .u64 y,.int .u64 b]:=by apply yh.1; simpa using e
  subst this;refine⟨_,w,AcZ x y b (A6 hreq) w,.inl rfl,fun _ _=>?_,rfl,rfl⟩;simp only[B0];exact⟨_,rfl,by simp[BM,B0]⟩
 ·cases hr
theorem Aau{c:Ctx}{ρ:Operand->DV}{σ:Operand->Value}{o:Option Operand}(hv:∀x∈o.toArray.toList,B0 c w (ρ x) (σ x)){lo:Option Int}
 (h:Mn ρ o=xQ lo):GH lo (o.map σ):=by
 cases o with
 | none=>simp only[Mn,Ae] at h; subst h; rfl
 | some y =>have:=hv y (by simp);simp only[Mn] at h;cases hd:ρ y<;>simp only[hd,intOf,wB,Aj,reduceCtorEq,Ae] at h;subst h;rename_i k n;rw[hd] at this;simp only[B0] at this;exact⟨k,by simp[this]⟩
theorem TY{d:DV}{i:Int}(h:intOf d=xQ i):∃k,d=.int k i:=by cases d<;>simp only[intOf,reduceCtorEq,Ae] at h;subst h; exact⟨_,rfl⟩
theorem Ou{c:Ctx}{ρ:Operand->DV}{σ:Operand->Value}:∀{l:List Operand},(∀x∈l,B0 c w (ρ x) (σ x))->BM c w (l.map ρ) (l.map σ)
 | [],_=>by simp[BM]
 | x::l,h=>by simp only[yq]; rw[BM.CW];exact⟨_,_,rfl,h x (by simp),Ou fun y hy=>h y (AN _ hy)⟩
theorem QY{c:Ctx}{ρ:Operand->DV}{σ:Operand->Value}:∀{l:List (Nat × Operand)},(∀x∈l.map (·.2),B0 c w (ρ x) (σ x))->IQ c w (l.map fun(i,x)=>(i,ρ x)) (l.map fun(i,x)=>(i,σ x))
 | [],_=>.nil
 | (i,x)::l,h=>.cons (h x (by simp)) (QY fun y hy=>h y (by simp only[yq]; exact AN _ hy))
theorem Aiz{c:Ctx}{a b d:DV}{va vb:Value}(ha:B0 c w a va)(hb:B0 c w b vb){gt:Bool}(h:maxD gt a b=xQ d):
 ∃v,((if gt then Builtin.max2 va vb else Builtin.min2 va vb):Sem Value).run P w=.ok v w/\B0 c w d v:=by
 cases a<;>cases b<;>simp only[maxD,reduceCtorEq,Ae] at h;subst h;simp only[B0] at ha hb;subst ha; subst hb;rename_i k x k' y;cases gt
 ·refine⟨_,rfl,?_⟩;simp only[B0,Af];congr 1; omega
 ·refine⟨_,rfl,?_⟩;simp only[B0,Aa];congr 1; omega
theorem Ud{c:Ctx}{gt:Bool}:∀(l:List DV) (us:List Value) (a d:DV) (va:Value),B0 c w a va->BM c w l us->RK gt a l=xQ d ->
 ∃v,(us.foldlM (fun x y=>if gt then Builtin.max2 x y else Builtin.min2 x y) va:Sem Value).run P w=.ok v w/\B0 c w d v
 | [],us,a,d,va,ha,hl,h=>by simp only[RK,Ae] at h; subst h;rw[BM.Gj] at hl; subst hl;exact⟨va,rfl,ha⟩
 | b::l,us,a,d,va,ha,hl,h=>by
   rw[BM.CW] at hl;obtain⟨u,us,rfl,hu,hus⟩:=hl;simp only[RK] at h;cases hm:maxD gt a b with
   | none=>simp[hm] at h
   | some c' =>simp only[hm,Aj] at h;obtain⟨v,h1,h2⟩:=Aiz (P:=P) ha hu hm;obtain⟨v',h3,h4⟩:=Ud l us c' d v h2 hus h;exact⟨v',by simp only[List.foldlM_cons,Sem.run_bind,h1,Result.andThen_ok,h3],h4⟩
end
theorem Agq{k:CK}{d:DV}{c:Ctx}{w:World}{v:Value}(h:OC k d=xZ)(hv:B0 c w d v):B0 c w (asC k d) v:=by
 unfold OC at h;split at h
 ·have:=A6 h;subst this;exact hv
 ·have:=A6 h;subst this;exact hv
 ·simp only[asC,CA,B0] at hv ⊢;subst hv;exact⟨xY,0,rfl,AB _,.inl trivial⟩
 ·exact hv
 ·exact hv
 ·cases h
theorem Agp{c:Ctx}{w:World}:∀(ks:List CK) (i:Nat) (row:List DV) (vs:List Value),(row.drop i).length=ks.length->isL ks i row=xZ->BM c w (row.drop i) vs->BM c w (asL ks i row) vs
 | [],i,row,vs,hl,_,hv=>by have:row.drop i=[]:=AJ hl;rw[this] at hv;exact hv
 | k::ks,i,row,vs,hl,h,hv=>by
   simp only[isL,Am] at h
   have hi:i<row.length:=by rw[zP,zj] at hl; omega
   have he:row.drop i=row.getD i .undef::row.drop (i+1):=by rw[List.drop_eq_getElem_cons hi,Al,As hi]; rfl
   rw[he] at hv;rw[BM.CW] at hv;obtain⟨u,us,rfl,h1,h2⟩:=hv;simp only[asL];rw[BM.CW];refine⟨u,us,rfl,Agq h.1 h1,Agp ks (i+1) row us ?_ h.2 h2⟩;rw[zP] at hl ⊢;rw[zj] at hl;omega
theorem Aeh{ag:Bool}{adv:List CK}{r:R}(h:(RO ag adv r).Om=xZ):r.Om=xZ/\(RO ag adv r).Cg=[]/\(RO ag adv r).GJ=[]:=by
 unfold RO at h ⊢;split at h
 ·exact⟨h,rfl,rfl⟩
 ·cases ag with
  | true =>
    rw[Aa] at h ⊢;split at h
    ·simp only[Am] at h;exact⟨h.1,rfl,rfl⟩
    ·exact⟨h,rfl,rfl⟩
  | false =>rw[Af] at h ⊢;simp only[Am] at h;exact⟨h.1,rfl,rfl⟩
theorem Ahd{ag:Bool}{adv:List CK}{r:R}{c:Ctx}{w:World}{v:Value}(h:(RO ag adv r).Om=xZ)(hv:B0 c w r.v v):B0 c w (RO ag adv r).v v:=by
 unfold RO at h ⊢;split at h
 ·exact hv
 ·cases ag with
  | true =>
    rw[Aa] at h ⊢;split at h
    ·rename_i l hr;rw[hr] at hv;simp only[Am,Ai] at h;simp only[B0] at hv ⊢;obtain⟨vs,e,hl⟩:=hv;exact⟨vs,e,Agp _ 0 l _ (by rw[zY]; exact h.2.1) h.2.2 (by rw[zY]; exact hl)⟩
    ·exact hv
  | false =>rw[Af] at h ⊢;simp only[Am] at h;exact Agq h.2 hv
section
variable{P:Program}{E:Env}{I0:Nat->Prop}{B:Nat}{A:Nat->Option Place}{h:DG}{w:World}
theorem Ahp{t:TypeId}{ti:TI}(hf:CI P t ti){nm:Nat}(hnm:A nm=xY):
 ∃w' A',(Instr.alloc t xZ (.tuple #[])).run P w=.ok (.pointer (xQ ⟨w.heap.size,0,xY⟩)) w'/\HY I0 B A w [(nm,.box ti.zero)] [] A' w'/\B0 (Cc I0 B A' w') w' (.ptr nm 0 0) (.pointer (xQ ⟨w.heap.size,0,xY⟩)):=by
 obtain⟨z,hz,hzr,_,_⟩:=hf.Tq w;refine⟨w.alloc (.cells z.cells t),QC A [] nm ⟨.live,.box w.heap.size⟩,?_,HY.alloc hnm rfl (fun b hb=>by cases hb; rfl) (fun _=>?_),?_⟩
 ·simp[Instr.alloc,hz,newVar,newRow]
 ·unfold Dy;exact⟨rfl,w.heap.size,t,z.cells,rfl,heap_alloc_new w _,hzr _ _⟩
 ·simp only[B0];exact⟨rfl,_,Az rfl,.inr (by unfold HX; exact⟨rfl,rfl⟩)⟩
theorem AkO{t:TypeId}{nm:Nat}(hnm:A nm=xY){d:DV}{v:Value}(hw:Lx d=xZ)(hv:B0 (Cc I0 B A w) w d v):
 ∃w' A',(Instr.box t v).run P w=.ok (.pointer (xQ ⟨w.heap.size,0,xY⟩)) w'/\HY I0 B A w [(nm,.box (cells d))] [] A' w'/\B0 (Cc I0 B A' w') w' (.ptr nm 0 0) (.pointer (xQ ⟨w.heap.size,0,xY⟩)):=by
 refine⟨w.alloc (.cells v.cells t),QC A [] nm ⟨.live,.box w.heap.size⟩,?_,HY.alloc hnm rfl (fun b hb=>by cases hb; rfl) (fun hmv=>?_),?_⟩
 ·simp[Instr.box,newVar,newRow]
 ·unfold Dy;exact⟨rfl,w.heap.size,t,v.cells,rfl,heap_alloc_new w _,BM.DD hmv.DD _ _ (Rt hw hv)⟩
 ·simp only[B0];exact⟨rfl,_,Az rfl,.inr (by unfold HX; exact⟨rfl,rfl⟩)⟩
theorem Adl(he:He P E)(hm:Mem I0 B A h w){o:Oper}{nm:Nat}{ρ:Operand->DV}{σ:Operand->Value}(hops:Ops (Cc I0 B A w) w ρ σ o.op){r:R2}(hq:E7 E h nm ρ o.op=xQ r)(hreq:r.Om=xZ)
 (hnew:∀n ob,(n,ob)∈r.Cg->A n=xY) (hnd:(r.Cg.map (·.1)).Nodup) {K:Value->World->Prop}
 (hK:∀v w' A',HY I0 B A w r.Cg r.GJ A' w'->B0 (Cc I0 B A' w') w' r.v v->K v w'):EA P (execOp σ o) w K:=by
 obtain⟨dst,op,ty,pos,after,guard⟩:=o;dsimp only at hops hq
 have same:∀{d:DV} {v:Value},r.v=d->r.Cg=[]->r.GJ=[]->B0 (Cc I0 B A w) w d v->K v w:=by intro d v h1 h2 h3 h4;exact hK v w A (by rw[h2,h3]; exact HY.refl (.inl rfl)) (by rw[h1]; exact h4)
 cases op
 case move x =>simp only[E7,Ae] at hq; subst hq;exact EA.value rfl (same rfl rfl rfl (hops x (by simp[Op.operands])))
 case assign x =>simp only[E7,Ae] at hq; subst hq;exact EA.value rfl (same rfl rfl rfl (hops x (by simp[Op.operands])))
 case alloc t =>
  simp only[E7] at hq;cases hT:E.ty t with
  | none=>simp[hT] at hq
  | some ti =>simp only[hT,Aj,Ae] at hq; subst hq;obtain⟨w',A',h1,h2,h3⟩:=Ahp (P:=P) (I0:=I0) (B:=B) (w:=w) (he.ty _ _ hT) (hnew nm _ (ze.2 rfl));exact EA.lift h1 (hK _ w' A' h2 h3)
 case box t x =>
  simp only[E7] at hq;cases hT:E.ty t with
  | none=>simp[hT] at hq
  | some ti =>
    simp only[hT,Aj] at hq;by_cases hc:(Lx (ρ x)&&(cells (ρ x)).length==ti.size)=xZ
    ·rw[hc,Aa,Ae] at hq; subst hq;simp only[Am] at hc;obtain⟨w',A',h1,h2,h3⟩:=AkO (P:=P) (t:=t) (hnew nm _ (ze.2 rfl)) hc.1 (hops x (by simp[Op.operands]));exact EA.lift h1 (hK _ w' A' h2 h3)
    ·simp only[zE] at hc; rw[hc] at hq; simp at hq
 case build t parts =>
  simp only[E7] at hq;cases hT:E.ty t with
  | none=>simp[hT] at hq
  | some ti =>
  cases hp:S2 E t with
  | none=>simp[hT,hp] at hq
  | some pl =>
  cases hfd:Qy pl ti.zero (parts.toList.map fun(i,x)=>(i,ρ x)) with
  | none=>simp[hT,hp,hfd] at hq
  | some cs =>
    simp only[hT,hp,hfd,Aj,Ae] at hq; subst hq
    have hpr:IQ (Cc I0 B A w) w (parts.toList.map fun(i,x)=>(i,ρ x)) (parts.map fun(i,x)=>(i,σ x)).toList:=by rw[xf];exact QY (fun x hx=>hops x (by simpa[Op.operands] using hx))
    obtain⟨v,h1,h2⟩:=Ahf (P:=P) he.ty hT hp hpr hfd;exact EA.lift h1 (same rfl rfl rfl h2)
 case buildSlice t len parts =>
  simp only[E7] at hq
  have hpr:IQ (Cc I0 B A w) w (parts.toList.map fun(i,x)=>(i,ρ x)) (parts.map fun(i,x)=>(i,σ x)).toList:=by rw[xf];exact QY (fun x hx=>hops x (by simpa[Op.operands] using hx))
  obtain⟨v,w',A',h1,h2,h3⟩:=Ut (P:=P) he.ty hm hpr hq hnew;exact EA.lift h1 (hK _ w' A' h2 h3)
 case load t a =>
  simp only[E7] at hq;cases hT:E.ty t with
  | none=>simp[hT] at hq
  | some ti =>
  cases hl:V8 h ti (ρ a) with
  | none=>simp[hT,hl] at hq
  | some r' =>simp only[hT,hl,Aj,Ae] at hq; subst hq;obtain⟨hr0,ho,hf⟩:=Aeh hreq;obtain⟨v,h1,h2⟩:=YC (P:=P) hm (he.ty _ _ hT) (hops a (by simp[Op.operands])) hl hr0;exact EA.lift h1 (same rfl ho hf (Ahd hreq h2))
 case nilCheck x =>
  have hx:=hops x (by simp[Op.operands]);simp only[E7] at hq;split at hq
  ·rename_i n i j hd;cases hal:LB h n with
   | false=>simp[hal] at hq
   | true =>
   simp only[hal,Aa,Ae] at hq; subst hq;rw[hd] at hx;have hx':=hx;simp only[B0] at hx;obtain⟨_,p,hp,hdd⟩:=hx;have hdd:=hdd.resolve_left (Q9 hm hp hal)
   have:∃a,σ x=.pointer (xQ a):=by
    unfold HX at hdd;split at hdd
    ·exact⟨_,hdd.2⟩
    ·exact⟨_,hdd⟩
    ·exact hdd.elim
   obtain⟨a,ha⟩:=this;exact EA.value (by simp only[execOp,ha]; rfl) (same rfl rfl rfl (by rw[<- ha]; exact hx'))
  ·rename_i cs hd;simp only[Ae] at hq; subst hq;rw[hd] at hx;have hx':=hx;simp only[B0] at hx;obtain⟨b,o,vs,ha,_⟩:=hx;exact EA.value (by simp only[execOp,ha]; rfl) (same rfl rfl rfl (by rw[<- ha]; exact hx'))
  ·rename_i f a c hd;simp only[Ae] at hq; subst hq;rw[hd] at hx;have hx':=hx;simp only[B0] at hx;obtain⟨fs,cs,ha,_⟩:=hx;exact EA.value (by simp only[execOp,ha]; rfl) (same rfl rfl rfl (by rw[<- ha]; exact hx'))
  ·cases hq
 case binOp op t x y ty' =>
  simp only[E7] at hq;cases hb:Ajf E op t (ρ x) (ρ y) with
  | none=>simp[hb] at hq
  | some r' =>simp only[hb,Aj,Ae] at hq; subst hq;obtain⟨v,w',h1,h2,h3⟩:=Aje (P:=P) he.ty he.eqs w (x:=x) (y:=y) (hops x (by simp[Op.operands])) (hops y (by simp[Op.operands])) hb hreq;exact EA.lift h1 (hK v w' A (HY.refl h2) (h3 _ _))
 case unOp op t x =>
  simp only[E7] at hq;cases hb:unD op (ρ x) with
  | none=>simp[hb] at hq
  | some r' =>simp only[hb,Aj,Ae] at hq; subst hq;obtain⟨v,h1,h3⟩:=AjG (P:=P) w (hops x (by simp[Op.operands])) hb;exact EA.lift h1 (same rfl rfl rfl (h3 _ _))
 case convert src dst x =>
  simp only[E7] at hq;cases hb:Ac0 E dst src (ρ x) with
  | none=>simp[hb] at hq
  | some r' =>simp only[hb,Aj,Ae] at hq; subst hq;obtain⟨v,h1,h3⟩:=AgX (P:=P) he.ty w (hops x (by simp[Op.operands])) hb;exact EA.lift h1 (same rfl rfl rfl (h3 _ _))
 case makeFunc fn first captured =>
  cases fn<;>simp only[E7,reduceCtorEq,Ae] at hq;subst hq;rename_i f;refine EA.lift (v:=.func (.func f) (first.map σ) (captured.map σ)) (w':=w) rfl (same rfl rfl rfl ?_);simp only[B0];refine⟨_,_,rfl,?_,?_⟩
  ·rw[xf]; exact Ou fun x hx=>hops x (by simp[Op.operands]; exact .inl (by simpa using hx))
  ·rw[xf]; exact Ou fun x hx=>hops x (by simp[Op.operands]; exact .inr (by simpa using hx))
 case makeSlice t l c =>simp only[E7] at hq;obtain⟨v,w',A',h1,h2,h3⟩:=UE (P:=P) he.ty hm (hops l (by simp[Op.operands])) (hops c (by simp[Op.operands])) hq hreq hnew;exact EA.lift h1 (hK _ w' A' h2 h3)
 case slice t x lo hi mx =>
  simp only[E7] at hq;cases hlo:Mn ρ lo with
  | none=>simp[hlo] at hq
  | some lo' =>
  cases hhi:Mn ρ hi with
  | none=>simp[hlo,hhi] at hq
  | some hi' =>
  cases hmx:Mn ρ mx with
  | none=>simp[hlo,hhi,hmx] at hq
  | some mx' =>
  simp only[hlo,hhi,hmx,Aj] at hq;cases hs:W6 E h t (ρ x) lo' hi' mx' with
  | none=>simp[hs] at hq
  | some r' =>
    simp only[hs,Aj,Ae] at hq; subst hq;have m1:∀y∈lo.toArray.toList,B0 (Cc I0 B A w) w (ρ y) (σ y):=fun y hy=>hops y (by cases lo<;>simp at hy; subst hy; simp[Op.operands])
    have m2:∀y∈hi.toArray.toList,B0 (Cc I0 B A w) w (ρ y) (σ y):=fun y hy=>hops y (by cases hi<;>simp at hy; subst hy; simp[Op.operands])
    have m3:∀y∈mx.toArray.toList,B0 (Cc I0 B A w) w (ρ y) (σ y):=fun y hy=>hops y (by cases mx<;>simp at hy; subst hy; simp[Op.operands])
    obtain⟨v,h1,h2⟩:=AcU (P:=P) he.ty hm (hops x (by simp[Op.operands])) (Aau m1 hlo) (Aau m2 hhi) (Aau m3 hmx) hs hreq;exact EA.lift h1 (same rfl rfl rfl h2)
 case fieldAddr t x f =>
  simp only[E7] at hq;cases hb:Mu E h t f (ρ x) with
  | none=>simp[hb] at hq
  | some r' =>simp only[hb,Aj,Ae] at hq; subst hq;obtain⟨v,h1,h3⟩:=UI (P:=P) he.ty hm (hops x (by simp[Op.operands])) hb;exact EA.lift h1 (same rfl rfl rfl h3)
 case field t x f =>
  simp only[E7] at hq;cases hb:Xi E t f (ρ x) with
  | none=>simp[hb] at hq
  | some r' =>simp only[hb,Aj,Ae] at hq; subst hq;obtain⟨v,h1,h3⟩:=AdW (P:=P) he.ty (hops x (by simp[Op.operands])) hb;exact EA.lift h1 (same rfl rfl rfl h3)
 case indexAddr t x i =>
  simp only[E7] at hq;cases hi:intOf (ρ i) with
  | none=>simp[hi] at hq
  | some n =>
  cases hb:Ms E h t (ρ x) n with
  | none=>simp[hi,hb] at hq
  | some r' =>simp only[hi,hb,Aj,Ae] at hq; subst hq;obtain⟨k,hk⟩:=TY hi;have hv:=hops i (by simp[Op.operands]);rw[hk] at hv; simp only[B0] at hv;obtain⟨v,h1,h3⟩:=UF (P:=P) (k:=k) he.ty hm (hops x (by simp[Op.operands])) hb hreq;exact EA.lift (by rw[hv]; exact h1) (same rfl rfl rfl h3)
 case index t x i =>
  simp only[E7] at hq;cases hi:intOf (ρ i) with
  | none=>simp[hi] at hq
  | some n =>
  cases hb:Xe E t (ρ x) n with
  | none=>simp[hi,hb] at hq
  | some r' =>simp only[hi,hb,Aj,Ae] at hq; subst hq;obtain⟨k,hk⟩:=TY hi;have hv:=hops i (by simp[Op.operands]);rw[hk] at hv; simp only[B0] at hv;obtain⟨v,h1,h3⟩:=AdM (P:=P) (k:=k) he.ty (hops x (by simp[Op.operands])) hb hreq;exact EA.lift (by rw[hv]; exact h1) (same rfl rfl rfl h3)
 case extract t i =>
  have hx:=hops t (by simp[Op.operands]);simp only[E7] at hq;split at hq
  ·rename_i l hd;rw[hd] at hx;simp only[B0] at hx;obtain⟨vs,hvs,hl⟩:=hx;cases hi:l[i]? with
   | none=>simp[hi] at hq
   | some d =>
     simp only[hi,Aj,Ae] at hq; subst hq;obtain⟨v,hv,hr⟩:=hl.get i d hi;have hv':vs[i]?=xQ v:=by simpa using hv
     exact EA.lift (by rw[hvs]; simp[Instr.extract,hv']) (same rfl rfl rfl hr)
  ·cases hq
 case call c =>
  obtain⟨callee,args,ts⟩:=c;cases callee with
  | value f =>
    have hf:=hops f (by simp[Op.operands,Call.operands])
    have ha:BM (Cc I0 B A w) w (args.toList.map ρ) (args.map σ).toList:=by rw[xf]; exact Ou fun x hx=>hops x (by simp[Op.operands,Call.operands]; exact .inr (by simpa using hx))
    simp only[E7] at hq;split at hq
    ·rename_i g first captured hd
     rw[hd] at hf;simp only[B0] at hf;obtain⟨fs,cs,hfv,hfs,hcs⟩:=hf
     have hrun:∀w,(execOp σ ⟨dst,.call ⟨.value f,args,ts⟩,ty,pos,after,guard⟩).run P w=(callFunc g (fs++args.map σ++cs)).run P w:=by intro w;simp only[execOp,resolve,hfv,Deferred.ofValue,Sem.run_bind,Sem.run_pure,Result.andThen_ok,invoke]
     split at hq
     ·rename_i x hx;split at hq
      ·have e1:fs=#[]:=by have:=hfs.length; simp at this; exact xg this.symm
       have e2:cs=#[]:=by have:=hcs.length; simp at this; exact xg this.symm
       subst e1; subst e2;obtain⟨v,w',h1,h2,h3,h4,h5⟩:=AiM (P:=P) hq hreq ha;refine EA.value (w':=w') (v:=v) ?_ (hK v w' A (by rw[h4,h5]; exact HY.refl h2) (h3 _ _));rw[hrun,he.ext g x hx];simp[h1]
      ·cases hq
     ·have hall:BM (Cc I0 B A w) w (first++args.toList.map ρ++captured) (fs++args.map σ++cs).toList:=by rw[vE,vE];exact(hfs.append ha).append hcs
      have hcall:=Ajc (P:=P) hm he.GM hq hreq hnew hnd hall;unfold EA
      have htab:∃e,E.GM g=xQ e:=by
       unfold Ac2 at hq;cases h1:Hp h (first++args.toList.map ρ++captured) with
       | none=>simp only[h1,wB,reduceCtorEq] at hq
       | some a =>
         cases h2:E.GM g with
         | none=>simp only[h1,h2,Aj,wB,reduceCtorEq] at hq
         | some e=>exact⟨e,rfl⟩
      obtain⟨e,hte⟩:=htab;rw[hrun,he.call g e hte];exact hcall.mono fun en w' ⟨v,he',A',h1,h2⟩=>⟨v,he',hK v w' A' h1 h2⟩
    ·cases hq
  | invoke recv m=>simp[E7] at hq
  | builtin b =>
    have ha:∀x∈args.toList,B0 (Cc I0 B A w) w (ρ x) (σ x):=fun x hx=>hops x (by simp[Op.operands,Call.operands]; exact(by simpa using hx))
    cases b
    case len =>
     simp only[E7] at hq;split at hq
     ·rename_i x t hx ht;split at hq
      ·rename_i e _ hT;have hu:=(he.ty _ _ hT).desc;simp only[CV] at hu;cases hn:AiA h (ρ x) with
       | none=>simp[hn] at hq
       | some n =>simp only[hn,Aj,Ae] at hq; subst hq;obtain⟨ad,l,cap,hv,hln⟩:=Ai9 hm (ha x (by rw[hx]; simp)) hn;have e1:args=#[x]:=yh.1 hx;have e2:ts=#[t]:=yh.1 ht;subst e1; subst e2;refine EA.value (w':=w) (v:=.int .i64 n) ?_ (same rfl rfl rfl (by simp[B0]));simp[execOp,resolve,invoke,builtin,Builtin.len_,hv,run_underlying hu,goInt,hln]
      ·cases hq
     ·cases hq
    case max =>
     simp only[E7] at hq;split at hq
     ·rename_i x l hx;cases hn:RK xZ (ρ x) (l.map ρ) with
      | none=>simp[hn] at hq
      | some d =>simp only[hn,Aj,Ae] at hq; subst hq;have e1:args=(x::l).toArray:=yh.1 (by rw[hx]);subst e1;obtain⟨v,h1,h2⟩:=Ud (P:=P) (gt:=xZ) _ _ _ _ _ (ha x (by simp)) (Ou fun y hy=>ha y (by simp[hy])) hn;refine EA.value (w':=w) (v:=v) ?_ (same rfl rfl rfl h2);simp only[if_true] at h1;simp[execOp,resolve,invoke,builtin,Builtin.max_,h1]
     ·cases hq
    case min =>
     simp only[E7] at hq;split at hq
     ·rename_i x l hx;cases hn:RK x5 (ρ x) (l.map ρ) with
      | none=>simp[hn] at hq
      | some d =>simp only[hn,Aj,Ae] at hq; subst hq;have e1:args=(x::l).toArray:=yh.1 (by rw[hx]);subst e1;obtain⟨v,h1,h2⟩:=Ud (P:=P) (gt:=x5) _ _ _ _ _ (ha x (by simp)) (Ou fun y hy=>ha y (by simp[hy])) hn;refine EA.value (w':=w) (v:=v) ?_ (same rfl rfl rfl h2);simp only[zW,if_false] at h1;simp[execOp,resolve,invoke,builtin,Builtin.min_,h1]
     ·cases hq
    all_goals (simp[E7] at hq)
 all_goals (simp[E7] at hq)
end
theorem RB:∀(vs cs:List DV) (j:Nat),j+vs.length<=cs.length->setCells cs j vs=cs.take j++vs++cs.drop (j+vs.length)
 | [],cs,j,_=>by simp[setCells]
 | v::vs,cs,j,h=>by
   simp only[zj] at h;simp only[setCells];rw[RB vs (cs.set j v) (j+1) (by rw[yN]; omega)]
   have h1:(cs.set j v).take (j+1)=cs.take j++[v]:=by rw[List.take_succ_eq_append_getElem (by rw[yN]; omega)];rw[List.take_set_of_le (by omega)];simp
   have h2:(cs.set j v).drop (j+1+vs.length)=cs.drop (j+(v::vs).length):=by rw[List.drop_set_of_lt (by omega)];congr 1; simp only[zj]; omega
   rw[h1,h2]; simp
theorem PQ{c:Ctx}{w:World}{cs ds:List DV}{us vs:List Value}(hc:BM c w cs us)(hd:BM c w ds vs){j:Nat}(hj:j+ds.length<=cs.length):
 BM c w (setCells cs j ds) (us.take j++vs++us.drop (j+vs.length)):=by
 rw[RB ds cs j hj,<- hd.length];exact((hc.take j).append hd).append (hc.drop _)
theorem OK{w:World}{base:Nat}{e:TypeId}{size n cap g:Nat}{xs vs:List Value}(h:w.ownsRow base e size (.slice (xQ ⟨g,0,xY⟩) n cap) n xs){o:Nat}(ho:o+vs.length<=n*size):
 ∃cur,w.heap[g]?=xQ (.cells cur e (0,0))/\o+vs.length<=cur.size/\(w.setRow g (cur.toList.take o++vs++cur.toList.drop (o+vs.length)).toArray).ownsRow base e size (.slice (xQ ⟨g,0,xY⟩) n cap) n (xs.take o++vs++xs.drop (o+vs.length)):=by
 obtain⟨h1,h2⟩:=h;rcases h2 with ⟨e,_⟩ | ⟨g',cap',cur,e,hb,hh,hnc,hm,hs,ht⟩
 ·cases e
 ·cases e;have hcur:n*size<=cur.size:=by rw[hs]; exact An _ hnc
  refine⟨cur,hh,by omega,?_,.inr ⟨g,cap,_,rfl,hb,setRow_heap w g cur _ e _ hh,hnc,hm,?_,?_⟩⟩
  ·simp only[A8,zM,zP]; omega
  ·simp only[List.size_toArray,A8,zM,zP,z5]; omega
  ·rw[<- ht]
   have hl:(cur.toList.take o++vs).length=o+vs.length:=by simp only[A8,zM,z5]; omega
   rw[List.take_append,List.take_of_length_le (by rw[hl]; exact ho),hl];congr 1
   ·congr 1;rw[List.take_take,yv (by omega)]
   ·rw[List.drop_take]
theorem RL{α:Type}{sz:Nat}:∀{rows:List (List α)},(∀r∈rows,r.length=sz)->∀(i:Nat) (r:List α),rows[i]?=xQ r->∀(j:Nat) (vs:List α),j+vs.length<=sz ->
 (rows.set i (r.take j++vs++r.drop (j+vs.length))).flatten=rows.flatten.take (i*sz+j)++vs++rows.flatten.drop (i*sz+j+vs.length)
 | [],_,i,r,h,_,_,_=>by simp at h
 | r0::rows,hl,i,r,h,j,vs,hj=>by
   have h0:r0.length=sz:=hl r0 (by simp);cases i with
   | zero =>simp at h; subst h;simp only[List.set_cons_zero,yB,Nat.zero_mul,AS];rw[List.take_append_of_le_length (by omega),List.drop_append_of_le_length (by omega)];simp
   | succ i =>simp at h;have ih:=RL (rows:=rows) (fun r hr=>hl r (by simp[hr])) i r h j vs hj;simp only[List.set_cons_succ,yB];rw[ih,z8];rw[show i*sz+sz+j=r0.length+(i*sz+j) by omega,show r0.length+(i*sz+j)+vs.length=r0.length+(i*sz+j+vs.length) by omega];rw[List.take_length_add_append,List.drop_length_add_append];simp
section
variable{P:Program}{E:Env}{I0:Nat->Prop}{B:Nat}{A:Nat->Option Place}{h:DG}{w:World}{t:TypeId}
theorem F1:∀{h:DG} {n:Nat} {x y:Bool × OB},look h n=xQ x->∀m,look (UR h n y) m=if m=n then xQ y else look h m
 | [],n,x,y,hl,m=>by cases hl
 | (k,z)::h,n,x,y,hl,m=>by
   simp only[look] at hl;simp only[UR];by_cases hk:k=n
   ·subst hk;simp only[AI,Aa,look];by_cases hm:m=k
    ·subst hm; simp
    ·rw[show(k==m)=x5 by simpa using fun e=>hm e.symm]; simp[hm]
   ·rw[show(k==n)=x5 by simpa using hk] at hl ⊢;simp only[Af] at hl ⊢;simp only[look];by_cases hm:k=m
    ·subst hm; simp[hk]
    ·rw[show(k==m)=x5 by simpa using hm];simp only[Af];exact F1 hl m
theorem QH(hm:Mem I0 B A h w){n:Nat}{p:Place}(hp:A n=xQ p)(hl:p.st=.live){g:Nat}(hg:p.FP=xQ g){new:Array Value}{ob ob':OB}(hlk:look h n=xQ (x5,ob))
 (hob:Hd A w A (w.setRow g new)->Dy (Cc I0 B A (w.setRow g new)) (w.setRow g new) p (x5,ob')):
 Mem I0 B A (UR h n (x5,ob')) (w.setRow g new)/\Hd A w A (w.setRow g new):=by
 have hother:∀b,b≠g->(w.setRow g new).heap[b]?=w.heap[b]?:=fun b hb=>setRow_other w g b _ hb
 have hsize:(w.setRow g new).heap.size=w.heap.size:=by simp[World.setRow]
 have hmv:Hd A w A (w.setRow g new):=by refine⟨by rw[hsize]; exact AB _,fun m q hq=>⟨q,hq,by by_cases hd:q.st=.dead; exact .inl hd; exact .inr ⟨hd,rfl⟩⟩,fun m q b hq hql hqb _=>⟨m,q,hq,hql,hqb⟩,fun b _ hb=>hother b (fun e=>hb n p hp hl (by rw[e]; exact hg))⟩
 refine⟨⟨by rw[hsize]; exact hm.hB,hm.QF,fun m q fo hq hlo=>?_,fun m q b hq hd hb=>by rw[hsize]; exact hm.Gz m q b hq hd hb,hm.inj⟩,hmv⟩;rw[F1 hlk] at hlo;by_cases hmn:m=n
 ·subst hmn;rw[Az rfl] at hlo;cases hlo;rw[hp] at hq; cases hq;exact hob hmv
 ·rw[Ay hmn] at hlo;have h1:=hm.obj m q fo hq hlo;by_cases hd:q.st=.dead
  ·obtain⟨fz,ob⟩:=fo;cases ob with
   | dead=>exact hd
   | box cs=>exact absurd hd (Cm (Mm hm hq hlo).1)
   | Bj e k l=>exact absurd hd (Cm (Em hm hq hlo).1)
   | Cu e sz l=>exact absurd hd (Cm (EE hm hq hlo).1)
  ·exact Dy.DD hmv.DD rfl rfl (fun b hb=>hother b (fun e=>hmn (hm.inj m n q p b hq hp hd (by rw[hl]; simp) hb (by rw[hg,e])))) fo h1
def O5(ns:List Nat)(A:Nat->Option Place)(w w':World):Prop:=∀m q b,m ∉ ns->A m=xQ q->q.st≠.dead->q.FP=xQ b->w'.heap[b]?=w.heap[b]?
theorem ND(hm:Mem I0 B A h w){n:Nat}{p:Place}(hp:A n=xQ p)(hd:p.st≠.dead){g:Nat}(hg:p.FP=xQ g)(new:Array Value):O5 [n] A w (w.setRow g new):=fun m q b hmn hq hqd hqb =>
 setRow_other w g b _ fun e=>hmn (by rw[hm.inj m n q p b hq hp hqd hd hqb (by rw[hg,e])]; exact ze.2 rfl)
theorem AcO(hty:∀t ti,E.ty t=xQ ti->CI P t ti)(hm:Mem I0 B A h w){a v:DV}{va vv:Value}(ha:B0 (Cc I0 B A w) w a va)(hv:B0 (Cc I0 B A w) w v vv){Om:Bool}{h':DG}
 (hs:QI E h t a v=xQ (Om,h')) (hreq:Om=xZ):
 ∃w',(Instr.storeAt t va vv).run P w=.ok () w'/\Mem I0 B A h' w'/\Hd A w A w'/\Below B w w'/\(∀m,(look h' m).isSome=(look h m).isSome)/\O5 (AfR a) A w w'/\(∀m,m ∉ AfR a->look h' m=look h m)/\(∀m,m∈AfR a->look h m≠xY):=by
 subst hreq;unfold QI at hs;cases hT:E.ty t with
 | none=>simp[hT] at hs
 | some ti =>
 simp only[hT,Aj] at hs;by_cases hc:(Lx v&&(cells v).length==ti.size&&(cells v).all OT)=xZ
 ·rw[hc,Aa] at hs;simp only[Am,beq_iff_eq] at hc;obtain⟨⟨hw,hcl⟩,hfl⟩:=hc;have hcr:=Rt hw hv;have hone:=X8 hfl hcr;have hvl:vv.cells.toList.length=ti.size:=by rw[<- hcr.length]; exact hcl
  have hsize:=(hty _ _ hT).Hn w
  have run:∀g o (cur:Array Value) e,va=.pointer (xQ ⟨g,o,xY⟩)->w.heap[g]?=xQ (.cells cur e (0,0))->o+vv.cells.toList.length<=cur.size ->
   (Instr.storeAt t va vv).run P w=.ok () (w.setRow g (cur.toList.take o++vv.cells.toList++cur.toList.drop (o+vv.cells.toList.length)).toArray):=by
   intro g o cur e hva hg hle;have h1:=run_storeCells_at P g o e vv.cells.toList 0 cur w hg (by simpa using hle) hone;simp only[AQ] at h1;have hsz:¬vv.cells.size≠ti.size:=by simp only[z5] at hvl; simp[hvl]
   simp only[Instr.storeAt,hva,Instr.sureAddr,Sem.run_bind,Sem.run_pure,Result.andThen_ok,storeVar,hsize,Ay hsz,h1]
  have setB:∀g (new:Array Value),B<=g->Below B w (w.setRow g new):=fun g new hg =>
   ⟨rfl,rfl,rfl,by simp[World.setRow],fun k hk=>setRow_other w g k _ (by omega)⟩
  split at hs
  ·rename_i n i j;simp only[B0] at ha;obtain⟨_,p,hp,hd⟩:=ha;split at hs
   ·rename_i cs hlk;by_cases hq:(i==0&&decide (j+ti.size<=cs.length))=xZ
    ·rw[hq,Aa,Ae,Ak] at hs;obtain⟨_,rfl⟩:=hs;simp only[Am,beq_iff_eq,Ai] at hq;obtain⟨hst,b,e,cur,hk,hh,hls⟩:=Mm hm hp hlk;have hd:=hd.resolve_left (Cm hst);unfold HX at hd; rw[hk] at hd;obtain⟨_,hva⟩:=hd;have hle:j+vv.cells.toList.length<=cur.size:=by have:=hls.length; simp only[z5] at this hvl ⊢; omega
     have hblk:p.FP=xQ b:=by unfold Place.FP; rw[hk]
     have hBb:=(hm.Gz n p b hp (Cm hst) hblk).1
     obtain⟨h1,h2⟩:=QH hm hp hst hblk (new:=(cur.toList.take j++vv.cells.toList++cur.toList.drop (j+vv.cells.toList.length)).toArray) (ob':=.box (setCells cs j (cells v))) hlk (fun hmv=>by unfold Dy;refine⟨hst,b,e,_,hk,setRow_heap w b cur _ e _ hh,?_⟩;exact PQ (BM.DD hmv.DD _ _ hls) (BM.DD hmv.DD _ _ hcr) (by rw[hcl]; exact hq.2))
     exact⟨_,run b j cur e hva hh hle,h1,h2,setB _ _ hBb,fun m=>by rw[F1 hlk]; split<;>simp_all,ND hm hp (Cm hst) hblk _,fun m hmn=>by rw[F1 hlk,Ay (fun e=>hmn (by rw[e]; exact ze.2 rfl))],fun m hmn=>by rw[ze.1 hmn,hlk]; simp⟩
    ·simp only[zE] at hq; rw[hq] at hs; simp at hs
   ·rename_i e k l hlk;split at hs
    ·rename_i k' x;by_cases hq:(j==0&&decide (k=k'))=xZ
     ·rw[hq,Aa,Ae,Ak] at hs;obtain⟨hlt,rfl⟩:=hs;simp only[Am,beq_iff_eq,Ai] at hq hlt;obtain⟨rfl,rfl⟩:=hq;obtain⟨hst,sv,hk,ho⟩:=Em hm hp hlk;have hd:=hd.resolve_left (Cm hst);obtain⟨g,cap,rfl,_,_⟩:=FH ho (by omega);unfold HX at hd; rw[hk] at hd;simp only[AR,AQ] at hd;simp only[B0] at hv; subst hv;have hc1:(Value.int k x).cells.toList=[.int k x]:=rfl;obtain⟨cur,hh,hle,hrow⟩:=OK ho (vs:=[.int k x]) (o:=i) (by simp; omega);have hblk:p.FP=xQ g:=by unfold Place.FP; rw[hk]; rfl
      have hBb:=(hm.Gz n p g hp (Cm hst) hblk).1
      obtain⟨h1,h2⟩:=QH hm hp hst hblk (new:=(cur.toList.take i++[Value.int k x]++cur.toList.drop (i+[Value.int k x].length)).toArray) (ob':=.Bj e k (l.set i x)) hlk (fun hmv=>by
       unfold Dy;refine⟨hst,_,hk,?_⟩
       have e1:(l.set i x).map (Value.int k)=(l.map (Value.int k)).take i++[.int k x]++(l.map (Value.int k)).drop (i+[Value.int k x].length):=by rw[List.set_eq_take_append_cons_drop,Az hlt];simp
       rw[e1,yN];exact hrow)
      exact⟨_,run g i cur e hd hh hle,h1,h2,setB _ _ hBb,fun m=>by rw[F1 hlk]; split<;>simp_all,ND hm hp (Cm hst) hblk _,fun m hmn=>by rw[F1 hlk,Ay (fun e=>hmn (by rw[e]; exact ze.2 rfl))],fun m hmn=>by rw[ze.1 hmn,hlk]; simp⟩
     ·simp only[zE] at hq; rw[hq] at hs; simp at hs
    ·cases hs
   ·rename_i e sz l hlk;cases hlow:Hp h (cells v) with
    | none=>simp[hlow] at hs
    | some q =>
    obtain⟨vs,ns⟩:=q;simp only[hlow,Aj] at hs;by_cases hq:(decide (j+ti.size<=sz)&&ns.isEmpty)=xZ
    ·rw[hq,Aa,Ae,Ak] at hs;obtain⟨hlt,rfl⟩:=hs;simp only[Am,Ai,List.isEmpty_iff] at hq hlt;obtain⟨hq,rfl⟩:=hq;obtain⟨hst,hsz,sv,rows,hk,hrr,hlen,ho⟩:=EE hm hp hlk;have hd:=hd.resolve_left (Cm hst);obtain⟨g,cap,rfl,_,_⟩:=FH ho (by omega);unfold HX at hd; rw[hk] at hd;have hlv:=Ks (Qj hm 8) (cells v) _ vs [] hlow hcr;have hvl2:vs.length=ti.size:=by rw[hlv.length]; exact hvl
     have hli:l[i]?=xQ (l.getD i []):=by simp[wt,hlt]
     obtain⟨row,hrow,hlr⟩:=hrr.get i _ hli;have hrl:=(hlen row (yW hrow)).1
     have hin:i*sz+j+vv.cells.toList.length<=l.length*sz:=by have:=An sz (show i+1<=l.length by omega);rw[z8] at this; omega
     obtain⟨cur,hh,hle,hrow'⟩:=OK ho (vs:=vv.cells.toList) (o:=i*sz+j) hin;have hblk:p.FP=xQ g:=by unfold Place.FP; rw[hk]; rfl
     have hBb:=(hm.Gz n p g hp (Cm hst) hblk).1
     obtain⟨h1,h2⟩:=QH hm hp hst hblk (new:=(cur.toList.take (i*sz+j)++vv.cells.toList++cur.toList.drop (i*sz+j+vv.cells.toList.length)).toArray) (ob':=.Cu e sz (l.set i (setCells (l.getD i []) j vs))) hlk (fun hmv=>by
      unfold Dy;have hb:=hmv.DD (I0:=I0) (B:=B);have wd:I6 (HC (seen I0 B A w [])) (Cc I0 B A w).bare:=⟨fun b hb'=>hb'.elim id (fun⟨_,_,hn,_⟩=>absurd hn (by simp)),rfl,fun _=>rfl,fun _=>rfl⟩
      refine⟨hst,hsz,_,rows.set i (row.take j++vv.cells.toList++row.drop (j+vv.cells.toList.length)),hk,?_,?_,?_⟩
      ·refine(Dx.DD hb.bare _ _ hrr).set i ?_;exact PQ (BM.DD hb.bare _ _ hlr) (BM.DD hb.bare _ _ (BM.Fg wd _ _ hlv)) (by rw[hlr.length,hrl]; omega)
      ·intro r hr;rcases List.mem_or_eq_of_mem_set hr with hr | rfl
       ·exact hlen r hr
       ·refine⟨by simp only[A8,zM,zP]; omega,fun u hu=>?_⟩;have hro:=(hlen row (yW hrow)).2;simp only[zA] at hu;rcases hu with (hu | hu) | hu
        ·exact hro u (yX hu)
        ·exact hone u hu
        ·exact hro u (yo hu)
      ·rw[RL (fun r hr=>(hlen r hr).1) i row hrow j _ (by omega),yN];exact hrow')
     exact⟨_,run g _ cur e hd hh hle,h1,h2,setB _ _ hBb,fun m=>by rw[F1 hlk]; split<;>simp_all,ND hm hp (Cm hst) hblk _,fun m hmn=>by rw[F1 hlk,Ay (fun e=>hmn (by rw[e]; exact ze.2 rfl))],fun m hmn=>by rw[ze.1 hmn,hlk]; simp⟩
    ·simp only[zE] at hq; rw[hq] at hs; simp at hs
   ·cases hs
  ·cases hs
 ·simp only[zE] at hc; rw[hc] at hs; simp at hs
end
section
variable{P:Program}{E:Env}{I0:Nat->Prop}{B:Nat}{A:Nat->Option Place}{h:DG}{w:World}{t:TypeId}
theorem MM{ty e:TypeId}{i:TypeInfo}(ht:P.underlying t=xQ (.slice e))(hi:P.info? e=xQ i){v:Value}{n size:Nat}{xs:List Value}(hown:w.ownsRow B e size v n xs)(a:Option Addr)(c:Nat):
 (Builtin.append_ #[t,t] ty #[v,.slice a 0 c]).run P w=.ok v w:=by
 rcases FG hown with ⟨rfl,rfl⟩ | ⟨g,cap,rfl,hc⟩
 ·cases a<;>simp[Builtin.append_,run_underlying ht,sizeOf,typeInfo,hi,Builtin.lenOf,Builtin.firstCells,loadCells,loadCellsFrom]
 ·cases a<;>simp[Builtin.append_,run_underlying ht,sizeOf,typeInfo,hi,Builtin.lenOf,Builtin.firstCells,loadCells,loadCellsFrom,hc,storeCells]
theorem MC{ty e:TypeId}{ei:TI}(hu:P.underlying t=xQ (.slice e))(hf:CI P e ei)(hb:ei.bytes<=128)(hs:0<ei.size)(hB:B<=w.heap.size){v:Value}{n:Nat}{xs:List Value}(hown:w.ownsRow B e ei.size v n xs)
 {a:Option Addr} {m c:Nat} {news:List Value} (hl:news.length=m*ei.size) (hsrc:m=0\/∃b o,a=xQ ⟨b,o,xY⟩/\Fu w b o news) (h1:∀u∈news,u.oneCell'=xZ) (hlim:n+m<=KF ei.bytes):
 ∃v' w',(Builtin.append_ #[t,t] ty #[v,.slice a m c]).run P w=.ok v' w'/\w'.ownsRow B e ei.size v' (n+m) (xs++news)/\w.grownBy w' v.ownBlock/\(v'.ownBlock=v.ownBlock\/∀b,v'.ownBlock=xQ b->b=w.heap.size):=by
 obtain⟨i,z,hi,hsz,hby,hz,_,hzs,_⟩:=hf.info;rcases hsrc with rfl | ⟨b,o,rfl,hrd⟩
 ·have:news=[]:=AJ (by omega);subst this;refine⟨v,w,MM hu hi hown a c,by simpa using hown,⟨rfl,rfl,rfl,AB _,fun _ _ _=>rfl⟩,.inl rfl⟩
 ·have hnews:∀j u,news[j]?=xQ u->w.cell? ((⟨b,o,xY⟩:Addr).add j)=xQ u:=fun j u hj=>by rw[Addr.add_lit]; exact hrd j u hj
  have hbytes:(n+m)*ei.bytes<=140737488355328:=RJ hlim hb;by_cases hm0:m=0
  ·subst hm0;have:news=[]:=AJ (by omega);subst this;exact⟨v,w,MM hu hi hown _ c,by simpa using hown,⟨rfl,rfl,rfl,AB _,fun _ _ _=>rfl⟩,.inl rfl⟩
  ·obtain⟨v',w',hrun,hown',hg,_⟩:=run_append_own (P:=P) w B t ty e i z ei.size ei.bytes hu hi hz hsz hby hzs hs v n xs hown ⟨b,o,xY⟩ m c news hl hnews h1 (TM hlim) hbytes hB;refine⟨v',w',hrun,hown',hg,?_⟩;have h63:n+m<=9223372036854775807:=by have:=TN hlim; omega
   rcases hown.2 with ⟨rfl,rfl⟩ | ⟨g,cap,cur,rfl,hbg,hgc,hnc,hcm,hcs,htake⟩
   ·have hr:=run_append_nil (P:=P) w t ty e i z hu hi hz ⟨b,o,xY⟩ m c news (by rw[hsz]; exact hl) hnews (by omega) (by omega) (by rw[hby]; rw[AS] at hbytes; omega);rw[hr] at hrun;cases hrun;exact .inr fun b hb=>by cases hb; rfl
   ·by_cases hroom:n+m<=cap
    ·have hfit:n*i.size+news.length<=cur.size:=by rw[hsz,hl,hcs,<- AM]; exact An _ hroom
     have hr:=run_append_room (P:=P) w t ty e i hu hi g n cap cur hgc ⟨b,o,xY⟩ m c news (by rw[hsz]; exact hl) hnews h1 hroom hfit;rw[hr] at hrun;cases hrun;exact .inl rfl
    ·have holds:∀j u,xs[j]?=xQ u->w.cell? ((⟨g,0,xY⟩:Addr).add j)=xQ u:=hown.cells (g:=g) rfl;have hr:=run_append_grow (P:=P) w t ty e i z hu hi hz ⟨g,0,xY⟩ n cap xs (by rw[hsz]; exact hown.1) holds ⟨b,o,xY⟩ m c news (by rw[hsz]; exact hl) hnews (by omega) (by omega) (growslice_fits (by omega) (by rw[hby]; exact hbytes));rw[hr] at hrun;cases hrun;exact .inr fun b hb=>by cases hb; rfl
theorem Ro(hm:Mem I0 B A h w){d:DV}{v:Value}(hv:B0 (Cc I0 B A w) w d v){k:IntKind}{l:Bf}(h0:Jr h k d=xQ l):
 ∃a m c,v=.slice a m c/\m=l.length/\(m=0\/∃b o,a=xQ ⟨b,o,xY⟩/\Fu w b o (l.map (Value.int k))):=by
 have plain:∀{a:Option Addr} {cap:Nat} {l:Bf} {ok:Nat->Prop},(l=[]\/∃b o,a=xQ ⟨b,o,xY⟩/\ok b/\∀(i:Nat) n,l[i]?=xQ n->w.cell? ⟨b,o+i,xY⟩=xQ (.int k n)) ->
  (l.length=0\/∃b o,a=xQ ⟨b,o,xY⟩/\Fu w b o (l.map (Value.int k))):=by
  intro a cap l ok hh;refine hh.imp (fun e=>by rw[e]; rfl) fun⟨b,o,e,_,hr⟩=>⟨b,o,e,fun i u hu=>?_⟩
  rw[Ba] at hu;cases hli:l[i]? with
  | none=>rw[hli] at hu; cases hu
  | some n=>rw[hli] at hu; cases hu; exact hr i n hli
 unfold Jr at h0;split at h0
 ·simp only[Ae] at h0; subst h0; simp only[B0] at hv; exact⟨xY,0,0,hv,rfl,.inl rfl⟩
 ·cases h0
 ·rename_i g k' l' hg;by_cases hk:k=k'
  ·subst hk;simp only[decide_true,Aa,Ae] at h0; subst h0;cases g with
   | own i e=>exact absurd rfl (hg i e)
   | arg=>simp only[B0] at hv; obtain⟨a,cap,rfl,_,hh⟩:=hv; exact⟨a,_,cap,rfl,rfl,plain (cap:=cap) hh⟩
   | BE=>simp only[B0] at hv; obtain⟨a,cap,rfl,_,hh⟩:=hv; exact⟨a,_,cap,rfl,rfl,plain (cap:=cap) hh⟩
  ·simp[hk] at h0
 ·rename_i n;simp only[B0] at hv;obtain⟨_,p,hp,hd⟩:=hv;split at h0
  ·rename_i fz e k' l' hlk;by_cases hk:k=k'
   ·subst hk;simp only[decide_true,Aa,Ae] at h0; subst h0;obtain⟨hst,sv,hk,ho⟩:=Em hm hp hlk;obtain⟨size,hk'⟩:=hd.resolve_left (Cm hst);rw[hk] at hk'; cases hk';obtain⟨a,cap,rfl,_,hh⟩:=Iw hk ho (ER ho) (ok:=fun _=>True) (fun _ _=>trivial);simp only[zY,z9] at hh;refine⟨a,_,cap,?_,rfl,plain (cap:=cap) hh⟩;simp
   ·simp[hk] at h0
  ·cases h0
 ·rename_i n off len;simp only[B0] at hv;obtain⟨_,p,hp,hd⟩:=hv;split at h0
  ·rename_i fz e k' l' hlk;by_cases hk:k=k'
   ·subst hk;simp only[decide_true,Aa,Ae] at h0; subst h0;obtain⟨hst,sv,hk,ho⟩:=Em hm hp hlk;obtain⟨sv',size,hk',hs⟩:=hd.resolve_left (Cm hst);rw[hk] at hk'; cases hk';obtain⟨a,cap,rfl,_,hh⟩:=Iw hk ho hs (ok:=fun _=>True) (fun _ _=>trivial);exact⟨a,_,cap,rfl,rfl,plain (cap:=cap) hh⟩
   ·simp[hk] at h0
  ·cases h0
 ·cases h0
theorem VM(hm:Mem I0 B A h w){d:DV}{v:Value}(hv:B0 (Cc I0 B A w) w d v){sz:Nat}{l:List (List DV)}(h0:L9 h sz d=xQ l):
 ∃a m c rows,v=.slice a m c/\m=l.length/\Dx (Cc I0 B A w).bare w l rows/\(∀r∈rows,r.length=sz/\∀u∈r,u.oneCell'=xZ)/\(m=0\/∃b o,a=xQ ⟨b,o,xY⟩/\Fu w b o rows.flatten):=by
 have plain:∀{a:Option Addr} {l:List (List DV)} {ok:Nat->Prop},(l=[]\/∃b o rows,a=xQ ⟨b,o,xY⟩/\ok b/\Dx (Cc I0 B A w).bare w l rows/\(∀r∈rows,r.length=sz/\∀u∈r,u.oneCell'=xZ)/\∀(i:Nat) u,rows.flatten[i]?=xQ u->w.cell? ⟨b,o+i,xY⟩=xQ u) ->
  ∃rows,Dx (Cc I0 B A w).bare w l rows/\(∀r∈rows,r.length=sz/\∀u∈r,u.oneCell'=xZ)/\(l.length=0\/∃b o,a=xQ ⟨b,o,xY⟩/\Fu w b o rows.flatten):=by
  intro a l ok hh;rcases hh with rfl | ⟨b,o,rows,e,_,hrr,hlen,hr⟩
  ·exact⟨[],by simp[Dx],by simp,.inl rfl⟩
  ·exact⟨rows,hrr,hlen,.inr ⟨b,o,e,hr⟩⟩
 unfold L9 at h0;split at h0
 ·simp only[Ae] at h0; subst h0; simp only[B0] at hv; exact⟨xY,0,0,[],hv,rfl,by simp[Dx],by simp,.inl rfl⟩
 ·cases h0
 ·rename_i g sz' l' hg;by_cases hk:sz=sz'
  ·subst hk;simp only[AI,Aa,Ae] at h0; subst h0;cases g with
   | own i e=>exact absurd rfl (hg i e)
   | arg=>simp only[B0] at hv; obtain⟨a,cap,rfl,_,hh⟩:=hv; obtain⟨rows,q1,q2,q3⟩:=plain hh; exact⟨a,_,cap,rows,rfl,rfl,q1,q2,q3⟩
   | BE=>simp only[B0] at hv; obtain⟨a,cap,rfl,_,hh⟩:=hv; obtain⟨rows,q1,q2,q3⟩:=plain hh; exact⟨a,_,cap,rows,rfl,rfl,q1,q2,q3⟩
  ·rw[show(sz==sz')=x5 by simpa using hk] at h0; simp at h0
 ·rename_i n;simp only[B0] at hv;obtain⟨_,p,hp,hd⟩:=hv;split at h0
  ·rename_i fz e sz' l' hlk;by_cases hk:sz=sz'
   ·subst hk;simp only[AI,Aa,Ae] at h0; subst h0;obtain⟨hst,_,sv,rows,hk,hrr,hlen,ho⟩:=EE hm hp hlk;obtain⟨size,hk'⟩:=hd.resolve_left (Cm hst);rw[hk] at hk'; cases hk';obtain⟨a,cap,rfl,_,hh⟩:=Iv hk hrr hlen ho (ER ho) (ok:=fun _=>True) (fun _ _=>trivial);simp only[zY,z9] at hh;obtain⟨rows',q1,q2,q3⟩:=plain hh;refine⟨a,_,cap,rows',?_,rfl,q1,q2,q3⟩;simp
   ·rw[show(sz==sz')=x5 by simpa using hk] at h0; simp at h0
  ·cases h0
 ·rename_i n off len;simp only[B0] at hv;obtain⟨_,p,hp,hd⟩:=hv;split at h0
  ·rename_i fz e sz' l' hlk;by_cases hk:sz=sz'
   ·subst hk;simp only[AI,Aa,Ae] at h0; subst h0;obtain⟨hst,_,sv,rows,hk,hrr,hlen,ho⟩:=EE hm hp hlk;obtain⟨sv',size,hk',hs⟩:=hd.resolve_left (Cm hst);rw[hk] at hk'; cases hk';obtain⟨a,cap,rfl,_,hh⟩:=Iv hk hrr hlen ho hs (ok:=fun _=>True) (fun _ _=>trivial);obtain⟨rows',q1,q2,q3⟩:=plain hh;exact⟨a,_,cap,rows',rfl,rfl,q1,q2,q3⟩
   ·rw[show(sz==sz')=x5 by simpa using hk] at h0; simp at h0
  ·cases h0
 ·cases h0
def OE(A:Nat->Option Place)(MV:Option Nat)(nm:Nat)(p:Place):Nat->Option Place:=fun m =>
 if m=nm then xQ p else if MV=xQ m then (A m).map fun q=>{ q with st:=.dead } else A m
theorem MD(hm:Mem I0 B A h w){nm:Nat}(hnm:A nm=xY){MV:Option Nat}{v v':Value}{sz:Nat}{w':World}(hg:w.grownBy w' v.ownBlock)
 (hold:∀b,v.ownBlock=xQ b->∃n p,MV=xQ n/\A n=xQ p/\p.st=.live/\p.FP=xQ b)
 (hblk:v'.ownBlock=v.ownBlock\/∀b,v'.ownBlock=xQ b->b=w.heap.size)
 {h':DG} {ob:OB} (hlk:∀m fo,look h' m=xQ fo->(m=nm/\fo=(x5,ob))\/(m≠nm/\MV=xQ m/\fo=(x5,.dead))\/(m≠nm/\MV≠xQ m/\look h m=xQ fo))
 (hlt:∀b,v'.ownBlock=xQ b->B<=b/\b<w'.heap.size)
 (hob:Hd A w (OE A MV nm ⟨.live,.row v' sz⟩) w'->Dy (Cc I0 B (OE A MV nm ⟨.live,.row v' sz⟩) w') w' ⟨.live,.row v' sz⟩ (x5,ob)):
 Mem I0 B (OE A MV nm ⟨.live,.row v' sz⟩) h' w'/\Hd A w (OE A MV nm ⟨.live,.row v' sz⟩) w'/\Below B w w':=by
 have inv:∀m q,OE A MV nm ⟨.live,.row v' sz⟩ m=xQ q->(m=nm/\q=⟨.live,.row v' sz⟩)\/(m≠nm/\MV=xQ m/\∃r,A m=xQ r/\q={ r with st:=.dead })\/(m≠nm/\MV≠xQ m/\A m=xQ q):=by
  intro m q hq;unfold OE at hq;split at hq
  ·cases hq; exact .inl ⟨‹_›,rfl⟩
  ·split at hq
   ·cases hA:A m with
    | none=>simp[hA] at hq
    | some r=>simp only[hA,yn,Ae] at hq; exact .inr (.inl ⟨‹_›,‹_›,r,rfl,hq.symm⟩)
   ·exact .inr (.inr ⟨‹_›,‹_›,hq⟩)
 have hmv:Hd A w (OE A MV nm ⟨.live,.row v' sz⟩) w':=by
  refine⟨hg.size,fun m q hq=>?_,fun m q b hq hl hb hlt=>?_,fun b hb hnl=>hg.block b hb (fun e=>?_)⟩
  ·have hne:m≠nm:=fun e=>by rw[e,hnm] at hq; cases hq
   unfold OE;rw[Ay hne];by_cases ho:MV=xQ m
   ·rw[Az ho,hq]; exact⟨_,rfl,.inl rfl⟩
   ·rw[Ay ho]; exact⟨q,hq,by by_cases hd:q.st=.dead; exact .inl hd; exact .inr ⟨hd,rfl⟩⟩
  ·rcases inv m q hq with ⟨_,rfl⟩ | ⟨_,_,r,_,rfl⟩ | ⟨_,_,hA⟩
   ·rcases hblk with e | e
    ·have hb':v.ownBlock=xQ b:=by rw[<- e]; exact hb
     obtain⟨n,p,_,h2,h3,h4⟩:=hold b hb';exact⟨n,p,h2,h3,h4⟩
    ·have:=e b hb; omega
   ·cases hl
   ·exact⟨m,q,hA,hl,hb⟩
  ·obtain⟨n,p,_,h2,h3,h4⟩:=hold b e.symm;exact hnl n p h2 h3 h4
 refine⟨⟨AP hm.hB hg.size,hm.QF,fun m q fo hq hlo=>?_,fun m q b hq hd hb=>?_,fun m m' q q' b hq hq' hd hd' hb hb'=>?_⟩,hmv,⟨hg.os,hg.tape,hg.output,hg.size,fun k hk=>hg.block k (AU hk hm.hB) (fun e=>?_)⟩⟩
 ·rcases inv m q hq with ⟨rfl,rfl⟩ | ⟨hne,ho,r,hA,rfl⟩ | ⟨hne,ho,hA⟩
  ·rcases hlk m fo hlo with ⟨_,rfl⟩ | ⟨hne,_⟩ | ⟨hne,_⟩
   ·exact hob hmv
   ·exact absurd rfl hne
   ·exact absurd rfl hne
  ·rcases hlk m fo hlo with ⟨e,_⟩ | ⟨_,_,rfl⟩ | ⟨_,ho',_⟩
   ·exact absurd e hne
   ·unfold Dy; rfl
   ·exact absurd ho ho'
  ·rcases hlk m fo hlo with ⟨e,_⟩ | ⟨_,ho',_⟩ | ⟨_,_,hl⟩
   ·exact absurd e hne
   ·exact absurd ho' ho
   ·have h1:=hm.obj m q fo hA hl;by_cases hd:q.st=.dead
    ·obtain⟨fz,ob⟩:=fo;cases ob with
     | dead=>exact hd
     | box cs=>exact absurd hd (Cm (Mm hm hA hl).1)
     | Bj e k l=>exact absurd hd (Cm (Em hm hA hl).1)
     | Cu e sz l=>exact absurd hd (Cm (EE hm hA hl).1)
    ·refine Dy.DD hmv.DD rfl rfl (fun b hb=>hg.block b (hm.Gz m q b hA hd hb).2 (fun e=>?_)) fo h1;obtain⟨n,p,h1,h2,h3,h4⟩:=hold b e.symm;have:=hm.inj m n q p b hA h2 hd (by rw[h3]; simp) hb h4;subst this;exact ho h1
 ·rcases inv m q hq with ⟨_,rfl⟩ | ⟨_,_,r,_,rfl⟩ | ⟨_,_,hA⟩
  ·exact hlt b hb
  ·exact absurd rfl hd
  ·have:=hm.Gz m q b hA hd hb; have:=hg.size; omega
 ·have hfreshcase:∀m q,OE A MV nm ⟨.live,.row v' sz⟩ m=xQ q->q.st≠.dead->q.FP=xQ b->m=nm\/(∃r,A m=xQ r/\r.st≠.dead/\r.FP=xQ b/\MV≠xQ m):=by
   intro m q hq hd hb;rcases inv m q hq with ⟨e,_⟩ | ⟨_,_,r,_,rfl⟩ | ⟨_,ho,hA⟩
   ·exact .inl e
   ·exact absurd rfl hd
   ·exact .inr ⟨q,hA,hd,hb,ho⟩
  have hclash:∀m q m' r,m=nm->OE A MV nm ⟨.live,.row v' sz⟩ m=xQ q->q.FP=xQ b->A m'=xQ r->r.st≠.dead->r.FP=xQ b->MV≠xQ m'->False:=by
   intro m q m' r e hq hb hA hd hrb ho;rcases inv m q hq with ⟨_,rfl⟩ | ⟨hne,_⟩ | ⟨hne,_⟩
   ·have hb':v'.ownBlock=xQ b:=hb;rcases hblk with e' | e'
    ·rw[e'] at hb';obtain⟨n,p,h1,h2,h3,h4⟩:=hold b hb';have:=hm.inj m' n r p b hA h2 hd (by rw[h3]; simp) hrb h4;subst this;exact ho h1
    ·have:=e' b hb';have:=(hm.Gz m' r b hA hd hrb).2;omega
   ·exact hne e
   ·exact hne e
  rcases hfreshcase m q hq hd hb with e | ⟨r,hA,hrd,hrb,ho⟩
  ·rcases hfreshcase m' q' hq' hd' hb' with e' | ⟨r',hA',hrd',hrb',ho'⟩
   ·rw[e,e']
   ·exact(hclash m q m' r' e hq hb hA' hrd' hrb' ho').elim
  ·rcases hfreshcase m' q' hq' hd' hb' with e' | ⟨r',hA',hrd',hrb',ho'⟩
   ·exact(hclash m' q' m r e' hq' hb' hA hrd hrb ho).elim
   ·exact hm.inj m m' r r' b hA hA' hrd hrd' hrb hrb'
 ·obtain⟨n,p,_,h2,h3,h4⟩:=hold k e.symm;have:=(hm.Gz n p k h2 (by rw[h3]; simp) h4).1;omega
end
section
variable{P:Program}{E:Env}{I0:Nat->Prop}{B:Nat}{A:Nat->Option Place}{h:DG}{w:World}{t:TypeId}
theorem Abo(hty:∀t ti,E.ty t=xQ ti->CI P t ti)(hm:Mem I0 B A h w){nm:Nat}(hnm:A nm=xY){ty:TypeId}{s x v:DV}{vs vx:Value}(hs:B0 (Cc I0 B A w) w s vs)(hx:B0 (Cc I0 B A w) w x vx){Om:Bool}{h':DG}
 (ha:Lv E h nm t s x=xQ (Om,v,h')) (hreq:Om=xZ):
 ∃v' w' A',(Builtin.append_ #[t,t] ty #[vs,vx]).run P w=.ok v' w'/\Mem I0 B A' h' w'/\Hd A w A' w'/\Below B w w'/\B0 (Cc I0 B A' w') w' v v' /\
  (∀m p,A' m=xQ p->A m=xY->m=nm)/\(∀m,(look h' m).isSome=(decide (m=nm)||(look h m).isSome))/\O5 (WV s) A w w'/\(∀m q,m ∉ WV s->A m=xQ q->A' m=xQ q) /\
  (∀m,m ∉ WV s->m≠nm->look h' m=look h m)/\(∀m,m∈WV s->look h m≠xY)/\look h nm=xY:=by
 subst hreq;unfold Lv at ha;split at ha
 ·rename_i e _ hT;have hu:=(hty _ _ hT).desc;simp only[CV] at hu;cases hE:E.ty e with
  | none=>simp[hE] at ha
  | some ei =>
  simp only[hE,Aj] at ha;by_cases hq:(decide (ei.bytes<=128)&&decide (0<ei.size)&&(look h nm).isNone)=xZ
  ·rw[hq,Aa] at ha;simp only[Am,Ai,Option.isNone_iff_eq_none] at hq;obtain⟨⟨hq1,hq2⟩,hq3⟩:=hq;have hei:=hty _ _ hE
   have hne:∀{MV:Option Nat} {p:Place} m q,OE A MV nm p m=xQ q->A m=xY->m=nm:=by
    intro MV p m q hq hA;unfold OE at hq;split at hq
    ·assumption
    ·split at hq
     ·rw[hA] at hq; cases hq
     ·rw[hA] at hq; cases hq
   have ltB:∀{w':World} {sz n:Nat} {v':Value} {xs:List Value},w'.ownsRow B e sz v' n xs->∀b,v'.ownBlock=xQ b->B<=b/\b<w'.heap.size:=fun ho b hb=>ho.lt b hb
   have keepN:∀{w':World},w.grownBy w' xY->O5 [] A w w':=fun hg m q b _ hq hqd hqb=>hg.block b (hm.Gz m q b hq hqd hqb).2 (by simp)
   have sameN:∀{p:Place} m q,m ∉ ([]:List Nat)->A m=xQ q->OE A xY nm p m=xQ q:=by intro p m q _ hq;unfold OE;rw[Ay (fun e=>by rw[e,hnm] at hq; cases hq),Ay (by simp)];exact hq
   have sameO:∀{n:Nat} {p:Place} m q,m ∉ [n]->A m=xQ q->OE A (xQ n) nm p m=xQ q:=by intro n p m q hn hq;unfold OE;rw[Ay (fun e=>by rw[e,hnm] at hq; cases hq),Ay (fun e=>hn (by rw[xL e]; exact ze.2 rfl))];exact hq
   have keepO:∀{n:Nat} {p:Place} {b':Option Nat} {w':World},A n=xQ p->p.st≠.dead->(∀b,b'=xQ b->p.FP=xQ b)->w.grownBy w' b'->O5 [n] A w w':=fun {n p b' w'} hp hd hb hg m q b hn hq hqd hqb =>
    hg.block b (hm.Gz m q b hq hqd hqb).2 (fun e=>hn (by rw[hm.inj m n q p b hq hp hqd hd hqb (hb b e.symm)]; exact ze.2 rfl))
   split at ha
   ·
    simp only[B0] at hs; subst hs;have hown:w.ownsRow B e ei.size (.slice xY 0 0) 0 []:=World.ownsRow_nil w B e ei.size
    have hlk:∀ob m fo,look ((nm,x5,ob)::h) m=xQ fo->(m=nm/\fo=(x5,ob))\/(m≠nm/\(xY:Option Nat)=xQ m/\fo=(x5,.dead))\/(m≠nm/\(xY:Option Nat)≠xQ m/\look h m=xQ fo):=by
     intro ob m fo hl;simp only[look] at hl;by_cases e:nm=m
     ·subst e; simp at hl; exact .inl ⟨rfl,hl.symm⟩
     ·rw[show(nm==m)=x5 by simpa using e] at hl;exact .inr (.inr ⟨fun e'=>e e'.symm,by simp,hl⟩)
    have hsame:∀ob m,m≠nm->look ((nm,x5,ob)::h) m=look h m:=by intro ob m hm';simp only[look,show(nm==m)=x5 by simpa using fun e:nm=m=>hm' e.symm,Af]
    have hdom:∀ob m,(look ((nm,x5,ob)::h) m).isSome=(decide (m=nm)||(look h m).isSome):=by
     intro ob m;simp only[look];by_cases e:nm=m
     ·subst e; simp
     ·rw[show(nm==m)=x5 by simpa using e]; simp[show ¬m=nm from fun e'=>e e'.symm]
    split at ha
    ·rename_i k hk;by_cases hs1:ei.size=1
     ·simp only[hs1,AI,Aa] at ha;cases hel:Jr h k x with
      | none=>simp[hel] at ha
      | some l =>
        simp only[hel,Aj,Ae,Ak,Ai] at ha;obtain⟨hlim,rfl,rfl⟩:=ha;obtain⟨a,m,c,rfl,rfl,hsrc⟩:=Ro hm hx hel;obtain⟨v',w',hrun,hown',hg,hb⟩:=MC (P:=P) (ty:=ty) hu hei hq1 hq2 hm.hB hown (a:=a) (c:=c) (news:=l.map (Value.int k)) (by rw[hs1]; simp) hsrc (by simp[Value.oneCell']) (by simpa using hlim)
        obtain⟨h1,h2,h3⟩:=MD hm hnm (MV:=xY) (v:=.slice xY 0 0) (sz:=1) hg (fun b hb=>by cases hb) hb (hlk (.Bj e k l)) (ltB hown') (fun _=>by unfold Dy;refine⟨rfl,v',rfl,?_⟩;rw[hs1] at hown';have q:=hown';simp only[AS,zX] at q;exact q)
        exact⟨v',w',_,hrun,h1,h2,h3,by simp only[B0]; exact⟨G6 hown',_,Az rfl,.inr ⟨1,rfl⟩⟩,hne,hdom _,keepN hg,sameN,fun m _ hmn=>hsame _ m hmn,fun m hmn=>absurd hmn (by simp[WV]),hq3⟩
     ·rw[show(ei.size==1)=x5 by simpa using hs1] at ha; simp at ha
    ·cases hel:L9 h ei.size x with
     | none=>simp[hel] at ha
     | some l =>
       simp only[hel,Aj,Ae,Ak,Ai] at ha;obtain⟨hlim,rfl,rfl⟩:=ha;obtain⟨a,m,c,rows,rfl,rfl,hrr,hlen,hsrc⟩:=VM hm hx hel
       obtain⟨v',w',hrun,hown',hg,hb⟩:=MC (P:=P) (ty:=ty) hu hei hq1 hq2 hm.hB hown (a:=a) (c:=c) (news:=rows.flatten) (by rw[IK (fun r hr=>(hlen r hr).1),hrr.length]) hsrc (fun u hu=>by obtain⟨r,hr,hur⟩:=List.mem_flatten.1 hu;exact(hlen r hr).2 u hur) (by simpa using hlim)
       obtain⟨h1,h2,h3⟩:=MD hm hnm (MV:=xY) (v:=.slice xY 0 0) (sz:=ei.size) hg (fun b hb=>by cases hb) hb (hlk (.Cu e ei.size l)) (ltB hown') (fun hmv=>by unfold Dy;refine⟨rfl,hq2,v',rows,rfl,Dx.DD (hmv.DD (I0:=I0) (B:=B)).bare _ _ hrr,hlen,?_⟩;have q:=hown';simp only[AS,zX] at q;exact q)
       exact⟨v',w',_,hrun,h1,h2,h3,by simp only[B0]; exact⟨G6 hown',_,Az rfl,.inr ⟨_,rfl⟩⟩,hne,hdom _,keepN hg,sameN,fun m _ hmn=>hsame _ m hmn,fun m hmn=>absurd hmn (by simp[WV]),hq3⟩
   ·
    rename_i n;simp only[B0] at hs;obtain⟨_,p,hp,hd⟩:=hs
    have hlk:∀{ob0 ob:OB},look h n=xQ (x5,ob0)->∀m fo,look ((nm,x5,ob)::UR h n (x5,.dead)) m=xQ fo->(m=nm/\fo=(x5,ob))\/(m≠nm/\(xQ n:Option Nat)=xQ m/\fo=(x5,.dead))\/(m≠nm/\(xQ n:Option Nat)≠xQ m/\look h m=xQ fo):=by
     intro ob0 ob hl0 m fo hl;simp only[look] at hl;by_cases e:nm=m
     ·subst e; simp at hl; exact .inl ⟨rfl,hl.symm⟩
     ·rw[show(nm==m)=x5 by simpa using e] at hl;simp only[Af] at hl;rw[F1 hl0] at hl;by_cases e':m=n
      ·subst e'; rw[Az rfl] at hl; cases hl; exact .inr (.inl ⟨fun e'=>e e'.symm,rfl,rfl⟩)
      ·rw[Ay e'] at hl;exact .inr (.inr ⟨fun e'=>e e'.symm,fun e''=>e' (xL e'').symm,hl⟩)
    have hsame:∀{ob0 ob:OB},look h n=xQ (x5,ob0)->∀m,m ∉ [n]->m≠nm->look ((nm,x5,ob)::UR h n (x5,.dead)) m=look h m:=by intro ob0 ob hl0 m hn hm';simp only[look,show(nm==m)=x5 by simpa using fun e:nm=m=>hm' e.symm,Af];rw[F1 hl0,Ay (fun e=>hn (by rw[e]; exact ze.2 rfl))]
    have hdom:∀{ob0 ob:OB},look h n=xQ (x5,ob0)->∀m,(look ((nm,x5,ob)::UR h n (x5,.dead)) m).isSome=(decide (m=nm)||(look h m).isSome):=by
     intro ob0 ob hl0 m;simp only[look];by_cases e:nm=m
     ·subst e; simp
     ·rw[show(nm==m)=x5 by simpa using e];simp only[Af,show ¬m=nm from fun e'=>e e'.symm,decide_false,Bool.false_or];rw[F1 hl0]; split<;>simp_all
    split at ha
    ·rename_i e' k l' hlo;obtain⟨hst,sv,hk,ho⟩:=Em hm hp hlo;obtain⟨size,hk'⟩:=hd.resolve_left (Cm hst);rw[hk] at hk'; cases hk';cases hel:Jr h k x with
     | none=>simp[hel] at ha
     | some l =>
       simp only[hel,Aj] at ha;by_cases hc:(e==e'&&ei.size==1)=xZ
       ·rw[hc,Aa] at ha;simp only[Ae,Ak,Ai] at ha;obtain⟨hlim,rfl,rfl⟩:=ha;simp only[Am,beq_iff_eq] at hc;obtain⟨rfl,hs1⟩:=hc;obtain⟨a,m,c,rfl,rfl,hsrc⟩:=Ro hm hx hel;obtain⟨v',w',hrun,hown',hg,hb⟩:=MC (P:=P) (ty:=ty) hu hei hq1 hq2 hm.hB (by rw[hs1]; exact ho) (a:=a) (c:=c) (news:=l.map (Value.int k)) (by rw[hs1]; simp) hsrc (by simp[Value.oneCell']) hlim
        obtain⟨h1,h2,h3⟩:=MD hm hnm (MV:=xQ n) (sz:=1) hg (fun b hb=>⟨n,p,rfl,hp,hst,by unfold Place.FP; rw[hk]; exact hb⟩) hb (hlk (ob:=.Bj e k (l'++l)) hlo) (ltB hown') (fun _=>by unfold Dy;refine⟨rfl,v',rfl,?_⟩;rw[hs1] at hown';rw[A8,List.map_append];exact hown')
        exact⟨v',w',_,hrun,h1,h2,h3,by simp only[B0]; exact⟨G6 hown',_,Az rfl,.inr ⟨1,rfl⟩⟩,hne,hdom hlo,keepO hp (Cm hst) (fun b hb=>by unfold Place.FP; rw[hk]; exact hb) hg,sameO,fun m h1 h2=>hsame hlo m h1 h2,fun m hmn=>by rw[ze.1 hmn,hlo]; simp,hq3⟩
       ·simp only[zE] at hc; rw[hc] at ha; simp at ha
    ·rename_i e' sz l' hlo;obtain⟨hst,hsz,sv,rows',hk,hrr',hlen',ho⟩:=EE hm hp hlo;obtain⟨size,hk'⟩:=hd.resolve_left (Cm hst);rw[hk] at hk'; cases hk';cases hel:L9 h sz x with
     | none=>simp[hel] at ha
     | some l =>
       simp only[hel,Aj] at ha;by_cases hc:(e==e'&&sz==ei.size)=xZ
       ·rw[hc,Aa] at ha;simp only[Ae,Ak,Ai] at ha;obtain⟨hlim,rfl,rfl⟩:=ha;simp only[Am,beq_iff_eq] at hc;obtain⟨rfl,rfl⟩:=hc;obtain⟨a,m,c,rows,rfl,rfl,hrr,hlen,hsrc⟩:=VM hm hx hel
        obtain⟨v',w',hrun,hown',hg,hb⟩:=MC (P:=P) (ty:=ty) hu hei hq1 hq2 hm.hB ho (a:=a) (c:=c) (news:=rows.flatten) (by rw[IK (fun r hr=>(hlen r hr).1),hrr.length]) hsrc (fun u hu=>by obtain⟨r,hr,hur⟩:=List.mem_flatten.1 hu;exact(hlen r hr).2 u hur) hlim
        obtain⟨h1,h2,h3⟩:=MD hm hnm (MV:=xQ n) (sz:=ei.size) hg (fun b hb=>⟨n,p,rfl,hp,hst,by unfold Place.FP; rw[hk]; exact hb⟩) hb (hlk (ob:=.Cu e ei.size (l'++l)) hlo) (ltB hown') (fun hmv=>by
         unfold Dy;have hbr:=(hmv.DD (I0:=I0) (B:=B)).bare;refine⟨rfl,hq2,v',rows'++rows,rfl,(Dx.DD hbr _ _ hrr').append (Dx.DD hbr _ _ hrr),?_,?_⟩
         ·intro r hr;rcases zA.1 hr with hr | hr
          ·exact hlen' r hr
          ·exact hlen r hr
         ·rw[A8,List.flatten_append]; exact hown')
        exact⟨v',w',_,hrun,h1,h2,h3,by simp only[B0]; exact⟨G6 hown',_,Az rfl,.inr ⟨_,rfl⟩⟩,hne,hdom hlo,keepO hp (Cm hst) (fun b hb=>by unfold Place.FP; rw[hk]; exact hb) hg,sameO,fun m h1 h2=>hsame hlo m h1 h2,fun m hmn=>by rw[ze.1 hmn,hlo]; simp,hq3⟩
       ·simp only[zE] at hc; rw[hc] at ha; simp at ha
    ·cases ha
   ·cases ha
  ·simp only[zE] at hq; rw[hq] at ha; simp at ha
 ·cases ha
end
end Go.Den
