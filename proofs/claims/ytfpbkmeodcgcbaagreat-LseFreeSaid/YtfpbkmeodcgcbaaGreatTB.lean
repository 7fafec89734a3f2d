/- A verified evaluator of the program's form and its use for this seat: Den10, Den11, Den12, Den13, Den14, Den15, Den16, Den17, Den18, Den19, Den20. -/
import Derived.Test.YtfpbkmeodcgcbaaGreatTA
set_option linter.unusedVariables false
set_option linter.unusedSimpArgs false
open Option renaming some->xM,none->xN
open Bool renaming true->wg,false->wy
open List renaming length->vA,getD->vB
open List renaming mem_append->zQ,take_zero->xP,length_nil->xO,getElem?_take_eq_none->yW,getElem?_take_of_lt->yG,getElem?_drop->yB,mem_of_mem_drop->yn,mem_of_mem_take->yZ,mem_singleton->zh,drop_zero->zJ,take_length->yo,getElem?_append_left->yI,getElem?_cons_zero->wA,foldl_cons->yR,map_cons->yq,length_drop->zW,flatten_cons->yH,length_take->zV,replicate->zq,mem_replicate->xQ,getElem?_replicate->xR,length_replicate->xE,nodup_cons->xF,mem_map_of_mem->vG,getElem?_of_mem->xU,getElem?_eq_some_iff->xB,mem_of_getElem?->yX,length_cons->zt,length_set->xo,nil_append->zT
open Option renaming map_some->z5,some.inj->xT,bind_none->wC
open Bool renaming false_eq_true->ye,not_eq_true->zD
open Array renaming length_toList->z7,foldl_toList->vD,range->xl,toList_inj->yh,toList_map->xm,eq_empty_of_size_eq_zero->xn,toList_append->vI
open Nat renaming succ_mul->yd,min_eq_left->ym
namespace Go.Den
def I5(I:Nat->Prop):Ctx:={ ok:=I,B:=0,fr:=wy,own:=fun _=>xN,at_:=fun _=>xN }
def DL(I:Nat->Prop)(own:Nat->Option Nat)(w w':World):Ctx :={ ok:=fun b=>b<w'.heap.size/\(I b\/w.heap.size<=b)/\∀i,own i≠xM b,B:=w.heap.size,fr:=wg,own:=own,at_:=fun _=>xN }
structure Adx(own:Nat->Option Nat)(w w':World):Prop where
 lt:∀i b,own i=xM b->w.heap.size<=b/\b<w'.heap.size
 inj:∀i j b,own i=xM b->own j=xM b->i=j
def Mh(P:Program)(f:FuncId)(args:List DV)(out:DV):Prop:=
 ∀(w:World) (vals:Array Value) (I:Nat->Prop),(∀b,I b->b<w.heap.size)->BN (I5 I) w args vals.toList ->
  Calls P f vals w fun e w'=>∃v own,e=.returned v/\Go.RowKit.Below w.heap.size w w'/\Adx own w w'/\Bz (DL I own w w') w' out v
structure Afp(P:Program)(g:FuncId)(e:TypeId):Prop where
 call:∀(args:Array Value) (w:World),(callFunc g args).run P w=.ok (.enter g args) w
 run:∀(w:World) (r c:Int) (v:Value) (l:Bb),w.ownsRow 0 e 1 v l.length (l.map (Value.int .u64)) ->
  Calls P g #[.agg #[.int .i64 r,.int .i64 c,v]] w fun en w'=>(∃u,en=.returned u)/\Go.RowKit.Below 0 w w'/\∀b,b<w.heap.size->v.ownBlock≠xM b->w'.heap[b]?=w.heap[b]?
structure Amt(P:Program)(g:FuncId)(W:Writer):Prop where
 call:∀(args:Array Value) (w:World),(callFunc g args).run P w=.ok (.enter g args) w
 run:∀(w:World) (v:Value) (l:Bb) (ds:List DV) (vals:List Value),w.ownsRow 0 W.elem 1 v l.length (l.map (Value.int W.kind)) ->
  BN (I5 fun b=>b<w.heap.size/\v.ownBlock≠xM b) w ds vals->W.pre l ds=wg ->
  Calls P g (v::vals).toArray w fun en w'=>(∃u,en=.returned u)/\w'.ownsRow 0 W.elem 1 v (W.out l ds).length ((W.out l ds).map (Value.int W.kind)) /\
   Go.RowKit.Below 0 w w'/\∀b,b<w.heap.size->v.ownBlock≠xM b->w'.heap[b]?=w.heap[b]?
def SC(P:Program)(g:FuncId)(e:EC):Prop:=∀args,e.pre args=wg->Mh P g args (e.out args)
def seen(I0:Nat->Prop)(B:Nat)(A:Nat->Option Place)(w:World)(ns:List Nat)(b:Nat):Prop :=(Cd I0 B A w).ok b\/∃n p,n∈ns/\A n=xM p/\p.st≠.dead/\p.FK=xM b
theorem seen.mono{I0:Nat->Prop}{B:Nat}{A:Nat->Option Place}{w:World}{ns ms:List Nat}(h:∀n∈ns,n∈ms){b:Nat}:seen I0 B A w ns b->seen I0 B A w ms b:=fun hb =>
 hb.imp id fun⟨n,p,hn,r⟩=>⟨n,p,h n hn,r⟩
theorem KD{I I':Nat->Prop}(h:∀b,I b->I' b):Ji (I5 I) (I5 I'):=⟨h,rfl,fun _=>rfl,fun _=>rfl⟩
def I3(h:DB)(f:Nat)(l:List DV):Option (List DV × List Nat) :=l.foldr (fun d acc=>(lower h f d).bind fun(x,ns)=>acc.bind fun(xs,ms)=>xM (x::xs,ns++ms)) (xM ([],[]))
theorem Zk(h:DB)(f:Nat)(d:DV)(l:List DV):I3 h f (d::l)=(lower h f d).bind fun(x,ns)=>(I3 h f l).bind fun(xs,ms)=>xM (x::xs,ns++ms):=rfl
theorem RM{h:DB}{f:Nat}{d:DV}{l:List DV}{r:List DV × List Nat}(hh:I3 h f (d::l)=xM r):
 ∃x ns xs ms,lower h f d=xM (x,ns)/\I3 h f l=xM (xs,ms)/\r=(x::xs,ns++ms):=by
 rw[Zk] at hh;cases h1:lower h f d with
 | none=>simp[h1] at hh
 | some a =>
   obtain⟨x,ns⟩:=a;cases h2:I3 h f l with
   | none=>simp[h1,h2] at hh
   | some b =>obtain⟨xs,ms⟩:=b;simp only[h1,h2,Aj,Ae] at hh;exact⟨x,ns,xs,ms,rfl,rfl,hh.symm⟩
section
variable{I0:Nat->Prop}{B:Nat}{A:Nat->Option Place}{h:DB}{w:World}
theorem KK{f:Nat}(ih:∀(d:DV) (v:Value) d' ns,lower h f d=xM (d',ns)->Bz (Cd I0 B A w) w d v->Bz (I5 (seen I0 B A w ns)) w d' v):
 ∀(l:List DV) (vs:List Value) l' ns,I3 h f l=xM (l',ns)->BN (Cd I0 B A w) w l vs->BN (I5 (seen I0 B A w ns)) w l' vs
 | [],vs,l',ns,hl,hv=>by simp only[I3,List.foldr_nil,Ae,Ak] at hl;obtain⟨rfl,rfl⟩:=hl;rw[BN.FU] at hv ⊢; exact hv
 | d::l,vs,l',ns,hl,hv=>by
   obtain⟨x,n1,xs,ms,h1,h2,e⟩:=RM hl;cases e;rw[BN.CS] at hv ⊢;obtain⟨u,us,rfl,hu,hus⟩:=hv
   exact⟨u,us,rfl,Bz.Fa (KD fun b=>seen.mono (fun n hn=>zQ.2 (.inl hn))) _ _ (ih d u _ _ h1 hu),
    BN.Fa (KD fun b=>seen.mono (fun n hn=>zQ.2 (.inr hn))) _ _ (KK ih l us xs ms h2 hus)⟩
theorem Sm{sv:Value}{sz off len:Nat}{v:Value}(hs:Lt sv sz off len v):∃a cap,v=.slice a len cap/\len<=cap/\(len=0\/∃g n c,sv=.slice (xM ⟨g,0,xN⟩) n c/\a=xM ⟨g,off*sz,xN⟩/\off+len<=n):=by
 unfold Lt at hs;split at hs
 ·rename_i g n c;obtain⟨hle,a,cap,rfl,hc,ha⟩:=hs;exact⟨xM a,cap,rfl,hc,ha.imp id fun e=>⟨g,n,c,rfl,by rw[e],hle⟩⟩
 ·obtain⟨rfl,rfl,rfl⟩:=hs; exact⟨xN,0,rfl,A7 _,.inl rfl⟩
 ·exact hs.elim
theorem IG{p:Place}{sv:Value}(hk:p.kind=.row sv 1){e:TypeId}{k:IntKind}{l:Bb}(ho:w.ownsRow B e 1 sv l.length (l.map (Value.int k))){off len:Nat}{v:Value}(hs:Lt sv 1 off len v){ok:Nat->Prop}(hok:∀b,p.FK=xM b->ok b):
 ∃a cap,v=.slice a ((l.drop off).take len).length cap/\((l.drop off).take len).length<=cap/\((l.drop off).take len=[]\/∃b o,a=xM ⟨b,o,xN⟩/\ok b/\∀(i:Nat) n,((l.drop off).take len)[i]?=xM n->w.cell? ⟨b,o+i,xN⟩=xM (.int k n)):=by
 obtain⟨a,cap,rfl,hc,hcase⟩:=Sm hs;rcases hcase with rfl | ⟨g,n,c,rfl,rfl,hle⟩
 ·simp only[xP,xO]; exact⟨a,cap,rfl,hc,.inl trivial⟩
 ·have hn:n=l.length:=by rcases FG ho with ⟨e,_⟩ | ⟨_,_,e,_⟩<;>cases e; rfl
  have hlen:((l.drop off).take len).length=len:=by simp; omega
  rw[hlen];refine⟨_,cap,rfl,hc,?_⟩;by_cases h0:len=0
  ·subst h0; simp
  ·obtain⟨g',c',e',_,hrd⟩:=FH ho (by omega);cases e';refine .inr ⟨g,off*1,rfl,hok g (by unfold Place.FK; rw[hk]; rfl),fun i m hi=>?_⟩
   have hlt:i<len:=by
    rcases AA i len with h' | h'
    ·exact h'
    ·rw[yW h'] at hi; cases hi
   rw[yG hlt,yB] at hi;have:=hrd (off+i) (.int k m) (by rw[AW,hi]; rfl);rw[AO] at this;rw[AN]; exact this
theorem IF{p:Place}{sv:Value}{sz:Nat}(hk:p.kind=.row sv sz){e:TypeId}{l:List (List DV)}{rows:List (List Value)}{c:Ctx}(hrr:Dp c w l rows)(hlen:∀r∈rows,r.length=sz/\∀u∈r,u.oneCell'=wg)(ho:w.ownsRow B e sz sv l.length rows.flatten){off len:Nat}{v:Value}(hs:Lt sv sz off len v){ok:Nat->Prop}(hok:∀b,p.FK=xM b->ok b):
 ∃a cap,v=.slice a ((l.drop off).take len).length cap/\((l.drop off).take len).length<=cap/\((l.drop off).take len=[]\/∃b o rows',a=xM ⟨b,o,xN⟩/\ok b/\Dp c w ((l.drop off).take len) rows'/\(∀r∈rows',r.length=sz/\∀u∈r,u.oneCell'=wg)/\∀(i:Nat) u,rows'.flatten[i]?=xM u->w.cell? ⟨b,o+i,xN⟩=xM u):=by
 obtain⟨a,cap,rfl,hc,hcase⟩:=Sm hs;rcases hcase with rfl | ⟨g,n,cc,rfl,rfl,hle⟩
 ·simp only[xP,xO]; exact⟨a,cap,rfl,hc,.inl trivial⟩
 ·have hn:n=l.length:=by rcases FG ho with ⟨e,_⟩ | ⟨_,_,e,_⟩<;>cases e; rfl
  have hlen':((l.drop off).take len).length=len:=by simp; omega
  rw[hlen'];refine⟨_,cap,rfl,hc,?_⟩;by_cases h0:len=0
  ·subst h0; simp
  ·obtain⟨g',c',e',_,hrd⟩:=FH ho (by omega);cases e';refine .inr ⟨g,off*sz,(rows.drop off).take len,rfl,hok g (by unfold Place.FK; rw[hk]; rfl),(hrr.drop off).take len,fun r hr=>hlen r (yn (yZ hr)),fun i u hi=>?_⟩;rw[K8 (fun r hr=>(hlen r (yn hr)).1),Nb (fun r hr=>(hlen r hr).1)] at hi
   have hlt:i<len*sz:=by
    rcases AA i (len*sz) with h' | h'
    ·exact h'
    ·rw[yW h'] at hi; cases hi
   rw[yG hlt,yB] at hi;have:=hrd _ _ hi;rwa[AO] at this
theorem Qu{n:Nat}{p:Place}(hp:A n=xM p)(hnd:p.st≠.dead){ns:List Nat}(hn:n∈ns):∀b,p.FK=xM b->seen I0 B A w ns b :=fun _ hb=>.inr ⟨n,p,hn,hp,hnd,hb⟩
theorem QG(hm:Mem I0 B A h w):∀(f:Nat) (d:DV) (v:Value) d' ns,lower h f d=xM (d',ns)->Bz (Cd I0 B A w) w d v->Bz (I5 (seen I0 B A w ns)) w d' v:=by
 intro f
 induction f with
 | zero=>intro d v d' ns hl; simp[lower] at hl
 | succ f ih =>
   intro d v d' ns hl hv;have hL:=KK ih;cases d with
   | undef=>simp only[lower,Ae,Ak] at hl; obtain⟨rfl,rfl⟩:=hl; simp[Bz]
   | nil=>simp only[lower,Ae,Ak] at hl; obtain⟨rfl,rfl⟩:=hl; simpa only[Bz] using hv
   | bool b=>simp only[lower,Ae,Ak] at hl; obtain⟨rfl,rfl⟩:=hl; simpa only[Bz] using hv
   | int k n=>simp only[lower,Ae,Ak] at hl; obtain⟨rfl,rfl⟩:=hl; simpa only[Bz] using hv
   | fl n=>simp only[lower,Ae,Ak] at hl; obtain⟨rfl,rfl⟩:=hl; simpa only[Bz] using hv
   | nb n=>simp only[lower,Ae,Ak] at hl; obtain⟨rfl,rfl⟩:=hl; simpa only[Bz] using hv
   | agg l =>
     have e:lower h (f+1) (.agg l)=(I3 h f l).bind fun(l,ns)=>xM (.agg l,ns):=rfl
     rw[e] at hl;cases h1:I3 h f l with
     | none=>simp[h1] at hl
     | some a =>obtain⟨l',ns'⟩:=a;simp only[h1,Aj,Ae,Ak] at hl; obtain⟨rfl,rfl⟩:=hl;simp only[Bz] at hv ⊢;obtain⟨vs,rfl,hls⟩:=hv;exact⟨vs,rfl,hL l _ _ _ h1 hls⟩
   | Cw l=>simp[lower] at hl
   | Bh g k l =>
     cases g with
     | own i e=>simp[lower] at hl
     | arg =>simp only[lower,Ae,Ak] at hl; obtain⟨rfl,rfl⟩:=hl;simp only[Bz] at hv ⊢;obtain⟨a,cap,rfl,hc,hh⟩:=hv;exact⟨a,cap,rfl,hc,hh.imp id fun⟨b,o,e,hb,hr⟩=>⟨b,o,e,.inl hb,hr⟩⟩
     | BF =>simp only[lower,Ae,Ak] at hl; obtain⟨rfl,rfl⟩:=hl;simp only[Bz] at hv ⊢;obtain⟨a,cap,rfl,hc,hh⟩:=hv;exact⟨a,cap,rfl,hc,hh.imp id fun⟨b,o,e,hb,hr⟩=>⟨b,o,e,.inl hb.1,hr⟩⟩
   | C3 g sz l =>
     have wd:Ji (Cd I0 B A w).bare (I5 (seen I0 B A w [])).bare:=⟨fun b hb=>.inl hb,rfl,fun _=>rfl,fun _=>rfl⟩
     cases g with
     | own i e=>simp[lower] at hl
     | arg =>simp only[lower,Ae,Ak] at hl; obtain⟨rfl,rfl⟩:=hl;simp only[Bz] at hv ⊢;obtain⟨a,cap,rfl,hc,hh⟩:=hv;exact⟨a,cap,rfl,hc,hh.imp id fun⟨b,o,rows,e,hb,hrr,hlen,hr⟩=>⟨b,o,rows,e,.inl hb,Dp.Fa wd _ _ hrr,hlen,hr⟩⟩
     | BF =>simp only[lower,Ae,Ak] at hl; obtain⟨rfl,rfl⟩:=hl;simp only[Bz] at hv ⊢;obtain⟨a,cap,rfl,hc,hh⟩:=hv;exact⟨a,cap,rfl,hc,hh.imp id fun⟨b,o,rows,e,hb,hrr,hlen,hr⟩=>⟨b,o,rows,e,.inl hb.1,Dp.Fa wd _ _ hrr,hlen,hr⟩⟩
   | De n =>
     simp only[Bz] at hv;obtain⟨_,p,hp,hd⟩:=hv;simp only[lower] at hl;split at hl
     ·rename_i fz e k l hlk;simp only[Ae,Ak] at hl; obtain⟨rfl,rfl⟩:=hl;obtain⟨hst,sv,hk,ho⟩:=Ej hm hp hlk;obtain⟨size,hk'⟩:=hd.resolve_left (Cn hst);rw[hk] at hk'; cases hk';have:=IG hk ho (ER ho) (Qu (I0:=I0) (B:=B) (A:=A) (w:=w) hp (Cn hst) (zh.2 rfl));simp only[zJ,yo] at this;simp only[Bz];exact this
     ·rename_i fz e sz l hlk;simp only[Ae,Ak] at hl; obtain⟨rfl,rfl⟩:=hl;obtain⟨hst,_,sv,rows,hk,hrr,hlen,ho⟩:=E9 hm hp hlk;obtain⟨size,hk'⟩:=hd.resolve_left (Cn hst);rw[hk] at hk'; cases hk';have wd:Ji (Cd I0 B A w).bare (I5 (seen I0 B A w [n])).bare:=⟨fun b hb=>.inl hb,rfl,fun _=>rfl,fun _=>rfl⟩
      have:=IF hk (Dp.Fa wd _ _ hrr) hlen ho (ER ho) (Qu (I0:=I0) (B:=B) (A:=A) (w:=w) hp (Cn hst) (zh.2 rfl));simp only[zJ,yo] at this;simp only[Bz];exact this
     ·cases hl
   | Ky n off len =>
     simp only[Bz] at hv;obtain⟨_,p,hp,hd⟩:=hv;simp only[lower] at hl;split at hl
     ·rename_i fz e k l hlk;simp only[Ae,Ak] at hl; obtain⟨rfl,rfl⟩:=hl;obtain⟨hst,sv,hk,ho⟩:=Ej hm hp hlk;obtain⟨sv',size,hk',hs⟩:=hd.resolve_left (Cn hst);rw[hk] at hk'; cases hk';simp only[Bz];exact IG hk ho hs (Qu (I0:=I0) (B:=B) (A:=A) (w:=w) hp (Cn hst) (zh.2 rfl))
     ·rename_i fz e sz l hlk;simp only[Ae,Ak] at hl; obtain⟨rfl,rfl⟩:=hl;obtain⟨hst,_,sv,rows,hk,hrr,hlen,ho⟩:=E9 hm hp hlk;obtain⟨sv',size,hk',hs⟩:=hd.resolve_left (Cn hst);rw[hk] at hk'; cases hk';have wd:Ji (Cd I0 B A w).bare (I5 (seen I0 B A w [n])).bare:=⟨fun b hb=>.inl hb,rfl,fun _=>rfl,fun _=>rfl⟩
      simp only[Bz];exact IF hk (Dp.Fa wd _ _ hrr) hlen ho hs (Qu (I0:=I0) (B:=B) (A:=A) (w:=w) hp (Cn hst) (zh.2 rfl))
     ·cases hl
   | ptr n i j =>
     cases i with
     | succ i=>simp[lower] at hl
     | zero =>
     have e:lower h (f+1) (.ptr n 0 j)=match look h n with | some (_,.box cs)=>(I3 h f (cs.drop j)).bind fun(l,ns)=>xM (.CQ l,n::ns) | _=>xN:=rfl
     rw[e] at hl;simp only[Bz] at hv;obtain⟨_,p,hp,hd⟩:=hv;split at hl
     ·rename_i fz cs hlk;obtain⟨hst,b,e,cells,hk,hh,hls⟩:=MO hm hp hlk;have hd:=hd.resolve_left (Cn hst);unfold Iv at hd; rw[hk] at hd;obtain⟨_,rfl⟩:=hd;cases h1:I3 h f (cs.drop j) with
      | none=>simp[h1] at hl
      | some a =>
        obtain⟨l',ns'⟩:=a;simp only[h1,Aj,Ae,Ak] at hl; obtain⟨rfl,rfl⟩:=hl;simp only[Bz];refine⟨b,j,cells.toList.drop j,rfl,.inr ⟨n,p,by simp,hp,Cn hst,by unfold Place.FK; rw[hk]⟩,?_,?_⟩
        ·exact BN.Fa (KD fun b=>seen.mono (fun n hn=>AJ _ hn)) _ _ (hL _ _ _ _ h1 (hls.drop j))
        ·have:=(W1 hh).drop j;rw[AO] at this;exact this
     ·cases hl
   | CQ cs =>
     simp only[lower,Ae,Ak] at hl; obtain⟨rfl,rfl⟩:=hl;have wd:Ji (Cd I0 B A w).bare (I5 (seen I0 B A w [])).bare:=⟨fun b hb=>.inl hb,rfl,fun _=>rfl,fun _=>rfl⟩
     simp only[Bz] at hv ⊢;obtain⟨b,o,vs,rfl,hb,hls,hrd⟩:=hv;exact⟨b,o,vs,rfl,.inl hb,BN.Fa wd _ _ hls,hrd⟩
   | fn g a c =>
     have e:lower h (f+1) (.fn g a c)=(I3 h f a).bind fun(a,ns)=>(I3 h f c).bind fun(c,ms)=>xM (.fn g a c,ns++ms):=rfl
     rw[e] at hl;cases h1:I3 h f a with
     | none=>simp[h1] at hl
     | some x =>
       obtain⟨a',n1⟩:=x;cases h2:I3 h f c with
       | none=>simp[h1,h2] at hl
       | some y =>
         obtain⟨c',n2⟩:=y;simp only[h1,h2,Aj,Ae,Ak] at hl; obtain⟨rfl,rfl⟩:=hl;simp only[Bz] at hv ⊢;obtain⟨fs',cs',rfl,hf,hcs⟩:=hv
         exact⟨fs',cs',rfl,BN.Fa (KD fun b=>seen.mono (fun n hn=>zQ.2 (.inl hn))) _ _ (hL a _ _ _ h1 hf),
          BN.Fa (KD fun b=>seen.mono (fun n hn=>zQ.2 (.inr hn))) _ _ (hL c _ _ _ h2 hcs)⟩
   | gd g d=>simp[lower] at hl
end
open Go.RowKit (Below)
section
variable{I0 I:Nat->Prop}{B:Nat}{own:Nat->Option Nat}{w w':World}{ad:Bool}
structure Good(I0 I:Nat->Prop)(B:Nat)(own:Nat->Option Nat)(w w':World)(ad:Bool)(A:Nat->Option Place):Prop where
 ok:∀b,(DL I own w w').ok b->(Cd I0 B A w').ok b
 own:ad=wy->∀i b,own i=xM b->w.heap.size<=b->(Cd I0 B A w').ok b
 hB:B<=w.heap.size
theorem Lb{w:World}{base base':Nat}{e:TypeId}{size n:Nat}{v:Value}{xs:List Value}(h:w.ownsRow base e size v n xs)(hb:base'<=base):w.ownsRow base' e size v n xs:=by
 obtain⟨h1,h2⟩:=h;refine⟨h1,?_⟩;rcases h2 with h2 | ⟨g,cap,cur,hv,hg,r⟩
 ·exact Or.inl h2
 ·exact Or.inr ⟨g,cap,cur,hv,AL hb hg,r⟩
theorem GJ{w:World}{base:Nat}{e:TypeId}{size n:Nat}{v:Value}{xs:List Value}(h:w.ownsRow base e size v n xs):v.oneCell'=wg:=by rcases h.2 with ⟨rfl,_⟩ | ⟨g,cap,cur,rfl,_⟩<;>rfl
theorem MN{w:World}{base:Nat}{e:TypeId}{size n:Nat}{v:Value}{xs:List Value}(h:w.ownsRow base e size v n xs){b:Nat}(hb:v.ownBlock=xM b):base<=b:=by
 rcases h.2 with ⟨rfl,_⟩ | ⟨g,cap,cur,rfl,hg,_⟩
 ·cases hb
 ·cases hb; exact hg
def Gm(I0 I:Nat->Prop)(B:Nat)(own:Nat->Option Nat)(w w':World)(ad:Bool)(os:List (Nat × OB))(is:List Nat)(G:Ctx->Prop):Prop:=
 ∃ps:List (Nat × Place),ps.map (·.1)=os.map (·.1)/\is.length=ps.length /\
  (∀(j:Nat) n p,ps[j]?=xM (n,p)->p.st=.live/\∃i,is[j]?=xM i/\∀b,p.FK=xM b->own i=xM b) /\
  ∀A,Good I0 I B own w w' ad A->(∀n p,(n,p)∈ps->A n=xM p) ->
   G (Cd I0 B A w')/\∀(j:Nat) n p ob,ps[j]?=xM (n,p)->os[j]?=xM (n,ob)->Dr (Cd I0 B A w') w' p (wy,ob)
theorem Gm.none{G:Ctx->Prop}(h:∀A,Good I0 I B own w w' ad A->G (Cd I0 B A w')):Gm I0 I B own w w' ad [] [] G :=⟨[],rfl,rfl,fun j n p hj=>by simp at hj,fun A hA _=>⟨h A hA,fun j n p ob hj=>by simp at hj⟩⟩
theorem Gm.append{os os':List (Nat × OB)}{is is':List Nat}{G G':Ctx->Prop}(h:Gm I0 I B own w w' ad os is G)(h':Gm I0 I B own w w' ad os' is' G'):
 Gm I0 I B own w w' ad (os++os') (is++is') (fun c=>G c/\G' c):=by
 obtain⟨ps,h1,h2,h3,h4⟩:=h;obtain⟨ps',h1',h2',h3',h4'⟩:=h';have hl:os.length=ps.length:=by have:=congrArg vA h1; simpa using this.symm
 refine⟨ps++ps',by simp[h1,h1'],by simp[h2,h2'],?_,?_⟩
 ·intro j n p hj;rcases AA j ps.length with hlt | hge
  ·rw[yI hlt] at hj;obtain⟨a,i,b,c⟩:=h3 j n p hj;exact⟨a,i,by rw[yI (by omega)]; exact b,c⟩
  ·rw[AS hge] at hj;obtain⟨a,i,b,c⟩:=h3' _ n p hj;exact⟨a,i,by rw[AS (by omega),h2]; exact b,c⟩
 ·intro A hA hps;obtain⟨a,b⟩:=h4 A hA fun n p hn=>hps n p (zQ.2 (.inl hn))
  obtain⟨a',b'⟩:=h4' A hA fun n p hn=>hps n p (zQ.2 (.inr hn))
  refine⟨⟨a,a'⟩,fun j n p ob hj ho=>?_⟩;rcases AA j ps.length with hlt | hge
  ·rw[yI hlt] at hj;rw[yI (by omega)] at ho;exact b j n p ob hj ho
  ·rw[AS hge] at hj;rw[AS (by omega),hl] at ho;exact b' _ n p ob hj ho
theorem Gm.mono{os:List (Nat × OB)}{is:List Nat}{G G':Ctx->Prop}(h:Gm I0 I B own w w' ad os is G)(hG:∀c,G c->G' c):Gm I0 I B own w w' ad os is G':=by obtain⟨ps,h1,h2,h3,h4⟩:=h;exact⟨ps,h1,h2,h3,fun A hA hps=>let ⟨a,b⟩:=h4 A hA hps; ⟨hG _ a,b⟩⟩
theorem Ou{g:Nat->DV->Option (DV × List (Nat × OB) × List Nat)}
 (ih:∀nm d v d' os is,Bz (DL I own w w') w' d v->g nm d=xM (d',os,is)->Gm I0 I B own w w' ad os is (fun c=>Bz c w' d' v)):
 ∀(l:List DV) nm (vs:List Value) l' os is,BN (DL I own w w') w' l vs->Jh g nm l=xM (l',os,is)->Gm I0 I B own w w' ad os is (fun c=>BN c w' l' vs)
 | [],nm,vs,l',os,is,hl,h=>by simp only[Jh,Ae,Ak] at h;obtain⟨rfl,rfl,rfl⟩:=h;rw[BN.FU] at hl;exact Gm.none fun A _=>by rw[BN.FU]; exact hl
 | d::l,nm,vs,l',os,is,hl,h=>by
   rw[BN.CS] at hl;obtain⟨u,us,rfl,hu,hus⟩:=hl;simp only[Jh] at h;split at h
   ·rename_i x os1 is1 hg;split at h
    ·rename_i xs os2 is2 hg2;simp only[Ae,Ak] at h;obtain⟨rfl,rfl,rfl⟩:=h
     exact((ih nm d u x os1 is1 hu hg).append (Ou ih l _ us xs os2 is2 hus hg2)).mono fun c hc=>by rw[BN.CS]; exact⟨u,us,rfl,hc.1,hc.2⟩
    ·cases h
   ·cases h
theorem Lh{A:Nat->Option Place}(h:Good I0 I B own w w' ad A):Ji (DL I own w w').bare (Cd I0 B A w').bare :=⟨h.ok,rfl,fun _=>rfl,fun _=>rfl⟩
theorem Afo:∀(f:Nat) nm d v d' os is,Bz (DL I own w w') w' d v->Fg ad f nm d=xM (d',os,is)->Gm I0 I B own w w' ad os is (fun c=>Bz c w' d' v):=by
 intro f
 induction f with
 | zero=>intro nm d v d' os is hv h; simp[Fg] at h
 | succ f ih =>
   intro nm d v d' os is hv h
   have plain:(∀A,Good I0 I B own w w' ad A->Bz (Cd I0 B A w') w' d v)->Fg ad (f+1) nm d=xM (d,[],[])->Gm I0 I B own w w' ad os is (fun c=>Bz c w' d' v):=by intro hp he;rw[he] at h;simp only[Ae,Ak] at h;obtain⟨rfl,rfl,rfl⟩:=h;exact Gm.none hp
   cases d with
   | undef=>exact plain (fun A _=>by simp[Bz]) rfl
   | nil=>exact plain (fun A _=>by simpa only[Bz] using hv) rfl
   | bool b=>exact plain (fun A _=>by simpa only[Bz] using hv) rfl
   | int k n=>exact plain (fun A _=>by simpa only[Bz] using hv) rfl
   | fl n=>exact plain (fun A _=>by simpa only[Bz] using hv) rfl
   | nb n=>exact plain (fun A _=>by simpa only[Bz] using hv) rfl
   | agg l =>
     simp only[Fg] at h;split at h
     ·rename_i l' os' is' hg;simp only[Ae,Ak] at h;obtain⟨rfl,rfl,rfl⟩:=h;simp only[Bz] at hv;obtain⟨vs,rfl,hl⟩:=hv;exact(Ou ih l nm _ l' os' is' hl hg).mono fun c hc=>by simp only[Bz]; exact⟨vs,rfl,hc⟩
     ·cases h
   | Cw l =>
     simp only[Fg] at h;split at h
     ·rename_i l' os' is' hg;simp only[Ae,Ak] at h;obtain⟨rfl,rfl,rfl⟩:=h;simp only[Bz] at hv;obtain⟨vs,rfl,hl⟩:=hv;exact(Ou ih l nm _ l' os' is' hl hg).mono fun c hc=>by simp only[Bz]; exact⟨vs,rfl,hc⟩
     ·cases h
   | Bh g k l =>
     cases g with
     | arg =>refine plain (fun A hA=>?_) rfl;simp only[Bz] at hv ⊢;obtain⟨a,cap,rfl,hc,hh⟩:=hv;exact⟨a,cap,rfl,hc,hh.imp id fun⟨b,o,e,hb,hr⟩=>⟨b,o,e,hA.ok _ hb,hr⟩⟩
     | BF =>refine plain (fun A hA=>?_) rfl;simp only[Bz] at hv ⊢;obtain⟨a,cap,rfl,hc,hh⟩:=hv;exact⟨a,cap,rfl,hc,hh.imp id fun⟨b,o,e,hb,hr⟩=>⟨b,o,e,⟨hA.ok _ hb.1,rfl,AL hA.hB hb.2.2⟩,hr⟩⟩
     | own i e =>
       simp only[Bz] at hv;obtain⟨ho,hob⟩:=hv;cases ad with
       | true =>
         simp only[Fg,Aa,Ae,Ak] at h;obtain⟨rfl,rfl,rfl⟩:=h;refine⟨[(nm,⟨.live,.row v 1⟩)],rfl,rfl,?_,?_⟩
         ·intro j n p hj;cases j with
          | zero=>simp at hj; obtain⟨rfl,rfl⟩:=hj; exact⟨rfl,i,rfl,fun b hb=>hob b hb⟩
          | succ j=>simp at hj
         ·intro A hA hps;refine⟨by simp only[Bz]; exact⟨GJ ho,⟨.live,.row v 1⟩,hps nm _ (by simp),.inr ⟨1,rfl⟩⟩,fun j n p ob hj hob'=>?_⟩;cases j with
          | zero =>simp only[wA,Ae,Ak] at hj hob'; obtain⟨rfl,rfl⟩:=hj; obtain⟨_,rfl⟩:=hob';unfold Dr;exact⟨rfl,v,rfl,Lb ho hA.hB⟩
          | succ j=>simp at hj
       | false =>
         simp only[Fg,Af,Ae,Ak] at h;obtain⟨rfl,rfl,rfl⟩:=h;refine Gm.none fun A hA=>?_
         simp only[Bz];rcases FG ho with ⟨rfl,h0⟩ | ⟨g,cap,rfl,hc⟩
         ·have:l=[]:=AF h0;subst this;exact⟨xN,0,rfl,A7 _,.inl rfl⟩
         ·refine⟨_,cap,rfl,hc,.inr ⟨g,0,rfl,⟨hA.own rfl i g (hob g rfl) (MN ho rfl),rfl,AL hA.hB (MN ho rfl)⟩,fun j n hj=>?_⟩⟩;have:=ho.cells (g:=g) rfl j (.int k n) (by rw[AW,hj]; rfl);rw[Addr.add_lit] at this;exact this
   | C3 g sz l =>
     cases g with
     | arg =>refine plain (fun A hA=>?_) rfl;simp only[Bz] at hv ⊢;obtain⟨a,cap,rfl,hc,hh⟩:=hv;exact⟨a,cap,rfl,hc,hh.imp id fun⟨b,o,rows,e,hb,hrr,hlen,hr⟩=>⟨b,o,rows,e,hA.ok _ hb,Dp.Fa (Lh hA) _ _ hrr,hlen,hr⟩⟩
     | BF =>refine plain (fun A hA=>?_) rfl;simp only[Bz] at hv ⊢;obtain⟨a,cap,rfl,hc,hh⟩:=hv;exact⟨a,cap,rfl,hc,hh.imp id fun⟨b,o,rows,e,hb,hrr,hlen,hr⟩=>⟨b,o,rows,e,⟨hA.ok _ hb.1,rfl,AL hA.hB hb.2.2⟩,Dp.Fa (Lh hA) _ _ hrr,hlen,hr⟩⟩
     | own i e =>
       simp only[Bz] at hv;obtain⟨rows,hrr,hlen,ho,hob⟩:=hv;cases ad with
       | true =>
         by_cases hsz:0<sz
         ·simp only[Fg,hsz,decide_true,Bool.and_true,Aa,Ae,Ak] at h;obtain⟨rfl,rfl,rfl⟩:=h;refine⟨[(nm,⟨.live,.row v sz⟩)],rfl,rfl,?_,?_⟩
          ·intro j n p hj;cases j with
           | zero=>simp at hj; obtain⟨rfl,rfl⟩:=hj; exact⟨rfl,i,rfl,fun b hb=>hob b hb⟩
           | succ j=>simp at hj
          ·intro A hA hps;refine⟨by simp only[Bz]; exact⟨GJ ho,⟨.live,.row v sz⟩,hps nm _ (by simp),.inr ⟨sz,rfl⟩⟩,fun j n p ob hj hob'=>?_⟩;cases j with
           | zero =>simp only[wA,Ae,Ak] at hj hob'; obtain⟨rfl,rfl⟩:=hj; obtain⟨_,rfl⟩:=hob';unfold Dr;exact⟨rfl,hsz,v,rows,rfl,Dp.Fa (Lh hA) _ _ hrr,hlen,Lb ho hA.hB⟩
           | succ j=>simp at hj
         ·simp[Fg,hsz] at h
       | false =>
         simp only[Fg,Bool.false_and,Af,Ae,Ak] at h;obtain⟨rfl,rfl,rfl⟩:=h;refine Gm.none fun A hA=>?_
         simp only[Bz];rcases FG ho with ⟨rfl,h0⟩ | ⟨g,cap,rfl,hc⟩
         ·have:l=[]:=AF h0;subst this;exact⟨xN,0,rfl,A7 _,.inl rfl⟩
         ·refine⟨_,cap,rfl,hc,.inr ⟨g,0,rows,rfl,⟨hA.own rfl i g (hob g rfl) (MN ho rfl),rfl,AL hA.hB (MN ho rfl)⟩,Dp.Fa (Lh hA) _ _ hrr,hlen,fun j u hj=>?_⟩⟩;have:=ho.cells (g:=g) rfl j u hj;rw[Addr.add_lit] at this;exact this
   | De n=>simp[Fg] at h
   | Ky n off len=>simp[Fg] at h
   | ptr n i j=>simp[Fg] at h
   | CQ cs =>refine plain (fun A hA=>?_) rfl;simp only[Bz] at hv ⊢;obtain⟨b,o,vs,rfl,hb,hls,hrd⟩:=hv;exact⟨b,o,vs,rfl,hA.ok _ hb,BN.Fa (Lh hA) _ _ hls,hrd⟩
   | fn g a c=>simp[Fg] at h
   | gd g d=>simp[Fg] at h
end
def E2(P:Program)(s:Sem Next)(w:World)(K:Value->World->Prop):Prop:=
 match s.run P w with
 | .ok (.value v) w'=>K v w'
 | .ok (.enter f args) w'=>Calls P f args w' fun e w''=>∃v,e=.returned v/\K v w''
 | _=>False
theorem E2.value{P:Program}{s:Sem Next}{w w':World}{v:Value}{K:Value->World->Prop}(h:s.run P w=.ok (.value v) w')(hk:K v w'):E2 P s w K:=by unfold E2; rw[h]; exact hk
theorem E2.lift{P:Program}{s:Sem Value}{w w':World}{v:Value}{K:Value->World->Prop}(h:s.run P w=.ok v w')(hk:K v w'):E2 P (do pure (.value (<- s))) w K :=E2.value (by simp[h]) hk
def Vu(GV:List Nat)(n:Nat)(p:Place):Place:={ p with st:=if p.st=.live/\n∈GV then .frozen else p.st }
structure Iw(I0:Nat->Prop)(B:Nat)(A:Nat->Option Place)(w:World)(BW:List (Nat × OB))(GV:List Nat)(A':Nat->Option Place)(w':World):Prop where
 below:Below w.heap.size w w'
 ND:∀n p,A n=xM p->A' n=xM (Vu GV n p)
 new:∀n p,A n=xN->A' n=xM p->p.st=.live/\(∀b,p.FK=xM b->w.heap.size<=b/\b<w'.heap.size)/\∃ob,(n,ob)∈BW/\Dr (Cd I0 B A' w') w' p (wy,ob)
 inj:∀n m p q b,A n=xN->A m=xN->A' n=xM p->A' m=xM q->p.FK=xM b->q.FK=xM b->n=m
theorem AcN(n:Nat)(p:Place):Vu [] n p=p:=by cases p; simp[Vu]
theorem JS{GV:List Nat}{n:Nat}{p:Place}:(Vu GV n p).st=.dead↔p.st=.dead:=by
 unfold Vu; dsimp only; split
 ·rename_i h; simp[h.1]
 ·rfl
theorem M7{GV:List Nat}{n:Nat}{p:Place}(h:(Vu GV n p).st=.live):p.st=.live/\n ∉ GV:=by
 unfold Vu at h; dsimp only at h; split at h
 ·cases h
 ·rename_i hn; exact⟨h,fun hm=>hn ⟨h,hm⟩⟩
section
variable{I0:Nat->Prop}{B:Nat}{A A':Nat->Option Place}{h:DB}{w w':World}{BW:List (Nat × OB)}{GV:List Nat}
theorem Iw.refl(hd:WB w w'):Iw I0 B A w [] [] A w' where
 below:=by rcases hd with rfl | rfl; exact Below.refl _ _; exact(Below.refl _ _).drew
 ND:=fun n p hp=>by rw[AcN]; exact hp
 new:=fun n p h1 h2=>by rw[h1] at h2; cases h2
 inj:=fun n m p q b h1 _ h2=>by rw[h1] at h2; cases h2
theorem Iw.idle(BW:List (Nat × OB)):Iw I0 B A w BW [] A w where
 below:=Below.refl _ _
 ND:=fun n p hp=>by rw[AcN]; exact hp
 new:=fun n p h1 h2=>by rw[h1] at h2; cases h2
 inj:=fun n m p q b h1 _ h2=>by rw[h1] at h2; cases h2
theorem Iw.AkM(hg:Iw I0 B A w BW GV A' w'):Hu A w A' w' where
 size:=hg.below.size
 names:=fun n p hp=>by
  refine⟨_,hg.ND n p hp,?_⟩;by_cases hd:p.st=.dead
  ·exact .inl (JS.2 hd)
  ·exact .inr ⟨hd,rfl⟩
 live:=fun n p b hp hl hb hlt=>by
  cases hA:A n with
  | none=>have:=((hg.new n p hA hp).2.1 b hb).1; omega
  | some q =>have:=hg.ND n q hA;rw[this] at hp; cases hp;exact⟨n,q,hA,(M7 hl).1,hb⟩
 kept:=fun b hb _=>hg.below.block b hb
theorem Dr.fz{c:Ctx}{w:World}{p:Place}{n:Nat}{GV:List Nat}:∀{fo:Bool × OB},Dr c w p fo->Dr c w (Vu GV n p) (fo.1||decide (n∈GV),fo.2)
 | (fz,.dead),hr=>by unfold Dr at *; exact JS.2 hr
 | (fz,.box cs),hr=>by
   unfold Dr at *
   refine⟨?_,hr.2⟩;have:=hr.1;unfold Vu; dsimp only;cases fz<;>simp at this<;>by_cases hn:n∈GV<;>simp[this,hn]
 | (fz,.Bh e k l),hr=>by
   unfold Dr at *
   refine⟨?_,hr.2⟩;have:=hr.1;unfold Vu; dsimp only;cases fz<;>simp at this<;>by_cases hn:n∈GV<;>simp[this,hn]
 | (fz,.C3 e sz l),hr=>by
   unfold Dr at *
   refine⟨?_,hr.2⟩;have:=hr.1;unfold Vu; dsimp only;cases fz<;>simp at this<;>by_cases hn:n∈GV<;>simp[this,hn]
theorem Iw.mem(hm:Mem I0 B A h w)(hg:Iw I0 B A w BW GV A' w'){h':DB}
 (ho:∀n p fo',A n=xM p->look h' n=xM fo'->∃fo,look h n=xM fo/\fo'=(fo.1||decide (n∈GV),fo.2))
 (hn:∀n ob fo',(n,ob)∈BW->A n=xN->look h' n=xM fo'->fo'=(wy,ob)):Mem I0 B A' h' w' where
 hB:=AL hm.hB hg.below.size
 Rp:=hm.Rp
 obj:=fun n p fo' hp hl=>by
  cases hA:A n with
  | none =>obtain⟨_,_,ob,hob,hr⟩:=hg.new n p hA hp;rw[hn n ob fo' hob hA hl]; exact hr
  | some q =>
    have:=hg.ND n q hA;rw[this] at hp; cases hp;obtain⟨fo,hfo,rfl⟩:=ho n q fo' hA hl;have h1:=hm.obj n q fo hA hfo;refine Dr.fz ?_;by_cases hd:q.st=.dead
    ·obtain⟨fz,ob⟩:=fo;cases ob with
     | dead=>exact hd
     | box cs=>exact absurd hd (Cn (MO hm hA hfo).1)
     | Bh e k l=>exact absurd hd (Cn (Ej hm hA hfo).1)
     | C3 e sz l=>exact absurd hd (Cn (E9 hm hA hfo).1)
    ·exact Dr.D4 hg.AkM.D4 rfl rfl (fun b hb=>hg.below.block b (hm.GF n q b hA hd hb).2) fo h1
 GF:=fun n p b hp hd hb=>by
  cases hA:A n with
  | none=>have:=(hg.new n p hA hp).2.1 b hb; have:=hm.hB; omega
  | some q =>have:=hg.ND n q hA;rw[this] at hp; cases hp;have h1:=hm.GF n q b hA (fun e=>hd (JS.2 e)) hb;have:=hg.below.size;omega
 inj:=fun n m p q b hp hq hdp hdq hbp hbq=>by
  cases hA:A n with
  | none =>
    have h1:=(hg.new n p hA hp).2.1 b hbp;cases hA2:A m with
    | none=>exact hg.inj n m p q b hA hA2 hp hq hbp hbq
    | some q' =>have:=hg.ND m q' hA2;rw[this] at hq; cases hq;have h2:=hm.GF m q' b hA2 (fun e=>hdq (JS.2 e)) hbq;omega
  | some p' =>
    have:=hg.ND n p' hA;rw[this] at hp; cases hp;have h1:=hm.GF n p' b hA (fun e=>hdp (JS.2 e)) hbp;cases hA2:A m with
    | none=>have h2:=(hg.new m q hA2 hq).2.1 b hbq; omega
    | some q' =>have:=hg.ND m q' hA2;rw[this] at hq; cases hq;exact hm.inj n m p' q' b hA hA2 (fun e=>hdp (JS.2 e)) (fun e=>hdq (JS.2 e)) hbp hbq
def Rm(A:Nat->Option Place)(GV:List Nat)(n:Nat)(p:Place):Nat->Option Place:=fun m=>if m=n then xM p else (A m).map (Vu GV m)
theorem Vd{A:Nat->Option Place}{GV:List Nat}{n m:Nat}{p q:Place}(hn:A n=xN)(hm:A m=xM q):Rm A GV n p m=xM (Vu GV m q):=by unfold Rm; rw[Ay (fun e=>by rw[e,hn] at hm; cases hm),hm]; rfl
theorem Ov{A:Nat->Option Place}{GV:List Nat}{n m:Nat}{p q:Place}(h:Rm A GV n p m=xM q):(m=n/\q=p)\/∃r,A m=xM r/\q=Vu GV m r:=by
 unfold Rm at h;split at h
 ·cases h; exact .inl ⟨‹_›,rfl⟩
 ·cases hA:A m with
  | none=>simp[hA] at h
  | some r=>simp only[hA,z5,Ae] at h; exact .inr ⟨r,rfl,h.symm⟩
theorem Iw.alloc{nm:Nat}(hnm:A nm=xN){cells:Array Value}{e:TypeId}{p:Place}{ob:OB}(hst:p.st=.live)(hblk:∀b,p.FK=xM b->b=w.heap.size)
 (hrel:Hu A w (Rm A GV nm p) (w.alloc (.cells cells e))->Dr (Cd I0 B (Rm A GV nm p) (w.alloc (.cells cells e))) (w.alloc (.cells cells e)) p (wy,ob)):
 Iw I0 B A w [(nm,ob)] GV (Rm A GV nm p) (w.alloc (.cells cells e)):=by
 have hmv:Hu A w (Rm A GV nm p) (w.alloc (.cells cells e)):=by
  refine⟨by simp,fun n q hq=>?_,fun n q b hq hl hb hlt=>?_,fun b hb _=>Below.heap_alloc _ _ _ hb⟩
  ·refine⟨_,Vd hnm hq,?_⟩;by_cases hd:q.st=.dead
   ·exact .inl (JS.2 hd)
   ·exact .inr ⟨hd,rfl⟩
  ·rcases Ov hq with ⟨rfl,rfl⟩ | ⟨r,hr,rfl⟩
   ·have:=hblk b hb; omega
   ·exact⟨n,r,hr,(M7 hl).1,hb⟩
 refine⟨(Below.refl _ _).alloc (A7 _) _,fun n q hq=>Vd hnm hq,fun n q h1 h2=>?_,fun n m q r b h1 h2 h3 h4 _ _=>?_⟩
 ·rcases Ov h2 with ⟨rfl,rfl⟩ | ⟨r,hr,rfl⟩
  ·exact⟨hst,fun b hb=>by rw[hblk b hb]; simp,ob,by simp,hrel hmv⟩
  ·rw[h1] at hr; cases hr
 ·rcases Ov h3 with ⟨rfl,rfl⟩ | ⟨r,hr,rfl⟩
  ·rcases Ov h4 with ⟨rfl,rfl⟩ | ⟨r,hr,rfl⟩
   ·rfl
   ·rw[h2] at hr; cases hr
  ·rw[h1] at hr; cases hr
end
theorem ZA{c:Ctx}{w:World}{d:DV}{v:Value}(hf:P3 d=wg)(h:Bz c w d v):v.oneCell'=wg:=by
 cases d<;>simp only[P3,ye] at hf<;>try simp only[Bz] at h
 case nil=>subst h; rfl
 case bool=>subst h; rfl
 case int=>subst h; rfl
 case fl=>obtain⟨m,rfl,_⟩:=h; rfl
 case nb=>obtain⟨m,rfl,_⟩:=h; rfl
 case Bh g k l =>
  cases g with
  | own i e=>simp only[Bz] at h; exact GJ h.1
  | arg=>simp only[Bz] at h; obtain⟨a,cap,rfl,_⟩:=h; rfl
  | BF=>simp only[Bz] at h; obtain⟨a,cap,rfl,_⟩:=h; rfl
 case C3 g sz l =>
  cases g with
  | own i e=>simp only[Bz] at h; obtain⟨rows,_,_,ho,_⟩:=h; exact GJ ho
  | arg=>simp only[Bz] at h; obtain⟨a,cap,rfl,_⟩:=h; rfl
  | BF=>simp only[Bz] at h; obtain⟨a,cap,rfl,_⟩:=h; rfl
 case De=>exact h.1
 case Ky=>exact h.1
 case ptr=>exact h.1
 case CQ=>obtain⟨b,o,vs,rfl,_⟩:=h; rfl
 case fn=>obtain⟨fs,cs,rfl,_⟩:=h; rfl
theorem Afd{v:Value}(h:v.oneCell'=wg):v.cells=#[v]:=by cases v<;>simp[Value.oneCell'] at h<;>rfl
theorem Yx{d:DV}(hd:∀l,d≠.agg l)(h:LX d=wg):P3 d=wg:=by cases d<;>first | exact h | exact absurd rfl (hd _)
theorem AbH{d:DV}(hd:∀l,d≠.agg l):cells d=[d]:=by cases d<;>first | rfl | exact absurd rfl (hd _)
theorem Sa{c:Ctx}{w:World}{d:DV}{v:Value}(hf:LX d=wg)(h:Bz c w d v):BN c w (cells d) v.cells.toList:=by
 by_cases hd:∃l,d=.agg l
 ·obtain⟨l,rfl⟩:=hd;simp only[Bz] at h;obtain⟨vs,rfl,hl⟩:=h;exact hl
 ·have hd':∀l,d≠.agg l:=fun l e=>hd ⟨l,e⟩
  rw[Afd (ZA (Yx hd' hf) h),AbH hd'];simp only[BN];exact⟨v,[],rfl,h,rfl⟩
theorem Rk{c:Ctx}{w:World}:∀{ds:List DV} {vs:List Value},ds.all P3=wg->BN c w ds vs->∀v∈vs,v.oneCell'=wg
 | [],vs,_,h,v,hv=>by rw[BN.FU] at h; subst h; cases hv
 | d::ds,vs,hf,h,v,hv=>by
   rw[BN.CS] at h;obtain⟨u,us,rfl,h1,h2⟩:=h;simp only[List.all_cons,Am] at hf;cases hv with
   | head=>exact ZA hf.1 h1
   | tail _ hm=>exact Rk hf.2 h2 v hm
theorem P1{c:Ctx}{w:World}(off:Nat):∀(ds:List DV) (vs:List Value) (k:Nat) (cs:List DV) (cells:Array Value),BN c w ds vs->BN c w cs cells.toList ->
 BN c w ((ds.zipIdx k).foldl (fun cs (c,j)=>cs.set (off+j) c) cs) ((vs.zipIdx k).foldl (fun cs (c,j)=>cs.setIfInBounds (off+j) c) cells).toList
 | [],vs,k,cs,cells,h,hc=>by rw[BN.FU] at h; subst h; simpa using hc
 | d::ds,vs,k,cs,cells,h,hc=>by rw[BN.CS] at h;obtain⟨u,us,rfl,h1,h2⟩:=h;simp only[List.zipIdx_cons,yR];exact P1 off ds us (k+1) _ _ h2 (by rw[Array.toList_setIfInBounds]; exact hc.set _ h1)
inductive Jj(c:Ctx)(w:World):List (Nat × DV)->List (Nat × Value)->Prop
 | nil:Jj c w [] []
 | cons {i:Nat} {d:DV} {v:Value} {ds:List (Nat × DV)} {vs:List (Nat × Value)}:Bz c w d v->Jj c w ds vs->Jj c w ((i,d)::ds) ((i,v)::vs)
theorem XQ{c:Ctx}{w:World}{pl:Nat->Option (Nat × Nat)}{pl':Nat->Option (Nat × Nat)}(hpl:∀i x,pl i=xM x->pl' i=xM x):
 ∀{ps:List (Nat × DV)} {vs:List (Nat × Value)},Jj c w ps vs->∀(cs cs':List DV) (cells:Array Value),BN c w cs cells.toList->QX pl cs ps=xM cs' ->
  ∃cells',Instr.fill pl' cells vs=xM cells'/\BN c w cs' cells'.toList:=by
 intro ps vs h
 induction h with
 | nil=>intro cs cs' cells hc hf; simp only[QX,Ae] at hf; subst hf; exact⟨cells,rfl,hc⟩
 | @cons i d v ds vs hd _ ih =>
   intro cs cs' cells hc hf;simp only[QX] at hf;cases hp:pl i with
   | none=>simp[hp] at hf
   | some x =>
     obtain⟨off,size⟩:=x;simp only[hp] at hf;by_cases hq:(LX d&&(Go.Den.cells d).length==size&&decide (off+(Go.Den.cells d).length<=cs.length))=wg
     ·rw[hq,Aa] at hf;simp only[Am,beq_iff_eq,Ai] at hq;obtain⟨⟨hw,hs⟩,hb⟩:=hq;have hr:=Sa hw hd;have hlen:=hr.length;have hcl:=hc.length;have hset:=P1 off _ _ 0 cs cells hr hc;obtain⟨cells',h1,h2⟩:=ih _ _ _ hset hf;refine⟨cells',?_,h2⟩;simp only[Instr.fill,hpl i _ hp]
      have e1:¬(v.cells.size≠size||decide (off+v.cells.size>cells.size))=wg:=by simp only[z7] at hlen hcl;simp; omega
      rw[Ay (by simpa using e1)];rw[<- h1];congr 1;rw[<- vD,Array.toList_zipIdx]
     ·simp only[zD] at hq;rw[hq] at hf; simp at hf
section
variable{P:Program}{E:Env}{I0:Nat->Prop}{B:Nat}{A:Nat->Option Place}{h:DB}{w:World}{t:TypeId}
theorem run_places(hty:∀t ti,E.ty t=xM ti->CJ P t ti):∀(gs:List Field) (l:List (Nat × Nat)),Qy E (gs.map fun f=>(f.offset,f.type))=xM l ->
 (gs.mapM (fun f=>(do pure (f.offset,<- sizeOf f.type):Sem (Nat × Nat)))).run P w=.ok l w
 | [],l,h=>by simp only[List.map_nil,Qy,Ae] at h; subst h; rfl
 | f::gs,l,h=>by
   simp only[yq,Qy] at h;split at h
   ·rename_i ti hT;split at h
    ·rename_i l' hl;simp only[Ae] at h; subst h;have ih:=run_places hty gs l' hl;simp only[List.mapM_cons,Sem.run_bind,(hty _ _ hT).H0 w,Result.andThen_ok,Sem.run_pure,ih]
    ·cases h
   ·cases h
theorem Aiq(hty:∀t ti,E.ty t=xM ti->CJ P t ti){c:Ctx}{ti:TI}(hT:E.ty t=xM ti){pl:Nat->Option (Nat × Nat)}(hp:SX E t=xM pl)
 {ps:List (Nat × DV)} {vs:Array (Nat × Value)} (hr:Jj c w ps vs.toList) {cs:List DV} (hf:QX pl ti.zero ps=xM cs):
 ∃v,(Instr.build t vs).run P w=.ok v w/\Bz c w (.agg cs) v:=by
 obtain⟨z,hz,hzr,_,_⟩:=(hty _ _ hT).T9 w;unfold SX at hp;split at hp
 ·rename_i fs _ hT';have hd:=(hty _ _ hT').desc;simp only[Da] at hd;obtain⟨gs,hu,hg⟩:=hd;split at hp
  ·rename_i l hl;simp only[Ae] at hp; subst hp;rw[<- hg] at hl;have hm:=run_places (P:=P) (w:=w) hty gs.toList l hl;obtain⟨cells',h1,h2⟩:=XQ (pl':=fun i=>l.toArray[i]?) (fun i x hx=>by simpa using hx) hr _ _ _ (hzr c w) hf;refine⟨.agg cells',?_,by simp only[Bz]; exact⟨_,rfl,h2⟩⟩
   have hm':(gs.mapM (fun f=>(do pure (f.offset,<- sizeOf f.type):Sem (Nat × Nat)))).run P w=.ok l.toArray w:=by rw[Array.mapM_eq_mapM_toList];simp only[Sem.run_map,hm,Result.andThen_ok]
   simp only[Instr.build,Sem.run_bind,hz,Result.andThen_ok,run_underlying hu,hm',h1,Sem.run_pure]
  ·cases hp
 ·rename_i n e _ hT';have hu:=(hty _ _ hT').desc;simp only[Da] at hu;split at hp
  ·rename_i ei hE;simp only[Ae] at hp; subst hp;have hes:=(hty _ _ hE).H0 w;obtain⟨cells',h1,h2⟩:=XQ (pl':=fun i=>xM (i*ei.size,ei.size)) (fun i x hx=>hx) hr _ _ _ (hzr c w) hf;refine⟨.agg cells',?_,by simp only[Bz]; exact⟨_,rfl,h2⟩⟩;simp only[Instr.build,Sem.run_bind,hz,Result.andThen_ok,run_underlying hu,hes,h1,Sem.run_pure]
  ·cases hp
 ·cases hp
end
theorem U2{c:Ctx}{w:World}{k:IntKind}:∀{cs:List DV} {l:Bb} {vs:List Value},OQ k cs=xM l->BN c w cs vs->vs=l.map (Value.int k)
 | [],l,vs,h,hr=>by simp only[OQ,Ae] at h; subst h; rw[BN.FU] at hr; simpa using hr
 | d::cs,l,vs,h,hr=>by
   rw[BN.CS] at hr;obtain⟨u,us,rfl,h1,h2⟩:=hr;cases d<;>simp only[OQ,reduceCtorEq] at h;rename_i k' n;split at h
   ·rename_i hk;split at h
    ·rename_i l' hl;simp only[Ae] at h; subst h;simp only[Bz] at h1;subst h1;have:k=k':=by simpa using hk
     subst this;rw[U2 hl h2]; rfl
    ·cases h
   ·cases h
theorem Wz{c:Ctx}{w:World}{sz:Nat}:∀(n:Nat) (ds:List DV) (vs:List Value),BN c w ds vs->vs.length=n*sz->(∀v∈vs,v.oneCell'=wg) ->
 ∃rows:List (List Value),rows.flatten=vs/\Dp c w (chunk sz n ds) rows/\(∀r∈rows,r.length=sz/\∀u∈r,u.oneCell'=wg)
 | 0,ds,vs,h,hl,_=>by have:vs=[]:=AF (by omega);subst this;exact⟨[],rfl,by simp[chunk,Dp],by simp⟩
 | n+1,ds,vs,h,hl,h1=>by
   rw[yd] at hl;obtain⟨rows,e1,e2,e3⟩:=Wz (sz:=sz) n (ds.drop sz) (vs.drop sz) (h.drop sz) (by rw[zW]; omega) (fun v hv=>h1 v (yn hv));refine⟨vs.take sz::rows,by rw[yH,e1,List.take_append_drop],?_,?_⟩
   ·simp only[chunk,Dp];exact⟨_,_,rfl,h.take sz,e2⟩
   ·intro r hr;cases hr with
    | head=>exact⟨by rw[zV]; omega,fun u hu=>h1 u (yZ hu)⟩
    | tail _ hm=>exact e3 r hm
theorem Rc(sz:Nat):∀(n:Nat) (ds:List DV),(chunk sz n ds).length=n
 | 0,_=>rfl
 | n+1,ds=>by simp[chunk,Rc sz n]
section
variable{P:Program}{E:Env}{I0:Nat->Prop}{B:Nat}{A:Nat->Option Place}{h:DB}{w:World}{t:TypeId}
theorem Q1(hB:B<=w.heap.size)(cells:Array Value)(e:TypeId)(n sz:Nat)(hl:cells.size=n*sz)(hm:n<=maxLen):
 (w.alloc (.cells cells e)).ownsRow B e sz (.slice (xM ⟨w.heap.size,0,xN⟩) n n) n cells.toList:=
 ⟨by rw[z7]; exact hl,.inr ⟨w.heap.size,n,cells,rfl,hB,heap_alloc_new w _,A7 _,hm,hl,by rw[<- hl,<- z7,yo]⟩⟩
theorem S9{α:Type}[Inhabited α](z:Array α)(len:Nat)(hz:0<z.size):((xl (len*z.size)).map (z[·%z.size]!)).toList=(zq len z.toList).flatten:=by
 apply List.ext_getElem?;intro i;by_cases hi:i<len*z.size
 ·have h1:((xl (len*z.size)).map (z[·%z.size]!)).toList[i]?=xM (z[i%z.size]!):=by simp[hi]
  rw[h1]
  have h2:=LP (sz:=z.size) (rows:=zq len z.toList) (fun r hr=>by rw[(xQ.1 hr).2]; simp) (i / z.size) z.toList (by rw[xR,Az (Nat.div_lt_of_lt_mul (by rw[A1]; exact hi))]) (i%z.size) (z[i%z.size]!) (by have:=Nat.mod_lt i hz;simp[this])
  rw[Nat.div_add_mod'] at h2;exact h2.symm
 ·rw[AY (by simpa using hi),AY];simp;simpa using hi
theorem S4{c:Ctx}{w:World}{ds:List DV}{vs:List Value}(h:BN c w ds vs):∀n,BN c w (zq n ds).flatten (zq n vs).flatten
 | 0=>by simp[BN]
 | n+1=>by simp only[List.replicate_succ,yH]; exact h.append (S4 h n)
theorem Oi(off:Nat):∀(l:List (Value × Nat)) (cells:Array Value),(l.foldl (fun cs (c,j)=>cs.setIfInBounds (off+j) c) cells).size=cells.size
 | [],_=>rfl
 | x::l,cells=>by simp only[yR]; rw[Oi off l]; simp
theorem Wq{pl:Nat->Option (Nat × Nat)}:∀{vs:List (Nat × Value)} {cells cells':Array Value},Instr.fill pl cells vs=xM cells'->cells'.size=cells.size
 | [],cells,cells',h=>by simp only[Instr.fill,Ae] at h; rw[h]
 | (i,v)::vs,cells,cells',h=>by
   simp only[Instr.fill] at h;split at h
   ·cases h
   ·split at h
    ·cases h
    ·rw[Wq h,<- vD];exact Oi _ _ _
theorem Ajk(hm:Mem I0 B A h w){A':Nat->Option Place}{w':World}(hmv:Hu A w A' w'){ns:List Nat}(hf:∀n∈ns,∀p,A n=xM p->∃q,A' n=xM q/\q.st≠.live)
 (hinj:∀n m p q b,A' n=xM p->p.st=.live->p.FK=xM b->b<w.heap.size->A m=xM q->q.st≠.dead->q.FK=xM b->n=m) {b:Nat} (hb:seen I0 B A w ns b):(Cd I0 B A' w').ok b:=by
 rcases hb with hb | ⟨n,p,hn,hp,hnd,hpb⟩
 ·exact hmv.D4.ok b hb
 ·obtain⟨h1,h2⟩:=hm.GF n p b hp hnd hpb;refine⟨AP h2 hmv.size,.inr h1,fun m q hq hl hqb=>?_⟩;have:=hinj m n q p b hq hl hqb h2 hp hnd hpb;subst this;obtain⟨q',hq',hnl⟩:=hf m hn p hp;rw[hq] at hq'; cases hq';exact hnl hl
theorem JZ.Aj1{A':Nat->Option Place}{w':World}{ns:List Nat}(hm:Mem I0 B A h w)(hB:Below w.heap.size w w')(hok:∀b,seen I0 B A w ns b->(Cd I0 B A' w').ok b):JZ (I5 (seen I0 B A w ns)) w (Cd I0 B A' w').bare w' where
 ok:=hok
 B:=rfl
 fr:=rfl
 own:=fun _ _ h=>by cases h
 at_:=fun _ _ h=>by cases h
 cell:=fun b o hb=>World.cell?_of_block (hB.block b (by
  rcases hb with hb | ⟨n,p,hn,hp,hnd,hpb⟩
  ·exact hb.1
  ·exact(hm.GF n p b hp hnd hpb).2))
 Ajy:=fun _ _ h=>by cases h
theorem UT(hty:∀t ti,E.ty t=xM ti->CJ P t ti)(hm:Mem I0 B A h w){nm len:Nat}{ps:List (Nat × DV)}{vs:Array (Nat × Value)}
 (hr:Jj (Cd I0 B A w) w ps vs.toList) {r:R2} (hl:Oo E h nm t len ps=xM r) (hnew:∀n ob,(n,ob)∈r.BW->A n=xN):
 ∃v w' A',(Instr.buildSlice t len vs).run P w=.ok v w'/\Iw I0 B A w r.BW r.GV A' w'/\Bz (Cd I0 B A' w') w' r.v v:=by
 unfold Oo at hl;split at hl
 ·rename_i e _ hT;have hu:=(hty _ _ hT).desc;simp only[Da] at hu;cases hE:E.ty e with
  | none=>simp[hE] at hl
  | some ei =>
  simp only[hE,Aj] at hl;by_cases hq:(decide (len*ei.size<=4096)&&decide (0<ei.size))=wg
  ·rw[hq,Aa] at hl;simp only[Am,Ai] at hq;obtain⟨hq1,hq2⟩:=hq;obtain⟨z,hz,hzr,hzs,hz1⟩:=(hty _ _ hE).T9 w;have hes:=(hty _ _ hE).H0 w;cases hfd:QX (fun i=>xM (i*ei.size,ei.size)) (zq len ei.zero).flatten ps with
   | none=>simp[hfd] at hl
   | some cs =>
   simp only[hfd,Aj] at hl
   have hzz:BN (Cd I0 B A w) w (zq len ei.zero).flatten ((xl (len*ei.size)).map (z.cells[·%z.cells.size]!)).toList:=by rw[<- hzs,S9 _ _ (by omega)];exact S4 (hzr _ _) len
   obtain⟨cells',h1,h2⟩:=XQ (pl':=fun i=>xM (i*ei.size,ei.size)) (fun i x hx=>hx) hr _ _ _ hzz hfd
   have hsz:cells'.size=len*ei.size:=by rw[Wq h1]; simp
   have hrun:(Instr.buildSlice t len vs).run P w=.ok (.slice (xM ⟨w.heap.size,0,xN⟩) len len) (w.alloc (.cells cells' e)):=by
    have hnb:¬len*ei.size>2^24:=by omega
    simp only[Instr.buildSlice,Sem.run_bind,run_underlying hu,Result.andThen_ok,hes,Ay hnb];by_cases h0:len*ei.size=0
    ·have h1':Instr.fill (fun i=>xM (i*ei.size,ei.size)) #[] vs.toList=xM cells':=by rw[<- h1,h0,show xl 0=#[] from rfl,Array.map_empty]
     have e0:(Array.map (fun x=>(#[]:Array Value)[x%(#[]:Array Value).size]!) (xl 0))=#[]:=by rw[show xl 0=#[] from rfl,Array.map_empty]
     simp only[h0,if_true,Sem.run_bind,Sem.run_pure,Result.andThen_ok,e0,h1'];simp[newRow]
    ·simp only[Ay h0,Sem.run_bind,hz,Result.andThen_ok,Sem.run_pure,h1];simp[newRow]
   have hlm:len<=maxLen:=by unfold maxLen;have:=Nat.mul_le_mul_left len (show 1<=ei.size by omega);omega
   have hone:(Value.slice (xM ⟨w.heap.size,0,xN⟩) len len).ownBlock=xM w.heap.size:=rfl;split at hl
   ·rename_i k hk;by_cases hs1:ei.size=1
    ·simp only[hs1,AE,Aa] at hl;cases hI:OQ k cs with
     | none=>simp[hI] at hl
     | some l =>
       simp only[hI,Aj,Ae] at hl; subst hl;have hnm:A nm=xN:=hnew nm _ (zh.2 rfl);have hv:=U2 hI h2
       have hll:l.length=len:=by have:=congrArg vA hv;rw[z7,hsz,hs1] at this;simpa using this.symm
       refine⟨_,_,Rm A [] nm ⟨.live,.row (.slice (xM ⟨w.heap.size,0,xN⟩) len len) 1⟩,hrun,Iw.alloc hnm rfl (fun b hb=>by cases hb; rfl) (fun _=>?_),?_⟩
       ·unfold Dr;refine⟨rfl,_,rfl,?_⟩;rw[<- hv,hll];exact Q1 hm.hB cells' e len 1 (by rw[hsz,hs1]) hlm
       ·simp only[Bz];exact⟨rfl,_,Az rfl,.inr ⟨1,rfl⟩⟩
    ·rw[show(ei.size==1)=wy by simpa using hs1] at hl; simp at hl
   ·by_cases hfl:cs.all P3=wg
    ·rw[hfl,Aa] at hl;cases hlo:H4 h cs with
     | none=>simp[hlo] at hl
     | some a =>
     obtain⟨cs',ns⟩:=a;simp only[hlo,Aj,Ae] at hl; subst hl;have hnm:A nm=xN:=hnew nm _ (zh.2 rfl);have hlow:=KK (QG hm 8) cs _ cs' ns hlo h2;obtain⟨rows,e1,e2,e3⟩:=Wz (sz:=ei.size) len cs' cells'.toList hlow (by rw[z7,hsz]) (Rk hfl h2);refine⟨_,_,Rm A ns nm ⟨.live,.row (.slice (xM ⟨w.heap.size,0,xN⟩) len len) ei.size⟩,hrun,Iw.alloc hnm rfl (fun b hb=>by cases hb; rfl) (fun hmv=>?_),?_⟩
     ·unfold Dr;refine⟨rfl,hq2,_,rows,rfl,?_,e3,?_⟩
      ·have hlat:=JZ.Aj1 (ns:=ns) hm ((Below.refl w.heap.size w).alloc (A7 _) (.cells cells' e)) (fun b hb=>Ajk hm hmv (fun n hn p hp=>⟨_,Vd hnm hp,fun hl=>(M7 hl).2 hn⟩) (fun n m p q b h1 h2 h3 h4 h5 h6 h7=>by
        rcases Ov h1 with ⟨rfl,rfl⟩ | ⟨r,hr,rfl⟩
        ·have:w.heap.size=b:=xT h3;omega
        ·exact hm.inj n m r q b hr h5 (by rw[(M7 h2).1]; simp) h6 h3 h7) hb)
       exact Dp.D4 hlat _ _ e2
      ·rw[Rc,e1];exact Q1 hm.hB cells' e len ei.size hsz hlm
     ·simp only[Bz];exact⟨rfl,_,Az rfl,.inr ⟨_,rfl⟩⟩
    ·simp only[zD] at hfl; rw[hfl] at hl; simp at hl
  ·simp only[zD] at hq; rw[hq] at hl; simp at hl
 ·cases hl
theorem Uq{n b:Nat}(h:n<=Lf b):n<=maxLen:=by have:=Ur h; unfold maxLen; omega
theorem Vr(hty:∀t ti,E.ty t=xM ti->CJ P t ti)(hm:Mem I0 B A h w){nm:Nat}{a c:DV}{va vc:Value}(ha:Bz (Cd I0 B A w) w a va)(hc:Bz (Cd I0 B A w) w c vc)
 {r:R2} (hl:PO E nm t a c=xM r) (hr:r.OE=wg) (hnew:∀n ob,(n,ob)∈r.BW->A n=xN):
 ∃v w' A',(Instr.makeSlice t va vc).run P w=.ok v w'/\Iw I0 B A w r.BW r.GV A' w'/\Bz (Cd I0 B A' w') w' r.v v:=by
 unfold PO at hl;split at hl
 ·rename_i e _ k1 x k2 y hT;have hu:=(hty _ _ hT).desc;simp only[Da] at hu;simp only[Bz] at ha hc;subst ha; subst hc;cases hE:E.ty e with
  | none=>simp[hE] at hl
  | some ei =>
  simp only[hE,Aj] at hl;by_cases hq:(decide (ei.bytes<=128)&&decide (0<ei.size))=wg
  ·rw[hq,Aa] at hl;simp only[Am,Ai] at hq;obtain⟨hq1,hq2⟩:=hq;obtain⟨i,z,hi,hs,hb,hz,hzr,hzs,hz1⟩:=(hty _ _ hE).info
   have key:(0<=x/\x<=y/\y<=Lf ei.bytes)->(Instr.makeSlice t (.int k1 x) (.int k2 y)).run P w=.ok (.slice (xM ⟨w.heap.size,0,xN⟩) x.toNat y.toNat) (w.alloc (.cells (madeCells z.cells (y.toNat*ei.size)) e)) /\
    (w.alloc (.cells (madeCells z.cells (y.toNat*ei.size)) e)).ownsRow B e ei.size (.slice (xM ⟨w.heap.size,0,xN⟩) x.toNat y.toNat) x.toNat (zq x.toNat z.cells.toList).flatten:=by
    intro⟨h0,h1,h2⟩
    have hbi:(i.bytes:Int)*y<=281474976710656:=by
     have hy:y.toNat<=Lf ei.bytes:=by omega
     have hm:=Sx hy hq1
     have e1:(i.bytes:Int)*y=((y.toNat*ei.bytes:Nat):Int):=by rw[Ax,Int.toNat_of_nonneg (by omega),hb,Int.mul_comm]
     rw[e1]; omega
    refine⟨by rw[<- hs]; exact run_make w t e i z hu hi hz k1 k2 x y h0 h1 hbi (by have:=Ur (show y.toNat<=Lf ei.bytes by omega); omega),?_⟩;refine⟨by rw[Je (sz:=ei.size) (fun r hr=>by rw[(xQ.1 hr).2,z7,hzs])]; simp,.inr ⟨w.heap.size,y.toNat,_,rfl,hm.hB,heap_alloc_new w _,by omega,Uq (show y.toNat<=Lf ei.bytes by omega),by rw[size_madeCells],?_⟩⟩;unfold madeCells;rw[<- hzs,S9 _ _ (by omega)];have e1:=K8 (sz:=z.cells.size) (rows:=zq y.toNat z.cells.toList) (fun r hr=>by rw[(xQ.1 hr).2]; simp) x.toNat;rw[<- e1,List.take_replicate,ym (by omega)]
   split at hl
   ·rename_i k hk;split at hl
    ·rename_i k' z0 hz0;by_cases hs1:(ei.size==1&&decide (k=k'))=wg
     ·rw[hs1,Aa,Ae] at hl; subst hl;have hnm:A nm=xN:=hnew nm _ (zh.2 rfl);simp only[Am,Ai,beq_iff_eq] at hr hs1;obtain⟨hs1,rfl⟩:=hs1;obtain⟨hrun,hown⟩:=key ⟨hr.1.1,hr.1.2,hr.2⟩;refine⟨_,_,Rm A [] nm ⟨.live,.row (.slice (xM ⟨w.heap.size,0,xN⟩) x.toNat y.toNat) 1⟩,hrun,Iw.alloc hnm rfl (fun b hb=>by cases hb; rfl) (fun _=>?_),?_⟩
      ·unfold Dr;refine⟨rfl,_,rfl,?_⟩
       have hzc:z.cells.toList=[.int k z0]:=by have:=hzr (Cd I0 B A w) w;rw[hz0] at this;simp only[BN,Bz] at this;obtain⟨u,us,e1,rfl,rfl⟩:=this;exact e1
       rw[hzc] at hown;have:(zq x.toNat [Value.int k z0]).flatten=(zq x.toNat z0).map (Value.int k):=by simp
       rw[this] at hown;simp only[hs1] at hown ⊢;rw[xE];exact hown
      ·simp only[Bz];exact⟨rfl,_,Az rfl,.inr ⟨1,rfl⟩⟩
     ·simp only[zD] at hs1; rw[hs1] at hl; simp at hl
    ·cases hl
   ·simp only[Ae] at hl; subst hl;have hnm:A nm=xN:=hnew nm _ (zh.2 rfl);simp only[Am,Ai] at hr;obtain⟨hrun,hown⟩:=key ⟨hr.1.1,hr.1.2,hr.2⟩;refine⟨_,_,Rm A [] nm ⟨.live,.row (.slice (xM ⟨w.heap.size,0,xN⟩) x.toNat y.toNat) ei.size⟩,hrun,Iw.alloc hnm rfl (fun b hb=>by cases hb; rfl) (fun _=>?_),?_⟩
    ·unfold Dr;refine⟨rfl,hq2,_,zq x.toNat z.cells.toList,rfl,?_,?_,by rw[xE]; exact hown⟩
     ·refine Dp.Ke (by simp) fun i d r h1 h2=>?_
      simp[xR] at h1 h2;obtain⟨_,rfl⟩:=h1;obtain⟨_,rfl⟩:=h2;exact hzr _ _
     ·intro r hr';rw[(xQ.1 hr').2];exact⟨by rw[z7,hzs],hz1⟩
    ·simp only[Bz];exact⟨rfl,_,Az rfl,.inr ⟨_,rfl⟩⟩
  ·simp only[zD] at hq; rw[hq] at hl; simp at hl
 ·cases hl
end
def lk{α:Type}:List (Nat × α)->Nat->Option α
 | [],_=>xN
 | (m,x)::l,n=>if m=n then xM x else lk l n
theorem Abk{α:Type}:∀{l:List (Nat × α)} {n:Nat} {x:α},lk l n=xM x->(n,x)∈l
 | [],n,x,h=>by cases h
 | (m,y)::l,n,x,h=>by
   simp only[lk] at h;split at h
   ·rename_i e; cases h; subst e; exact AU
   ·exact AJ _ (Abk h)
theorem ON{α:Type}:∀{l:List (Nat × α)} {n:Nat} {x:α},(l.map (·.1)).Nodup->(n,x)∈l->lk l n=xM x
 | [],n,x,_,h=>by cases h
 | (m,y)::l,n,x,hn,h=>by
   simp only[yq,xF] at hn;simp only[lk];cases h with
   | head=>rw[Az rfl]
   | tail _ h =>rw[Ay (fun e=>hn.1 (by rw[e]; exact vG (f:=fun x:Nat × α=>x.1) h))];exact ON hn.2 h
theorem II:∀{l:List Nat},Kf l=wg->l.Nodup
 | [],_=>List.nodup_nil
 | a::l,h=>by simp only[Kf,Am,Bool.not_eq_true'] at h;rw[xF];exact⟨by simpa using h.1,II h.2⟩
theorem Lr{g:Nat->DV->Option (DV × List (Nat × OB) × List Nat)}(ih:∀nm d d' os is,g nm d=xM (d',os,is)->os=[]):
 ∀(l:List DV) nm l' os is,Jh g nm l=xM (l',os,is)->os=[]
 | [],nm,l',os,is,h=>by simp only[Jh,Ae,Ak] at h; exact h.2.1.symm
 | d::l,nm,l',os,is,h=>by
   simp only[Jh] at h;split at h
   ·rename_i x os1 is1 hg;split at h
    ·rename_i xs os2 is2 hg2;simp only[Ae,Ak] at h;rw[<- h.2.1,ih _ _ _ _ _ hg,Lr ih l _ _ _ _ hg2]; rfl
    ·cases h
   ·cases h
theorem Yn:∀(f:Nat) nm d d' os is,Fg wy f nm d=xM (d',os,is)->os=[]:=by
 intro f
 induction f with
 | zero=>intro nm d d' os is h; simp[Fg] at h
 | succ f ih =>
   intro nm d d' os is h;cases d with
   | agg l =>
     simp only[Fg] at h;split at h
     ·rename_i l' os' is' hg;simp only[Ae,Ak] at h;rw[<- h.2.1]; exact Lr ih l _ _ _ _ hg
     ·cases h
   | Cw l =>
     simp only[Fg] at h;split at h
     ·rename_i l' os' is' hg;simp only[Ae,Ak] at h;rw[<- h.2.1]; exact Lr ih l _ _ _ _ hg
     ·cases h
   | Bh g k l=>cases g<;>simp[Fg] at h<;>exact h.2.1
   | C3 g sz l=>cases g<;>simp[Fg] at h<;>exact h.2.1
   | _=>simp[Fg] at h<;>exact h.2.1
section
variable{I:Nat->Prop}{own:Nat->Option Nat}{w w':World}
theorem TX{f:Nat}(ih:∀d v,FC f d=wy->Bz (DL I own w w') w' d v->Bz (DL (fun _=>False) own w w') w' d v):
 ∀(l:List DV) (vs:List Value),l.any (FC f)=wy->BN (DL I own w w') w' l vs->BN (DL (fun _=>False) own w w') w' l vs
 | [],vs,_,h=>by rw[BN.FU] at h ⊢; exact h
 | d::l,vs,ha,h=>by rw[BN.CS] at h ⊢;simp only[List.any_cons,Bool.or_eq_false_iff] at ha;obtain⟨u,us,rfl,h1,h2⟩:=h;exact⟨u,us,rfl,ih d u ha.1 h1,TX ih l us ha.2 h2⟩
theorem Aj2:∀(f:Nat) (d:DV) (v:Value),FC f d=wy->Bz (DL I own w w') w' d v->Bz (DL (fun _=>False) own w w') w' d v:=by
 intro f
 induction f with
 | zero=>intro d v h; simp[FC] at h
 | succ f ih =>
   intro d v ha hv;cases d with
   | agg l=>simp only[FC] at ha; simp only[Bz] at hv ⊢; obtain⟨vs,rfl,hl⟩:=hv; exact⟨vs,rfl,TX ih l _ ha hl⟩
   | Cw l=>simp only[FC] at ha; simp only[Bz] at hv ⊢; obtain⟨vs,rfl,hl⟩:=hv; exact⟨vs,rfl,TX ih l _ ha hl⟩
   | Bh g k l =>
     cases g with
     | arg=>simp[FC] at ha
     | own i e=>simp only[Bz] at hv ⊢; exact hv
     | BF =>simp only[Bz] at hv ⊢;obtain⟨a,cap,rfl,hc,hh⟩:=hv;exact⟨a,cap,rfl,hc,hh.imp id fun⟨b,o,e,hb,hr⟩=>⟨b,o,e,⟨⟨hb.1.1,.inr hb.2.2,hb.1.2.2⟩,rfl,hb.2.2⟩,hr⟩⟩
   | C3 g sz l=>simp[FC] at ha
   | undef=>simp[FC] at ha
   | CQ cs=>simp[FC] at ha
   | fn g a c=>simp[FC] at ha
   | nil=>simpa only[Bz] using hv
   | bool b=>simpa only[Bz] using hv
   | int k n=>simpa only[Bz] using hv
   | fl n=>simpa only[Bz] using hv
   | nb n=>simpa only[Bz] using hv
   | De n=>simp only[Bz] at hv; obtain⟨_,p,hp,_⟩:=hv; cases hp
   | Ky n o l=>simp only[Bz] at hv; obtain⟨_,p,hp,_⟩:=hv; cases hp
   | ptr n i j=>simp only[Bz] at hv; obtain⟨_,p,hp,_⟩:=hv; cases hp
   | gd g d=>simp[FC] at ha
end
section
variable{P:Program}{E:Env}{I0:Nat->Prop}{B:Nat}{A:Nat->Option Place}{h:DB}{w:World}
theorem Akz(hm:Mem I0 B A h w)(htab:∀g e,E.Il g=xM e->SC P g e){nm:Nat}{ad:Bool}{g:FuncId}{args:List DV}{r:R2}(hl:Adq E h nm ad g args=xM r)(hreq:r.OE=wg)
 (hnew:∀n ob,(n,ob)∈r.BW->A n=xN) (hnd:(r.BW.map (·.1)).Nodup) {vals:Array Value} (hv:BN (Cd I0 B A w) w args vals.toList):
 Calls P g vals w fun e w'=>∃v,e=.returned v/\∃A',Iw I0 B A w r.BW r.GV A' w'/\Bz (Cd I0 B A' w') w' r.v v:=by
 unfold Adq at hl;cases h1:H4 h args with
 | none=>simp[h1] at hl
 | some a =>
 obtain⟨as,ns⟩:=a;cases h2:E.Il g with
 | none=>simp[h1,h2] at hl
 | some e =>
 cases h3:Fg ad 6 nm (e.out as) with
 | none=>simp[h1,h2,h3] at hl
 | some x =>
 obtain⟨d,os,is⟩:=x;simp only[h1,h2,h3,Aj] at hl;cases h4:Kf is with
 | false=>simp[h4] at hl
 | true =>
 simp only[h4,Aa,Ae] at hl;subst hl;dsimp only at hreq hnew hnd ⊢;have hargs:=KK (QG hm 8) args vals.toList as ns h1 hv
 have hIlt:∀b,seen I0 B A w ns b->b<w.heap.size:=by
  intro b hb;rcases hb with hb | ⟨n,p,hn,hp,hdd,hpb⟩
  ·exact hb.1
  ·exact(hm.GF n p b hp hdd hpb).2
 refine(htab g e h2 as hreq w vals _ hIlt hargs).mono fun en w' hpost=>?_
 obtain⟨v,own,rfl,hbel,hown,hres⟩:=hpost;refine⟨v,rfl,?_⟩;have hisn:=II h4
 have main:∀(J:Nat->Prop),(∀b,J b->seen I0 B A w ns b)->((cond (FC 6 (e.out as)) ns ([]))=ns\/∀b,¬J b)->Bz (DL J own w w') w' (e.out as) v ->
  ∃A',Iw I0 B A w os (cond (FC 6 (e.out as)) ns ([])) A' w'/\Bz (Cd I0 B A' w') w' d v:=by
  intro J hJ hcase hresJ;generalize hfr:(cond (FC 6 (e.out as)) ns ([]))=GV at hcase ⊢;obtain⟨ps,q1,q2,q3,q4⟩:=Afo (I0:=I0) (B:=B) 6 nm _ v d os is hresJ h3;have hpn:(ps.map (·.1)).Nodup:=by rw[q1]; exact hnd
  have hAnone:∀n p,(n,p)∈ps->A n=xN:=by
   intro n p hn;have:n∈os.map (·.1):=by rw[<- q1]; exact vG (f:=fun x:Nat × Place=>x.1) hn
   obtain⟨⟨n',ob⟩,hm',e'⟩:=List.mem_map.1 this;dsimp only at e';subst e';exact hnew n' ob hm'
  let A':Nat->Option Place:=fun m=>match lk ps m with | some p=>xM p | none=>(A m).map (Vu GV m)
  have hA'new:∀n p,(n,p)∈ps->A' n=xM p:=by intro n p hn;show(match lk ps n with | some p=>xM p | none=>(A n).map (Vu GV n))=xM p;rw[ON hpn hn]
  have hA'old:∀n p,A n=xM p->A' n=xM (Vu GV n p):=by
   intro n p hp;show(match lk ps n with | some p=>xM p | none=>(A n).map (Vu GV n))=_;cases hq:lk ps n with
   | some p'=>rw[hAnone n p' (Abk hq)] at hp; cases hp
   | none=>rw[hp]; rfl
  have hA'inv:∀n p,A' n=xM p->(n,p)∈ps\/∃q,A n=xM q/\p=Vu GV n q:=by
   intro n p hp;have hp:(match lk ps n with | some p=>xM p | none=>(A n).map (Vu GV n))=xM p:=hp;cases hq:lk ps n with
   | some p'=>rw[hq] at hp; cases hp; exact .inl (Abk hq)
   | none =>
     rw[hq] at hp;cases hA:A n with
     | none=>rw[hA] at hp; cases hp
     | some q=>rw[hA] at hp; cases hp; exact .inr ⟨q,rfl,rfl⟩
  have hpown:∀n p b,(n,p)∈ps->p.FK=xM b->∃i,own i=xM b:=by intro n p b hn hb;obtain⟨j,hj⟩:=xU hn;obtain⟨_,i,_,hi⟩:=q3 j n p hj;exact⟨i,hi b hb⟩
  have Abv:Good I0 J B own w w' ad A':=by
   refine⟨fun b ⟨hb1,hb2,hb3⟩=>⟨hb1,?_,fun n p hp hl hpb=>?_⟩,fun had i b hi hge=>⟨(hown.lt i b hi).2,.inr (AL hm.hB hge),fun n p hp hl hpb=>?_⟩,hm.hB⟩
   ·rcases hb2 with hb2 | hb2
    ·rcases hJ b hb2 with hb2 | ⟨n,p,hn,hp,hdd,hpb⟩
     ·exact hb2.2.1
     ·exact .inr (hm.GF n p b hp hdd hpb).1
    ·exact .inr (AL hm.hB hb2)
   ·rcases hA'inv n p hp with hn | ⟨q,hq,rfl⟩
    ·obtain⟨i,hi⟩:=hpown n p b hn hpb;exact hb3 i hi
    ·obtain⟨hql,hnf⟩:=M7 hl;have hqb:=hm.GF n q b hq (by rw[hql]; simp) hpb;rcases hb2 with hb2 | hb2
     ·rcases hcase with hc | hc
      ·rcases hJ b hb2 with hs | ⟨m,p',hm',hp',hdd,hpb'⟩
       ·exact hs.2.2 n q hq hql hpb
       ·have:=hm.inj n m q p' b hq hp' (by rw[hql]; simp) hdd hpb hpb';subst this;exact hnf (by rw[hc]; exact hm')
      ·exact hc b hb2
     ·omega
   ·subst had;have hos:=Yn 6 nm _ _ _ _ h3;rw[hos] at q1;have hps:ps=[]:=by simpa using q1
    rcases hA'inv n p hp with hn | ⟨q,hq,rfl⟩
    ·rw[hps] at hn; cases hn
    ·have hqb:=hm.GF n q b hq (by rw[(M7 hl).1]; simp) hpb;omega
  obtain⟨hvr,hobj⟩:=q4 A' Abv hA'new;refine⟨A',⟨hbel,hA'old,fun n p hn hp=>?_,fun n m p q b hn hm' hp hq hpb hqb=>?_⟩,hvr⟩
  ·rcases hA'inv n p hp with hmem | ⟨q,hq,rfl⟩
   ·obtain⟨j,hj⟩:=xU hmem;obtain⟨hl,i,hi,hio⟩:=q3 j n p hj;refine⟨hl,fun b hb=>hown.lt i b (hio b hb),?_⟩;have hlen:os.length=ps.length:=by have:=congrArg vA q1; simpa using this.symm
    have hjlt:j<os.length:=by rw[hlen]; exact(xB.1 hj).1
    have hoj:os[j]?=xM os[j]:=As hjlt
    have hname:os[j].1=n:=by
     have e1:(ps.map (·.1))[j]?=xM n:=by rw[AW,hj]; rfl
     rw[q1,AW,hoj] at e1;simpa using e1
    refine⟨os[j].2,?_,hobj j n p _ hj (by rw[hoj,<- hname])⟩;rw[<- hname]; exact yX hoj
   ·rw[hn] at hq; cases hq
  ·rcases hA'inv n p hp with hmem | ⟨q',hq',rfl⟩
   ·rcases hA'inv m q hq with hmem' | ⟨q',hq',rfl⟩
    ·obtain⟨j,hj⟩:=xU hmem;obtain⟨j',hj'⟩:=xU hmem';obtain⟨_,i,hi,hio⟩:=q3 j n p hj;obtain⟨_,i',hi',hio'⟩:=q3 j' m q hj';have hii:=hown.inj i i' b (hio b hpb) (hio' b hqb);subst hii;have hjl:j<is.length:=(xB.1 hi).1;have hjj:=(List.getElem?_inj hjl hisn).1 (hi.trans hi'.symm);subst hjj;rw[hj] at hj'; cases hj'; rfl
    ·rw[hm'] at hq'; cases hq'
   ·rw[hn] at hq'; cases hq'
 cases hal:FC 6 (e.out as) with
 | true =>have:=main (seen I0 B A w ns) (fun _ h=>h) (.inl (by rw[hal]; rfl)) hres;rw[hal] at this;exact this
 | false =>have:=main (fun _=>False) (fun _ h=>h.elim) (.inr fun _ h=>h) (Aj2 6 _ v hal hres);rw[hal] at this;exact this
end
def Tv:Array Value->Sem Value:=fun args=>do
 let (x,y,b)<-Extern.MathBitsCarry.three "Sub64" args
 pure (Extern.MathBitsCarry.pair ((x+Extern.MathBitsCarry.m64-y-b)%Extern.MathBitsCarry.m64) (if x<y+b then 1 else 0))
theorem AdS{P:Program}(x y b:Int)(hb:b<=1)(w:World):
 (Tv #[.int .u64 x,.int .u64 y,.int .u64 b]).run P w=.ok (.tuple #[.int .u64 (L9 x y b),.int .u64 (G7 x y b)]) w:=by
 cases b with
 | ofNat n =>
   have:n=0\/n=1:=by have:((n:Nat):Int)<=1:=hb; omega
   rcases this with rfl | rfl<;>rfl
 | negSucc n=>rfl
def PT:Ext->Array Value->Sem Value
 | .Air=>Extern.MathFloatBits.float64bits
 | .bits=>Extern.MathFloatBits.float64bits
 | .M8=>Extern.MathFloatBits.float64frombits
 | .sqrt=>Extern.MathSqrt.sqrt
 | .Y5=>Tv
structure Ix(P:Program)(E:Env):Prop where
 ty:∀t ti,E.ty t=xM ti->CJ P t ti
 Il:∀g e,E.Il g=xM e->SC P g e
 call:∀g e,E.Il g=xM e->∀(args:Array Value) (w:World),(callFunc g args).run P w=.ok (.enter g args) w
 ext:∀g x,E.ext g=xM x->∀(args:Array Value) (w:World),(callFunc g args).run P w=((PT x args).run P w).andThen fun v w'=>.ok (.value v) w'
 eqs:∀t ti,E.eqs t=wg->E.ty t=xM ti->Yr P t ti
 mixed:P.follows .mixedOrders=wg
 Ny:∀g e,E.Ny g=xM e->Afp P g e:=by intro g e h; change xN=xM e at h; cases h
 wr:∀g W,E.wr g=xM W->Amt P g W:=by intro g e h; change xN=xM e at h; cases h
def Ops(c:Ctx)(w:World)(ρ:Operand->DV)(σ:Operand->Value)(op:Op):Prop:=∀x∈op.operands.toList,Bz c w (ρ x) (σ x)
section
variable{P:Program}{E:Env}{I0:Nat->Prop}{B:Nat}{A:Nat->Option Place}{h:DB}{w:World}
theorem Akl{c:Ctx}{x:Ext}{args:List DV}{vals:Array Value}{r:R2}(hr:Ame x args=xM r)(hreq:r.OE=wg)(hv:BN c w args vals.toList):
 ∃v w',(PT x vals).run P w=.ok v w'/\WB w w'/\Any r.v v/\r.BW=[]/\r.GV=[]:=by
 unfold Ame at hr;split at hr
 ·rename_i n;simp only[Ae] at hr; subst hr;simp only[BN] at hv;obtain⟨u,us,e,hu,rfl⟩:=hv;simp only[Bz] at hu;obtain⟨m,rfl,f⟩:=hu;have:vals=#[.float .f64 m]:=by apply yh.1; simpa using e
  subst this;exact⟨_,w,rfl,.inl rfl,fun _ _=>by simp only[Bz]; exact⟨m,rfl,f⟩,rfl,rfl⟩
 ·rename_i n;simp only[Ae] at hr; subst hr;simp only[BN] at hv;obtain⟨u,us,e,hu,rfl⟩:=hv;simp only[Bz] at hu;obtain⟨m,rfl,f⟩:=hu;have:vals=#[.float .f64 m]:=by apply yh.1; simpa using e
  subst this
  have hnm:n=m:=by
   rcases f with f | f
   ·exact f
   ·dsimp only at hreq;rw[f.1] at hreq; cases hreq
  subst hnm;exact⟨_,w,rfl,.inl rfl,fun _ _=>by simp only[Bz],rfl,rfl⟩
 ·rename_i n;simp only[Ae] at hr; subst hr;simp only[BN] at hv;obtain⟨u,us,e,hu,rfl⟩:=hv;simp only[Bz] at hu;subst hu;have:vals=#[.int .u64 n]:=by apply yh.1; simpa using e
  subst this;exact⟨_,w,rfl,.inl rfl,fun _ _=>by simp only[Bz]; exact⟨_,rfl,.inl rfl⟩,rfl,rfl⟩
 ·rename_i n;simp only[Ae] at hr; subst hr;simp only[BN] at hv;obtain⟨u,us,e,hu,rfl⟩:=hv;simp only[Bz] at hu;obtain⟨m,rfl,f⟩:=hu;have:vals=#[.int .u64 m]:=by apply yh.1; simpa using e
  subst this;exact⟨_,w,rfl,.inl rfl,fun _ _=>by simp only[Bz]; exact⟨_,rfl,by simpa using f⟩,rfl,rfl⟩
 ·rename_i n;simp only[Ae] at hr; subst hr;simp only[BN] at hv;obtain⟨u,us,e,hu,rfl⟩:=hv;simp only[Bz] at hu;obtain⟨m,rfl,f⟩:=hu;have:vals=#[.float .f64 m]:=by apply yh.1; simpa using e
  subst this;have hs:FloatKind.f64.format.sqrt m=Ieee.double.sqrt n:=NC.sqrt f;have hrun:PT .sqrt #[.float .f64 m]=(match FloatKind.f64.format.sqrt m with | some r=>pure (.float .f64 r) | none=>do pure (.float .f64 (<- choose (.nanBits .f64 m m))):Sem Value):=rfl;rw[hrun,hs];cases hq:Ieee.double.sqrt n with
  | some k=>exact⟨_,w,rfl,.inl rfl,Any.fl (.inl rfl),rfl,rfl⟩
  | none =>refine⟨.float .f64 ((Question.nanBits .f64 m m).cut (w.tape w.drawn (.nanBits .f64 m m))),w.drew,?_,.inr rfl,Any.fl (.inr ⟨Py,Ac9 _ _ _⟩),rfl,rfl⟩;simp only[Sem.run_bind,run_choose,Question.forced,Result.andThen_ok,Sem.run_pure,ye,if_false];rfl
 ·rename_i x y b;simp only[Ae] at hr; subst hr;dsimp only at hreq;simp only[BN] at hv;obtain⟨u,us,e,hu,u2,us2,rfl,hu2,u3,us3,rfl,hu3,rfl⟩:=hv;simp only[Bz] at hu hu2 hu3;subst hu hu2 hu3;have:vals=#[.int .u64 x,.int .u64 y,.int .u64 b]:=by apply yh.1; simpa using e
  subst this;refine⟨_,w,AdS x y b (A3 hreq) w,.inl rfl,fun _ _=>?_,rfl,rfl⟩;simp only[Bz];exact⟨_,rfl,by simp[BN,Bz]⟩
 ·cases hr
theorem AaP{c:Ctx}{ρ:Operand->DV}{σ:Operand->Value}{o:Option Operand}(hv:∀x∈o.toArray.toList,Bz c w (ρ x) (σ x)){lo:Option Int}
 (h:MQ ρ o=xM lo):GU lo (o.map σ):=by
 cases o with
 | none=>simp only[MQ,Ae] at h; subst h; rfl
 | some y =>have:=hv y (by simp);simp only[MQ] at h;cases hd:ρ y<;>simp only[hd,intOf,wC,Aj,reduceCtorEq,Ae] at h;subst h;rename_i k n;rw[hd] at this;simp only[Bz] at this;exact⟨k,by simp[this]⟩
theorem U3{d:DV}{i:Int}(h:intOf d=xM i):∃k,d=.int k i:=by cases d<;>simp only[intOf,reduceCtorEq,Ae] at h;subst h; exact⟨_,rfl⟩
theorem OM{c:Ctx}{ρ:Operand->DV}{σ:Operand->Value}:∀{l:List Operand},(∀x∈l,Bz c w (ρ x) (σ x))->BN c w (l.map ρ) (l.map σ)
 | [],_=>by simp[BN]
 | x::l,h=>by simp only[yq]; rw[BN.CS];exact⟨_,_,rfl,h x (by simp),OM fun y hy=>h y (AJ _ hy)⟩
theorem RD{c:Ctx}{ρ:Operand->DV}{σ:Operand->Value}:∀{l:List (Nat × Operand)},(∀x∈l.map (·.2),Bz c w (ρ x) (σ x))->Jj c w (l.map fun(i,x)=>(i,ρ x)) (l.map fun(i,x)=>(i,σ x))
 | [],_=>.nil
 | (i,x)::l,h=>.cons (h x (by simp)) (RD fun y hy=>h y (by simp only[yq]; exact AJ _ hy))
theorem AjB{c:Ctx}{a b d:DV}{va vb:Value}(ha:Bz c w a va)(hb:Bz c w b vb){gt:Bool}(h:maxD gt a b=xM d):
 ∃v,((if gt then Builtin.max2 va vb else Builtin.min2 va vb):Sem Value).run P w=.ok v w/\Bz c w d v:=by
 cases a<;>cases b<;>simp only[maxD,reduceCtorEq,Ae] at h;subst h;simp only[Bz] at ha hb;subst ha; subst hb;rename_i k x k' y;cases gt
 ·refine⟨_,rfl,?_⟩;simp only[Bz,Af];congr 1; omega
 ·refine⟨_,rfl,?_⟩;simp only[Bz,Aa];congr 1; omega
theorem U8{c:Ctx}{gt:Bool}:∀(l:List DV) (us:List Value) (a d:DV) (va:Value),Bz c w a va->BN c w l us->Sz gt a l=xM d ->
 ∃v,(us.foldlM (fun x y=>if gt then Builtin.max2 x y else Builtin.min2 x y) va:Sem Value).run P w=.ok v w/\Bz c w d v
 | [],us,a,d,va,ha,hl,h=>by simp only[Sz,Ae] at h; subst h;rw[BN.FU] at hl; subst hl;exact⟨va,rfl,ha⟩
 | b::l,us,a,d,va,ha,hl,h=>by
   rw[BN.CS] at hl;obtain⟨u,us,rfl,hu,hus⟩:=hl;simp only[Sz] at h;cases hm:maxD gt a b with
   | none=>simp[hm] at h
   | some c' =>simp only[hm,Aj] at h;obtain⟨v,h1,h2⟩:=AjB (P:=P) ha hu hm;obtain⟨v',h3,h4⟩:=U8 l us c' d v h2 hus h;exact⟨v',by simp only[List.foldlM_cons,Sem.run_bind,h1,Result.andThen_ok,h3],h4⟩
end
theorem Ah5{k:CK}{d:DV}{c:Ctx}{w:World}{v:Value}(h:Wl k d=wg)(hv:Bz c w d v):Bz c w (asC k d) v:=by
 unfold Wl at h;split at h
 ·have:=A3 h;subst this;exact hv
 ·have:=A3 h;subst this;exact hv
 ·simp only[asC,GC,Bz] at hv ⊢;subst hv;exact⟨xN,0,rfl,A7 _,.inl trivial⟩
 ·exact hv
 ·exact hv
 ·cases h
theorem Ah4{c:Ctx}{w:World}:∀(ks:List CK) (i:Nat) (row:List DV) (vs:List Value),(row.drop i).length=ks.length->isL ks i row=wg->BN c w (row.drop i) vs->BN c w (asL ks i row) vs
 | [],i,row,vs,hl,_,hv=>by have:row.drop i=[]:=AF hl;rw[this] at hv;exact hv
 | k::ks,i,row,vs,hl,h,hv=>by
   simp only[isL,Am] at h
   have hi:i<row.length:=by rw[zW,zt] at hl; omega
   have he:row.drop i=row.getD i .undef::row.drop (i+1):=by rw[List.drop_eq_getElem_cons hi,Al,As hi]; rfl
   rw[he] at hv;rw[BN.CS] at hv;obtain⟨u,us,rfl,h1,h2⟩:=hv;simp only[asL];rw[BN.CS];refine⟨u,us,rfl,Ah5 h.1 h1,Ah4 ks (i+1) row us ?_ h.2 h2⟩;rw[zW] at hl ⊢;rw[zt] at hl;omega
theorem Afe{ag:Bool}{adv:List CK}{r:R}(h:(S7 ag adv r).OE=wg):r.OE=wg/\(S7 ag adv r).BW=[]/\(S7 ag adv r).GV=[]:=by
 unfold S7 at h ⊢;split at h
 ·exact⟨h,rfl,rfl⟩
 ·cases ag with
  | true =>
    rw[Aa] at h ⊢;split at h
    ·simp only[Am] at h;exact⟨h.1,rfl,rfl⟩
    ·exact⟨h,rfl,rfl⟩
  | false =>rw[Af] at h ⊢;simp only[Am] at h;exact⟨h.1,rfl,rfl⟩
theorem Aio{ag:Bool}{adv:List CK}{r:R}{c:Ctx}{w:World}{v:Value}(h:(S7 ag adv r).OE=wg)(hv:Bz c w r.v v):Bz c w (S7 ag adv r).v v:=by
 unfold S7 at h ⊢;split at h
 ·exact hv
 ·cases ag with
  | true =>
    rw[Aa] at h ⊢;split at h
    ·rename_i l hr;rw[hr] at hv;simp only[Am,Ai] at h;simp only[Bz] at hv ⊢;obtain⟨vs,e,hl⟩:=hv;exact⟨vs,e,Ah4 _ 0 l _ (by rw[zJ]; exact h.2.1) h.2.2 (by rw[zJ]; exact hl)⟩
    ·exact hv
  | false =>rw[Af] at h ⊢;simp only[Am] at h;exact Ah5 h.2 hv
section
variable{P:Program}{E:Env}{I0:Nat->Prop}{B:Nat}{A:Nat->Option Place}{h:DB}{w:World}
theorem Aiv{t:TypeId}{ti:TI}(hf:CJ P t ti){nm:Nat}(hnm:A nm=xN):
 ∃w' A',(Instr.alloc t wg (.tuple #[])).run P w=.ok (.pointer (xM ⟨w.heap.size,0,xN⟩)) w'/\Iw I0 B A w [(nm,.box ti.zero)] [] A' w'/\Bz (Cd I0 B A' w') w' (.ptr nm 0 0) (.pointer (xM ⟨w.heap.size,0,xN⟩)):=by
 obtain⟨z,hz,hzr,_,_⟩:=hf.T9 w;refine⟨w.alloc (.cells z.cells t),Rm A [] nm ⟨.live,.box w.heap.size⟩,?_,Iw.alloc hnm rfl (fun b hb=>by cases hb; rfl) (fun _=>?_),?_⟩
 ·simp[Instr.alloc,hz,newVar,newRow]
 ·unfold Dr;exact⟨rfl,w.heap.size,t,z.cells,rfl,heap_alloc_new w _,hzr _ _⟩
 ·simp only[Bz];exact⟨rfl,_,Az rfl,.inr (by unfold Iv; exact⟨rfl,rfl⟩)⟩
theorem Amp{t:TypeId}{nm:Nat}(hnm:A nm=xN){d:DV}{v:Value}(hw:LX d=wg)(hv:Bz (Cd I0 B A w) w d v):
 ∃w' A',(Instr.box t v).run P w=.ok (.pointer (xM ⟨w.heap.size,0,xN⟩)) w'/\Iw I0 B A w [(nm,.box (cells d))] [] A' w'/\Bz (Cd I0 B A' w') w' (.ptr nm 0 0) (.pointer (xM ⟨w.heap.size,0,xN⟩)):=by
 refine⟨w.alloc (.cells v.cells t),Rm A [] nm ⟨.live,.box w.heap.size⟩,?_,Iw.alloc hnm rfl (fun b hb=>by cases hb; rfl) (fun hmv=>?_),?_⟩
 ·simp[Instr.box,newVar,newRow]
 ·unfold Dr;exact⟨rfl,w.heap.size,t,v.cells,rfl,heap_alloc_new w _,BN.D4 hmv.D4 _ _ (Sa hw hv)⟩
 ·simp only[Bz];exact⟨rfl,_,Az rfl,.inr (by unfold Iv; exact⟨rfl,rfl⟩)⟩
theorem Aec(he:Ix P E)(hm:Mem I0 B A h w){o:Oper}{nm:Nat}{ρ:Operand->DV}{σ:Operand->Value}(hops:Ops (Cd I0 B A w) w ρ σ o.op){r:R2}(hq:Ez E h nm ρ o.op=xM r)(hreq:r.OE=wg)
 (hnew:∀n ob,(n,ob)∈r.BW->A n=xN) (hnd:(r.BW.map (·.1)).Nodup) {K:Value->World->Prop}
 (hK:∀v w' A',Iw I0 B A w r.BW r.GV A' w'->Bz (Cd I0 B A' w') w' r.v v->K v w'):E2 P (execOp σ o) w K:=by
 obtain⟨dst,op,ty,pos,after,guard⟩:=o;dsimp only at hops hq
 have same:∀{d:DV} {v:Value},r.v=d->r.BW=[]->r.GV=[]->Bz (Cd I0 B A w) w d v->K v w:=by intro d v h1 h2 h3 h4;exact hK v w A (by rw[h2,h3]; exact Iw.refl (.inl rfl)) (by rw[h1]; exact h4)
 cases op
 case move x =>simp only[Ez,Ae] at hq; subst hq;exact E2.value rfl (same rfl rfl rfl (hops x (by simp[Op.operands])))
 case assign x =>simp only[Ez,Ae] at hq; subst hq;exact E2.value rfl (same rfl rfl rfl (hops x (by simp[Op.operands])))
 case alloc t =>
  simp only[Ez] at hq;cases hT:E.ty t with
  | none=>simp[hT] at hq
  | some ti =>simp only[hT,Aj,Ae] at hq; subst hq;obtain⟨w',A',h1,h2,h3⟩:=Aiv (P:=P) (I0:=I0) (B:=B) (w:=w) (he.ty _ _ hT) (hnew nm _ (zh.2 rfl));exact E2.lift h1 (hK _ w' A' h2 h3)
 case box t x =>
  simp only[Ez] at hq;cases hT:E.ty t with
  | none=>simp[hT] at hq
  | some ti =>
    simp only[hT,Aj] at hq;by_cases hc:(LX (ρ x)&&(cells (ρ x)).length==ti.size)=wg
    ·rw[hc,Aa,Ae] at hq; subst hq;simp only[Am] at hc;obtain⟨w',A',h1,h2,h3⟩:=Amp (P:=P) (t:=t) (hnew nm _ (zh.2 rfl)) hc.1 (hops x (by simp[Op.operands]));exact E2.lift h1 (hK _ w' A' h2 h3)
    ·simp only[zD] at hc; rw[hc] at hq; simp at hq
 case build t parts =>
  simp only[Ez] at hq;cases hT:E.ty t with
  | none=>simp[hT] at hq
  | some ti =>
  cases hp:SX E t with
  | none=>simp[hT,hp] at hq
  | some pl =>
  cases hfd:QX pl ti.zero (parts.toList.map fun(i,x)=>(i,ρ x)) with
  | none=>simp[hT,hp,hfd] at hq
  | some cs =>
    simp only[hT,hp,hfd,Aj,Ae] at hq; subst hq
    have hpr:Jj (Cd I0 B A w) w (parts.toList.map fun(i,x)=>(i,ρ x)) (parts.map fun(i,x)=>(i,σ x)).toList:=by rw[xm];exact RD (fun x hx=>hops x (by simpa[Op.operands] using hx))
    obtain⟨v,h1,h2⟩:=Aiq (P:=P) he.ty hT hp hpr hfd;exact E2.lift h1 (same rfl rfl rfl h2)
 case buildSlice t len parts =>
  simp only[Ez] at hq
  have hpr:Jj (Cd I0 B A w) w (parts.toList.map fun(i,x)=>(i,ρ x)) (parts.map fun(i,x)=>(i,σ x)).toList:=by rw[xm];exact RD (fun x hx=>hops x (by simpa[Op.operands] using hx))
  obtain⟨v,w',A',h1,h2,h3⟩:=UT (P:=P) he.ty hm hpr hq hnew;exact E2.lift h1 (hK _ w' A' h2 h3)
 case load t a =>
  simp only[Ez] at hq;cases hT:E.ty t with
  | none=>simp[hT] at hq
  | some ti =>
  cases hl:Wf h ti (ρ a) with
  | none=>simp[hT,hl] at hq
  | some r' =>simp only[hT,hl,Aj,Ae] at hq; subst hq;obtain⟨hr0,ho,hf⟩:=Afe hreq;obtain⟨v,h1,h2⟩:=Zm (P:=P) hm (he.ty _ _ hT) (hops a (by simp[Op.operands])) hl hr0;exact E2.lift h1 (same rfl ho hf (Aio hreq h2))
 case nilCheck x =>
  have hx:=hops x (by simp[Op.operands]);simp only[Ez] at hq;split at hq
  ·rename_i n i j hd;cases hal:Mg h n with
   | false=>simp[hal] at hq
   | true =>
   simp only[hal,Aa,Ae] at hq; subst hq;rw[hd] at hx;have hx':=hx;simp only[Bz] at hx;obtain⟨_,p,hp,hdd⟩:=hx;have hdd:=hdd.resolve_left (Rl hm hp hal)
   have:∃a,σ x=.pointer (xM a):=by
    unfold Iv at hdd;split at hdd
    ·exact⟨_,hdd.2⟩
    ·exact⟨_,hdd⟩
    ·exact hdd.elim
   obtain⟨a,ha⟩:=this;exact E2.value (by simp only[execOp,ha]; rfl) (same rfl rfl rfl (by rw[<- ha]; exact hx'))
  ·rename_i cs hd;simp only[Ae] at hq; subst hq;rw[hd] at hx;have hx':=hx;simp only[Bz] at hx;obtain⟨b,o,vs,ha,_⟩:=hx;exact E2.value (by simp only[execOp,ha]; rfl) (same rfl rfl rfl (by rw[<- ha]; exact hx'))
  ·rename_i f a c hd;simp only[Ae] at hq; subst hq;rw[hd] at hx;have hx':=hx;simp only[Bz] at hx;obtain⟨fs,cs,ha,_⟩:=hx;exact E2.value (by simp only[execOp,ha]; rfl) (same rfl rfl rfl (by rw[<- ha]; exact hx'))
  ·cases hq
 case binOp op t x y ty' =>
  simp only[Ez] at hq;cases hb:Ak2 E op t (ρ x) (ρ y) with
  | none=>simp[hb] at hq
  | some r' =>simp only[hb,Aj,Ae] at hq; subst hq;obtain⟨v,w',h1,h2,h3⟩:=Ak1 (P:=P) he.ty he.eqs w (x:=x) (y:=y) (hops x (by simp[Op.operands])) (hops y (by simp[Op.operands])) hb hreq;exact E2.lift h1 (hK v w' A (Iw.refl h2) (h3 _ _))
 case unOp op t x =>
  simp only[Ez] at hq;cases hb:unD op (ρ x) with
  | none=>simp[hb] at hq
  | some r' =>simp only[hb,Aj,Ae] at hq; subst hq;obtain⟨v,h1,h3⟩:=Alf (P:=P) w (hops x (by simp[Op.operands])) hb;exact E2.lift h1 (same rfl rfl rfl (h3 _ _))
 case convert src dst x =>
  simp only[Ez] at hq;cases hb:Adi E dst src (ρ x) with
  | none=>simp[hb] at hq
  | some r' =>simp only[hb,Aj,Ae] at hq; subst hq;obtain⟨v,h1,h3⟩:=Aii (P:=P) he.ty w (hops x (by simp[Op.operands])) hb;exact E2.lift h1 (same rfl rfl rfl (h3 _ _))
 case makeFunc fn first captured =>
  cases fn<;>simp only[Ez,reduceCtorEq,Ae] at hq;subst hq;rename_i f;refine E2.lift (v:=.func (.func f) (first.map σ) (captured.map σ)) (w':=w) rfl (same rfl rfl rfl ?_);simp only[Bz];refine⟨_,_,rfl,?_,?_⟩
  ·rw[xm]; exact OM fun x hx=>hops x (by simp[Op.operands]; exact .inl (by simpa using hx))
  ·rw[xm]; exact OM fun x hx=>hops x (by simp[Op.operands]; exact .inr (by simpa using hx))
 case makeSlice t l c =>simp only[Ez] at hq;obtain⟨v,w',A',h1,h2,h3⟩:=Vr (P:=P) he.ty hm (hops l (by simp[Op.operands])) (hops c (by simp[Op.operands])) hq hreq hnew;exact E2.lift h1 (hK _ w' A' h2 h3)
 case slice t x lo hi mx =>
  simp only[Ez] at hq;cases hlo:MQ ρ lo with
  | none=>simp[hlo] at hq
  | some lo' =>
  cases hhi:MQ ρ hi with
  | none=>simp[hlo,hhi] at hq
  | some hi' =>
  cases hmx:MQ ρ mx with
  | none=>simp[hlo,hhi,hmx] at hq
  | some mx' =>
  simp only[hlo,hhi,hmx,Aj] at hq;cases hs:Xa E h t (ρ x) lo' hi' mx' with
  | none=>simp[hs] at hq
  | some r' =>
    simp only[hs,Aj,Ae] at hq; subst hq;have m1:∀y∈lo.toArray.toList,Bz (Cd I0 B A w) w (ρ y) (σ y):=fun y hy=>hops y (by cases lo<;>simp at hy; subst hy; simp[Op.operands])
    have m2:∀y∈hi.toArray.toList,Bz (Cd I0 B A w) w (ρ y) (σ y):=fun y hy=>hops y (by cases hi<;>simp at hy; subst hy; simp[Op.operands])
    have m3:∀y∈mx.toArray.toList,Bz (Cd I0 B A w) w (ρ y) (σ y):=fun y hy=>hops y (by cases mx<;>simp at hy; subst hy; simp[Op.operands])
    obtain⟨v,h1,h2⟩:=AdN (P:=P) he.ty hm (hops x (by simp[Op.operands])) (AaP m1 hlo) (AaP m2 hhi) (AaP m3 hmx) hs hreq;exact E2.lift h1 (same rfl rfl rfl h2)
 case fieldAddr t x f =>
  simp only[Ez] at hq;cases hb:Nf E h t f (ρ x) with
  | none=>simp[hb] at hq
  | some r' =>simp only[hb,Aj,Ae] at hq; subst hq;obtain⟨v,h1,h3⟩:=Vw (P:=P) he.ty hm (hops x (by simp[Op.operands])) hb;exact E2.lift h1 (same rfl rfl rfl h3)
 case field t x f =>
  simp only[Ez] at hq;cases hb:XS E t f (ρ x) with
  | none=>simp[hb] at hq
  | some r' =>simp only[hb,Aj,Ae] at hq; subst hq;obtain⟨v,h1,h3⟩:=AeO (P:=P) he.ty (hops x (by simp[Op.operands])) hb;exact E2.lift h1 (same rfl rfl rfl h3)
 case indexAddr t x i =>
  simp only[Ez] at hq;cases hi:intOf (ρ i) with
  | none=>simp[hi] at hq
  | some n =>
  cases hb:MY E h t (ρ x) n with
  | none=>simp[hi,hb] at hq
  | some r' =>simp only[hi,hb,Aj,Ae] at hq; subst hq;obtain⟨k,hk⟩:=U3 hi;have hv:=hops i (by simp[Op.operands]);rw[hk] at hv; simp only[Bz] at hv;obtain⟨v,h1,h3⟩:=Vt (P:=P) (k:=k) he.ty hm (hops x (by simp[Op.operands])) hb hreq;exact E2.lift (by rw[hv]; exact h1) (same rfl rfl rfl h3)
 case index t x i =>
  simp only[Ez] at hq;cases hi:intOf (ρ i) with
  | none=>simp[hi] at hq
  | some n =>
  cases hb:XM E t (ρ x) n with
  | none=>simp[hi,hb] at hq
  | some r' =>simp only[hi,hb,Aj,Ae] at hq; subst hq;obtain⟨k,hk⟩:=U3 hi;have hv:=hops i (by simp[Op.operands]);rw[hk] at hv; simp only[Bz] at hv;obtain⟨v,h1,h3⟩:=AeF (P:=P) (k:=k) he.ty (hops x (by simp[Op.operands])) hb hreq;exact E2.lift (by rw[hv]; exact h1) (same rfl rfl rfl h3)
 case extract t i =>
  have hx:=hops t (by simp[Op.operands]);simp only[Ez] at hq;split at hq
  ·rename_i l hd;rw[hd] at hx;simp only[Bz] at hx;obtain⟨vs,hvs,hl⟩:=hx;cases hi:l[i]? with
   | none=>simp[hi] at hq
   | some d =>
     simp only[hi,Aj,Ae] at hq; subst hq;obtain⟨v,hv,hr⟩:=hl.get i d hi;have hv':vs[i]?=xM v:=by simpa using hv
     exact E2.lift (by rw[hvs]; simp[Instr.extract,hv']) (same rfl rfl rfl hr)
  ·cases hq
 case call c =>
  obtain⟨callee,args,ts⟩:=c;cases callee with
  | value f =>
    have hf:=hops f (by simp[Op.operands,Call.operands])
    have ha:BN (Cd I0 B A w) w (args.toList.map ρ) (args.map σ).toList:=by rw[xm]; exact OM fun x hx=>hops x (by simp[Op.operands,Call.operands]; exact .inr (by simpa using hx))
    simp only[Ez] at hq;split at hq
    ·rename_i g first captured hd
     rw[hd] at hf;simp only[Bz] at hf;obtain⟨fs,cs,hfv,hfs,hcs⟩:=hf
     have hrun:∀w,(execOp σ ⟨dst,.call ⟨.value f,args,ts⟩,ty,pos,after,guard⟩).run P w=(callFunc g (fs++args.map σ++cs)).run P w:=by intro w;simp only[execOp,resolve,hfv,Deferred.ofValue,Sem.run_bind,Sem.run_pure,Result.andThen_ok,invoke]
     split at hq
     ·rename_i x hx;split at hq
      ·have e1:fs=#[]:=by have:=hfs.length; simp at this; exact xn this.symm
       have e2:cs=#[]:=by have:=hcs.length; simp at this; exact xn this.symm
       subst e1; subst e2;obtain⟨v,w',h1,h2,h3,h4,h5⟩:=Akl (P:=P) hq hreq ha;refine E2.value (w':=w') (v:=v) ?_ (hK v w' A (by rw[h4,h5]; exact Iw.refl h2) (h3 _ _));rw[hrun,he.ext g x hx];simp[h1]
      ·cases hq
     ·have hall:BN (Cd I0 B A w) w (first++args.toList.map ρ++captured) (fs++args.map σ++cs).toList:=by rw[vI,vI];exact(hfs.append ha).append hcs
      have hcall:=Akz (P:=P) hm he.Il hq hreq hnew hnd hall;unfold E2
      have htab:∃e,E.Il g=xM e:=by
       unfold Adq at hq;cases h1:H4 h (first++args.toList.map ρ++captured) with
       | none=>simp only[h1,wC,reduceCtorEq] at hq
       | some a =>
         cases h2:E.Il g with
         | none=>simp only[h1,h2,Aj,wC,reduceCtorEq] at hq
         | some e=>exact⟨e,rfl⟩
      obtain⟨e,hte⟩:=htab;rw[hrun,he.call g e hte];exact hcall.mono fun en w' ⟨v,he',A',h1,h2⟩=>⟨v,he',hK v w' A' h1 h2⟩
    ·cases hq
  | invoke recv m=>simp[Ez] at hq
  | builtin b =>
    have ha:∀x∈args.toList,Bz (Cd I0 B A w) w (ρ x) (σ x):=fun x hx=>hops x (by simp[Op.operands,Call.operands]; exact(by simpa using hx))
    cases b
    case len =>
     simp only[Ez] at hq;split at hq
     ·rename_i x t hx ht;split at hq
      ·rename_i e _ hT;have hu:=(he.ty _ _ hT).desc;simp only[Da] at hu;cases hn:AjW h (ρ x) with
       | none=>simp[hn] at hq
       | some n =>simp only[hn,Aj,Ae] at hq; subst hq;obtain⟨ad,l,cap,hv,hln⟩:=AjV hm (ha x (by rw[hx]; simp)) hn;have e1:args=#[x]:=yh.1 hx;have e2:ts=#[t]:=yh.1 ht;subst e1; subst e2;refine E2.value (w':=w) (v:=.int .i64 n) ?_ (same rfl rfl rfl (by simp[Bz]));simp[execOp,resolve,invoke,builtin,Builtin.len_,hv,run_underlying hu,goInt,hln]
      ·cases hq
     ·cases hq
    case max =>
     simp only[Ez] at hq;split at hq
     ·rename_i x l hx;cases hn:Sz wg (ρ x) (l.map ρ) with
      | none=>simp[hn] at hq
      | some d =>simp only[hn,Aj,Ae] at hq; subst hq;have e1:args=(x::l).toArray:=yh.1 (by rw[hx]);subst e1;obtain⟨v,h1,h2⟩:=U8 (P:=P) (gt:=wg) _ _ _ _ _ (ha x (by simp)) (OM fun y hy=>ha y (by simp[hy])) hn;refine E2.value (w':=w) (v:=v) ?_ (same rfl rfl rfl h2);simp only[if_true] at h1;simp[execOp,resolve,invoke,builtin,Builtin.max_,h1]
     ·cases hq
    case min =>
     simp only[Ez] at hq;split at hq
     ·rename_i x l hx;cases hn:Sz wy (ρ x) (l.map ρ) with
      | none=>simp[hn] at hq
      | some d =>simp only[hn,Aj,Ae] at hq; subst hq;have e1:args=(x::l).toArray:=yh.1 (by rw[hx]);subst e1;obtain⟨v,h1,h2⟩:=U8 (P:=P) (gt:=wy) _ _ _ _ _ (ha x (by simp)) (OM fun y hy=>ha y (by simp[hy])) hn;refine E2.value (w':=w) (v:=v) ?_ (same rfl rfl rfl h2);simp only[ye,if_false] at h1;simp[execOp,resolve,invoke,builtin,Builtin.min_,h1]
     ·cases hq
    all_goals (simp[Ez] at hq)
 all_goals (simp[Ez] at hq)
end
theorem Sr:∀(vs cs:List DV) (j:Nat),j+vs.length<=cs.length->setCells cs j vs=cs.take j++vs++cs.drop (j+vs.length)
 | [],cs,j,_=>by simp[setCells]
 | v::vs,cs,j,h=>by
   simp only[zt] at h;simp only[setCells];rw[Sr vs (cs.set j v) (j+1) (by rw[xo]; omega)]
   have h1:(cs.set j v).take (j+1)=cs.take j++[v]:=by rw[List.take_succ_eq_append_getElem (by rw[xo]; omega)];rw[List.take_set_of_le (by omega)];simp
   have h2:(cs.set j v).drop (j+1+vs.length)=cs.drop (j+(v::vs).length):=by rw[List.drop_set_of_lt (by omega)];congr 1; simp only[zt]; omega
   rw[h1,h2]; simp
theorem Qt{c:Ctx}{w:World}{cs ds:List DV}{us vs:List Value}(hc:BN c w cs us)(hd:BN c w ds vs){j:Nat}(hj:j+ds.length<=cs.length):
 BN c w (setCells cs j ds) (us.take j++vs++us.drop (j+vs.length)):=by
 rw[Sr ds cs j hj,<- hd.length];exact((hc.take j).append hd).append (hc.drop _)
theorem Pr{w:World}{base:Nat}{e:TypeId}{size n cap g:Nat}{xs vs:List Value}(h:w.ownsRow base e size (.slice (xM ⟨g,0,xN⟩) n cap) n xs){o:Nat}(ho:o+vs.length<=n*size):
 ∃cur,w.heap[g]?=xM (.cells cur e (0,0))/\o+vs.length<=cur.size/\(w.setRow g (cur.toList.take o++vs++cur.toList.drop (o+vs.length)).toArray).ownsRow base e size (.slice (xM ⟨g,0,xN⟩) n cap) n (xs.take o++vs++xs.drop (o+vs.length)):=by
 obtain⟨h1,h2⟩:=h;rcases h2 with ⟨e,_⟩ | ⟨g',cap',cur,e,hb,hh,hnc,hm,hs,ht⟩
 ·cases e
 ·cases e;have hcur:n*size<=cur.size:=by rw[hs]; exact An _ hnc
  refine⟨cur,hh,by omega,?_,.inr ⟨g,cap,_,rfl,hb,setRow_heap w g cur _ e _ hh,hnc,hm,?_,?_⟩⟩
  ·simp only[A5,zV,zW]; omega
  ·simp only[List.size_toArray,A5,zV,zW,z7]; omega
  ·rw[<- ht]
   have hl:(cur.toList.take o++vs).length=o+vs.length:=by simp only[A5,zV,z7]; omega
   rw[List.take_append,List.take_of_length_le (by rw[hl]; exact ho),hl];congr 1
   ·congr 1;rw[List.take_take,ym (by omega)]
   ·rw[List.drop_take]
theorem S3{α:Type}{sz:Nat}:∀{rows:List (List α)},(∀r∈rows,r.length=sz)->∀(i:Nat) (r:List α),rows[i]?=xM r->∀(j:Nat) (vs:List α),j+vs.length<=sz ->
 (rows.set i (r.take j++vs++r.drop (j+vs.length))).flatten=rows.flatten.take (i*sz+j)++vs++rows.flatten.drop (i*sz+j+vs.length)
 | [],_,i,r,h,_,_,_=>by simp at h
 | r0::rows,hl,i,r,h,j,vs,hj=>by
   have h0:r0.length=sz:=hl r0 (by simp);cases i with
   | zero =>simp at h; subst h;simp only[List.set_cons_zero,yH,Nat.zero_mul,AO];rw[List.take_append_of_le_length (by omega),List.drop_append_of_le_length (by omega)];simp
   | succ i =>simp at h;have ih:=S3 (rows:=rows) (fun r hr=>hl r (by simp[hr])) i r h j vs hj;simp only[List.set_cons_succ,yH];rw[ih,yd];rw[show i*sz+sz+j=r0.length+(i*sz+j) by omega,show r0.length+(i*sz+j)+vs.length=r0.length+(i*sz+j+vs.length) by omega];rw[List.take_length_add_append,List.drop_length_add_append];simp
section
variable{P:Program}{E:Env}{I0:Nat->Prop}{B:Nat}{A:Nat->Option Place}{h:DB}{w:World}{t:TypeId}
theorem F0:∀{h:DB} {n:Nat} {x y:Bool × OB},look h n=xM x->∀m,look (V4 h n y) m=if m=n then xM y else look h m
 | [],n,x,y,hl,m=>by cases hl
 | (k,z)::h,n,x,y,hl,m=>by
   simp only[look] at hl;simp only[V4];by_cases hk:k=n
   ·subst hk;simp only[AE,Aa,look];by_cases hm:m=k
    ·subst hm; simp
    ·rw[show(k==m)=wy by simpa using fun e=>hm e.symm]; simp[hm]
   ·rw[show(k==n)=wy by simpa using hk] at hl ⊢;simp only[Af] at hl ⊢;simp only[look];by_cases hm:k=m
    ·subst hm; simp[hk]
    ·rw[show(k==m)=wy by simpa using hm];simp only[Af];exact F0 hl m
theorem Ry(hm:Mem I0 B A h w){n:Nat}{p:Place}(hp:A n=xM p)(hl:p.st=.live){g:Nat}(hg:p.FK=xM g){new:Array Value}{ob ob':OB}(hlk:look h n=xM (wy,ob))
 (hob:Hu A w A (w.setRow g new)->Dr (Cd I0 B A (w.setRow g new)) (w.setRow g new) p (wy,ob')):
 Mem I0 B A (V4 h n (wy,ob')) (w.setRow g new)/\Hu A w A (w.setRow g new):=by
 have hother:∀b,b≠g->(w.setRow g new).heap[b]?=w.heap[b]?:=fun b hb=>setRow_other w g b _ hb
 have hsize:(w.setRow g new).heap.size=w.heap.size:=by simp[World.setRow]
 have hmv:Hu A w A (w.setRow g new):=by refine⟨by rw[hsize]; exact A7 _,fun m q hq=>⟨q,hq,by by_cases hd:q.st=.dead; exact .inl hd; exact .inr ⟨hd,rfl⟩⟩,fun m q b hq hql hqb _=>⟨m,q,hq,hql,hqb⟩,fun b _ hb=>hother b (fun e=>hb n p hp hl (by rw[e]; exact hg))⟩
 refine⟨⟨by rw[hsize]; exact hm.hB,hm.Rp,fun m q fo hq hlo=>?_,fun m q b hq hd hb=>by rw[hsize]; exact hm.GF m q b hq hd hb,hm.inj⟩,hmv⟩;rw[F0 hlk] at hlo;by_cases hmn:m=n
 ·subst hmn;rw[Az rfl] at hlo;cases hlo;rw[hp] at hq; cases hq;exact hob hmv
 ·rw[Ay hmn] at hlo;have h1:=hm.obj m q fo hq hlo;by_cases hd:q.st=.dead
  ·obtain⟨fz,ob⟩:=fo;cases ob with
   | dead=>exact hd
   | box cs=>exact absurd hd (Cn (MO hm hq hlo).1)
   | Bh e k l=>exact absurd hd (Cn (Ej hm hq hlo).1)
   | C3 e sz l=>exact absurd hd (Cn (E9 hm hq hlo).1)
  ·exact Dr.D4 hmv.D4 rfl rfl (fun b hb=>hother b (fun e=>hmn (hm.inj m n q p b hq hp hd (by rw[hl]; simp) hb (by rw[hg,e])))) fo h1
def Pf(ns:List Nat)(A:Nat->Option Place)(w w':World):Prop:=∀m q b,m ∉ ns->A m=xM q->q.st≠.dead->q.FK=xM b->w'.heap[b]?=w.heap[b]?
theorem Og(hm:Mem I0 B A h w){n:Nat}{p:Place}(hp:A n=xM p)(hd:p.st≠.dead){g:Nat}(hg:p.FK=xM g)(new:Array Value):Pf [n] A w (w.setRow g new):=fun m q b hmn hq hqd hqb =>
 setRow_other w g b _ fun e=>hmn (by rw[hm.inj m n q p b hq hp hqd hd hqb (by rw[hg,e])]; exact zh.2 rfl)
theorem AdF(hty:∀t ti,E.ty t=xM ti->CJ P t ti)(hm:Mem I0 B A h w){a v:DV}{va vv:Value}(ha:Bz (Cd I0 B A w) w a va)(hv:Bz (Cd I0 B A w) w v vv){OE:Bool}{h':DB}
 (hs:Rz E h t a v=xM (OE,h')) (hreq:OE=wg):
 ∃w',(Instr.storeAt t va vv).run P w=.ok () w'/\Mem I0 B A h' w'/\Hu A w A w'/\Below B w w'/\(∀m,(look h' m).isSome=(look h m).isSome)/\Pf (AgT a) A w w'/\(∀m,m ∉ AgT a->look h' m=look h m)/\(∀m,m∈AgT a->look h m≠xN):=by
 subst hreq;unfold Rz at hs;cases hT:E.ty t with
 | none=>simp[hT] at hs
 | some ti =>
 simp only[hT,Aj] at hs;by_cases hc:(LX v&&(cells v).length==ti.size&&(cells v).all P3)=wg
 ·rw[hc,Aa] at hs;simp only[Am,beq_iff_eq] at hc;obtain⟨⟨hw,hcl⟩,hfl⟩:=hc;have hcr:=Sa hw hv;have hone:=Rk hfl hcr;have hvl:vv.cells.toList.length=ti.size:=by rw[<- hcr.length]; exact hcl
  have hsize:=(hty _ _ hT).H0 w
  have run:∀g o (cur:Array Value) e,va=.pointer (xM ⟨g,o,xN⟩)->w.heap[g]?=xM (.cells cur e (0,0))->o+vv.cells.toList.length<=cur.size ->
   (Instr.storeAt t va vv).run P w=.ok () (w.setRow g (cur.toList.take o++vv.cells.toList++cur.toList.drop (o+vv.cells.toList.length)).toArray):=by
   intro g o cur e hva hg hle;have h1:=run_storeCells_at P g o e vv.cells.toList 0 cur w hg (by simpa using hle) hone;simp only[AM] at h1;have hsz:¬vv.cells.size≠ti.size:=by simp only[z7] at hvl; simp[hvl]
   simp only[Instr.storeAt,hva,Instr.sureAddr,Sem.run_bind,Sem.run_pure,Result.andThen_ok,storeVar,hsize,Ay hsz,h1]
  have setB:∀g (new:Array Value),B<=g->Below B w (w.setRow g new):=fun g new hg =>
   ⟨rfl,rfl,rfl,by simp[World.setRow],fun k hk=>setRow_other w g k _ (by omega)⟩
  split at hs
  ·rename_i n i j;simp only[Bz] at ha;obtain⟨_,p,hp,hd⟩:=ha;split at hs
   ·rename_i cs hlk;by_cases hq:(i==0&&decide (j+ti.size<=cs.length))=wg
    ·rw[hq,Aa,Ae,Ak] at hs;obtain⟨_,rfl⟩:=hs;simp only[Am,beq_iff_eq,Ai] at hq;obtain⟨hst,b,e,cur,hk,hh,hls⟩:=MO hm hp hlk;have hd:=hd.resolve_left (Cn hst);unfold Iv at hd; rw[hk] at hd;obtain⟨_,hva⟩:=hd;have hle:j+vv.cells.toList.length<=cur.size:=by have:=hls.length; simp only[z7] at this hvl ⊢; omega
     have hblk:p.FK=xM b:=by unfold Place.FK; rw[hk]
     have hBb:=(hm.GF n p b hp (Cn hst) hblk).1
     obtain⟨h1,h2⟩:=Ry hm hp hst hblk (new:=(cur.toList.take j++vv.cells.toList++cur.toList.drop (j+vv.cells.toList.length)).toArray) (ob':=.box (setCells cs j (cells v))) hlk (fun hmv=>by unfold Dr;refine⟨hst,b,e,_,hk,setRow_heap w b cur _ e _ hh,?_⟩;exact Qt (BN.D4 hmv.D4 _ _ hls) (BN.D4 hmv.D4 _ _ hcr) (by rw[hcl]; exact hq.2))
     exact⟨_,run b j cur e hva hh hle,h1,h2,setB _ _ hBb,fun m=>by rw[F0 hlk]; split<;>simp_all,Og hm hp (Cn hst) hblk _,fun m hmn=>by rw[F0 hlk,Ay (fun e=>hmn (by rw[e]; exact zh.2 rfl))],fun m hmn=>by rw[zh.1 hmn,hlk]; simp⟩
    ·simp only[zD] at hq; rw[hq] at hs; simp at hs
   ·rename_i e k l hlk;split at hs
    ·rename_i k' x;by_cases hq:(j==0&&decide (k=k'))=wg
     ·rw[hq,Aa,Ae,Ak] at hs;obtain⟨hlt,rfl⟩:=hs;simp only[Am,beq_iff_eq,Ai] at hq hlt;obtain⟨rfl,rfl⟩:=hq;obtain⟨hst,sv,hk,ho⟩:=Ej hm hp hlk;have hd:=hd.resolve_left (Cn hst);obtain⟨g,cap,rfl,_,_⟩:=FH ho (by omega);unfold Iv at hd; rw[hk] at hd;simp only[AN,AM] at hd;simp only[Bz] at hv; subst hv;have hc1:(Value.int k x).cells.toList=[.int k x]:=rfl;obtain⟨cur,hh,hle,hrow⟩:=Pr ho (vs:=[.int k x]) (o:=i) (by simp; omega);have hblk:p.FK=xM g:=by unfold Place.FK; rw[hk]; rfl
      have hBb:=(hm.GF n p g hp (Cn hst) hblk).1
      obtain⟨h1,h2⟩:=Ry hm hp hst hblk (new:=(cur.toList.take i++[Value.int k x]++cur.toList.drop (i+[Value.int k x].length)).toArray) (ob':=.Bh e k (l.set i x)) hlk (fun hmv=>by
       unfold Dr;refine⟨hst,_,hk,?_⟩
       have e1:(l.set i x).map (Value.int k)=(l.map (Value.int k)).take i++[.int k x]++(l.map (Value.int k)).drop (i+[Value.int k x].length):=by rw[List.set_eq_take_append_cons_drop,Az hlt];simp
       rw[e1,xo];exact hrow)
      exact⟨_,run g i cur e hd hh hle,h1,h2,setB _ _ hBb,fun m=>by rw[F0 hlk]; split<;>simp_all,Og hm hp (Cn hst) hblk _,fun m hmn=>by rw[F0 hlk,Ay (fun e=>hmn (by rw[e]; exact zh.2 rfl))],fun m hmn=>by rw[zh.1 hmn,hlk]; simp⟩
     ·simp only[zD] at hq; rw[hq] at hs; simp at hs
    ·cases hs
   ·rename_i e sz l hlk;cases hlow:H4 h (cells v) with
    | none=>simp[hlow] at hs
    | some q =>
    obtain⟨vs,ns⟩:=q;simp only[hlow,Aj] at hs;by_cases hq:(decide (j+ti.size<=sz)&&ns.isEmpty)=wg
    ·rw[hq,Aa,Ae,Ak] at hs;obtain⟨hlt,rfl⟩:=hs;simp only[Am,Ai,List.isEmpty_iff] at hq hlt;obtain⟨hq,rfl⟩:=hq;obtain⟨hst,hsz,sv,rows,hk,hrr,hlen,ho⟩:=E9 hm hp hlk;have hd:=hd.resolve_left (Cn hst);obtain⟨g,cap,rfl,_,_⟩:=FH ho (by omega);unfold Iv at hd; rw[hk] at hd;have hlv:=KK (QG hm 8) (cells v) _ vs [] hlow hcr;have hvl2:vs.length=ti.size:=by rw[hlv.length]; exact hvl
     have hli:l[i]?=xM (l.getD i []):=by simp[vB,hlt]
     obtain⟨row,hrow,hlr⟩:=hrr.get i _ hli;have hrl:=(hlen row (yX hrow)).1
     have hin:i*sz+j+vv.cells.toList.length<=l.length*sz:=by have:=An sz (show i+1<=l.length by omega);rw[yd] at this; omega
     obtain⟨cur,hh,hle,hrow'⟩:=Pr ho (vs:=vv.cells.toList) (o:=i*sz+j) hin;have hblk:p.FK=xM g:=by unfold Place.FK; rw[hk]; rfl
     have hBb:=(hm.GF n p g hp (Cn hst) hblk).1
     obtain⟨h1,h2⟩:=Ry hm hp hst hblk (new:=(cur.toList.take (i*sz+j)++vv.cells.toList++cur.toList.drop (i*sz+j+vv.cells.toList.length)).toArray) (ob':=.C3 e sz (l.set i (setCells (l.getD i []) j vs))) hlk (fun hmv=>by
      unfold Dr;have hb:=hmv.D4 (I0:=I0) (B:=B);have wd:Ji (I5 (seen I0 B A w [])) (Cd I0 B A w).bare:=⟨fun b hb'=>hb'.elim id (fun⟨_,_,hn,_⟩=>absurd hn (by simp)),rfl,fun _=>rfl,fun _=>rfl⟩
      refine⟨hst,hsz,_,rows.set i (row.take j++vv.cells.toList++row.drop (j+vv.cells.toList.length)),hk,?_,?_,?_⟩
      ·refine(Dp.D4 hb.bare _ _ hrr).set i ?_;exact Qt (BN.D4 hb.bare _ _ hlr) (BN.D4 hb.bare _ _ (BN.Fa wd _ _ hlv)) (by rw[hlr.length,hrl]; omega)
      ·intro r hr;rcases List.mem_or_eq_of_mem_set hr with hr | rfl
       ·exact hlen r hr
       ·refine⟨by simp only[A5,zV,zW]; omega,fun u hu=>?_⟩;have hro:=(hlen row (yX hrow)).2;simp only[zQ] at hu;rcases hu with (hu | hu) | hu
        ·exact hro u (yZ hu)
        ·exact hone u hu
        ·exact hro u (yn hu)
      ·rw[S3 (fun r hr=>(hlen r hr).1) i row hrow j _ (by omega),xo];exact hrow')
     exact⟨_,run g _ cur e hd hh hle,h1,h2,setB _ _ hBb,fun m=>by rw[F0 hlk]; split<;>simp_all,Og hm hp (Cn hst) hblk _,fun m hmn=>by rw[F0 hlk,Ay (fun e=>hmn (by rw[e]; exact zh.2 rfl))],fun m hmn=>by rw[zh.1 hmn,hlk]; simp⟩
    ·simp only[zD] at hq; rw[hq] at hs; simp at hs
   ·cases hs
  ·cases hs
 ·simp only[zD] at hc; rw[hc] at hs; simp at hs
end
section
variable{P:Program}{E:Env}{I0:Nat->Prop}{B:Nat}{A:Nat->Option Place}{h:DB}{w:World}{t:TypeId}
theorem Nz{ty e:TypeId}{i:TypeInfo}(ht:P.underlying t=xM (.slice e))(hi:P.info? e=xM i){v:Value}{n size:Nat}{xs:List Value}(hown:w.ownsRow B e size v n xs)(a:Option Addr)(c:Nat):
 (Builtin.append_ #[t,t] ty #[v,.slice a 0 c]).run P w=.ok v w:=by
 rcases FG hown with ⟨rfl,rfl⟩ | ⟨g,cap,rfl,hc⟩
 ·cases a<;>simp[Builtin.append_,run_underlying ht,sizeOf,typeInfo,hi,Builtin.lenOf,Builtin.firstCells,loadCells,loadCellsFrom]
 ·cases a<;>simp[Builtin.append_,run_underlying ht,sizeOf,typeInfo,hi,Builtin.lenOf,Builtin.firstCells,loadCells,loadCellsFrom,hc,storeCells]
theorem Ns{ty e:TypeId}{ei:TI}(hu:P.underlying t=xM (.slice e))(hf:CJ P e ei)(hb:ei.bytes<=128)(hs:0<ei.size)(hB:B<=w.heap.size){v:Value}{n:Nat}{xs:List Value}(hown:w.ownsRow B e ei.size v n xs)
 {a:Option Addr} {m c:Nat} {news:List Value} (hl:news.length=m*ei.size) (hsrc:m=0\/∃b o,a=xM ⟨b,o,xN⟩/\Fp w b o news) (h1:∀u∈news,u.oneCell'=wg) (hlim:n+m<=Lf ei.bytes):
 ∃v' w',(Builtin.append_ #[t,t] ty #[v,.slice a m c]).run P w=.ok v' w'/\w'.ownsRow B e ei.size v' (n+m) (xs++news)/\w.grownBy w' v.ownBlock/\(v'.ownBlock=v.ownBlock\/∀b,v'.ownBlock=xM b->b=w.heap.size):=by
 obtain⟨i,z,hi,hsz,hby,hz,_,hzs,_⟩:=hf.info;rcases hsrc with rfl | ⟨b,o,rfl,hrd⟩
 ·have:news=[]:=AF (by omega);subst this;refine⟨v,w,Nz hu hi hown a c,by simpa using hown,⟨rfl,rfl,rfl,A7 _,fun _ _ _=>rfl⟩,.inl rfl⟩
 ·have hnews:∀j u,news[j]?=xM u->w.cell? ((⟨b,o,xN⟩:Addr).add j)=xM u:=fun j u hj=>by rw[Addr.add_lit]; exact hrd j u hj
  have hbytes:(n+m)*ei.bytes<=140737488355328:=Sx hlim hb;by_cases hm0:m=0
  ·subst hm0;have:news=[]:=AF (by omega);subst this;exact⟨v,w,Nz hu hi hown _ c,by simpa using hown,⟨rfl,rfl,rfl,A7 _,fun _ _ _=>rfl⟩,.inl rfl⟩
  ·obtain⟨v',w',hrun,hown',hg,_⟩:=run_append_own (P:=P) w B t ty e i z ei.size ei.bytes hu hi hz hsz hby hzs hs v n xs hown ⟨b,o,xN⟩ m c news hl hnews h1 (Uq hlim) hbytes hB;refine⟨v',w',hrun,hown',hg,?_⟩;have h63:n+m<=9223372036854775807:=by have:=Ur hlim; omega
   rcases hown.2 with ⟨rfl,rfl⟩ | ⟨g,cap,cur,rfl,hbg,hgc,hnc,hcm,hcs,htake⟩
   ·have hr:=run_append_nil (P:=P) w t ty e i z hu hi hz ⟨b,o,xN⟩ m c news (by rw[hsz]; exact hl) hnews (by omega) (by omega) (by rw[hby]; rw[AO] at hbytes; omega);rw[hr] at hrun;cases hrun;exact .inr fun b hb=>by cases hb; rfl
   ·by_cases hroom:n+m<=cap
    ·have hfit:n*i.size+news.length<=cur.size:=by rw[hsz,hl,hcs,<- AI]; exact An _ hroom
     have hr:=run_append_room (P:=P) w t ty e i hu hi g n cap cur hgc ⟨b,o,xN⟩ m c news (by rw[hsz]; exact hl) hnews h1 hroom hfit;rw[hr] at hrun;cases hrun;exact .inl rfl
    ·have holds:∀j u,xs[j]?=xM u->w.cell? ((⟨g,0,xN⟩:Addr).add j)=xM u:=hown.cells (g:=g) rfl;have hr:=run_append_grow (P:=P) w t ty e i z hu hi hz ⟨g,0,xN⟩ n cap xs (by rw[hsz]; exact hown.1) holds ⟨b,o,xN⟩ m c news (by rw[hsz]; exact hl) hnews (by omega) (by omega) (growslice_fits (by omega) (by rw[hby]; exact hbytes));rw[hr] at hrun;cases hrun;exact .inr fun b hb=>by cases hb; rfl
theorem RS(hm:Mem I0 B A h w){d:DV}{v:Value}(hv:Bz (Cd I0 B A w) w d v){k:IntKind}{l:Bb}(h0:J2 h k d=xM l):
 ∃a m c,v=.slice a m c/\m=l.length/\(m=0\/∃b o,a=xM ⟨b,o,xN⟩/\Fp w b o (l.map (Value.int k))):=by
 have plain:∀{a:Option Addr} {cap:Nat} {l:Bb} {ok:Nat->Prop},(l=[]\/∃b o,a=xM ⟨b,o,xN⟩/\ok b/\∀(i:Nat) n,l[i]?=xM n->w.cell? ⟨b,o+i,xN⟩=xM (.int k n)) ->
  (l.length=0\/∃b o,a=xM ⟨b,o,xN⟩/\Fp w b o (l.map (Value.int k))):=by
  intro a cap l ok hh;refine hh.imp (fun e=>by rw[e]; rfl) fun⟨b,o,e,_,hr⟩=>⟨b,o,e,fun i u hu=>?_⟩
  rw[AW] at hu;cases hli:l[i]? with
  | none=>rw[hli] at hu; cases hu
  | some n=>rw[hli] at hu; cases hu; exact hr i n hli
 unfold J2 at h0;split at h0
 ·simp only[Ae] at h0; subst h0; simp only[Bz] at hv; exact⟨xN,0,0,hv,rfl,.inl rfl⟩
 ·cases h0
 ·rename_i g k' l' hg;by_cases hk:k=k'
  ·subst hk;simp only[decide_true,Aa,Ae] at h0; subst h0;cases g with
   | own i e=>exact absurd rfl (hg i e)
   | arg=>simp only[Bz] at hv; obtain⟨a,cap,rfl,_,hh⟩:=hv; exact⟨a,_,cap,rfl,rfl,plain (cap:=cap) hh⟩
   | BF=>simp only[Bz] at hv; obtain⟨a,cap,rfl,_,hh⟩:=hv; exact⟨a,_,cap,rfl,rfl,plain (cap:=cap) hh⟩
  ·simp[hk] at h0
 ·rename_i n;simp only[Bz] at hv;obtain⟨_,p,hp,hd⟩:=hv;split at h0
  ·rename_i fz e k' l' hlk;by_cases hk:k=k'
   ·subst hk;simp only[decide_true,Aa,Ae] at h0; subst h0;obtain⟨hst,sv,hk,ho⟩:=Ej hm hp hlk;obtain⟨size,hk'⟩:=hd.resolve_left (Cn hst);rw[hk] at hk'; cases hk';obtain⟨a,cap,rfl,_,hh⟩:=IG hk ho (ER ho) (ok:=fun _=>True) (fun _ _=>trivial);simp only[zJ,yo] at hh;refine⟨a,_,cap,?_,rfl,plain (cap:=cap) hh⟩;simp
   ·simp[hk] at h0
  ·cases h0
 ·rename_i n off len;simp only[Bz] at hv;obtain⟨_,p,hp,hd⟩:=hv;split at h0
  ·rename_i fz e k' l' hlk;by_cases hk:k=k'
   ·subst hk;simp only[decide_true,Aa,Ae] at h0; subst h0;obtain⟨hst,sv,hk,ho⟩:=Ej hm hp hlk;obtain⟨sv',size,hk',hs⟩:=hd.resolve_left (Cn hst);rw[hk] at hk'; cases hk';obtain⟨a,cap,rfl,_,hh⟩:=IG hk ho hs (ok:=fun _=>True) (fun _ _=>trivial);exact⟨a,_,cap,rfl,rfl,plain (cap:=cap) hh⟩
   ·simp[hk] at h0
  ·cases h0
 ·cases h0
theorem Ws(hm:Mem I0 B A h w){d:DV}{v:Value}(hv:Bz (Cd I0 B A w) w d v){sz:Nat}{l:List (List DV)}(h0:Md h sz d=xM l):
 ∃a m c rows,v=.slice a m c/\m=l.length/\Dp (Cd I0 B A w).bare w l rows/\(∀r∈rows,r.length=sz/\∀u∈r,u.oneCell'=wg)/\(m=0\/∃b o,a=xM ⟨b,o,xN⟩/\Fp w b o rows.flatten):=by
 have plain:∀{a:Option Addr} {l:List (List DV)} {ok:Nat->Prop},(l=[]\/∃b o rows,a=xM ⟨b,o,xN⟩/\ok b/\Dp (Cd I0 B A w).bare w l rows/\(∀r∈rows,r.length=sz/\∀u∈r,u.oneCell'=wg)/\∀(i:Nat) u,rows.flatten[i]?=xM u->w.cell? ⟨b,o+i,xN⟩=xM u) ->
  ∃rows,Dp (Cd I0 B A w).bare w l rows/\(∀r∈rows,r.length=sz/\∀u∈r,u.oneCell'=wg)/\(l.length=0\/∃b o,a=xM ⟨b,o,xN⟩/\Fp w b o rows.flatten):=by
  intro a l ok hh;rcases hh with rfl | ⟨b,o,rows,e,_,hrr,hlen,hr⟩
  ·exact⟨[],by simp[Dp],by simp,.inl rfl⟩
  ·exact⟨rows,hrr,hlen,.inr ⟨b,o,e,hr⟩⟩
 unfold Md at h0;split at h0
 ·simp only[Ae] at h0; subst h0; simp only[Bz] at hv; exact⟨xN,0,0,[],hv,rfl,by simp[Dp],by simp,.inl rfl⟩
 ·cases h0
 ·rename_i g sz' l' hg;by_cases hk:sz=sz'
  ·subst hk;simp only[AE,Aa,Ae] at h0; subst h0;cases g with
   | own i e=>exact absurd rfl (hg i e)
   | arg=>simp only[Bz] at hv; obtain⟨a,cap,rfl,_,hh⟩:=hv; obtain⟨rows,q1,q2,q3⟩:=plain hh; exact⟨a,_,cap,rows,rfl,rfl,q1,q2,q3⟩
   | BF=>simp only[Bz] at hv; obtain⟨a,cap,rfl,_,hh⟩:=hv; obtain⟨rows,q1,q2,q3⟩:=plain hh; exact⟨a,_,cap,rows,rfl,rfl,q1,q2,q3⟩
  ·rw[show(sz==sz')=wy by simpa using hk] at h0; simp at h0
 ·rename_i n;simp only[Bz] at hv;obtain⟨_,p,hp,hd⟩:=hv;split at h0
  ·rename_i fz e sz' l' hlk;by_cases hk:sz=sz'
   ·subst hk;simp only[AE,Aa,Ae] at h0; subst h0;obtain⟨hst,_,sv,rows,hk,hrr,hlen,ho⟩:=E9 hm hp hlk;obtain⟨size,hk'⟩:=hd.resolve_left (Cn hst);rw[hk] at hk'; cases hk';obtain⟨a,cap,rfl,_,hh⟩:=IF hk hrr hlen ho (ER ho) (ok:=fun _=>True) (fun _ _=>trivial);simp only[zJ,yo] at hh;obtain⟨rows',q1,q2,q3⟩:=plain hh;refine⟨a,_,cap,rows',?_,rfl,q1,q2,q3⟩;simp
   ·rw[show(sz==sz')=wy by simpa using hk] at h0; simp at h0
  ·cases h0
 ·rename_i n off len;simp only[Bz] at hv;obtain⟨_,p,hp,hd⟩:=hv;split at h0
  ·rename_i fz e sz' l' hlk;by_cases hk:sz=sz'
   ·subst hk;simp only[AE,Aa,Ae] at h0; subst h0;obtain⟨hst,_,sv,rows,hk,hrr,hlen,ho⟩:=E9 hm hp hlk;obtain⟨sv',size,hk',hs⟩:=hd.resolve_left (Cn hst);rw[hk] at hk'; cases hk';obtain⟨a,cap,rfl,_,hh⟩:=IF hk hrr hlen ho hs (ok:=fun _=>True) (fun _ _=>trivial);obtain⟨rows',q1,q2,q3⟩:=plain hh;exact⟨a,_,cap,rows',rfl,rfl,q1,q2,q3⟩
   ·rw[show(sz==sz')=wy by simpa using hk] at h0; simp at h0
  ·cases h0
 ·cases h0
def Pn(A:Nat->Option Place)(ND:Option Nat)(nm:Nat)(p:Place):Nat->Option Place:=fun m =>
 if m=nm then xM p else if ND=xM m then (A m).map fun q=>{ q with st:=.dead } else A m
theorem Nt(hm:Mem I0 B A h w){nm:Nat}(hnm:A nm=xN){ND:Option Nat}{v v':Value}{sz:Nat}{w':World}(hg:w.grownBy w' v.ownBlock)
 (hold:∀b,v.ownBlock=xM b->∃n p,ND=xM n/\A n=xM p/\p.st=.live/\p.FK=xM b)
 (hblk:v'.ownBlock=v.ownBlock\/∀b,v'.ownBlock=xM b->b=w.heap.size)
 {h':DB} {ob:OB} (hlk:∀m fo,look h' m=xM fo->(m=nm/\fo=(wy,ob))\/(m≠nm/\ND=xM m/\fo=(wy,.dead))\/(m≠nm/\ND≠xM m/\look h m=xM fo))
 (hlt:∀b,v'.ownBlock=xM b->B<=b/\b<w'.heap.size)
 (hob:Hu A w (Pn A ND nm ⟨.live,.row v' sz⟩) w'->Dr (Cd I0 B (Pn A ND nm ⟨.live,.row v' sz⟩) w') w' ⟨.live,.row v' sz⟩ (wy,ob)):
 Mem I0 B (Pn A ND nm ⟨.live,.row v' sz⟩) h' w'/\Hu A w (Pn A ND nm ⟨.live,.row v' sz⟩) w'/\Below B w w':=by
 have inv:∀m q,Pn A ND nm ⟨.live,.row v' sz⟩ m=xM q->(m=nm/\q=⟨.live,.row v' sz⟩)\/(m≠nm/\ND=xM m/\∃r,A m=xM r/\q={ r with st:=.dead })\/(m≠nm/\ND≠xM m/\A m=xM q):=by
  intro m q hq;unfold Pn at hq;split at hq
  ·cases hq; exact .inl ⟨‹_›,rfl⟩
  ·split at hq
   ·cases hA:A m with
    | none=>simp[hA] at hq
    | some r=>simp only[hA,z5,Ae] at hq; exact .inr (.inl ⟨‹_›,‹_›,r,rfl,hq.symm⟩)
   ·exact .inr (.inr ⟨‹_›,‹_›,hq⟩)
 have hmv:Hu A w (Pn A ND nm ⟨.live,.row v' sz⟩) w':=by
  refine⟨hg.size,fun m q hq=>?_,fun m q b hq hl hb hlt=>?_,fun b hb hnl=>hg.block b hb (fun e=>?_)⟩
  ·have hne:m≠nm:=fun e=>by rw[e,hnm] at hq; cases hq
   unfold Pn;rw[Ay hne];by_cases ho:ND=xM m
   ·rw[Az ho,hq]; exact⟨_,rfl,.inl rfl⟩
   ·rw[Ay ho]; exact⟨q,hq,by by_cases hd:q.st=.dead; exact .inl hd; exact .inr ⟨hd,rfl⟩⟩
  ·rcases inv m q hq with ⟨_,rfl⟩ | ⟨_,_,r,_,rfl⟩ | ⟨_,_,hA⟩
   ·rcases hblk with e | e
    ·have hb':v.ownBlock=xM b:=by rw[<- e]; exact hb
     obtain⟨n,p,_,h2,h3,h4⟩:=hold b hb';exact⟨n,p,h2,h3,h4⟩
    ·have:=e b hb; omega
   ·cases hl
   ·exact⟨m,q,hA,hl,hb⟩
  ·obtain⟨n,p,_,h2,h3,h4⟩:=hold b e.symm;exact hnl n p h2 h3 h4
 refine⟨⟨AL hm.hB hg.size,hm.Rp,fun m q fo hq hlo=>?_,fun m q b hq hd hb=>?_,fun m m' q q' b hq hq' hd hd' hb hb'=>?_⟩,hmv,⟨hg.os,hg.tape,hg.output,hg.size,fun k hk=>hg.block k (AP hk hm.hB) (fun e=>?_)⟩⟩
 ·rcases inv m q hq with ⟨rfl,rfl⟩ | ⟨hne,ho,r,hA,rfl⟩ | ⟨hne,ho,hA⟩
  ·rcases hlk m fo hlo with ⟨_,rfl⟩ | ⟨hne,_⟩ | ⟨hne,_⟩
   ·exact hob hmv
   ·exact absurd rfl hne
   ·exact absurd rfl hne
  ·rcases hlk m fo hlo with ⟨e,_⟩ | ⟨_,_,rfl⟩ | ⟨_,ho',_⟩
   ·exact absurd e hne
   ·unfold Dr; rfl
   ·exact absurd ho ho'
  ·rcases hlk m fo hlo with ⟨e,_⟩ | ⟨_,ho',_⟩ | ⟨_,_,hl⟩
   ·exact absurd e hne
   ·exact absurd ho' ho
   ·have h1:=hm.obj m q fo hA hl;by_cases hd:q.st=.dead
    ·obtain⟨fz,ob⟩:=fo;cases ob with
     | dead=>exact hd
     | box cs=>exact absurd hd (Cn (MO hm hA hl).1)
     | Bh e k l=>exact absurd hd (Cn (Ej hm hA hl).1)
     | C3 e sz l=>exact absurd hd (Cn (E9 hm hA hl).1)
    ·refine Dr.D4 hmv.D4 rfl rfl (fun b hb=>hg.block b (hm.GF m q b hA hd hb).2 (fun e=>?_)) fo h1;obtain⟨n,p,h1,h2,h3,h4⟩:=hold b e.symm;have:=hm.inj m n q p b hA h2 hd (by rw[h3]; simp) hb h4;subst this;exact ho h1
 ·rcases inv m q hq with ⟨_,rfl⟩ | ⟨_,_,r,_,rfl⟩ | ⟨_,_,hA⟩
  ·exact hlt b hb
  ·exact absurd rfl hd
  ·have:=hm.GF m q b hA hd hb; have:=hg.size; omega
 ·have hfreshcase:∀m q,Pn A ND nm ⟨.live,.row v' sz⟩ m=xM q->q.st≠.dead->q.FK=xM b->m=nm\/(∃r,A m=xM r/\r.st≠.dead/\r.FK=xM b/\ND≠xM m):=by
   intro m q hq hd hb;rcases inv m q hq with ⟨e,_⟩ | ⟨_,_,r,_,rfl⟩ | ⟨_,ho,hA⟩
   ·exact .inl e
   ·exact absurd rfl hd
   ·exact .inr ⟨q,hA,hd,hb,ho⟩
  have hclash:∀m q m' r,m=nm->Pn A ND nm ⟨.live,.row v' sz⟩ m=xM q->q.FK=xM b->A m'=xM r->r.st≠.dead->r.FK=xM b->ND≠xM m'->False:=by
   intro m q m' r e hq hb hA hd hrb ho;rcases inv m q hq with ⟨_,rfl⟩ | ⟨hne,_⟩ | ⟨hne,_⟩
   ·have hb':v'.ownBlock=xM b:=hb;rcases hblk with e' | e'
    ·rw[e'] at hb';obtain⟨n,p,h1,h2,h3,h4⟩:=hold b hb';have:=hm.inj m' n r p b hA h2 hd (by rw[h3]; simp) hrb h4;subst this;exact ho h1
    ·have:=e' b hb';have:=(hm.GF m' r b hA hd hrb).2;omega
   ·exact hne e
   ·exact hne e
  rcases hfreshcase m q hq hd hb with e | ⟨r,hA,hrd,hrb,ho⟩
  ·rcases hfreshcase m' q' hq' hd' hb' with e' | ⟨r',hA',hrd',hrb',ho'⟩
   ·rw[e,e']
   ·exact(hclash m q m' r' e hq hb hA' hrd' hrb' ho').elim
  ·rcases hfreshcase m' q' hq' hd' hb' with e' | ⟨r',hA',hrd',hrb',ho'⟩
   ·exact(hclash m' q' m r e' hq' hb' hA hrd hrb ho).elim
   ·exact hm.inj m m' r r' b hA hA' hrd hrd' hrb hrb'
 ·obtain⟨n,p,_,h2,h3,h4⟩:=hold k e.symm;have:=(hm.GF n p k h2 (by rw[h3]; simp) h4).1;omega
end
section
variable{P:Program}{E:Env}{I0:Nat->Prop}{B:Nat}{A:Nat->Option Place}{h:DB}{w:World}{t:TypeId}
theorem AbO(hty:∀t ti,E.ty t=xM ti->CJ P t ti)(hm:Mem I0 B A h w){nm:Nat}(hnm:A nm=xN){ty:TypeId}{s x v:DV}{vs vx:Value}(hs:Bz (Cd I0 B A w) w s vs)(hx:Bz (Cd I0 B A w) w x vx){OE:Bool}{h':DB}
 (ha:LS E h nm t s x=xM (OE,v,h')) (hreq:OE=wg):
 ∃v' w' A',(Builtin.append_ #[t,t] ty #[vs,vx]).run P w=.ok v' w'/\Mem I0 B A' h' w'/\Hu A w A' w'/\Below B w w'/\Bz (Cd I0 B A' w') w' v v' /\
  (∀m p,A' m=xM p->A m=xN->m=nm)/\(∀m,(look h' m).isSome=(decide (m=nm)||(look h m).isSome))/\Pf (X9 s) A w w'/\(∀m q,m ∉ X9 s->A m=xM q->A' m=xM q) /\
  (∀m,m ∉ X9 s->m≠nm->look h' m=look h m)/\(∀m,m∈X9 s->look h m≠xN)/\look h nm=xN:=by
 subst hreq;unfold LS at ha;split at ha
 ·rename_i e _ hT;have hu:=(hty _ _ hT).desc;simp only[Da] at hu;cases hE:E.ty e with
  | none=>simp[hE] at ha
  | some ei =>
  simp only[hE,Aj] at ha;by_cases hq:(decide (ei.bytes<=128)&&decide (0<ei.size)&&(look h nm).isNone)=wg
  ·rw[hq,Aa] at ha;simp only[Am,Ai,Option.isNone_iff_eq_none] at hq;obtain⟨⟨hq1,hq2⟩,hq3⟩:=hq;have hei:=hty _ _ hE
   have hne:∀{ND:Option Nat} {p:Place} m q,Pn A ND nm p m=xM q->A m=xN->m=nm:=by
    intro ND p m q hq hA;unfold Pn at hq;split at hq
    ·assumption
    ·split at hq
     ·rw[hA] at hq; cases hq
     ·rw[hA] at hq; cases hq
   have ltB:∀{w':World} {sz n:Nat} {v':Value} {xs:List Value},w'.ownsRow B e sz v' n xs->∀b,v'.ownBlock=xM b->B<=b/\b<w'.heap.size:=fun ho b hb=>ho.lt b hb
   have keepN:∀{w':World},w.grownBy w' xN->Pf [] A w w':=fun hg m q b _ hq hqd hqb=>hg.block b (hm.GF m q b hq hqd hqb).2 (by simp)
   have sameN:∀{p:Place} m q,m ∉ ([]:List Nat)->A m=xM q->Pn A xN nm p m=xM q:=by intro p m q _ hq;unfold Pn;rw[Ay (fun e=>by rw[e,hnm] at hq; cases hq),Ay (by simp)];exact hq
   have sameO:∀{n:Nat} {p:Place} m q,m ∉ [n]->A m=xM q->Pn A (xM n) nm p m=xM q:=by intro n p m q hn hq;unfold Pn;rw[Ay (fun e=>by rw[e,hnm] at hq; cases hq),Ay (fun e=>hn (by rw[xT e]; exact zh.2 rfl))];exact hq
   have keepO:∀{n:Nat} {p:Place} {b':Option Nat} {w':World},A n=xM p->p.st≠.dead->(∀b,b'=xM b->p.FK=xM b)->w.grownBy w' b'->Pf [n] A w w':=fun {n p b' w'} hp hd hb hg m q b hn hq hqd hqb =>
    hg.block b (hm.GF m q b hq hqd hqb).2 (fun e=>hn (by rw[hm.inj m n q p b hq hp hqd hd hqb (hb b e.symm)]; exact zh.2 rfl))
   split at ha
   ·
    simp only[Bz] at hs; subst hs;have hown:w.ownsRow B e ei.size (.slice xN 0 0) 0 []:=World.ownsRow_nil w B e ei.size
    have hlk:∀ob m fo,look ((nm,wy,ob)::h) m=xM fo->(m=nm/\fo=(wy,ob))\/(m≠nm/\(xN:Option Nat)=xM m/\fo=(wy,.dead))\/(m≠nm/\(xN:Option Nat)≠xM m/\look h m=xM fo):=by
     intro ob m fo hl;simp only[look] at hl;by_cases e:nm=m
     ·subst e; simp at hl; exact .inl ⟨rfl,hl.symm⟩
     ·rw[show(nm==m)=wy by simpa using e] at hl;exact .inr (.inr ⟨fun e'=>e e'.symm,by simp,hl⟩)
    have hsame:∀ob m,m≠nm->look ((nm,wy,ob)::h) m=look h m:=by intro ob m hm';simp only[look,show(nm==m)=wy by simpa using fun e:nm=m=>hm' e.symm,Af]
    have hdom:∀ob m,(look ((nm,wy,ob)::h) m).isSome=(decide (m=nm)||(look h m).isSome):=by
     intro ob m;simp only[look];by_cases e:nm=m
     ·subst e; simp
     ·rw[show(nm==m)=wy by simpa using e]; simp[show ¬m=nm from fun e'=>e e'.symm]
    split at ha
    ·rename_i k hk;by_cases hs1:ei.size=1
     ·simp only[hs1,AE,Aa] at ha;cases hel:J2 h k x with
      | none=>simp[hel] at ha
      | some l =>
        simp only[hel,Aj,Ae,Ak,Ai] at ha;obtain⟨hlim,rfl,rfl⟩:=ha;obtain⟨a,m,c,rfl,rfl,hsrc⟩:=RS hm hx hel;obtain⟨v',w',hrun,hown',hg,hb⟩:=Ns (P:=P) (ty:=ty) hu hei hq1 hq2 hm.hB hown (a:=a) (c:=c) (news:=l.map (Value.int k)) (by rw[hs1]; simp) hsrc (by simp[Value.oneCell']) (by simpa using hlim)
        obtain⟨h1,h2,h3⟩:=Nt hm hnm (ND:=xN) (v:=.slice xN 0 0) (sz:=1) hg (fun b hb=>by cases hb) hb (hlk (.Bh e k l)) (ltB hown') (fun _=>by unfold Dr;refine⟨rfl,v',rfl,?_⟩;rw[hs1] at hown';have q:=hown';simp only[AO,zT] at q;exact q)
        exact⟨v',w',_,hrun,h1,h2,h3,by simp only[Bz]; exact⟨GJ hown',_,Az rfl,.inr ⟨1,rfl⟩⟩,hne,hdom _,keepN hg,sameN,fun m _ hmn=>hsame _ m hmn,fun m hmn=>absurd hmn (by simp[X9]),hq3⟩
     ·rw[show(ei.size==1)=wy by simpa using hs1] at ha; simp at ha
    ·cases hel:Md h ei.size x with
     | none=>simp[hel] at ha
     | some l =>
       simp only[hel,Aj,Ae,Ak,Ai] at ha;obtain⟨hlim,rfl,rfl⟩:=ha;obtain⟨a,m,c,rows,rfl,rfl,hrr,hlen,hsrc⟩:=Ws hm hx hel
       obtain⟨v',w',hrun,hown',hg,hb⟩:=Ns (P:=P) (ty:=ty) hu hei hq1 hq2 hm.hB hown (a:=a) (c:=c) (news:=rows.flatten) (by rw[Je (fun r hr=>(hlen r hr).1),hrr.length]) hsrc (fun u hu=>by obtain⟨r,hr,hur⟩:=List.mem_flatten.1 hu;exact(hlen r hr).2 u hur) (by simpa using hlim)
       obtain⟨h1,h2,h3⟩:=Nt hm hnm (ND:=xN) (v:=.slice xN 0 0) (sz:=ei.size) hg (fun b hb=>by cases hb) hb (hlk (.C3 e ei.size l)) (ltB hown') (fun hmv=>by unfold Dr;refine⟨rfl,hq2,v',rows,rfl,Dp.D4 (hmv.D4 (I0:=I0) (B:=B)).bare _ _ hrr,hlen,?_⟩;have q:=hown';simp only[AO,zT] at q;exact q)
       exact⟨v',w',_,hrun,h1,h2,h3,by simp only[Bz]; exact⟨GJ hown',_,Az rfl,.inr ⟨_,rfl⟩⟩,hne,hdom _,keepN hg,sameN,fun m _ hmn=>hsame _ m hmn,fun m hmn=>absurd hmn (by simp[X9]),hq3⟩
   ·
    rename_i n;simp only[Bz] at hs;obtain⟨_,p,hp,hd⟩:=hs
    have hlk:∀{ob0 ob:OB},look h n=xM (wy,ob0)->∀m fo,look ((nm,wy,ob)::V4 h n (wy,.dead)) m=xM fo->(m=nm/\fo=(wy,ob))\/(m≠nm/\(xM n:Option Nat)=xM m/\fo=(wy,.dead))\/(m≠nm/\(xM n:Option Nat)≠xM m/\look h m=xM fo):=by
     intro ob0 ob hl0 m fo hl;simp only[look] at hl;by_cases e:nm=m
     ·subst e; simp at hl; exact .inl ⟨rfl,hl.symm⟩
     ·rw[show(nm==m)=wy by simpa using e] at hl;simp only[Af] at hl;rw[F0 hl0] at hl;by_cases e':m=n
      ·subst e'; rw[Az rfl] at hl; cases hl; exact .inr (.inl ⟨fun e'=>e e'.symm,rfl,rfl⟩)
      ·rw[Ay e'] at hl;exact .inr (.inr ⟨fun e'=>e e'.symm,fun e''=>e' (xT e'').symm,hl⟩)
    have hsame:∀{ob0 ob:OB},look h n=xM (wy,ob0)->∀m,m ∉ [n]->m≠nm->look ((nm,wy,ob)::V4 h n (wy,.dead)) m=look h m:=by intro ob0 ob hl0 m hn hm';simp only[look,show(nm==m)=wy by simpa using fun e:nm=m=>hm' e.symm,Af];rw[F0 hl0,Ay (fun e=>hn (by rw[e]; exact zh.2 rfl))]
    have hdom:∀{ob0 ob:OB},look h n=xM (wy,ob0)->∀m,(look ((nm,wy,ob)::V4 h n (wy,.dead)) m).isSome=(decide (m=nm)||(look h m).isSome):=by
     intro ob0 ob hl0 m;simp only[look];by_cases e:nm=m
     ·subst e; simp
     ·rw[show(nm==m)=wy by simpa using e];simp only[Af,show ¬m=nm from fun e'=>e e'.symm,decide_false,Bool.false_or];rw[F0 hl0]; split<;>simp_all
    split at ha
    ·rename_i e' k l' hlo;obtain⟨hst,sv,hk,ho⟩:=Ej hm hp hlo;obtain⟨size,hk'⟩:=hd.resolve_left (Cn hst);rw[hk] at hk'; cases hk';cases hel:J2 h k x with
     | none=>simp[hel] at ha
     | some l =>
       simp only[hel,Aj] at ha;by_cases hc:(e==e'&&ei.size==1)=wg
       ·rw[hc,Aa] at ha;simp only[Ae,Ak,Ai] at ha;obtain⟨hlim,rfl,rfl⟩:=ha;simp only[Am,beq_iff_eq] at hc;obtain⟨rfl,hs1⟩:=hc;obtain⟨a,m,c,rfl,rfl,hsrc⟩:=RS hm hx hel;obtain⟨v',w',hrun,hown',hg,hb⟩:=Ns (P:=P) (ty:=ty) hu hei hq1 hq2 hm.hB (by rw[hs1]; exact ho) (a:=a) (c:=c) (news:=l.map (Value.int k)) (by rw[hs1]; simp) hsrc (by simp[Value.oneCell']) hlim
        obtain⟨h1,h2,h3⟩:=Nt hm hnm (ND:=xM n) (sz:=1) hg (fun b hb=>⟨n,p,rfl,hp,hst,by unfold Place.FK; rw[hk]; exact hb⟩) hb (hlk (ob:=.Bh e k (l'++l)) hlo) (ltB hown') (fun _=>by unfold Dr;refine⟨rfl,v',rfl,?_⟩;rw[hs1] at hown';rw[A5,List.map_append];exact hown')
        exact⟨v',w',_,hrun,h1,h2,h3,by simp only[Bz]; exact⟨GJ hown',_,Az rfl,.inr ⟨1,rfl⟩⟩,hne,hdom hlo,keepO hp (Cn hst) (fun b hb=>by unfold Place.FK; rw[hk]; exact hb) hg,sameO,fun m h1 h2=>hsame hlo m h1 h2,fun m hmn=>by rw[zh.1 hmn,hlo]; simp,hq3⟩
       ·simp only[zD] at hc; rw[hc] at ha; simp at ha
    ·rename_i e' sz l' hlo;obtain⟨hst,hsz,sv,rows',hk,hrr',hlen',ho⟩:=E9 hm hp hlo;obtain⟨size,hk'⟩:=hd.resolve_left (Cn hst);rw[hk] at hk'; cases hk';cases hel:Md h sz x with
     | none=>simp[hel] at ha
     | some l =>
       simp only[hel,Aj] at ha;by_cases hc:(e==e'&&sz==ei.size)=wg
       ·rw[hc,Aa] at ha;simp only[Ae,Ak,Ai] at ha;obtain⟨hlim,rfl,rfl⟩:=ha;simp only[Am,beq_iff_eq] at hc;obtain⟨rfl,rfl⟩:=hc;obtain⟨a,m,c,rows,rfl,rfl,hrr,hlen,hsrc⟩:=Ws hm hx hel
        obtain⟨v',w',hrun,hown',hg,hb⟩:=Ns (P:=P) (ty:=ty) hu hei hq1 hq2 hm.hB ho (a:=a) (c:=c) (news:=rows.flatten) (by rw[Je (fun r hr=>(hlen r hr).1),hrr.length]) hsrc (fun u hu=>by obtain⟨r,hr,hur⟩:=List.mem_flatten.1 hu;exact(hlen r hr).2 u hur) hlim
        obtain⟨h1,h2,h3⟩:=Nt hm hnm (ND:=xM n) (sz:=ei.size) hg (fun b hb=>⟨n,p,rfl,hp,hst,by unfold Place.FK; rw[hk]; exact hb⟩) hb (hlk (ob:=.C3 e ei.size (l'++l)) hlo) (ltB hown') (fun hmv=>by
         unfold Dr;have hbr:=(hmv.D4 (I0:=I0) (B:=B)).bare;refine⟨rfl,hq2,v',rows'++rows,rfl,(Dp.D4 hbr _ _ hrr').append (Dp.D4 hbr _ _ hrr),?_,?_⟩
         ·intro r hr;rcases zQ.1 hr with hr | hr
          ·exact hlen' r hr
          ·exact hlen r hr
         ·rw[A5,List.flatten_append]; exact hown')
        exact⟨v',w',_,hrun,h1,h2,h3,by simp only[Bz]; exact⟨GJ hown',_,Az rfl,.inr ⟨_,rfl⟩⟩,hne,hdom hlo,keepO hp (Cn hst) (fun b hb=>by unfold Place.FK; rw[hk]; exact hb) hg,sameO,fun m h1 h2=>hsame hlo m h1 h2,fun m hmn=>by rw[zh.1 hmn,hlo]; simp,hq3⟩
       ·simp only[zD] at hc; rw[hc] at ha; simp at ha
    ·cases ha
   ·cases ha
  ·simp only[zD] at hq; rw[hq] at ha; simp at ha
 ·cases ha
end
end Go.Den
