/- A verified evaluator of the program's form and its use for this seat: Den10, Den11, Den12, Den13, Den14, Den15, Den16, Den17, Den18, Den19, Den20. -/
import Derived.Test.YthajngaadbanfaaGreatTA
set_option linter.unusedVariables false
set_option linter.unusedSimpArgs false
open List renaming mem_append->zH,take_zero->xK,length_nil->xJ,getElem?_take_eq_none->y9,getElem?_take_of_lt->yW,getElem?_drop->yM,mem_of_mem_drop->yF,mem_of_mem_take->yY,mem_singleton->zf,drop_zero->zW,take_length->ym,getElem?_append_left->yX,getElem?_cons_zero->wL,foldl_cons->yn,map_cons->yx,length_drop->zP,flatten_cons->yN,length_take->zI,replicate->zp,mem_replicate->xX,getElem?_replicate->xY,length_replicate->xq,nodup_cons->xM,mem_map_of_mem->vS,getElem?_of_mem->x5,getElem?_eq_some_iff->xG,mem_of_getElem?->xm,length_cons->zo,length_set->yR,nil_append->zV
open Option renaming map_some->zU,some.inj->xZ,bind_none->wN
open Bool renaming false_eq_true->yd,not_eq_true->zF
open Array renaming length_toList->ya,foldl_toList->vN,range->xp,toList_inj->yo,toList_map->xr,eq_empty_of_size_eq_zero->xt,toList_append->vT
open Nat renaming succ_mul->yj,min_eq_left->yw
open Int (toNat)
open List (length getD)
namespace Go.Den
def Lq(I:Nat->Prop):Ctx:={ ok:=I,B:=0,fr:=false,own:=fun _=>none,at_:=fun _=>none }
def E4(I:Nat->Prop)(own:Nat->Option Nat)(w w':World):Ctx :={ ok:=fun b=>b<w'.heap.size/\(I b\/w.heap.size<=b)/\∀i,own i≠some b,B:=w.heap.size,fr:=true,own:=own,at_:=fun _=>none }
structure Auc(own:Nat->Option Nat)(w w':World):Prop where
 lt:∀i b,own i=some b->w.heap.size<=b/\b<w'.heap.size
 inj:∀i j b,own i=some b->own j=some b->i=j
def Sh(P:Program)(f:FuncId)(args:List DV)(out:DV):Prop :=
 ∀(w:World) (vals:Array Value) (I:Nat->Prop),(∀b,I b->b<w.heap.size)->Bh (Lq I) w args vals.toList ->
  Calls P f vals w fun e w'=>∃v own,e=.returned v/\Go.RowKit.Below w.heap.size w w'/\Auc own w w'/\Au (E4 I own w w') w' out v
structure Axq(P:Program)(g:FuncId)(e:TypeId):Prop where
 call:∀(args:Array Value) (w:World),(callFunc g args).run P w=.ok (.enter g args) w
 run:∀(w:World) (r c:Int) (v:Value) (l:List Int),w.ownsRow 0 e 1 v l.length (l.map (Value.int .u64)) ->
  Calls P g #[.agg #[.int .i64 r,.int .i64 c,v]] w fun en w'=>(∃u,en=.returned u)/\Go.RowKit.Below 0 w w'/\∀b,b<w.heap.size->v.ownBlock≠some b->w'.heap[b]?=w.heap[b]?
structure Sg(P:Program)(g:FuncId)(W:Writer):Prop where
 call:∀(args:Array Value) (w:World),(callFunc g args).run P w=.ok (.enter g args) w
 run:∀(w:World) (v:Value) (l:List Int) (ds:List DV) (vals:List Value),w.ownsRow 0 W.elem 1 v l.length (l.map (Value.int W.kind)) ->
  Bh (Lq fun b=>b<w.heap.size/\v.ownBlock≠some b) w ds vals->W.pre l ds=true ->
  Calls P g (v::vals).toArray w fun en w'=>(∃u,en=.returned u)/\w'.ownsRow 0 W.elem 1 v (W.out l ds).length ((W.out l ds).map (Value.int W.kind)) /\
   Go.RowKit.Below 0 w w'/\∀b,b<w.heap.size->v.ownBlock≠some b->w'.heap[b]?=w.heap[b]?
def Acx(P:Program)(g:FuncId)(e:Fy):Prop:=∀args,e.pre args=true->Sh P g args (e.out args)
def seen(I0:Nat->Prop)(B:Nat)(A:Nat->Option Place)(w:World)(ns:List Nat)(b:Nat):Prop :=(B1 I0 B A w).ok b\/∃n p,n∈ns/\A n=some p/\p.st≠.dead/\p.H8=some b
theorem seen.mono{I0:Nat->Prop}{B:Nat}{A:Nat->Option Place}{w:World}{ns ms:List Nat}(h:∀n∈ns,n∈ms){b:Nat}:seen I0 B A w ns b->seen I0 B A w ms b:=fun hb =>
 hb.imp id fun⟨n,p,hn,r⟩=>⟨n,p,h n hn,r⟩
theorem Qk{I I':Nat->Prop}(h:∀b,I b->I' b):M8 (Lq I) (Lq I'):=⟨h,rfl,fun _=>rfl,fun _=>rfl⟩
def Ml(h:Ev)(f:Nat)(l:List DV):Option (List DV × List Nat) :=l.foldr (fun d acc=>(lower h f d).bind fun(x,ns)=>acc.bind fun(xs,ms)=>some (x::xs,ns++ms)) (some ([],[]))
theorem Ank(h:Ev)(f:Nat)(d:DV)(l:List DV):Ml h f (d::l)=(lower h f d).bind fun(x,ns)=>(Ml h f l).bind fun(xs,ms)=>some (x::xs,ns++ms):=rfl
theorem Abn{h:Ev}{f:Nat}{d:DV}{l:List DV}{r:List DV × List Nat}(hh:Ml h f (d::l)=some r) :
 ∃x ns xs ms,lower h f d=some (x,ns)/\Ml h f l=some (xs,ms)/\r=(x::xs,ns++ms):=by
 rw[Ank] at hh;cases h1:lower h f d with
 | none=>simp[h1] at hh
 | some a =>
   obtain⟨x,ns⟩:=a;cases h2:Ml h f l with
   | none=>simp[h1,h2] at hh
   | some b =>obtain⟨xs,ms⟩:=b;simp only[h1,h2,Bex,Bes] at hh;exact⟨x,ns,xs,ms,rfl,rfl,hh.symm⟩
section
variable{I0:Nat->Prop}{B:Nat}{A:Nat->Option Place}{h:Ev}{w:World}
theorem Qq{f:Nat}(ih:∀(d:DV) (v:Value) d' ns,lower h f d=some (d',ns)->Au (B1 I0 B A w) w d v->Au (Lq (seen I0 B A w ns)) w d' v) :
 ∀(l:List DV) (vs:List Value) l' ns,Ml h f l=some (l',ns)->Bh (B1 I0 B A w) w l vs->Bh (Lq (seen I0 B A w ns)) w l' vs
 | [],vs,l',ns,hl,hv=>by simp only[Ml,List.foldr_nil,Bes,Bey] at hl;obtain⟨rfl,rfl⟩:=hl;rw[Bh.Im] at hv ⊢; exact hv
 | d::l,vs,l',ns,hl,hv=>by
   obtain⟨x,n1,xs,ms,h1,h2,e⟩:=Abn hl;cases e;rw[Bh.Df] at hv ⊢;obtain⟨u,us,rfl,hu,hus⟩:=hv
   exact⟨u,us,rfl,Au.G8 (Qk fun b=>seen.mono (fun n hn=>zH.2 (.inl hn))) _ _ (ih d u _ _ h1 hu),
    Bh.G8 (Qk fun b=>seen.mono (fun n hn=>zH.2 (.inr hn))) _ _ (Qq ih l us xs ms h2 hus)⟩
theorem Ab6{sv:Value}{sz off len:Nat}{v:Value}(hs:Ri sv sz off len v):∃a cap,v=.slice a len cap/\len<=cap/\(len=0\/∃g n c,sv=.slice (some ⟨g,0,none⟩) n c/\a=some ⟨g,off*sz,none⟩/\off+len<=n):=by
 unfold Ri at hs;split at hs
 ·rename_i g n c;obtain⟨hle,a,cap,rfl,hc,ha⟩:=hs;exact⟨some a,cap,rfl,hc,ha.imp id fun e=>⟨g,n,c,rfl,by rw[e],hle⟩⟩
 ·obtain⟨rfl,rfl,rfl⟩:=hs; exact⟨none,0,rfl,Bfj _,.inl rfl⟩
 ·exact hs.elim
theorem Mv{p:Place}{sv:Value}(hk:p.kind=.row sv 1){e:TypeId}{k:IntKind}{l:List Int}(ho:w.ownsRow B e 1 sv l.length (l.map (Value.int k))){off len:Nat}{v:Value}(hs:Ri sv 1 off len v){ok:Nat->Prop}(hok:∀b,p.H8=some b->ok b) :
 ∃a cap,v=.slice a ((l.drop off).take len).length cap/\((l.drop off).take len).length<=cap/\((l.drop off).take len=[]\/∃b o,a=some ⟨b,o,none⟩/\ok b/\∀(i:Nat) n,((l.drop off).take len)[i]?=some n->w.cell? ⟨b,o+i,none⟩=some (.int k n)):=by
 obtain⟨a,cap,rfl,hc,hcase⟩:=Ab6 hs;rcases hcase with rfl | ⟨g,n,c,rfl,rfl,hle⟩
 ·simp only[xK,xJ]; exact⟨a,cap,rfl,hc,.inl trivial⟩
 ·have hn:n=l.length:=by rcases H4 ho with ⟨e,_⟩ | ⟨_,_,e,_⟩<;>cases e; rfl
  have hlen:((l.drop off).take len).length=len:=by simp; omega
  rw[hlen];refine⟨_,cap,rfl,hc,?_⟩;by_cases h0:len=0
  ·subst h0; simp
  ·obtain⟨g',c',e',_,hrd⟩:=H5 ho (by omega);cases e';refine .inr ⟨g,off*1,rfl,hok g (by unfold Place.H8; rw[hk]; rfl),fun i m hi=>?_⟩
   have hlt:i<len:=by
    rcases Bfm i len with h' | h'
    ·exact h'
    ·rw[y9 h'] at hi; cases hi
   rw[yW hlt,yM] at hi;have:=hrd (off+i) (.int k m) (by rw[Bf6,hi]; rfl);rw[Bfz] at this;rw[Bfy]; exact this
theorem Mu{p:Place}{sv:Value}{sz:Nat}(hk:p.kind=.row sv sz){e:TypeId}{l:List (List DV)}{rows:List (List Value)}{c:Ctx}(hrr:D5 c w l rows)(hlen:∀r∈rows,r.length=sz/\∀u∈r,u.oneCell'=true)(ho:w.ownsRow B e sz sv l.length rows.flatten){off len:Nat}{v:Value}(hs:Ri sv sz off len v){ok:Nat->Prop}(hok:∀b,p.H8=some b->ok b) :
 ∃a cap,v=.slice a ((l.drop off).take len).length cap/\((l.drop off).take len).length<=cap/\((l.drop off).take len=[]\/∃b o rows',a=some ⟨b,o,none⟩/\ok b/\D5 c w ((l.drop off).take len) rows'/\(∀r∈rows',r.length=sz/\∀u∈r,u.oneCell'=true)/\∀(i:Nat) u,rows'.flatten[i]?=some u->w.cell? ⟨b,o+i,none⟩=some u):=by
 obtain⟨a,cap,rfl,hc,hcase⟩:=Ab6 hs;rcases hcase with rfl | ⟨g,n,cc,rfl,rfl,hle⟩
 ·simp only[xK,xJ]; exact⟨a,cap,rfl,hc,.inl trivial⟩
 ·have hn:n=l.length:=by rcases H4 ho with ⟨e,_⟩ | ⟨_,_,e,_⟩<;>cases e; rfl
  have hlen':((l.drop off).take len).length=len:=by simp; omega
  rw[hlen'];refine⟨_,cap,rfl,hc,?_⟩;by_cases h0:len=0
  ·subst h0; simp
  ·obtain⟨g',c',e',_,hrd⟩:=H5 ho (by omega);cases e';refine .inr ⟨g,off*sz,(rows.drop off).take len,rfl,hok g (by unfold Place.H8; rw[hk]; rfl),(hrr.drop off).take len,fun r hr=>hlen r (yF (yY hr)),fun i u hi=>?_⟩;rw[Qh (fun r hr=>(hlen r (yF hr)).1),Tw (fun r hr=>(hlen r hr).1)] at hi
   have hlt:i<len*sz:=by
    rcases Bfm i (len*sz) with h' | h'
    ·exact h'
    ·rw[y9 h'] at hi; cases hi
   rw[yW hlt,yM] at hi;have:=hrd _ _ hi;rwa[Bfz] at this
theorem Y8{n:Nat}{p:Place}(hp:A n=some p)(hnd:p.st≠.dead){ns:List Nat}(hn:n∈ns):∀b,p.H8=some b->seen I0 B A w ns b :=fun _ hb=>.inr ⟨n,p,hn,hp,hnd,hb⟩
theorem Zw(hm:Mem I0 B A h w):∀(f:Nat) (d:DV) (v:Value) d' ns,lower h f d=some (d',ns)->Au (B1 I0 B A w) w d v->Au (Lq (seen I0 B A w ns)) w d' v:=by
 intro f
 induction f with
 | zero=>intro d v d' ns hl; simp[lower] at hl
 | succ f ih =>
   intro d v d' ns hl hv;have hL:=Qq ih;cases d with
   | undef=>simp only[lower,Bes,Bey] at hl; obtain⟨rfl,rfl⟩:=hl; simp[Au]
   | nil=>simp only[lower,Bes,Bey] at hl; obtain⟨rfl,rfl⟩:=hl; simpa only[Au] using hv
   | bool b=>simp only[lower,Bes,Bey] at hl; obtain⟨rfl,rfl⟩:=hl; simpa only[Au] using hv
   | int k n=>simp only[lower,Bes,Bey] at hl; obtain⟨rfl,rfl⟩:=hl; simpa only[Au] using hv
   | fl n=>simp only[lower,Bes,Bey] at hl; obtain⟨rfl,rfl⟩:=hl; simpa only[Au] using hv
   | nb n=>simp only[lower,Bes,Bey] at hl; obtain⟨rfl,rfl⟩:=hl; simpa only[Au] using hv
   | agg l =>
     have e:lower h (f+1) (.agg l)=(Ml h f l).bind fun(l,ns)=>some (.agg l,ns):=rfl
     rw[e] at hl;cases h1:Ml h f l with
     | none=>simp[h1] at hl
     | some a =>obtain⟨l',ns'⟩:=a;simp only[h1,Bex,Bes,Bey] at hl; obtain⟨rfl,rfl⟩:=hl;simp only[Au] at hv ⊢;obtain⟨vs,rfl,hls⟩:=hv;exact⟨vs,rfl,hL l _ _ _ h1 hls⟩
   | tup l=>simp[lower] at hl
   | ints g k l =>
     cases g with
     | own i e=>simp[lower] at hl
     | arg =>simp only[lower,Bes,Bey] at hl; obtain⟨rfl,rfl⟩:=hl;simp only[Au] at hv ⊢;obtain⟨a,cap,rfl,hc,hh⟩:=hv;exact⟨a,cap,rfl,hc,hh.imp id fun⟨b,o,e,hb,hr⟩=>⟨b,o,e,.inl hb,hr⟩⟩
     | fresh =>simp only[lower,Bes,Bey] at hl; obtain⟨rfl,rfl⟩:=hl;simp only[Au] at hv ⊢;obtain⟨a,cap,rfl,hc,hh⟩:=hv;exact⟨a,cap,rfl,hc,hh.imp id fun⟨b,o,e,hb,hr⟩=>⟨b,o,e,.inl hb.1,hr⟩⟩
   | recs g sz l =>
     have wd:M8 (B1 I0 B A w).bare (Lq (seen I0 B A w [])).bare:=⟨fun b hb=>.inl hb,rfl,fun _=>rfl,fun _=>rfl⟩
     cases g with
     | own i e=>simp[lower] at hl
     | arg =>simp only[lower,Bes,Bey] at hl; obtain⟨rfl,rfl⟩:=hl;simp only[Au] at hv ⊢;obtain⟨a,cap,rfl,hc,hh⟩:=hv;exact⟨a,cap,rfl,hc,hh.imp id fun⟨b,o,rows,e,hb,hrr,hlen,hr⟩=>⟨b,o,rows,e,.inl hb,D5.G8 wd _ _ hrr,hlen,hr⟩⟩
     | fresh =>simp only[lower,Bes,Bey] at hl; obtain⟨rfl,rfl⟩:=hl;simp only[Au] at hv ⊢;obtain⟨a,cap,rfl,hc,hh⟩:=hv;exact⟨a,cap,rfl,hc,hh.imp id fun⟨b,o,rows,e,hb,hrr,hlen,hr⟩=>⟨b,o,rows,e,.inl hb.1,D5.G8 wd _ _ hrr,hlen,hr⟩⟩
   | oref n =>
     simp only[Au] at hv;obtain⟨_,p,hp,hd⟩:=hv;simp only[lower] at hl;split at hl
     ·rename_i fz e k l hlk;simp only[Bes,Bey] at hl; obtain⟨rfl,rfl⟩:=hl;obtain⟨hst,sv,hk,ho⟩:=Fk hm hp hlk;obtain⟨size,hk'⟩:=hd.resolve_left (Cf hst);rw[hk] at hk'; cases hk';have:=Mv hk ho (Gx ho) (Y8 (I0:=I0) (B:=B) (A:=A) (w:=w) hp (Cf hst) (zf.2 rfl));simp only[zW,ym] at this;simp only[Au];exact this
     ·rename_i fz e sz l hlk;simp only[Bes,Bey] at hl; obtain⟨rfl,rfl⟩:=hl;obtain⟨hst,_,sv,rows,hk,hrr,hlen,ho⟩:=Gh hm hp hlk;obtain⟨size,hk'⟩:=hd.resolve_left (Cf hst);rw[hk] at hk'; cases hk';have wd:M8 (B1 I0 B A w).bare (Lq (seen I0 B A w [n])).bare:=⟨fun b hb=>.inl hb,rfl,fun _=>rfl,fun _=>rfl⟩
      have:=Mu hk (D5.G8 wd _ _ hrr) hlen ho (Gx ho) (Y8 (I0:=I0) (B:=B) (A:=A) (w:=w) hp (Cf hst) (zf.2 rfl));simp only[zW,ym] at this;simp only[Au];exact this
     ·cases hl
   | sref n off len =>
     simp only[Au] at hv;obtain⟨_,p,hp,hd⟩:=hv;simp only[lower] at hl;split at hl
     ·rename_i fz e k l hlk;simp only[Bes,Bey] at hl; obtain⟨rfl,rfl⟩:=hl;obtain⟨hst,sv,hk,ho⟩:=Fk hm hp hlk;obtain⟨sv',size,hk',hs⟩:=hd.resolve_left (Cf hst);rw[hk] at hk'; cases hk';simp only[Au];exact Mv hk ho hs (Y8 (I0:=I0) (B:=B) (A:=A) (w:=w) hp (Cf hst) (zf.2 rfl))
     ·rename_i fz e sz l hlk;simp only[Bes,Bey] at hl; obtain⟨rfl,rfl⟩:=hl;obtain⟨hst,_,sv,rows,hk,hrr,hlen,ho⟩:=Gh hm hp hlk;obtain⟨sv',size,hk',hs⟩:=hd.resolve_left (Cf hst);rw[hk] at hk'; cases hk';have wd:M8 (B1 I0 B A w).bare (Lq (seen I0 B A w [n])).bare:=⟨fun b hb=>.inl hb,rfl,fun _=>rfl,fun _=>rfl⟩
      simp only[Au];exact Mu hk (D5.G8 wd _ _ hrr) hlen ho hs (Y8 (I0:=I0) (B:=B) (A:=A) (w:=w) hp (Cf hst) (zf.2 rfl))
     ·cases hl
   | ptr n i j =>
     cases i with
     | succ i=>simp[lower] at hl
     | zero =>
     have e:lower h (f+1) (.ptr n 0 j)=match look h n with | some (_,.box cs)=>(Ml h f (cs.drop j)).bind fun(l,ns)=>some (.cellp l,n::ns) | _=>none:=rfl
     rw[e] at hl;simp only[Au] at hv;obtain⟨_,p,hp,hd⟩:=hv;split at hl
     ·rename_i fz cs hlk;obtain⟨hst,b,e,cells,hk,hh,hls⟩:=Tn hm hp hlk;have hd:=hd.resolve_left (Cf hst);unfold Mb at hd; rw[hk] at hd;obtain⟨_,rfl⟩:=hd;cases h1:Ml h f (cs.drop j) with
      | none=>simp[h1] at hl
      | some a =>
        obtain⟨l',ns'⟩:=a;simp only[h1,Bex,Bes,Bey] at hl; obtain⟨rfl,rfl⟩:=hl;simp only[Au];refine⟨b,j,cells.toList.drop j,rfl,.inr ⟨n,p,by simp,hp,Cf hst,by unfold Place.H8; rw[hk]⟩,?_,?_⟩
        ·exact Bh.G8 (Qk fun b=>seen.mono (fun n hn=>Bfu _ hn)) _ _ (hL _ _ _ _ h1 (hls.drop j))
        ·have:=(Ai2 hh).drop j;rw[Bfz] at this;exact this
     ·cases hl
   | cellp cs =>
     simp only[lower,Bes,Bey] at hl; obtain⟨rfl,rfl⟩:=hl;have wd:M8 (B1 I0 B A w).bare (Lq (seen I0 B A w [])).bare:=⟨fun b hb=>.inl hb,rfl,fun _=>rfl,fun _=>rfl⟩
     simp only[Au] at hv ⊢;obtain⟨b,o,vs,rfl,hb,hls,hrd⟩:=hv;exact⟨b,o,vs,rfl,.inl hb,Bh.G8 wd _ _ hls,hrd⟩
   | fn g a c =>
     have e:lower h (f+1) (.fn g a c)=(Ml h f a).bind fun(a,ns)=>(Ml h f c).bind fun(c,ms)=>some (.fn g a c,ns++ms):=rfl
     rw[e] at hl;cases h1:Ml h f a with
     | none=>simp[h1] at hl
     | some x =>
       obtain⟨a',n1⟩:=x;cases h2:Ml h f c with
       | none=>simp[h1,h2] at hl
       | some y =>
         obtain⟨c',n2⟩:=y;simp only[h1,h2,Bex,Bes,Bey] at hl; obtain⟨rfl,rfl⟩:=hl;simp only[Au] at hv ⊢;obtain⟨fs',cs',rfl,hf,hcs⟩:=hv
         exact⟨fs',cs',rfl,Bh.G8 (Qk fun b=>seen.mono (fun n hn=>zH.2 (.inl hn))) _ _ (hL a _ _ _ h1 hf),
          Bh.G8 (Qk fun b=>seen.mono (fun n hn=>zH.2 (.inr hn))) _ _ (hL c _ _ _ h2 hcs)⟩
   | gd g d=>simp[lower] at hl
end
open Go.RowKit (Below)
section
variable{I0 I:Nat->Prop}{B:Nat}{own:Nat->Option Nat}{w w':World}{ad:Bool}
structure Good(I0 I:Nat->Prop)(B:Nat)(own:Nat->Option Nat)(w w':World)(ad:Bool)(A:Nat->Option Place):Prop where
 ok:∀b,(E4 I own w w').ok b->(B1 I0 B A w').ok b
 own:ad=false->∀i b,own i=some b->w.heap.size<=b->(B1 I0 B A w').ok b
 hB:B<=w.heap.size
theorem Q3{w:World}{base base':Nat}{e:TypeId}{size n:Nat}{v:Value}{xs:List Value}(h:w.ownsRow base e size v n xs)(hb:base'<=base):w.ownsRow base' e size v n xs:=by
 obtain⟨h1,h2⟩:=h;refine⟨h1,?_⟩;rcases h2 with h2 | ⟨g,cap,cur,hv,hg,r⟩
 ·exact Or.inl h2
 ·exact Or.inr ⟨g,cap,cur,hv,Bfw hb hg,r⟩
theorem Jn{w:World}{base:Nat}{e:TypeId}{size n:Nat}{v:Value}{xs:List Value}(h:w.ownsRow base e size v n xs):v.oneCell'=true:=by rcases h.2 with ⟨rfl,_⟩ | ⟨g,cap,cur,rfl,_⟩<;>rfl
theorem Tm{w:World}{base:Nat}{e:TypeId}{size n:Nat}{v:Value}{xs:List Value}(h:w.ownsRow base e size v n xs){b:Nat}(hb:v.ownBlock=some b):base<=b:=by
 rcases h.2 with ⟨rfl,_⟩ | ⟨g,cap,cur,rfl,hg,_⟩
 ·cases hb
 ·cases hb; exact hg
def Ir(I0 I:Nat->Prop)(B:Nat)(own:Nat->Option Nat)(w w':World)(ad:Bool)(os:List (Nat × OB))(is:List Nat)(G:Ctx->Prop):Prop :=
 ∃ps:List (Nat × Place),ps.map (·.1)=os.map (·.1)/\is.length=ps.length /\
  (∀(j:Nat) n p,ps[j]?=some (n,p)->p.st=.live/\∃i,is[j]?=some i/\∀b,p.H8=some b->own i=some b) /\
  ∀A,Good I0 I B own w w' ad A->(∀n p,(n,p)∈ps->A n=some p) ->
   G (B1 I0 B A w')/\∀(j:Nat) n p ob,ps[j]?=some (n,p)->os[j]?=some (n,ob)->D6 (B1 I0 B A w') w' p (false,ob)
theorem Ir.none{G:Ctx->Prop}(h:∀A,Good I0 I B own w w' ad A->G (B1 I0 B A w')):Ir I0 I B own w w' ad [] [] G :=⟨[],rfl,rfl,fun j n p hj=>by simp at hj,fun A hA _=>⟨h A hA,fun j n p ob hj=>by simp at hj⟩⟩
theorem Ir.append{os os':List (Nat × OB)}{is is':List Nat}{G G':Ctx->Prop}(h:Ir I0 I B own w w' ad os is G)(h':Ir I0 I B own w w' ad os' is' G') :
 Ir I0 I B own w w' ad (os++os') (is++is') (fun c=>G c/\G' c):=by
 obtain⟨ps,h1,h2,h3,h4⟩:=h;obtain⟨ps',h1',h2',h3',h4'⟩:=h';have hl:os.length=ps.length:=by have:=congrArg length h1; simpa using this.symm
 refine⟨ps++ps',by simp[h1,h1'],by simp[h2,h2'],?_,?_⟩
 ·intro j n p hj;rcases Bfm j ps.length with hlt | hge
  ·rw[yX hlt] at hj;obtain⟨a,i,b,c⟩:=h3 j n p hj;exact⟨a,i,by rw[yX (by omega)]; exact b,c⟩
  ·rw[Bf3 hge] at hj;obtain⟨a,i,b,c⟩:=h3' _ n p hj;exact⟨a,i,by rw[Bf3 (by omega),h2]; exact b,c⟩
 ·intro A hA hps;obtain⟨a,b⟩:=h4 A hA fun n p hn=>hps n p (zH.2 (.inl hn))
  obtain⟨a',b'⟩:=h4' A hA fun n p hn=>hps n p (zH.2 (.inr hn))
  refine⟨⟨a,a'⟩,fun j n p ob hj ho=>?_⟩;rcases Bfm j ps.length with hlt | hge
  ·rw[yX hlt] at hj;rw[yX (by omega)] at ho;exact b j n p ob hj ho
  ·rw[Bf3 hge] at hj;rw[Bf3 (by omega),hl] at ho;exact b' _ n p ob hj ho
theorem Ir.mono{os:List (Nat × OB)}{is:List Nat}{G G':Ctx->Prop}(h:Ir I0 I B own w w' ad os is G)(hG:∀c,G c->G' c):Ir I0 I B own w w' ad os is G':=by obtain⟨ps,h1,h2,h3,h4⟩:=h;exact⟨ps,h1,h2,h3,fun A hA hps=>let ⟨a,b⟩:=h4 A hA hps; ⟨hG _ a,b⟩⟩
theorem V0{g:Nat->DV->Option (DV × List (Nat × OB) × List Nat)}
 (ih:∀nm d v d' os is,Au (E4 I own w w') w' d v->g nm d=some (d',os,is)->Ir I0 I B own w w' ad os is (fun c=>Au c w' d' v)) :
 ∀(l:List DV) nm (vs:List Value) l' os is,Bh (E4 I own w w') w' l vs->Nz g nm l=some (l',os,is)->Ir I0 I B own w w' ad os is (fun c=>Bh c w' l' vs)
 | [],nm,vs,l',os,is,hl,h=>by simp only[Nz,Bes,Bey] at h;obtain⟨rfl,rfl,rfl⟩:=h;rw[Bh.Im] at hl;exact Ir.none fun A _=>by rw[Bh.Im]; exact hl
 | d::l,nm,vs,l',os,is,hl,h=>by
   rw[Bh.Df] at hl;obtain⟨u,us,rfl,hu,hus⟩:=hl;simp only[Nz] at h;split at h
   ·rename_i x os1 is1 hg;split at h
    ·rename_i xs os2 is2 hg2;simp only[Bes,Bey] at h;obtain⟨rfl,rfl,rfl⟩:=h
     exact((ih nm d u x os1 is1 hu hg).append (V0 ih l _ us xs os2 is2 hus hg2)).mono fun c hc=>by rw[Bh.Df]; exact⟨u,us,rfl,hc.1,hc.2⟩
    ·cases h
   ·cases h
theorem Rc{A:Nat->Option Place}(h:Good I0 I B own w w' ad A):M8 (E4 I own w w').bare (B1 I0 B A w').bare :=⟨h.ok,rfl,fun _=>rfl,fun _=>rfl⟩
theorem Axn:∀(f:Nat) nm d v d' os is,Au (E4 I own w w') w' d v->Hf ad f nm d=some (d',os,is)->Ir I0 I B own w w' ad os is (fun c=>Au c w' d' v):=by
 intro f
 induction f with
 | zero=>intro nm d v d' os is hv h; simp[Hf] at h
 | succ f ih =>
   intro nm d v d' os is hv h
   have plain:(∀A,Good I0 I B own w w' ad A->Au (B1 I0 B A w') w' d v)->Hf ad (f+1) nm d=some (d,[],[])->Ir I0 I B own w w' ad os is (fun c=>Au c w' d' v):=by intro hp he;rw[he] at h;simp only[Bes,Bey] at h;obtain⟨rfl,rfl,rfl⟩:=h;exact Ir.none hp
   cases d with
   | undef=>exact plain (fun A _=>by simp[Au]) rfl
   | nil=>exact plain (fun A _=>by simpa only[Au] using hv) rfl
   | bool b=>exact plain (fun A _=>by simpa only[Au] using hv) rfl
   | int k n=>exact plain (fun A _=>by simpa only[Au] using hv) rfl
   | fl n=>exact plain (fun A _=>by simpa only[Au] using hv) rfl
   | nb n=>exact plain (fun A _=>by simpa only[Au] using hv) rfl
   | agg l =>
     simp only[Hf] at h;split at h
     ·rename_i l' os' is' hg;simp only[Bes,Bey] at h;obtain⟨rfl,rfl,rfl⟩:=h;simp only[Au] at hv;obtain⟨vs,rfl,hl⟩:=hv;exact(V0 ih l nm _ l' os' is' hl hg).mono fun c hc=>by simp only[Au]; exact⟨vs,rfl,hc⟩
     ·cases h
   | tup l =>
     simp only[Hf] at h;split at h
     ·rename_i l' os' is' hg;simp only[Bes,Bey] at h;obtain⟨rfl,rfl,rfl⟩:=h;simp only[Au] at hv;obtain⟨vs,rfl,hl⟩:=hv;exact(V0 ih l nm _ l' os' is' hl hg).mono fun c hc=>by simp only[Au]; exact⟨vs,rfl,hc⟩
     ·cases h
   | ints g k l =>
     cases g with
     | arg =>refine plain (fun A hA=>?_) rfl;simp only[Au] at hv ⊢;obtain⟨a,cap,rfl,hc,hh⟩:=hv;exact⟨a,cap,rfl,hc,hh.imp id fun⟨b,o,e,hb,hr⟩=>⟨b,o,e,hA.ok _ hb,hr⟩⟩
     | fresh =>refine plain (fun A hA=>?_) rfl;simp only[Au] at hv ⊢;obtain⟨a,cap,rfl,hc,hh⟩:=hv;exact⟨a,cap,rfl,hc,hh.imp id fun⟨b,o,e,hb,hr⟩=>⟨b,o,e,⟨hA.ok _ hb.1,rfl,Bfw hA.hB hb.2.2⟩,hr⟩⟩
     | own i e =>
       simp only[Au] at hv;obtain⟨ho,hob⟩:=hv;cases ad with
       | true =>
         simp only[Hf,Bep,Bes,Bey] at h;obtain⟨rfl,rfl,rfl⟩:=h;refine⟨[(nm,⟨.live,.row v 1⟩)],rfl,rfl,?_,?_⟩
         ·intro j n p hj;cases j with
          | zero=>simp at hj; obtain⟨rfl,rfl⟩:=hj; exact⟨rfl,i,rfl,fun b hb=>hob b hb⟩
          | succ j=>simp at hj
         ·intro A hA hps;refine⟨by simp only[Au]; exact⟨Jn ho,⟨.live,.row v 1⟩,hps nm _ (by simp),.inr ⟨1,rfl⟩⟩,fun j n p ob hj hob'=>?_⟩;cases j with
          | zero =>simp only[wL,Bes,Bey] at hj hob'; obtain⟨rfl,rfl⟩:=hj; obtain⟨_,rfl⟩:=hob';unfold D6;exact⟨rfl,v,rfl,Q3 ho hA.hB⟩
          | succ j=>simp at hj
       | false =>
         simp only[Hf,Bet,Bes,Bey] at h;obtain⟨rfl,rfl,rfl⟩:=h;refine Ir.none fun A hA=>?_
         simp only[Au];rcases H4 ho with ⟨rfl,h0⟩ | ⟨g,cap,rfl,hc⟩
         ·have:l=[]:=Bfq h0;subst this;exact⟨none,0,rfl,Bfj _,.inl rfl⟩
         ·refine⟨_,cap,rfl,hc,.inr ⟨g,0,rfl,⟨hA.own rfl i g (hob g rfl) (Tm ho rfl),rfl,Bfw hA.hB (Tm ho rfl)⟩,fun j n hj=>?_⟩⟩;have:=ho.cells (g:=g) rfl j (.int k n) (by rw[Bf6,hj]; rfl);rw[Addr.add_lit] at this;exact this
   | recs g sz l =>
     cases g with
     | arg =>refine plain (fun A hA=>?_) rfl;simp only[Au] at hv ⊢;obtain⟨a,cap,rfl,hc,hh⟩:=hv;exact⟨a,cap,rfl,hc,hh.imp id fun⟨b,o,rows,e,hb,hrr,hlen,hr⟩=>⟨b,o,rows,e,hA.ok _ hb,D5.G8 (Rc hA) _ _ hrr,hlen,hr⟩⟩
     | fresh =>refine plain (fun A hA=>?_) rfl;simp only[Au] at hv ⊢;obtain⟨a,cap,rfl,hc,hh⟩:=hv;exact⟨a,cap,rfl,hc,hh.imp id fun⟨b,o,rows,e,hb,hrr,hlen,hr⟩=>⟨b,o,rows,e,⟨hA.ok _ hb.1,rfl,Bfw hA.hB hb.2.2⟩,D5.G8 (Rc hA) _ _ hrr,hlen,hr⟩⟩
     | own i e =>
       simp only[Au] at hv;obtain⟨rows,hrr,hlen,ho,hob⟩:=hv;cases ad with
       | true =>
         by_cases hsz:0<sz
         ·simp only[Hf,hsz,decide_true,Bool.and_true,Bep,Bes,Bey] at h;obtain⟨rfl,rfl,rfl⟩:=h;refine⟨[(nm,⟨.live,.row v sz⟩)],rfl,rfl,?_,?_⟩
          ·intro j n p hj;cases j with
           | zero=>simp at hj; obtain⟨rfl,rfl⟩:=hj; exact⟨rfl,i,rfl,fun b hb=>hob b hb⟩
           | succ j=>simp at hj
          ·intro A hA hps;refine⟨by simp only[Au]; exact⟨Jn ho,⟨.live,.row v sz⟩,hps nm _ (by simp),.inr ⟨sz,rfl⟩⟩,fun j n p ob hj hob'=>?_⟩;cases j with
           | zero =>simp only[wL,Bes,Bey] at hj hob'; obtain⟨rfl,rfl⟩:=hj; obtain⟨_,rfl⟩:=hob';unfold D6;exact⟨rfl,hsz,v,rows,rfl,D5.G8 (Rc hA) _ _ hrr,hlen,Q3 ho hA.hB⟩
           | succ j=>simp at hj
         ·simp[Hf,hsz] at h
       | false =>
         simp only[Hf,Bool.false_and,Bet,Bes,Bey] at h;obtain⟨rfl,rfl,rfl⟩:=h;refine Ir.none fun A hA=>?_
         simp only[Au];rcases H4 ho with ⟨rfl,h0⟩ | ⟨g,cap,rfl,hc⟩
         ·have:l=[]:=Bfq h0;subst this;exact⟨none,0,rfl,Bfj _,.inl rfl⟩
         ·refine⟨_,cap,rfl,hc,.inr ⟨g,0,rows,rfl,⟨hA.own rfl i g (hob g rfl) (Tm ho rfl),rfl,Bfw hA.hB (Tm ho rfl)⟩,D5.G8 (Rc hA) _ _ hrr,hlen,fun j u hj=>?_⟩⟩;have:=ho.cells (g:=g) rfl j u hj;rw[Addr.add_lit] at this;exact this
   | oref n=>simp[Hf] at h
   | sref n off len=>simp[Hf] at h
   | ptr n i j=>simp[Hf] at h
   | cellp cs =>refine plain (fun A hA=>?_) rfl;simp only[Au] at hv ⊢;obtain⟨b,o,vs,rfl,hb,hls,hrd⟩:=hv;exact⟨b,o,vs,rfl,hA.ok _ hb,Bh.G8 (Rc hA) _ _ hls,hrd⟩
   | fn g a c=>simp[Hf] at h
   | gd g d=>simp[Hf] at h
end
def Ga(P:Program)(s:Sem Next)(w:World)(K:Value->World->Prop):Prop :=
 match s.run P w with
 | .ok (.value v) w'=>K v w'
 | .ok (.enter f args) w'=>Calls P f args w' fun e w''=>∃v,e=.returned v/\K v w''
 | _=>False
theorem Ga.value{P:Program}{s:Sem Next}{w w':World}{v:Value}{K:Value->World->Prop}(h:s.run P w=.ok (.value v) w')(hk:K v w'):Ga P s w K:=by unfold Ga; rw[h]; exact hk
theorem Ga.lift{P:Program}{s:Sem Value}{w w':World}{v:Value}{K:Value->World->Prop}(h:s.run P w=.ok v w')(hk:K v w'):Ga P (do pure (.value (<- s))) w K :=Ga.value (by simp[h]) hk
def fzP(frz:List Nat)(n:Nat)(p:Place):Place:={ p with st:=if p.st=.live/\n∈frz then .frozen else p.st }
structure Mc(I0:Nat->Prop)(B:Nat)(A:Nat->Option Place)(w:World)(objs:List (Nat × OB))(frz:List Nat)(A':Nat->Option Place)(w':World):Prop where
 below:Below w.heap.size w w'
 old:∀n p,A n=some p->A' n=some (fzP frz n p)
 new:∀n p,A n=none->A' n=some p->p.st=.live/\(∀b,p.H8=some b->w.heap.size<=b/\b<w'.heap.size)/\∃ob,(n,ob)∈objs/\D6 (B1 I0 B A' w') w' p (false,ob)
 inj:∀n m p q b,A n=none->A m=none->A' n=some p->A' m=some q->p.H8=some b->q.H8=some b->n=m
theorem Atu(n:Nat)(p:Place):fzP [] n p=p:=by cases p; simp[fzP]
theorem Pb{frz:List Nat}{n:Nat}{p:Place}:(fzP frz n p).st=.dead↔p.st=.dead:=by
 unfold fzP; dsimp only; split
 ·rename_i h; simp[h.1]
 ·rfl
theorem S5{frz:List Nat}{n:Nat}{p:Place}(h:(fzP frz n p).st=.live):p.st=.live/\n ∉ frz:=by
 unfold fzP at h; dsimp only at h; split at h
 ·cases h
 ·rename_i hn; exact⟨h,fun hm=>hn ⟨h,hm⟩⟩
section
variable{I0:Nat->Prop}{B:Nat}{A A':Nat->Option Place}{h:Ev}{w w':World}{objs:List (Nat × OB)}{frz:List Nat}
theorem Mc.refl(hd:Ai8 w w'):Mc I0 B A w [] [] A w' where
 below:=by rcases hd with rfl | rfl; exact Below.refl _ _; exact(Below.refl _ _).drew
 old:=fun n p hp=>by rw[Atu]; exact hp
 new:=fun n p h1 h2=>by rw[h1] at h2; cases h2
 inj:=fun n m p q b h1 _ h2=>by rw[h1] at h2; cases h2
theorem Mc.idle(objs:List (Nat × OB)):Mc I0 B A w objs [] A w where
 below:=Below.refl _ _
 old:=fun n p hp=>by rw[Atu]; exact hp
 new:=fun n p h1 h2=>by rw[h1] at h2; cases h2
 inj:=fun n m p q b h1 _ h2=>by rw[h1] at h2; cases h2
theorem Mc.A6s(hg:Mc I0 B A w objs frz A' w'):Kd A w A' w' where
 size:=hg.below.size
 names:=fun n p hp=>by
  refine⟨_,hg.old n p hp,?_⟩;by_cases hd:p.st=.dead
  ·exact .inl (Pb.2 hd)
  ·exact .inr ⟨hd,rfl⟩
 live:=fun n p b hp hl hb hlt=>by
  cases hA:A n with
  | none=>have:=((hg.new n p hA hp).2.1 b hb).1; omega
  | some q =>have:=hg.old n q hA;rw[this] at hp; cases hp;exact⟨n,q,hA,(S5 hl).1,hb⟩
 kept:=fun b hb _=>hg.below.block b hb
theorem D6.fz{c:Ctx}{w:World}{p:Place}{n:Nat}{frz:List Nat}:∀{fo:Bool × OB},D6 c w p fo->D6 c w (fzP frz n p) (fo.1||decide (n∈frz),fo.2)
 | (fz,.dead),hr=>by unfold D6 at *; exact Pb.2 hr
 | (fz,.box cs),hr=>by
   unfold D6 at *
   refine⟨?_,hr.2⟩;have:=hr.1;unfold fzP; dsimp only;cases fz<;>simp at this<;>by_cases hn:n∈frz<;>simp[this,hn]
 | (fz,.ints e k l),hr=>by
   unfold D6 at *
   refine⟨?_,hr.2⟩;have:=hr.1;unfold fzP; dsimp only;cases fz<;>simp at this<;>by_cases hn:n∈frz<;>simp[this,hn]
 | (fz,.recs e sz l),hr=>by
   unfold D6 at *
   refine⟨?_,hr.2⟩;have:=hr.1;unfold fzP; dsimp only;cases fz<;>simp at this<;>by_cases hn:n∈frz<;>simp[this,hn]
theorem Mc.mem(hm:Mem I0 B A h w)(hg:Mc I0 B A w objs frz A' w'){h':Ev}
 (ho:∀n p fo',A n=some p->look h' n=some fo'->∃fo,look h n=some fo/\fo'=(fo.1||decide (n∈frz),fo.2))
 (hn:∀n ob fo',(n,ob)∈objs->A n=none->look h' n=some fo'->fo'=(false,ob)):Mem I0 B A' h' w' where
 hB:=Bfw hm.hB hg.below.size
 I0lt:=hm.I0lt
 obj:=fun n p fo' hp hl=>by
  cases hA:A n with
  | none =>obtain⟨_,_,ob,hob,hr⟩:=hg.new n p hA hp;rw[hn n ob fo' hob hA hl]; exact hr
  | some q =>
    have:=hg.old n q hA;rw[this] at hp; cases hp;obtain⟨fo,hfo,rfl⟩:=ho n q fo' hA hl;have h1:=hm.obj n q fo hA hfo;refine D6.fz ?_;by_cases hd:q.st=.dead
    ·obtain⟨fz,ob⟩:=fo;cases ob with
     | dead=>exact hd
     | box cs=>exact absurd hd (Cf (Tn hm hA hfo).1)
     | ints e k l=>exact absurd hd (Cf (Fk hm hA hfo).1)
     | recs e sz l=>exact absurd hd (Cf (Gh hm hA hfo).1)
    ·exact D6.Em hg.A6s.Em rfl rfl (fun b hb=>hg.below.block b (hm.blkB n q b hA hd hb).2) fo h1
 blkB:=fun n p b hp hd hb=>by
  cases hA:A n with
  | none=>have:=(hg.new n p hA hp).2.1 b hb; have:=hm.hB; omega
  | some q =>have:=hg.old n q hA;rw[this] at hp; cases hp;have h1:=hm.blkB n q b hA (fun e=>hd (Pb.2 e)) hb;have:=hg.below.size;omega
 inj:=fun n m p q b hp hq hdp hdq hbp hbq=>by
  cases hA:A n with
  | none =>
    have h1:=(hg.new n p hA hp).2.1 b hbp;cases hA2:A m with
    | none=>exact hg.inj n m p q b hA hA2 hp hq hbp hbq
    | some q' =>have:=hg.old m q' hA2;rw[this] at hq; cases hq;have h2:=hm.blkB m q' b hA2 (fun e=>hdq (Pb.2 e)) hbq;omega
  | some p' =>
    have:=hg.old n p' hA;rw[this] at hp; cases hp;have h1:=hm.blkB n p' b hA (fun e=>hdp (Pb.2 e)) hbp;cases hA2:A m with
    | none=>have h2:=(hg.new m q hA2 hq).2.1 b hbq; omega
    | some q' =>have:=hg.old m q' hA2;rw[this] at hq; cases hq;exact hm.inj n m p' q' b hA hA2 (fun e=>hdp (Pb.2 e)) (fun e=>hdq (Pb.2 e)) hbp hbq
def Aan(A:Nat->Option Place)(frz:List Nat)(n:Nat)(p:Place):Nat->Option Place:=fun m=>if m=n then some p else (A m).map (fzP frz m)
theorem Agp{A:Nat->Option Place}{frz:List Nat}{n m:Nat}{p q:Place}(hn:A n=none)(hm:A m=some q):Aan A frz n p m=some (fzP frz m q):=by unfold Aan; rw[Bfb (fun e=>by rw[e,hn] at hm; cases hm),hm]; rfl
theorem V1{A:Nat->Option Place}{frz:List Nat}{n m:Nat}{p q:Place}(h:Aan A frz n p m=some q):(m=n/\q=p)\/∃r,A m=some r/\q=fzP frz m r:=by
 unfold Aan at h;split at h
 ·cases h; exact .inl ⟨‹_›,rfl⟩
 ·cases hA:A m with
  | none=>simp[hA] at h
  | some r=>simp only[hA,zU,Bes] at h; exact .inr ⟨r,rfl,h.symm⟩
theorem Mc.alloc{nm:Nat}(hnm:A nm=none){cells:Array Value}{e:TypeId}{p:Place}{ob:OB}(hst:p.st=.live)(hblk:∀b,p.H8=some b->b=w.heap.size)
 (hrel:Kd A w (Aan A frz nm p) (w.alloc (.cells cells e))->D6 (B1 I0 B (Aan A frz nm p) (w.alloc (.cells cells e))) (w.alloc (.cells cells e)) p (false,ob)) :
 Mc I0 B A w [(nm,ob)] frz (Aan A frz nm p) (w.alloc (.cells cells e)):=by
 have hmv:Kd A w (Aan A frz nm p) (w.alloc (.cells cells e)):=by
  refine⟨by simp,fun n q hq=>?_,fun n q b hq hl hb hlt=>?_,fun b hb _=>Below.heap_alloc _ _ _ hb⟩
  ·refine⟨_,Agp hnm hq,?_⟩;by_cases hd:q.st=.dead
   ·exact .inl (Pb.2 hd)
   ·exact .inr ⟨hd,rfl⟩
  ·rcases V1 hq with ⟨rfl,rfl⟩ | ⟨r,hr,rfl⟩
   ·have:=hblk b hb; omega
   ·exact⟨n,r,hr,(S5 hl).1,hb⟩
 refine⟨(Below.refl _ _).alloc (Bfj _) _,fun n q hq=>Agp hnm hq,fun n q h1 h2=>?_,fun n m q r b h1 h2 h3 h4 _ _=>?_⟩
 ·rcases V1 h2 with ⟨rfl,rfl⟩ | ⟨r,hr,rfl⟩
  ·exact⟨hst,fun b hb=>by rw[hblk b hb]; simp,ob,by simp,hrel hmv⟩
  ·rw[h1] at hr; cases hr
 ·rcases V1 h3 with ⟨rfl,rfl⟩ | ⟨r,hr,rfl⟩
  ·rcases V1 h4 with ⟨rfl,rfl⟩ | ⟨r,hr,rfl⟩
   ·rfl
   ·rw[h2] at hr; cases hr
  ·rw[h1] at hr; cases hr
end
theorem An6{c:Ctx}{w:World}{d:DV}{v:Value}(hf:Xo d=true)(h:Au c w d v):v.oneCell'=true:=by
 cases d<;>simp only[Xo,yd] at hf<;>try simp only[Au] at h
 case nil=>subst h; rfl
 case bool=>subst h; rfl
 case int=>subst h; rfl
 case fl=>obtain⟨m,rfl,_⟩:=h; rfl
 case nb=>obtain⟨m,rfl,_⟩:=h; rfl
 case ints g k l =>
  cases g with
  | own i e=>simp only[Au] at h; exact Jn h.1
  | arg=>simp only[Au] at h; obtain⟨a,cap,rfl,_⟩:=h; rfl
  | fresh=>simp only[Au] at h; obtain⟨a,cap,rfl,_⟩:=h; rfl
 case recs g sz l =>
  cases g with
  | own i e=>simp only[Au] at h; obtain⟨rows,_,_,ho,_⟩:=h; exact Jn ho
  | arg=>simp only[Au] at h; obtain⟨a,cap,rfl,_⟩:=h; rfl
  | fresh=>simp only[Au] at h; obtain⟨a,cap,rfl,_⟩:=h; rfl
 case oref=>exact h.1
 case sref=>exact h.1
 case ptr=>exact h.1
 case cellp=>obtain⟨b,o,vs,rfl,_⟩:=h; rfl
 case fn=>obtain⟨fs,cs,rfl,_⟩:=h; rfl
theorem Axe{v:Value}(h:v.oneCell'=true):v.cells=#[v]:=by cases v<;>simp[Value.oneCell'] at h<;>rfl
theorem Alr{d:DV}(hd:∀l,d≠.agg l)(h:R6 d=true):Xo d=true:=by cases d<;>first | exact h | exact absurd rfl (hd _)
theorem Arx{d:DV}(hd:∀l,d≠.agg l):cells d=[d]:=by cases d<;>first | rfl | exact absurd rfl (hd _)
theorem Aby{c:Ctx}{w:World}{d:DV}{v:Value}(hf:R6 d=true)(h:Au c w d v):Bh c w (cells d) v.cells.toList:=by
 by_cases hd:∃l,d=.agg l
 ·obtain⟨l,rfl⟩:=hd;simp only[Au] at h;obtain⟨vs,rfl,hl⟩:=h;exact hl
 ·have hd':∀l,d≠.agg l:=fun l e=>hd ⟨l,e⟩
  rw[Axe (An6 (Alr hd' hf) h),Arx hd'];simp only[Bh];exact⟨v,[],rfl,h,rfl⟩
theorem Ali{c:Ctx}{w:World}:∀{ds:List DV} {vs:List Value},ds.all Xo=true->Bh c w ds vs->∀v∈vs,v.oneCell'=true
 | [],vs,_,h,v,hv=>by rw[Bh.Im] at h; subst h; cases hv
 | d::ds,vs,hf,h,v,hv=>by
   rw[Bh.Df] at h;obtain⟨u,us,rfl,h1,h2⟩:=h;simp only[List.all_cons,Be0] at hf;cases hv with
   | head=>exact An6 hf.1 h1
   | tail _ hm=>exact Ali hf.2 h2 v hm
theorem Xn{c:Ctx}{w:World}(off:Nat):∀(ds:List DV) (vs:List Value) (k:Nat) (cs:List DV) (cells:Array Value),Bh c w ds vs->Bh c w cs cells.toList ->
 Bh c w ((ds.zipIdx k).foldl (fun cs (c,j)=>cs.set (off+j) c) cs) ((vs.zipIdx k).foldl (fun cs (c,j)=>cs.setIfInBounds (off+j) c) cells).toList
 | [],vs,k,cs,cells,h,hc=>by rw[Bh.Im] at h; subst h; simpa using hc
 | d::ds,vs,k,cs,cells,h,hc=>by rw[Bh.Df] at h;obtain⟨u,us,rfl,h1,h2⟩:=h;simp only[List.zipIdx_cons,yn];exact Xn off ds us (k+1) _ _ h2 (by rw[Array.toList_setIfInBounds]; exact hc.set _ h1)
inductive N1(c:Ctx)(w:World):List (Nat × DV)->List (Nat × Value)->Prop
 | nil:N1 c w [] []
 | cons {i:Nat} {d:DV} {v:Value} {ds:List (Nat × DV)} {vs:List (Nat × Value)}:Au c w d v->N1 c w ds vs->N1 c w ((i,d)::ds) ((i,v)::vs)
theorem Aku{c:Ctx}{w:World}{pl:Nat->Option (Nat × Nat)}{pl':Nat->Option (Nat × Nat)}(hpl:∀i x,pl i=some x->pl' i=some x) :
 ∀{ps:List (Nat × DV)} {vs:List (Nat × Value)},N1 c w ps vs->∀(cs cs':List DV) (cells:Array Value),Bh c w cs cells.toList->Aaa pl cs ps=some cs' ->
  ∃cells',Instr.fill pl' cells vs=some cells'/\Bh c w cs' cells'.toList:=by
 intro ps vs h
 induction h with
 | nil=>intro cs cs' cells hc hf; simp only[Aaa,Bes] at hf; subst hf; exact⟨cells,rfl,hc⟩
 | @cons i d v ds vs hd _ ih =>
   intro cs cs' cells hc hf;simp only[Aaa] at hf;cases hp:pl i with
   | none=>simp[hp] at hf
   | some x =>
     obtain⟨off,size⟩:=x;simp only[hp] at hf;by_cases hq:(R6 d&&(Go.Den.cells d).length==size&&decide (off+(Go.Den.cells d).length<=cs.length))=true
     ·rw[hq,Bep] at hf;simp only[Be0,beq_iff_eq,Bew] at hq;obtain⟨⟨hw,hs⟩,hb⟩:=hq;have hr:=Aby hw hd;have hlen:=hr.length;have hcl:=hc.length;have hset:=Xn off _ _ 0 cs cells hr hc;obtain⟨cells',h1,h2⟩:=ih _ _ _ hset hf;refine⟨cells',?_,h2⟩;simp only[Instr.fill,hpl i _ hp]
      have e1:¬(v.cells.size≠size||decide (off+v.cells.size>cells.size))=true:=by simp only[ya] at hlen hcl;simp; omega
      rw[Bfb (by simpa using e1)];rw[<- h1];congr 1;rw[<- vN,Array.toList_zipIdx]
     ·simp only[zF] at hq;rw[hq] at hf; simp at hf
section
variable{P:Program}{E:Env}{I0:Nat->Prop}{B:Nat}{A:Nat->Option Place}{h:Ev}{w:World}{t:TypeId}
theorem run_places(hty:∀t ti,E.ty t=some ti->Cz P t ti):∀(gs:List Field) (l:List (Nat × Nat)),Ze E (gs.map fun f=>(f.offset,f.type))=some l ->
 (gs.mapM (fun f=>(do pure (f.offset,<- sizeOf f.type):Sem (Nat × Nat)))).run P w=.ok l w
 | [],l,h=>by simp only[List.map_nil,Ze,Bes] at h; subst h; rfl
 | f::gs,l,h=>by
   simp only[yx,Ze] at h;split at h
   ·rename_i ti hT;split at h
    ·rename_i l' hl;simp only[Bes] at h; subst h;have ih:=run_places hty gs l' hl;simp only[List.mapM_cons,Sem.run_bind,(hty _ _ hT).Kk w,Result.andThen_ok,Sem.run_pure,ih]
    ·cases h
   ·cases h
theorem A18(hty:∀t ti,E.ty t=some ti->Cz P t ti){c:Ctx}{ti:TI}(hT:E.ty t=some ti){pl:Nat->Option (Nat × Nat)}(hp:Adh E t=some pl)
 {ps:List (Nat × DV)} {vs:Array (Nat × Value)} (hr:N1 c w ps vs.toList) {cs:List DV} (hf:Aaa pl ti.zero ps=some cs) :
 ∃v,(Instr.build t vs).run P w=.ok v w/\Au c w (.agg cs) v:=by
 obtain⟨z,hz,hzr,_,_⟩:=(hty _ _ hT).Aen w;unfold Adh at hp;split at hp
 ·rename_i fs _ hT';have hd:=(hty _ _ hT').desc;simp only[Dd] at hd;obtain⟨gs,hu,hg⟩:=hd;split at hp
  ·rename_i l hl;simp only[Bes] at hp; subst hp;rw[<- hg] at hl;have hm:=run_places (P:=P) (w:=w) hty gs.toList l hl;obtain⟨cells',h1,h2⟩:=Aku (pl':=fun i=>l.toArray[i]?) (fun i x hx=>by simpa using hx) hr _ _ _ (hzr c w) hf;refine⟨.agg cells',?_,by simp only[Au]; exact⟨_,rfl,h2⟩⟩
   have hm':(gs.mapM (fun f=>(do pure (f.offset,<- sizeOf f.type):Sem (Nat × Nat)))).run P w=.ok l.toArray w:=by rw[Array.mapM_eq_mapM_toList];simp only[Sem.run_map,hm,Result.andThen_ok]
   simp only[Instr.build,Sem.run_bind,hz,Result.andThen_ok,run_underlying hu,hm',h1,Sem.run_pure]
  ·cases hp
 ·rename_i n e _ hT';have hu:=(hty _ _ hT').desc;simp only[Dd] at hu;split at hp
  ·rename_i ei hE;simp only[Bes] at hp; subst hp;have hes:=(hty _ _ hE).Kk w;obtain⟨cells',h1,h2⟩:=Aku (pl':=fun i=>some (i*ei.size,ei.size)) (fun i x hx=>hx) hr _ _ _ (hzr c w) hf;refine⟨.agg cells',?_,by simp only[Au]; exact⟨_,rfl,h2⟩⟩;simp only[Instr.build,Sem.run_bind,hz,Result.andThen_ok,run_underlying hu,hes,h1,Sem.run_pure]
  ·cases hp
 ·cases hp
end
theorem Afm{c:Ctx}{w:World}{k:IntKind}:∀{cs:List DV} {l:List Int} {vs:List Value},Wu k cs=some l->Bh c w cs vs->vs=l.map (Value.int k)
 | [],l,vs,h,hr=>by simp only[Wu,Bes] at h; subst h; rw[Bh.Im] at hr; simpa using hr
 | d::cs,l,vs,h,hr=>by
   rw[Bh.Df] at hr;obtain⟨u,us,rfl,h1,h2⟩:=hr;cases d<;>simp only[Wu,reduceCtorEq] at h;rename_i k' n;split at h
   ·rename_i hk;split at h
    ·rename_i l' hl;simp only[Bes] at h; subst h;simp only[Au] at h1;subst h1;have:k=k':=by simpa using hk
     subst this;rw[Afm hl h2]; rfl
    ·cases h
   ·cases h
theorem Ai0{c:Ctx}{w:World}{sz:Nat}:∀(n:Nat) (ds:List DV) (vs:List Value),Bh c w ds vs->vs.length=n*sz->(∀v∈vs,v.oneCell'=true) ->
 ∃rows:List (List Value),rows.flatten=vs/\D5 c w (chunk sz n ds) rows/\(∀r∈rows,r.length=sz/\∀u∈r,u.oneCell'=true)
 | 0,ds,vs,h,hl,_=>by have:vs=[]:=Bfq (by omega);subst this;exact⟨[],rfl,by simp[chunk,D5],by simp⟩
 | n+1,ds,vs,h,hl,h1=>by
   rw[yj] at hl;obtain⟨rows,e1,e2,e3⟩:=Ai0 (sz:=sz) n (ds.drop sz) (vs.drop sz) (h.drop sz) (by rw[zP]; omega) (fun v hv=>h1 v (yF hv));refine⟨vs.take sz::rows,by rw[yN,e1,List.take_append_drop],?_,?_⟩
   ·simp only[chunk,D5];exact⟨_,_,rfl,h.take sz,e2⟩
   ·intro r hr;cases hr with
    | head=>exact⟨by rw[zI]; omega,fun u hu=>h1 u (yY hu)⟩
    | tail _ hm=>exact e3 r hm
theorem Aad(sz:Nat):∀(n:Nat) (ds:List DV),(chunk sz n ds).length=n
 | 0,_=>rfl
 | n+1,ds=>by simp[chunk,Aad sz n]
section
variable{P:Program}{E:Env}{I0:Nat->Prop}{B:Nat}{A:Nat->Option Place}{h:Ev}{w:World}{t:TypeId}
theorem Zg(hB:B<=w.heap.size)(cells:Array Value)(e:TypeId)(n sz:Nat)(hl:cells.size=n*sz)(hm:n<=maxLen) :
 (w.alloc (.cells cells e)).ownsRow B e sz (.slice (some ⟨w.heap.size,0,none⟩) n n) n cells.toList :=
 ⟨by rw[ya]; exact hl,.inr ⟨w.heap.size,n,cells,rfl,hB,heap_alloc_new w _,Bfj _,hm,hl,by rw[<- hl,<- ya,ym]⟩⟩
theorem Acu{α:Type}[Inhabited α](z:Array α)(len:Nat)(hz:0<z.size):((xp (len*z.size)).map (z[·%z.size]!)).toList=(zp len z.toList).flatten:=by
 apply List.ext_getElem?;intro i;by_cases hi:i<len*z.size
 ·have h1:((xp (len*z.size)).map (z[·%z.size]!)).toList[i]?=some (z[i%z.size]!):=by simp[hi]
  rw[h1]
  have h2:=R1 (sz:=z.size) (rows:=zp len z.toList) (fun r hr=>by rw[(xX.1 hr).2]; simp) (i / z.size) z.toList (by rw[xY,Bfc (Nat.div_lt_of_lt_mul (by rw[Bfd]; exact hi))]) (i%z.size) (z[i%z.size]!) (by have:=Nat.mod_lt i hz;simp[this])
  rw[Nat.div_add_mod'] at h2;exact h2.symm
 ·rw[Bf7 (by simpa using hi),Bf7];simp;simpa using hi
theorem Acm{c:Ctx}{w:World}{ds:List DV}{vs:List Value}(h:Bh c w ds vs):∀n,Bh c w (zp n ds).flatten (zp n vs).flatten
 | 0=>by simp[Bh]
 | n+1=>by simp only[List.replicate_succ,yN]; exact h.append (Acm h n)
theorem Vo(off:Nat):∀(l:List (Value × Nat)) (cells:Array Value),(l.foldl (fun cs (c,j)=>cs.setIfInBounds (off+j) c) cells).size=cells.size
 | [],_=>rfl
 | x::l,cells=>by simp only[yn]; rw[Vo off l]; simp
theorem Ait{pl:Nat->Option (Nat × Nat)}:∀{vs:List (Nat × Value)} {cells cells':Array Value},Instr.fill pl cells vs=some cells'->cells'.size=cells.size
 | [],cells,cells',h=>by simp only[Instr.fill,Bes] at h; rw[h]
 | (i,v)::vs,cells,cells',h=>by
   simp only[Instr.fill] at h;split at h
   ·cases h
   ·split at h
    ·cases h
    ·rw[Ait h,<- vN];exact Vo _ _ _
theorem A33(hm:Mem I0 B A h w){A':Nat->Option Place}{w':World}(hmv:Kd A w A' w'){ns:List Nat}(hf:∀n∈ns,∀p,A n=some p->∃q,A' n=some q/\q.st≠.live)
 (hinj:∀n m p q b,A' n=some p->p.st=.live->p.H8=some b->b<w.heap.size->A m=some q->q.st≠.dead->q.H8=some b->n=m) {b:Nat} (hb:seen I0 B A w ns b):(B1 I0 B A' w').ok b:=by
 rcases hb with hb | ⟨n,p,hn,hp,hnd,hpb⟩
 ·exact hmv.Em.ok b hb
 ·obtain⟨h1,h2⟩:=hm.blkB n p b hp hnd hpb;refine⟨Bf0 h2 hmv.size,.inr h1,fun m q hq hl hqb=>?_⟩;have:=hinj m n q p b hq hl hqb h2 hp hnd hpb;subst this;obtain⟨q',hq',hnl⟩:=hf m hn p hp;rw[hq] at hq'; cases hq';exact hnl hl
theorem Pg.A4n{A':Nat->Option Place}{w':World}{ns:List Nat}(hm:Mem I0 B A h w)(hB:Below w.heap.size w w')(hok:∀b,seen I0 B A w ns b->(B1 I0 B A' w').ok b):Pg (Lq (seen I0 B A w ns)) w (B1 I0 B A' w').bare w' where
 ok:=hok
 B:=rfl
 fr:=rfl
 own:=fun _ _ h=>by cases h
 at_:=fun _ _ h=>by cases h
 cell:=fun b o hb=>World.cell?_of_block (hB.block b (by
  rcases hb with hb | ⟨n,p,hn,hp,hnd,hpb⟩
  ·exact hb.1
  ·exact(hm.blkB n p b hp hnd hpb).2))
 ownc:=fun _ _ h=>by cases h
theorem Agf(hty:∀t ti,E.ty t=some ti->Cz P t ti)(hm:Mem I0 B A h w){nm len:Nat}{ps:List (Nat × DV)}{vs:Array (Nat × Value)}
 (hr:N1 (B1 I0 B A w) w ps vs.toList) {r:R2} (hl:Vu E h nm t len ps=some r) (hnew:∀n ob,(n,ob)∈r.objs->A n=none) :
 ∃v w' A',(Instr.buildSlice t len vs).run P w=.ok v w'/\Mc I0 B A w r.objs r.frz A' w'/\Au (B1 I0 B A' w') w' r.v v:=by
 unfold Vu at hl;split at hl
 ·rename_i e _ hT;have hu:=(hty _ _ hT).desc;simp only[Dd] at hu;cases hE:E.ty e with
  | none=>simp[hE] at hl
  | some ei =>
  simp only[hE,Bex] at hl;by_cases hq:(decide (len*ei.size<=4096)&&decide (0<ei.size))=true
  ·rw[hq,Bep] at hl;simp only[Be0,Bew] at hq;obtain⟨hq1,hq2⟩:=hq;obtain⟨z,hz,hzr,hzs,hz1⟩:=(hty _ _ hE).Aen w;have hes:=(hty _ _ hE).Kk w;cases hfd:Aaa (fun i=>some (i*ei.size,ei.size)) (zp len ei.zero).flatten ps with
   | none=>simp[hfd] at hl
   | some cs =>
   simp only[hfd,Bex] at hl
   have hzz:Bh (B1 I0 B A w) w (zp len ei.zero).flatten ((xp (len*ei.size)).map (z.cells[·%z.cells.size]!)).toList:=by rw[<- hzs,Acu _ _ (by omega)];exact Acm (hzr _ _) len
   obtain⟨cells',h1,h2⟩:=Aku (pl':=fun i=>some (i*ei.size,ei.size)) (fun i x hx=>hx) hr _ _ _ hzz hfd
   have hsz:cells'.size=len*ei.size:=by rw[Ait h1]; simp
   have hrun:(Instr.buildSlice t len vs).run P w=.ok (.slice (some ⟨w.heap.size,0,none⟩) len len) (w.alloc (.cells cells' e)):=by
    have hnb:¬len*ei.size>2^24:=by omega
    simp only[Instr.buildSlice,Sem.run_bind,run_underlying hu,Result.andThen_ok,hes,Bfb hnb];by_cases h0:len*ei.size=0
    ·have h1':Instr.fill (fun i=>some (i*ei.size,ei.size)) #[] vs.toList=some cells':=by rw[<- h1,h0,show xp 0=#[] from rfl,Array.map_empty]
     have e0:(Array.map (fun x=>(#[]:Array Value)[x%(#[]:Array Value).size]!) (xp 0))=#[]:=by rw[show xp 0=#[] from rfl,Array.map_empty]
     simp only[h0,if_true,Sem.run_bind,Sem.run_pure,Result.andThen_ok,e0,h1'];simp[newRow]
    ·simp only[Bfb h0,Sem.run_bind,hz,Result.andThen_ok,Sem.run_pure,h1];simp[newRow]
   have hlm:len<=maxLen:=by unfold maxLen;have:=Nat.mul_le_mul_left len (show 1<=ei.size by omega);omega
   have hone:(Value.slice (some ⟨w.heap.size,0,none⟩) len len).ownBlock=some w.heap.size:=rfl;split at hl
   ·rename_i k hk;by_cases hs1:ei.size=1
    ·simp only[hs1,Bfp,Bep] at hl;cases hI:Wu k cs with
     | none=>simp[hI] at hl
     | some l =>
       simp only[hI,Bex,Bes] at hl; subst hl;have hnm:A nm=none:=hnew nm _ (zf.2 rfl);have hv:=Afm hI h2
       have hll:l.length=len:=by have:=congrArg length hv;rw[ya,hsz,hs1] at this;simpa using this.symm
       refine⟨_,_,Aan A [] nm ⟨.live,.row (.slice (some ⟨w.heap.size,0,none⟩) len len) 1⟩,hrun,Mc.alloc hnm rfl (fun b hb=>by cases hb; rfl) (fun _=>?_),?_⟩
       ·unfold D6;refine⟨rfl,_,rfl,?_⟩;rw[<- hv,hll];exact Zg hm.hB cells' e len 1 (by rw[hsz,hs1]) hlm
       ·simp only[Au];exact⟨rfl,_,Bfc rfl,.inr ⟨1,rfl⟩⟩
    ·rw[show(ei.size==1)=false by simpa using hs1] at hl; simp at hl
   ·by_cases hfl:cs.all Xo=true
    ·rw[hfl,Bep] at hl;cases hlo:Ks h cs with
     | none=>simp[hlo] at hl
     | some a =>
     obtain⟨cs',ns⟩:=a;simp only[hlo,Bex,Bes] at hl; subst hl;have hnm:A nm=none:=hnew nm _ (zf.2 rfl);have hlow:=Qq (Zw hm 8) cs _ cs' ns hlo h2;obtain⟨rows,e1,e2,e3⟩:=Ai0 (sz:=ei.size) len cs' cells'.toList hlow (by rw[ya,hsz]) (Ali hfl h2);refine⟨_,_,Aan A ns nm ⟨.live,.row (.slice (some ⟨w.heap.size,0,none⟩) len len) ei.size⟩,hrun,Mc.alloc hnm rfl (fun b hb=>by cases hb; rfl) (fun hmv=>?_),?_⟩
     ·unfold D6;refine⟨rfl,hq2,_,rows,rfl,?_,e3,?_⟩
      ·have hlat:=Pg.A4n (ns:=ns) hm ((Below.refl w.heap.size w).alloc (Bfj _) (.cells cells' e)) (fun b hb=>A33 hm hmv (fun n hn p hp=>⟨_,Agp hnm hp,fun hl=>(S5 hl).2 hn⟩) (fun n m p q b h1 h2 h3 h4 h5 h6 h7=>by
        rcases V1 h1 with ⟨rfl,rfl⟩ | ⟨r,hr,rfl⟩
        ·have:w.heap.size=b:=xZ h3;omega
        ·exact hm.inj n m r q b hr h5 (by rw[(S5 h2).1]; simp) h6 h3 h7) hb)
       exact D5.Em hlat _ _ e2
      ·rw[Aad,e1];exact Zg hm.hB cells' e len ei.size hsz hlm
     ·simp only[Au];exact⟨rfl,_,Bfc rfl,.inr ⟨_,rfl⟩⟩
    ·simp only[zF] at hfl; rw[hfl] at hl; simp at hl
  ·simp only[zF] at hq; rw[hq] at hl; simp at hl
 ·cases hl
theorem Afe{n b:Nat}(h:n<=Q9 b):n<=maxLen:=by have:=Aff h; unfold maxLen; omega
theorem Ag5(hty:∀t ti,E.ty t=some ti->Cz P t ti)(hm:Mem I0 B A h w){nm:Nat}{a c:DV}{va vc:Value}(ha:Au (B1 I0 B A w) w a va)(hc:Au (B1 I0 B A w) w c vc)
 {r:R2} (hl:Yb E nm t a c=some r) (hr:r.req=true) (hnew:∀n ob,(n,ob)∈r.objs->A n=none) :
 ∃v w' A',(Instr.makeSlice t va vc).run P w=.ok v w'/\Mc I0 B A w r.objs r.frz A' w'/\Au (B1 I0 B A' w') w' r.v v:=by
 unfold Yb at hl;split at hl
 ·rename_i e _ k1 x k2 y hT;have hu:=(hty _ _ hT).desc;simp only[Dd] at hu;simp only[Au] at ha hc;subst ha; subst hc;cases hE:E.ty e with
  | none=>simp[hE] at hl
  | some ei =>
  simp only[hE,Bex] at hl;by_cases hq:(decide (ei.bytes<=128)&&decide (0<ei.size))=true
  ·rw[hq,Bep] at hl;simp only[Be0,Bew] at hq;obtain⟨hq1,hq2⟩:=hq;obtain⟨i,z,hi,hs,hb,hz,hzr,hzs,hz1⟩:=(hty _ _ hE).info
   have key:(0<=x/\x<=y/\y<=Q9 ei.bytes)->(Instr.makeSlice t (.int k1 x) (.int k2 y)).run P w=.ok (.slice (some ⟨w.heap.size,0,none⟩) x.toNat y.toNat) (w.alloc (.cells (madeCells z.cells (y.toNat*ei.size)) e)) /\
    (w.alloc (.cells (madeCells z.cells (y.toNat*ei.size)) e)).ownsRow B e ei.size (.slice (some ⟨w.heap.size,0,none⟩) x.toNat y.toNat) x.toNat (zp x.toNat z.cells.toList).flatten:=by
    intro⟨h0,h1,h2⟩
    have hbi:(i.bytes:Int)*y<=281474976710656:=by
     have hy:y.toNat<=Q9 ei.bytes:=by omega
     have hm:=Ach hy hq1
     have e1:(i.bytes:Int)*y=((y.toNat*ei.bytes:Nat):Int):=by rw[Bfa,Int.toNat_of_nonneg (by omega),hb,Int.mul_comm]
     rw[e1]; omega
    refine⟨by rw[<- hs]; exact run_make w t e i z hu hi hz k1 k2 x y h0 h1 hbi (by have:=Aff (show y.toNat<=Q9 ei.bytes by omega); omega),?_⟩;refine⟨by rw[Nw (sz:=ei.size) (fun r hr=>by rw[(xX.1 hr).2,ya,hzs])]; simp,.inr ⟨w.heap.size,y.toNat,_,rfl,hm.hB,heap_alloc_new w _,by omega,Afe (show y.toNat<=Q9 ei.bytes by omega),by rw[size_madeCells],?_⟩⟩;unfold madeCells;rw[<- hzs,Acu _ _ (by omega)];have e1:=Qh (sz:=z.cells.size) (rows:=zp y.toNat z.cells.toList) (fun r hr=>by rw[(xX.1 hr).2]; simp) x.toNat;rw[<- e1,List.take_replicate,yw (by omega)]
   split at hl
   ·rename_i k hk;split at hl
    ·rename_i k' z0 hz0;by_cases hs1:(ei.size==1&&decide (k=k'))=true
     ·rw[hs1,Bep,Bes] at hl; subst hl;have hnm:A nm=none:=hnew nm _ (zf.2 rfl);simp only[Be0,Bew,beq_iff_eq] at hr hs1;obtain⟨hs1,rfl⟩:=hs1;obtain⟨hrun,hown⟩:=key ⟨hr.1.1,hr.1.2,hr.2⟩;refine⟨_,_,Aan A [] nm ⟨.live,.row (.slice (some ⟨w.heap.size,0,none⟩) x.toNat y.toNat) 1⟩,hrun,Mc.alloc hnm rfl (fun b hb=>by cases hb; rfl) (fun _=>?_),?_⟩
      ·unfold D6;refine⟨rfl,_,rfl,?_⟩
       have hzc:z.cells.toList=[.int k z0]:=by have:=hzr (B1 I0 B A w) w;rw[hz0] at this;simp only[Bh,Au] at this;obtain⟨u,us,e1,rfl,rfl⟩:=this;exact e1
       rw[hzc] at hown;have:(zp x.toNat [Value.int k z0]).flatten=(zp x.toNat z0).map (Value.int k):=by simp
       rw[this] at hown;simp only[hs1] at hown ⊢;rw[xq];exact hown
      ·simp only[Au];exact⟨rfl,_,Bfc rfl,.inr ⟨1,rfl⟩⟩
     ·simp only[zF] at hs1; rw[hs1] at hl; simp at hl
    ·cases hl
   ·simp only[Bes] at hl; subst hl;have hnm:A nm=none:=hnew nm _ (zf.2 rfl);simp only[Be0,Bew] at hr;obtain⟨hrun,hown⟩:=key ⟨hr.1.1,hr.1.2,hr.2⟩;refine⟨_,_,Aan A [] nm ⟨.live,.row (.slice (some ⟨w.heap.size,0,none⟩) x.toNat y.toNat) ei.size⟩,hrun,Mc.alloc hnm rfl (fun b hb=>by cases hb; rfl) (fun _=>?_),?_⟩
    ·unfold D6;refine⟨rfl,hq2,_,zp x.toNat z.cells.toList,rfl,?_,?_,by rw[xq]; exact hown⟩
     ·refine D5.Pl (by simp) fun i d r h1 h2=>?_
      simp[xY] at h1 h2;obtain⟨_,rfl⟩:=h1;obtain⟨_,rfl⟩:=h2;exact hzr _ _
     ·intro r hr';rw[(xX.1 hr').2];exact⟨by rw[ya,hzs],hz1⟩
    ·simp only[Au];exact⟨rfl,_,Bfc rfl,.inr ⟨_,rfl⟩⟩
  ·simp only[zF] at hq; rw[hq] at hl; simp at hl
 ·cases hl
end
def lk{α:Type}:List (Nat × α)->Nat->Option α
 | [],_=>none
 | (m,x)::l,n=>if m=n then some x else lk l n
theorem Arb{α:Type}:∀{l:List (Nat × α)} {n:Nat} {x:α},lk l n=some x->(n,x)∈l
 | [],n,x,h=>by cases h
 | (m,y)::l,n,x,h=>by
   simp only[lk] at h;split at h
   ·rename_i e; cases h; subst e; exact Bf4
   ·exact Bfu _ (Arb h)
theorem Wq{α:Type}:∀{l:List (Nat × α)} {n:Nat} {x:α},(l.map (·.1)).Nodup->(n,x)∈l->lk l n=some x
 | [],n,x,_,h=>by cases h
 | (m,y)::l,n,x,hn,h=>by
   simp only[yx,xM] at hn;simp only[lk];cases h with
   | head=>rw[Bfc rfl]
   | tail _ h =>rw[Bfb (fun e=>hn.1 (by rw[e]; exact vS (f:=fun x:Nat × α=>x.1) h))];exact Wq hn.2 h
theorem Mz:∀{l:List Nat},Pm l=true->l.Nodup
 | [],_=>List.nodup_nil
 | a::l,h=>by simp only[Pm,Be0,Bool.not_eq_true'] at h;rw[xM];exact⟨by simpa using h.1,Mz h.2⟩
theorem Rh{g:Nat->DV->Option (DV × List (Nat × OB) × List Nat)}(ih:∀nm d d' os is,g nm d=some (d',os,is)->os=[]) :
 ∀(l:List DV) nm l' os is,Nz g nm l=some (l',os,is)->os=[]
 | [],nm,l',os,is,h=>by simp only[Nz,Bes,Bey] at h; exact h.2.1.symm
 | d::l,nm,l',os,is,h=>by
   simp only[Nz] at h;split at h
   ·rename_i x os1 is1 hg;split at h
    ·rename_i xs os2 is2 hg2;simp only[Bes,Bey] at h;rw[<- h.2.1,ih _ _ _ _ _ hg,Rh ih l _ _ _ _ hg2]; rfl
    ·cases h
   ·cases h
theorem Alj:∀(f:Nat) nm d d' os is,Hf false f nm d=some (d',os,is)->os=[]:=by
 intro f
 induction f with
 | zero=>intro nm d d' os is h; simp[Hf] at h
 | succ f ih =>
   intro nm d d' os is h;cases d with
   | agg l =>
     simp only[Hf] at h;split at h
     ·rename_i l' os' is' hg;simp only[Bes,Bey] at h;rw[<- h.2.1]; exact Rh ih l _ _ _ _ hg
     ·cases h
   | tup l =>
     simp only[Hf] at h;split at h
     ·rename_i l' os' is' hg;simp only[Bes,Bey] at h;rw[<- h.2.1]; exact Rh ih l _ _ _ _ hg
     ·cases h
   | ints g k l=>cases g<;>simp[Hf] at h<;>exact h.2.1
   | recs g sz l=>cases g<;>simp[Hf] at h<;>exact h.2.1
   | _=>simp[Hf] at h<;>exact h.2.1
section
variable{I:Nat->Prop}{own:Nat->Option Nat}{w w':World}
theorem Ae0{f:Nat}(ih:∀d v,H2 f d=false->Au (E4 I own w w') w' d v->Au (E4 (fun _=>False) own w w') w' d v) :
 ∀(l:List DV) (vs:List Value),l.any (H2 f)=false->Bh (E4 I own w w') w' l vs->Bh (E4 (fun _=>False) own w w') w' l vs
 | [],vs,_,h=>by rw[Bh.Im] at h ⊢; exact h
 | d::l,vs,ha,h=>by rw[Bh.Df] at h ⊢;simp only[List.any_cons,Bool.or_eq_false_iff] at ha;obtain⟨u,us,rfl,h1,h2⟩:=h;exact⟨u,us,rfl,ih d u ha.1 h1,Ae0 ih l us ha.2 h2⟩
theorem A4p:∀(f:Nat) (d:DV) (v:Value),H2 f d=false->Au (E4 I own w w') w' d v->Au (E4 (fun _=>False) own w w') w' d v:=by
 intro f
 induction f with
 | zero=>intro d v h; simp[H2] at h
 | succ f ih =>
   intro d v ha hv;cases d with
   | agg l=>simp only[H2] at ha; simp only[Au] at hv ⊢; obtain⟨vs,rfl,hl⟩:=hv; exact⟨vs,rfl,Ae0 ih l _ ha hl⟩
   | tup l=>simp only[H2] at ha; simp only[Au] at hv ⊢; obtain⟨vs,rfl,hl⟩:=hv; exact⟨vs,rfl,Ae0 ih l _ ha hl⟩
   | ints g k l =>
     cases g with
     | arg=>simp[H2] at ha
     | own i e=>simp only[Au] at hv ⊢; exact hv
     | fresh =>simp only[Au] at hv ⊢;obtain⟨a,cap,rfl,hc,hh⟩:=hv;exact⟨a,cap,rfl,hc,hh.imp id fun⟨b,o,e,hb,hr⟩=>⟨b,o,e,⟨⟨hb.1.1,.inr hb.2.2,hb.1.2.2⟩,rfl,hb.2.2⟩,hr⟩⟩
   | recs g sz l=>simp[H2] at ha
   | undef=>simp[H2] at ha
   | cellp cs=>simp[H2] at ha
   | fn g a c=>simp[H2] at ha
   | nil=>simpa only[Au] using hv
   | bool b=>simpa only[Au] using hv
   | int k n=>simpa only[Au] using hv
   | fl n=>simpa only[Au] using hv
   | nb n=>simpa only[Au] using hv
   | oref n=>simp only[Au] at hv; obtain⟨_,p,hp,_⟩:=hv; cases hp
   | sref n o l=>simp only[Au] at hv; obtain⟨_,p,hp,_⟩:=hv; cases hp
   | ptr n i j=>simp only[Au] at hv; obtain⟨_,p,hp,_⟩:=hv; cases hp
   | gd g d=>simp[H2] at ha
end
section
variable{P:Program}{E:Env}{I0:Nat->Prop}{B:Nat}{A:Nat->Option Place}{h:Ev}{w:World}
theorem A51(hm:Mem I0 B A h w)(htab:∀g e,E.J4 g=some e->Acx P g e){nm:Nat}{ad:Bool}{g:FuncId}{args:List DV}{r:R2}(hl:At7 E h nm ad g args=some r)(hreq:r.req=true)
 (hnew:∀n ob,(n,ob)∈r.objs->A n=none) (hnd:(r.objs.map (·.1)).Nodup) {vals:Array Value} (hv:Bh (B1 I0 B A w) w args vals.toList) :
 Calls P g vals w fun e w'=>∃v,e=.returned v/\∃A',Mc I0 B A w r.objs r.frz A' w'/\Au (B1 I0 B A' w') w' r.v v:=by
 unfold At7 at hl;cases h1:Ks h args with
 | none=>simp[h1] at hl
 | some a =>
 obtain⟨as,ns⟩:=a;cases h2:E.J4 g with
 | none=>simp[h1,h2] at hl
 | some e =>
 cases h3:Hf ad 6 nm (e.out as) with
 | none=>simp[h1,h2,h3] at hl
 | some x =>
 obtain⟨d,os,is⟩:=x;simp only[h1,h2,h3,Bex] at hl;cases h4:Pm is with
 | false=>simp[h4] at hl
 | true =>
 simp only[h4,Bep,Bes] at hl;subst hl;dsimp only at hreq hnew hnd ⊢;have hargs:=Qq (Zw hm 8) args vals.toList as ns h1 hv
 have hIlt:∀b,seen I0 B A w ns b->b<w.heap.size:=by
  intro b hb;rcases hb with hb | ⟨n,p,hn,hp,hdd,hpb⟩
  ·exact hb.1
  ·exact(hm.blkB n p b hp hdd hpb).2
 refine(htab g e h2 as hreq w vals _ hIlt hargs).mono fun en w' hpost=>?_
 obtain⟨v,own,rfl,hbel,hown,hres⟩:=hpost;refine⟨v,rfl,?_⟩;have hisn:=Mz h4
 have main:∀(J:Nat->Prop),(∀b,J b->seen I0 B A w ns b)->((cond (H2 6 (e.out as)) ns ([]))=ns\/∀b,¬J b)->Au (E4 J own w w') w' (e.out as) v ->
  ∃A',Mc I0 B A w os (cond (H2 6 (e.out as)) ns ([])) A' w'/\Au (B1 I0 B A' w') w' d v:=by
  intro J hJ hcase hresJ;generalize hfr:(cond (H2 6 (e.out as)) ns ([]))=frz at hcase ⊢;obtain⟨ps,q1,q2,q3,q4⟩:=Axn (I0:=I0) (B:=B) 6 nm _ v d os is hresJ h3;have hpn:(ps.map (·.1)).Nodup:=by rw[q1]; exact hnd
  have hAnone:∀n p,(n,p)∈ps->A n=none:=by
   intro n p hn;have:n∈os.map (·.1):=by rw[<- q1]; exact vS (f:=fun x:Nat × Place=>x.1) hn
   obtain⟨⟨n',ob⟩,hm',e'⟩:=List.mem_map.1 this;dsimp only at e';subst e';exact hnew n' ob hm'
  let A':Nat->Option Place:=fun m=>match lk ps m with | some p=>some p | none=>(A m).map (fzP frz m)
  have hA'new:∀n p,(n,p)∈ps->A' n=some p:=by intro n p hn;show(match lk ps n with | some p=>some p | none=>(A n).map (fzP frz n))=some p;rw[Wq hpn hn]
  have hA'old:∀n p,A n=some p->A' n=some (fzP frz n p):=by
   intro n p hp;show(match lk ps n with | some p=>some p | none=>(A n).map (fzP frz n))=_;cases hq:lk ps n with
   | some p'=>rw[hAnone n p' (Arb hq)] at hp; cases hp
   | none=>rw[hp]; rfl
  have hA'inv:∀n p,A' n=some p->(n,p)∈ps\/∃q,A n=some q/\p=fzP frz n q:=by
   intro n p hp;have hp:(match lk ps n with | some p=>some p | none=>(A n).map (fzP frz n))=some p:=hp;cases hq:lk ps n with
   | some p'=>rw[hq] at hp; cases hp; exact .inl (Arb hq)
   | none =>
     rw[hq] at hp;cases hA:A n with
     | none=>rw[hA] at hp; cases hp
     | some q=>rw[hA] at hp; cases hp; exact .inr ⟨q,rfl,rfl⟩
  have hpown:∀n p b,(n,p)∈ps->p.H8=some b->∃i,own i=some b:=by intro n p b hn hb;obtain⟨j,hj⟩:=x5 hn;obtain⟨_,i,_,hi⟩:=q3 j n p hj;exact⟨i,hi b hb⟩
  have good:Good I0 J B own w w' ad A':=by
   refine⟨fun b ⟨hb1,hb2,hb3⟩=>⟨hb1,?_,fun n p hp hl hpb=>?_⟩,fun had i b hi hge=>⟨(hown.lt i b hi).2,.inr (Bfw hm.hB hge),fun n p hp hl hpb=>?_⟩,hm.hB⟩
   ·rcases hb2 with hb2 | hb2
    ·rcases hJ b hb2 with hb2 | ⟨n,p,hn,hp,hdd,hpb⟩
     ·exact hb2.2.1
     ·exact .inr (hm.blkB n p b hp hdd hpb).1
    ·exact .inr (Bfw hm.hB hb2)
   ·rcases hA'inv n p hp with hn | ⟨q,hq,rfl⟩
    ·obtain⟨i,hi⟩:=hpown n p b hn hpb;exact hb3 i hi
    ·obtain⟨hql,hnf⟩:=S5 hl;have hqb:=hm.blkB n q b hq (by rw[hql]; simp) hpb;rcases hb2 with hb2 | hb2
     ·rcases hcase with hc | hc
      ·rcases hJ b hb2 with hs | ⟨m,p',hm',hp',hdd,hpb'⟩
       ·exact hs.2.2 n q hq hql hpb
       ·have:=hm.inj n m q p' b hq hp' (by rw[hql]; simp) hdd hpb hpb';subst this;exact hnf (by rw[hc]; exact hm')
      ·exact hc b hb2
     ·omega
   ·subst had;have hos:=Alj 6 nm _ _ _ _ h3;rw[hos] at q1;have hps:ps=[]:=by simpa using q1
    rcases hA'inv n p hp with hn | ⟨q,hq,rfl⟩
    ·rw[hps] at hn; cases hn
    ·have hqb:=hm.blkB n q b hq (by rw[(S5 hl).1]; simp) hpb;omega
  obtain⟨hvr,hobj⟩:=q4 A' good hA'new;refine⟨A',⟨hbel,hA'old,fun n p hn hp=>?_,fun n m p q b hn hm' hp hq hpb hqb=>?_⟩,hvr⟩
  ·rcases hA'inv n p hp with hmem | ⟨q,hq,rfl⟩
   ·obtain⟨j,hj⟩:=x5 hmem;obtain⟨hl,i,hi,hio⟩:=q3 j n p hj;refine⟨hl,fun b hb=>hown.lt i b (hio b hb),?_⟩;have hlen:os.length=ps.length:=by have:=congrArg length q1; simpa using this.symm
    have hjlt:j<os.length:=by rw[hlen]; exact(xG.1 hj).1
    have hoj:os[j]?=some os[j]:=Be6 hjlt
    have hname:os[j].1=n:=by
     have e1:(ps.map (·.1))[j]?=some n:=by rw[Bf6,hj]; rfl
     rw[q1,Bf6,hoj] at e1;simpa using e1
    refine⟨os[j].2,?_,hobj j n p _ hj (by rw[hoj,<- hname])⟩;rw[<- hname]; exact xm hoj
   ·rw[hn] at hq; cases hq
  ·rcases hA'inv n p hp with hmem | ⟨q',hq',rfl⟩
   ·rcases hA'inv m q hq with hmem' | ⟨q',hq',rfl⟩
    ·obtain⟨j,hj⟩:=x5 hmem;obtain⟨j',hj'⟩:=x5 hmem';obtain⟨_,i,hi,hio⟩:=q3 j n p hj;obtain⟨_,i',hi',hio'⟩:=q3 j' m q hj';have hii:=hown.inj i i' b (hio b hpb) (hio' b hqb);subst hii;have hjl:j<is.length:=(xG.1 hi).1;have hjj:=(List.getElem?_inj hjl hisn).1 (hi.trans hi'.symm);subst hjj;rw[hj] at hj'; cases hj'; rfl
    ·rw[hm'] at hq'; cases hq'
   ·rw[hn] at hq'; cases hq'
 cases hal:H2 6 (e.out as) with
 | true =>have:=main (seen I0 B A w ns) (fun _ h=>h) (.inl (by rw[hal]; rfl)) hres;rw[hal] at this;exact this
 | false =>have:=main (fun _=>False) (fun _ h=>h.elim) (.inr fun _ h=>h) (A4p 6 _ v hal hres);rw[hal] at this;exact this
end
def Ad5:Array Value->Sem Value:=fun args=>do
 let (x,y,b)<-Extern.MathBitsCarry.three "Sub64" args
 pure (Extern.MathBitsCarry.pair ((x+Extern.MathBitsCarry.m64-y-b)%Extern.MathBitsCarry.m64) (if x<y+b then 1 else 0))
theorem Avb{P:Program}(x y b:Int)(hb:b<=1)(w:World) :
 (Ad5 #[.int .u64 x,.int .u64 y,.int .u64 b]).run P w=.ok (.tuple #[.int .u64 (Rp x y b),.int .u64 (I9 x y b)]) w:=by
 cases b with
 | ofNat n =>
   have:n=0\/n=1:=by have:((n:Nat):Int)<=1:=hb; omega
   rcases this with rfl | rfl<;>rfl
 | negSucc n=>rfl
def Yg:Ext->Array Value->Sem Value
 | .bitsN=>Extern.MathFloatBits.float64bits
 | .bits=>Extern.MathFloatBits.float64bits
 | .frombits=>Extern.MathFloatBits.float64frombits
 | .sqrt=>Extern.MathSqrt.sqrt
 | .sub64=>Ad5
structure Ke(P:Program)(E:Env):Prop where
 ty:∀t ti,E.ty t=some ti->Cz P t ti
 J4:∀g e,E.J4 g=some e->Acx P g e
 call:∀g e,E.J4 g=some e->∀(args:Array Value) (w:World),(callFunc g args).run P w=.ok (.enter g args) w
 ext:∀g x,E.ext g=some x->∀(args:Array Value) (w:World),(callFunc g args).run P w=((Yg x args).run P w).andThen fun v w'=>.ok (.value v) w'
 eqs:∀t ti,E.eqs t=true->E.ty t=some ti->Asa P t ti
 mixed:P.follows .mixedOrders=true
 spoil:∀g e,E.spoil g=some e->Axq P g e:=by intro g e h; change none=some e at h; cases h
 wr:∀g W,E.wr g=some W->Sg P g W:=by intro g e h; change none=some e at h; cases h
def Ops(c:Ctx)(w:World)(ρ:Operand->DV)(σ:Operand->Value)(op:Op):Prop:=∀x∈op.operands.toList,Au c w (ρ x) (σ x)
section
variable{P:Program}{E:Env}{I0:Nat->Prop}{B:Nat}{A:Nat->Option Place}{h:Ev}{w:World}
theorem A5k{c:Ctx}{x:Ext}{args:List DV}{vals:Array Value}{r:R2}(hr:A8q x args=some r)(hreq:r.req=true)(hv:Bh c w args vals.toList) :
 ∃v w',(Yg x vals).run P w=.ok v w'/\Ai8 w w'/\Any r.v v/\r.objs=[]/\r.frz=[]:=by
 unfold A8q at hr;split at hr
 ·rename_i n;simp only[Bes] at hr; subst hr;simp only[Bh] at hv;obtain⟨u,us,e,hu,rfl⟩:=hv;simp only[Au] at hu;obtain⟨m,rfl,f⟩:=hu;have:vals=#[.float .f64 m]:=by apply yo.1; simpa using e
  subst this;exact⟨_,w,rfl,.inl rfl,fun _ _=>by simp only[Au]; exact⟨m,rfl,f⟩,rfl,rfl⟩
 ·rename_i n;simp only[Bes] at hr; subst hr;simp only[Bh] at hv;obtain⟨u,us,e,hu,rfl⟩:=hv;simp only[Au] at hu;obtain⟨m,rfl,f⟩:=hu;have:vals=#[.float .f64 m]:=by apply yo.1; simpa using e
  subst this
  have hnm:n=m:=by
   rcases f with f | f
   ·exact f
   ·dsimp only at hreq;rw[f.1] at hreq; cases hreq
  subst hnm;exact⟨_,w,rfl,.inl rfl,fun _ _=>by simp only[Au],rfl,rfl⟩
 ·rename_i n;simp only[Bes] at hr; subst hr;simp only[Bh] at hv;obtain⟨u,us,e,hu,rfl⟩:=hv;simp only[Au] at hu;subst hu;have:vals=#[.int .u64 n]:=by apply yo.1; simpa using e
  subst this;exact⟨_,w,rfl,.inl rfl,fun _ _=>by simp only[Au]; exact⟨_,rfl,.inl rfl⟩,rfl,rfl⟩
 ·rename_i n;simp only[Bes] at hr; subst hr;simp only[Bh] at hv;obtain⟨u,us,e,hu,rfl⟩:=hv;simp only[Au] at hu;obtain⟨m,rfl,f⟩:=hu;have:vals=#[.int .u64 m]:=by apply yo.1; simpa using e
  subst this;exact⟨_,w,rfl,.inl rfl,fun _ _=>by simp only[Au]; exact⟨_,rfl,by simpa using f⟩,rfl,rfl⟩
 ·rename_i n;simp only[Bes] at hr; subst hr;simp only[Bh] at hv;obtain⟨u,us,e,hu,rfl⟩:=hv;simp only[Au] at hu;obtain⟨m,rfl,f⟩:=hu;have:vals=#[.float .f64 m]:=by apply yo.1; simpa using e
  subst this;have hs:FloatKind.f64.format.sqrt m=Ieee.double.sqrt n:=Ur.sqrt f;have hrun:Yg .sqrt #[.float .f64 m]=(match FloatKind.f64.format.sqrt m with | some r=>pure (.float .f64 r) | none=>do pure (.float .f64 (<- choose (.nanBits .f64 m m))):Sem Value):=rfl;rw[hrun,hs];cases hq:Ieee.double.sqrt n with
  | some k=>exact⟨_,w,rfl,.inl rfl,Any.fl (.inl rfl),rfl,rfl⟩
  | none =>refine⟨.float .f64 ((Question.nanBits .f64 m m).cut (w.tape w.drawn (.nanBits .f64 m m))),w.drew,?_,.inr rfl,Any.fl (.inr ⟨Xk,Atk _ _ _⟩),rfl,rfl⟩;simp only[Sem.run_bind,run_choose,Question.forced,Result.andThen_ok,Sem.run_pure,yd,if_false];rfl
 ·rename_i x y b;simp only[Bes] at hr; subst hr;dsimp only at hreq;simp only[Bh] at hv;obtain⟨u,us,e,hu,u2,us2,rfl,hu2,u3,us3,rfl,hu3,rfl⟩:=hv;simp only[Au] at hu hu2 hu3;subst hu hu2 hu3;have:vals=#[.int .u64 x,.int .u64 y,.int .u64 b]:=by apply yo.1; simpa using e
  subst this;refine⟨_,w,Avb x y b (Bff hreq) w,.inl rfl,fun _ _=>?_,rfl,rfl⟩;simp only[Au];exact⟨_,rfl,by simp[Bh,Au]⟩
 ·cases hr
theorem Aqp{c:Ctx}{ρ:Operand->DV}{σ:Operand->Value}{o:Option Operand}(hv:∀x∈o.toArray.toList,Au c w (ρ x) (σ x)){lo:Option Int}
 (h:Tp ρ o=some lo):Jv lo (o.map σ):=by
 cases o with
 | none=>simp only[Tp,Bes] at h; subst h; rfl
 | some y =>have:=hv y (by simp);simp only[Tp] at h;cases hd:ρ y<;>simp only[hd,intOf,wN,Bex,reduceCtorEq,Bes] at h;subst h;rename_i k n;rw[hd] at this;simp only[Au] at this;exact⟨k,by simp[this]⟩
theorem Afn{d:DV}{i:Int}(h:intOf d=some i):∃k,d=.int k i:=by cases d<;>simp only[intOf,reduceCtorEq,Bes] at h;subst h; exact⟨_,rfl⟩
theorem Wp{c:Ctx}{ρ:Operand->DV}{σ:Operand->Value}:∀{l:List Operand},(∀x∈l,Au c w (ρ x) (σ x))->Bh c w (l.map ρ) (l.map σ)
 | [],_=>by simp[Bh]
 | x::l,h=>by simp only[yx]; rw[Bh.Df];exact⟨_,_,rfl,h x (by simp),Wp fun y hy=>h y (Bfu _ hy)⟩
theorem Abc{c:Ctx}{ρ:Operand->DV}{σ:Operand->Value}:∀{l:List (Nat × Operand)},(∀x∈l.map (·.2),Au c w (ρ x) (σ x))->N1 c w (l.map fun(i,x)=>(i,ρ x)) (l.map fun(i,x)=>(i,σ x))
 | [],_=>.nil
 | (i,x)::l,h=>.cons (h x (by simp)) (Abc fun y hy=>h y (by simp only[yx]; exact Bfu _ hy))
theorem A4x{c:Ctx}{a b d:DV}{va vb:Value}(ha:Au c w a va)(hb:Au c w b vb){gt:Bool}(h:maxD gt a b=some d) :
 ∃v,((if gt then Builtin.max2 va vb else Builtin.min2 va vb):Sem Value).run P w=.ok v w/\Au c w d v:=by
 cases a<;>cases b<;>simp only[maxD,reduceCtorEq,Bes] at h;subst h;simp only[Au] at ha hb;subst ha; subst hb;rename_i k x k' y;cases gt
 ·refine⟨_,rfl,?_⟩;simp only[Au,Bet];congr 1; omega
 ·refine⟨_,rfl,?_⟩;simp only[Au,Bep];congr 1; omega
theorem Aft{c:Ctx}{gt:Bool}:∀(l:List DV) (us:List Value) (a d:DV) (va:Value),Au c w a va->Bh c w l us->Ack gt a l=some d ->
 ∃v,(us.foldlM (fun x y=>if gt then Builtin.max2 x y else Builtin.min2 x y) va:Sem Value).run P w=.ok v w/\Au c w d v
 | [],us,a,d,va,ha,hl,h=>by simp only[Ack,Bes] at h; subst h;rw[Bh.Im] at hl; subst hl;exact⟨va,rfl,ha⟩
 | b::l,us,a,d,va,ha,hl,h=>by
   rw[Bh.Df] at hl;obtain⟨u,us,rfl,hu,hus⟩:=hl;simp only[Ack] at h;cases hm:maxD gt a b with
   | none=>simp[hm] at h
   | some c' =>simp only[hm,Bex] at h;obtain⟨v,h1,h2⟩:=A4x (P:=P) ha hu hm;obtain⟨v',h3,h4⟩:=Aft l us c' d v h2 hus h;exact⟨v',by simp only[List.foldlM_cons,Sem.run_bind,h1,Result.andThen_ok,h3],h4⟩
end
theorem A06{k:CK}{d:DV}{c:Ctx}{w:World}{v:Value}(h:isC k d=true)(hv:Au c w d v):Au c w (asC k d) v:=by
 unfold isC at h;split at h
 ·have:=Bff h;subst this;exact hv
 ·have:=Bff h;subst this;exact hv
 ·simp only[asC,Af4,Au] at hv ⊢;subst hv;exact⟨none,0,rfl,Bfj _,.inl trivial⟩
 ·exact hv
 ·exact hv
 ·cases h
theorem A05{c:Ctx}{w:World}:∀(ks:List CK) (i:Nat) (row:List DV) (vs:List Value),(row.drop i).length=ks.length->isL ks i row=true->Bh c w (row.drop i) vs->Bh c w (asL ks i row) vs
 | [],i,row,vs,hl,_,hv=>by have:row.drop i=[]:=Bfq hl;rw[this] at hv;exact hv
 | k::ks,i,row,vs,hl,h,hv=>by
   simp only[isL,Be0] at h
   have hi:i<row.length:=by rw[zP,zo] at hl; omega
   have he:row.drop i=row.getD i .undef::row.drop (i+1):=by rw[List.drop_eq_getElem_cons hi,Bez,Be6 hi]; rfl
   rw[he] at hv;rw[Bh.Df] at hv;obtain⟨u,us,rfl,h1,h2⟩:=hv;simp only[asL];rw[Bh.Df];refine⟨u,us,rfl,A06 h.1 h1,A05 ks (i+1) row us ?_ h.2 h2⟩;rw[zP] at hl ⊢;rw[zo] at hl;omega
theorem Axf{ag:Bool}{adv:List CK}{r:R}(h:(Acr ag adv r).req=true):r.req=true/\(Acr ag adv r).objs=[]/\(Acr ag adv r).frz=[]:=by
 unfold Acr at h ⊢;split at h
 ·exact⟨h,rfl,rfl⟩
 ·cases ag with
  | true =>
    rw[Bep] at h ⊢;split at h
    ·simp only[Be0] at h;exact⟨h.1,rfl,rfl⟩
    ·exact⟨h,rfl,rfl⟩
  | false =>rw[Bet] at h ⊢;simp only[Be0] at h;exact⟨h.1,rfl,rfl⟩
theorem A16{ag:Bool}{adv:List CK}{r:R}{c:Ctx}{w:World}{v:Value}(h:(Acr ag adv r).req=true)(hv:Au c w r.v v):Au c w (Acr ag adv r).v v:=by
 unfold Acr at h ⊢;split at h
 ·exact hv
 ·cases ag with
  | true =>
    rw[Bep] at h ⊢;split at h
    ·rename_i l hr;rw[hr] at hv;simp only[Be0,Bew] at h;simp only[Au] at hv ⊢;obtain⟨vs,e,hl⟩:=hv;exact⟨vs,e,A05 _ 0 l _ (by rw[zW]; exact h.2.1) h.2.2 (by rw[zW]; exact hl)⟩
    ·exact hv
  | false =>rw[Bet] at h ⊢;simp only[Be0] at h;exact A06 h.2 hv
section
variable{P:Program}{E:Env}{I0:Nat->Prop}{B:Nat}{A:Nat->Option Place}{h:Ev}{w:World}
theorem A2i{t:TypeId}{ti:TI}(hf:Cz P t ti){nm:Nat}(hnm:A nm=none) :
 ∃w' A',(Instr.alloc t true (.tuple #[])).run P w=.ok (.pointer (some ⟨w.heap.size,0,none⟩)) w'/\Mc I0 B A w [(nm,.box ti.zero)] [] A' w'/\Au (B1 I0 B A' w') w' (.ptr nm 0 0) (.pointer (some ⟨w.heap.size,0,none⟩)):=by
 obtain⟨z,hz,hzr,_,_⟩:=hf.Aen w;refine⟨w.alloc (.cells z.cells t),Aan A [] nm ⟨.live,.box w.heap.size⟩,?_,Mc.alloc hnm rfl (fun b hb=>by cases hb; rfl) (fun _=>?_),?_⟩
 ·simp[Instr.alloc,hz,newVar,newRow]
 ·unfold D6;exact⟨rfl,w.heap.size,t,z.cells,rfl,heap_alloc_new w _,hzr _ _⟩
 ·simp only[Au];exact⟨rfl,_,Bfc rfl,.inr (by unfold Mb; exact⟨rfl,rfl⟩)⟩
theorem A80{t:TypeId}{nm:Nat}(hnm:A nm=none){d:DV}{v:Value}(hw:R6 d=true)(hv:Au (B1 I0 B A w) w d v) :
 ∃w' A',(Instr.box t v).run P w=.ok (.pointer (some ⟨w.heap.size,0,none⟩)) w'/\Mc I0 B A w [(nm,.box (cells d))] [] A' w'/\Au (B1 I0 B A' w') w' (.ptr nm 0 0) (.pointer (some ⟨w.heap.size,0,none⟩)):=by
 refine⟨w.alloc (.cells v.cells t),Aan A [] nm ⟨.live,.box w.heap.size⟩,?_,Mc.alloc hnm rfl (fun b hb=>by cases hb; rfl) (fun hmv=>?_),?_⟩
 ·simp[Instr.box,newVar,newRow]
 ·unfold D6;exact⟨rfl,w.heap.size,t,v.cells,rfl,heap_alloc_new w _,Bh.Em hmv.Em _ _ (Aby hw hv)⟩
 ·simp only[Au];exact⟨rfl,_,Bfc rfl,.inr (by unfold Mb; exact⟨rfl,rfl⟩)⟩
theorem Avr(he:Ke P E)(hm:Mem I0 B A h w){o:Oper}{nm:Nat}{ρ:Operand->DV}{σ:Operand->Value}(hops:Ops (B1 I0 B A w) w ρ σ o.op){r:R2}(hq:F7 E h nm ρ o.op=some r)(hreq:r.req=true)
 (hnew:∀n ob,(n,ob)∈r.objs->A n=none) (hnd:(r.objs.map (·.1)).Nodup) {K:Value->World->Prop}
 (hK:∀v w' A',Mc I0 B A w r.objs r.frz A' w'->Au (B1 I0 B A' w') w' r.v v->K v w'):Ga P (execOp σ o) w K:=by
 obtain⟨dst,op,ty,pos,after,guard⟩:=o;dsimp only at hops hq
 have same:∀{d:DV} {v:Value},r.v=d->r.objs=[]->r.frz=[]->Au (B1 I0 B A w) w d v->K v w:=by intro d v h1 h2 h3 h4;exact hK v w A (by rw[h2,h3]; exact Mc.refl (.inl rfl)) (by rw[h1]; exact h4)
 cases op
 case move x =>simp only[F7,Bes] at hq; subst hq;exact Ga.value rfl (same rfl rfl rfl (hops x (by simp[Op.operands])))
 case assign x =>simp only[F7,Bes] at hq; subst hq;exact Ga.value rfl (same rfl rfl rfl (hops x (by simp[Op.operands])))
 case alloc t =>
  simp only[F7] at hq;cases hT:E.ty t with
  | none=>simp[hT] at hq
  | some ti =>simp only[hT,Bex,Bes] at hq; subst hq;obtain⟨w',A',h1,h2,h3⟩:=A2i (P:=P) (I0:=I0) (B:=B) (w:=w) (he.ty _ _ hT) (hnew nm _ (zf.2 rfl));exact Ga.lift h1 (hK _ w' A' h2 h3)
 case box t x =>
  simp only[F7] at hq;cases hT:E.ty t with
  | none=>simp[hT] at hq
  | some ti =>
    simp only[hT,Bex] at hq;by_cases hc:(R6 (ρ x)&&(cells (ρ x)).length==ti.size)=true
    ·rw[hc,Bep,Bes] at hq; subst hq;simp only[Be0] at hc;obtain⟨w',A',h1,h2,h3⟩:=A80 (P:=P) (t:=t) (hnew nm _ (zf.2 rfl)) hc.1 (hops x (by simp[Op.operands]));exact Ga.lift h1 (hK _ w' A' h2 h3)
    ·simp only[zF] at hc; rw[hc] at hq; simp at hq
 case build t parts =>
  simp only[F7] at hq;cases hT:E.ty t with
  | none=>simp[hT] at hq
  | some ti =>
  cases hp:Adh E t with
  | none=>simp[hT,hp] at hq
  | some pl =>
  cases hfd:Aaa pl ti.zero (parts.toList.map fun(i,x)=>(i,ρ x)) with
  | none=>simp[hT,hp,hfd] at hq
  | some cs =>
    simp only[hT,hp,hfd,Bex,Bes] at hq; subst hq
    have hpr:N1 (B1 I0 B A w) w (parts.toList.map fun(i,x)=>(i,ρ x)) (parts.map fun(i,x)=>(i,σ x)).toList:=by rw[xr];exact Abc (fun x hx=>hops x (by simpa[Op.operands] using hx))
    obtain⟨v,h1,h2⟩:=A18 (P:=P) he.ty hT hp hpr hfd;exact Ga.lift h1 (same rfl rfl rfl h2)
 case buildSlice t len parts =>
  simp only[F7] at hq
  have hpr:N1 (B1 I0 B A w) w (parts.toList.map fun(i,x)=>(i,ρ x)) (parts.map fun(i,x)=>(i,σ x)).toList:=by rw[xr];exact Abc (fun x hx=>hops x (by simpa[Op.operands] using hx))
  obtain⟨v,w',A',h1,h2,h3⟩:=Agf (P:=P) he.ty hm hpr hq hnew;exact Ga.lift h1 (hK _ w' A' h2 h3)
 case load t a =>
  simp only[F7] at hq;cases hT:E.ty t with
  | none=>simp[hT] at hq
  | some ti =>
  cases hl:Aif h ti (ρ a) with
  | none=>simp[hT,hl] at hq
  | some r' =>simp only[hT,hl,Bex,Bes] at hq; subst hq;obtain⟨hr0,ho,hf⟩:=Axf hreq;obtain⟨v,h1,h2⟩:=Anm (P:=P) hm (he.ty _ _ hT) (hops a (by simp[Op.operands])) hl hr0;exact Ga.lift h1 (same rfl ho hf (A16 hreq h2))
 case nilCheck x =>
  have hx:=hops x (by simp[Op.operands]);simp only[F7] at hq;split at hq
  ·rename_i n i j hd;cases hal:Sf h n with
   | false=>simp[hal] at hq
   | true =>
   simp only[hal,Bep,Bes] at hq; subst hq;rw[hd] at hx;have hx':=hx;simp only[Au] at hx;obtain⟨_,p,hp,hdd⟩:=hx;have hdd:=hdd.resolve_left (Aak hm hp hal)
   have:∃a,σ x=.pointer (some a):=by
    unfold Mb at hdd;split at hdd
    ·exact⟨_,hdd.2⟩
    ·exact⟨_,hdd⟩
    ·exact hdd.elim
   obtain⟨a,ha⟩:=this;exact Ga.value (by simp only[execOp,ha]; rfl) (same rfl rfl rfl (by rw[<- ha]; exact hx'))
  ·rename_i cs hd;simp only[Bes] at hq; subst hq;rw[hd] at hx;have hx':=hx;simp only[Au] at hx;obtain⟨b,o,vs,ha,_⟩:=hx;exact Ga.value (by simp only[execOp,ha]; rfl) (same rfl rfl rfl (by rw[<- ha]; exact hx'))
  ·rename_i f a c hd;simp only[Bes] at hq; subst hq;rw[hd] at hx;have hx':=hx;simp only[Au] at hx;obtain⟨fs,cs,ha,_⟩:=hx;exact Ga.value (by simp only[execOp,ha]; rfl) (same rfl rfl rfl (by rw[<- ha]; exact hx'))
  ·cases hq
 case binOp op t x y ty' =>
  simp only[F7] at hq;cases hb:A53 E op t (ρ x) (ρ y) with
  | none=>simp[hb] at hq
  | some r' =>simp only[hb,Bex,Bes] at hq; subst hq;obtain⟨v,w',h1,h2,h3⟩:=A52 (P:=P) he.ty he.eqs w (x:=x) (y:=y) (hops x (by simp[Op.operands])) (hops y (by simp[Op.operands])) hb hreq;exact Ga.lift h1 (hK v w' A (Mc.refl h2) (h3 _ _))
 case unOp op t x =>
  simp only[F7] at hq;cases hb:unD op (ρ x) with
  | none=>simp[hb] at hq
  | some r' =>simp only[hb,Bex,Bes] at hq; subst hq;obtain⟨v,h1,h3⟩:=A65 (P:=P) w (hops x (by simp[Op.operands])) hb;exact Ga.lift h1 (same rfl rfl rfl (h3 _ _))
 case convert src dst x =>
  simp only[F7] at hq;cases hb:At4 E dst src (ρ x) with
  | none=>simp[hb] at hq
  | some r' =>simp only[hb,Bex,Bes] at hq; subst hq;obtain⟨v,h1,h3⟩:=A10 (P:=P) he.ty w (hops x (by simp[Op.operands])) hb;exact Ga.lift h1 (same rfl rfl rfl (h3 _ _))
 case makeFunc fn first captured =>
  cases fn<;>simp only[F7,reduceCtorEq,Bes] at hq;subst hq;rename_i f;refine Ga.lift (v:=.func (.func f) (first.map σ) (captured.map σ)) (w':=w) rfl (same rfl rfl rfl ?_);simp only[Au];refine⟨_,_,rfl,?_,?_⟩
  ·rw[xr]; exact Wp fun x hx=>hops x (by simp[Op.operands]; exact .inl (by simpa using hx))
  ·rw[xr]; exact Wp fun x hx=>hops x (by simp[Op.operands]; exact .inr (by simpa using hx))
 case makeSlice t l c =>simp only[F7] at hq;obtain⟨v,w',A',h1,h2,h3⟩:=Ag5 (P:=P) he.ty hm (hops l (by simp[Op.operands])) (hops c (by simp[Op.operands])) hq hreq hnew;exact Ga.lift h1 (hK _ w' A' h2 h3)
 case slice t x lo hi mx =>
  simp only[F7] at hq;cases hlo:Tp ρ lo with
  | none=>simp[hlo] at hq
  | some lo' =>
  cases hhi:Tp ρ hi with
  | none=>simp[hlo,hhi] at hq
  | some hi' =>
  cases hmx:Tp ρ mx with
  | none=>simp[hlo,hhi,hmx] at hq
  | some mx' =>
  simp only[hlo,hhi,hmx,Bex] at hq;cases hs:Ajv E h t (ρ x) lo' hi' mx' with
  | none=>simp[hs] at hq
  | some r' =>
    simp only[hs,Bex,Bes] at hq; subst hq;have m1:∀y∈lo.toArray.toList,Au (B1 I0 B A w) w (ρ y) (σ y):=fun y hy=>hops y (by cases lo<;>simp at hy; subst hy; simp[Op.operands])
    have m2:∀y∈hi.toArray.toList,Au (B1 I0 B A w) w (ρ y) (σ y):=fun y hy=>hops y (by cases hi<;>simp at hy; subst hy; simp[Op.operands])
    have m3:∀y∈mx.toArray.toList,Au (B1 I0 B A w) w (ρ y) (σ y):=fun y hy=>hops y (by cases mx<;>simp at hy; subst hy; simp[Op.operands])
    obtain⟨v,h1,h2⟩:=Au5 (P:=P) he.ty hm (hops x (by simp[Op.operands])) (Aqp m1 hlo) (Aqp m2 hhi) (Aqp m3 hmx) hs hreq;exact Ga.lift h1 (same rfl rfl rfl h2)
 case fieldAddr t x f =>
  simp only[F7] at hq;cases hb:Ty E h t f (ρ x) with
  | none=>simp[hb] at hq
  | some r' =>simp only[hb,Bex,Bes] at hq; subst hq;obtain⟨v,h1,h3⟩:=Ag9 (P:=P) he.ty hm (hops x (by simp[Op.operands])) hb;exact Ga.lift h1 (same rfl rfl rfl h3)
 case field t x f =>
  simp only[F7] at hq;cases hb:Akv E t f (ρ x) with
  | none=>simp[hb] at hq
  | some r' =>simp only[hb,Bex,Bes] at hq; subst hq;obtain⟨v,h1,h3⟩:=Aw2 (P:=P) he.ty (hops x (by simp[Op.operands])) hb;exact Ga.lift h1 (same rfl rfl rfl h3)
 case indexAddr t x i =>
  simp only[F7] at hq;cases hi:intOf (ρ i) with
  | none=>simp[hi] at hq
  | some n =>
  cases hb:Tv E h t (ρ x) n with
  | none=>simp[hi,hb] at hq
  | some r' =>simp only[hi,hb,Bex,Bes] at hq; subst hq;obtain⟨k,hk⟩:=Afn hi;have hv:=hops i (by simp[Op.operands]);rw[hk] at hv; simp only[Au] at hv;obtain⟨v,h1,h3⟩:=Ag6 (P:=P) (k:=k) he.ty hm (hops x (by simp[Op.operands])) hb hreq;exact Ga.lift (by rw[hv]; exact h1) (same rfl rfl rfl h3)
 case index t x i =>
  simp only[F7] at hq;cases hi:intOf (ρ i) with
  | none=>simp[hi] at hq
  | some n =>
  cases hb:Aks E t (ρ x) n with
  | none=>simp[hi,hb] at hq
  | some r' =>simp only[hi,hb,Bex,Bes] at hq; subst hq;obtain⟨k,hk⟩:=Afn hi;have hv:=hops i (by simp[Op.operands]);rw[hk] at hv; simp only[Au] at hv;obtain⟨v,h1,h3⟩:=Awr (P:=P) (k:=k) he.ty (hops x (by simp[Op.operands])) hb hreq;exact Ga.lift (by rw[hv]; exact h1) (same rfl rfl rfl h3)
 case extract t i =>
  have hx:=hops t (by simp[Op.operands]);simp only[F7] at hq;split at hq
  ·rename_i l hd;rw[hd] at hx;simp only[Au] at hx;obtain⟨vs,hvs,hl⟩:=hx;cases hi:l[i]? with
   | none=>simp[hi] at hq
   | some d =>
     simp only[hi,Bex,Bes] at hq; subst hq;obtain⟨v,hv,hr⟩:=hl.get i d hi;have hv':vs[i]?=some v:=by simpa using hv
     exact Ga.lift (by rw[hvs]; simp[Instr.extract,hv']) (same rfl rfl rfl hr)
  ·cases hq
 case call c =>
  obtain⟨callee,args,ts⟩:=c;cases callee with
  | value f =>
    have hf:=hops f (by simp[Op.operands,Call.operands])
    have ha:Bh (B1 I0 B A w) w (args.toList.map ρ) (args.map σ).toList:=by rw[xr]; exact Wp fun x hx=>hops x (by simp[Op.operands,Call.operands]; exact .inr (by simpa using hx))
    simp only[F7] at hq;split at hq
    ·rename_i g first captured hd
     rw[hd] at hf;simp only[Au] at hf;obtain⟨fs,cs,hfv,hfs,hcs⟩:=hf
     have hrun:∀w,(execOp σ ⟨dst,.call ⟨.value f,args,ts⟩,ty,pos,after,guard⟩).run P w=(callFunc g (fs++args.map σ++cs)).run P w:=by intro w;simp only[execOp,resolve,hfv,Deferred.ofValue,Sem.run_bind,Sem.run_pure,Result.andThen_ok,invoke]
     split at hq
     ·rename_i x hx;split at hq
      ·have e1:fs=#[]:=by have:=hfs.length; simp at this; exact xt this.symm
       have e2:cs=#[]:=by have:=hcs.length; simp at this; exact xt this.symm
       subst e1; subst e2;obtain⟨v,w',h1,h2,h3,h4,h5⟩:=A5k (P:=P) hq hreq ha;refine Ga.value (w':=w') (v:=v) ?_ (hK v w' A (by rw[h4,h5]; exact Mc.refl h2) (h3 _ _));rw[hrun,he.ext g x hx];simp[h1]
      ·cases hq
     ·have hall:Bh (B1 I0 B A w) w (first++args.toList.map ρ++captured) (fs++args.map σ++cs).toList:=by rw[vT,vT];exact(hfs.append ha).append hcs
      have hcall:=A51 (P:=P) hm he.J4 hq hreq hnew hnd hall;unfold Ga
      have htab:∃e,E.J4 g=some e:=by
       unfold At7 at hq;cases h1:Ks h (first++args.toList.map ρ++captured) with
       | none=>simp only[h1,wN,reduceCtorEq] at hq
       | some a =>
         cases h2:E.J4 g with
         | none=>simp only[h1,h2,Bex,wN,reduceCtorEq] at hq
         | some e=>exact⟨e,rfl⟩
      obtain⟨e,hte⟩:=htab;rw[hrun,he.call g e hte];exact hcall.mono fun en w' ⟨v,he',A',h1,h2⟩=>⟨v,he',hK v w' A' h1 h2⟩
    ·cases hq
  | invoke recv m=>simp[F7] at hq
  | builtin b =>
    have ha:∀x∈args.toList,Au (B1 I0 B A w) w (ρ x) (σ x):=fun x hx=>hops x (by simp[Op.operands,Call.operands]; exact(by simpa using hx))
    cases b
    case len =>
     simp only[F7] at hq;split at hq
     ·rename_i x t hx ht;split at hq
      ·rename_i e _ hT;have hu:=(he.ty _ _ hT).desc;simp only[Dd] at hu;cases hn:A46 h (ρ x) with
       | none=>simp[hn] at hq
       | some n =>simp only[hn,Bex,Bes] at hq; subst hq;obtain⟨ad,l,cap,hv,hln⟩:=A45 hm (ha x (by rw[hx]; simp)) hn;have e1:args=#[x]:=yo.1 hx;have e2:ts=#[t]:=yo.1 ht;subst e1; subst e2;refine Ga.value (w':=w) (v:=.int .i64 n) ?_ (same rfl rfl rfl (by simp[Au]));simp[execOp,resolve,invoke,builtin,Builtin.len_,hv,run_underlying hu,goInt,hln]
      ·cases hq
     ·cases hq
    case max =>
     simp only[F7] at hq;split at hq
     ·rename_i x l hx;cases hn:Ack true (ρ x) (l.map ρ) with
      | none=>simp[hn] at hq
      | some d =>simp only[hn,Bex,Bes] at hq; subst hq;have e1:args=(x::l).toArray:=yo.1 (by rw[hx]);subst e1;obtain⟨v,h1,h2⟩:=Aft (P:=P) (gt:=true) _ _ _ _ _ (ha x (by simp)) (Wp fun y hy=>ha y (by simp[hy])) hn;refine Ga.value (w':=w) (v:=v) ?_ (same rfl rfl rfl h2);simp only[if_true] at h1;simp[execOp,resolve,invoke,builtin,Builtin.max_,h1]
     ·cases hq
    case min =>
     simp only[F7] at hq;split at hq
     ·rename_i x l hx;cases hn:Ack false (ρ x) (l.map ρ) with
      | none=>simp[hn] at hq
      | some d =>simp only[hn,Bex,Bes] at hq; subst hq;have e1:args=(x::l).toArray:=yo.1 (by rw[hx]);subst e1;obtain⟨v,h1,h2⟩:=Aft (P:=P) (gt:=false) _ _ _ _ _ (ha x (by simp)) (Wp fun y hy=>ha y (by simp[hy])) hn;refine Ga.value (w':=w) (v:=v) ?_ (same rfl rfl rfl h2);simp only[yd,if_false] at h1;simp[execOp,resolve,invoke,builtin,Builtin.min_,h1]
     ·cases hq
    all_goals (simp[F7] at hq)
 all_goals (simp[F7] at hq)
end
theorem Acb:∀(vs cs:List DV) (j:Nat),j+vs.length<=cs.length->setCells cs j vs=cs.take j++vs++cs.drop (j+vs.length)
 | [],cs,j,_=>by simp[setCells]
 | v::vs,cs,j,h=>by
   simp only[zo] at h;simp only[setCells];rw[Acb vs (cs.set j v) (j+1) (by rw[yR]; omega)]
   have h1:(cs.set j v).take (j+1)=cs.take j++[v]:=by rw[List.take_succ_eq_append_getElem (by rw[yR]; omega)];rw[List.take_set_of_le (by omega)];simp
   have h2:(cs.set j v).drop (j+1+vs.length)=cs.drop (j+(v::vs).length):=by rw[List.drop_set_of_lt (by omega)];congr 1; simp only[zo]; omega
   rw[h1,h2]; simp
theorem Y7{c:Ctx}{w:World}{cs ds:List DV}{us vs:List Value}(hc:Bh c w cs us)(hd:Bh c w ds vs){j:Nat}(hj:j+ds.length<=cs.length) :
 Bh c w (setCells cs j ds) (us.take j++vs++us.drop (j+vs.length)):=by
 rw[Acb ds cs j hj,<- hd.length];exact((hc.take j).append hd).append (hc.drop _)
theorem Xf{w:World}{base:Nat}{e:TypeId}{size n cap g:Nat}{xs vs:List Value}(h:w.ownsRow base e size (.slice (some ⟨g,0,none⟩) n cap) n xs){o:Nat}(ho:o+vs.length<=n*size) :
 ∃cur,w.heap[g]?=some (.cells cur e (0,0))/\o+vs.length<=cur.size/\(w.setRow g (cur.toList.take o++vs++cur.toList.drop (o+vs.length)).toArray).ownsRow base e size (.slice (some ⟨g,0,none⟩) n cap) n (xs.take o++vs++xs.drop (o+vs.length)):=by
 obtain⟨h1,h2⟩:=h;rcases h2 with ⟨e,_⟩ | ⟨g',cap',cur,e,hb,hh,hnc,hm,hs,ht⟩
 ·cases e
 ·cases e;have hcur:n*size<=cur.size:=by rw[hs]; exact Be1 _ hnc
  refine⟨cur,hh,by omega,?_,.inr ⟨g,cap,_,rfl,hb,setRow_heap w g cur _ e _ hh,hnc,hm,?_,?_⟩⟩
  ·simp only[Bfh,zI,zP]; omega
  ·simp only[List.size_toArray,Bfh,zI,zP,ya]; omega
  ·rw[<- ht]
   have hl:(cur.toList.take o++vs).length=o+vs.length:=by simp only[Bfh,zI,ya]; omega
   rw[List.take_append,List.take_of_length_le (by rw[hl]; exact ho),hl];congr 1
   ·congr 1;rw[List.take_take,yw (by omega)]
   ·rw[List.drop_take]
theorem Acl{α:Type}{sz:Nat}:∀{rows:List (List α)},(∀r∈rows,r.length=sz)->∀(i:Nat) (r:List α),rows[i]?=some r->∀(j:Nat) (vs:List α),j+vs.length<=sz ->
 (rows.set i (r.take j++vs++r.drop (j+vs.length))).flatten=rows.flatten.take (i*sz+j)++vs++rows.flatten.drop (i*sz+j+vs.length)
 | [],_,i,r,h,_,_,_=>by simp at h
 | r0::rows,hl,i,r,h,j,vs,hj=>by
   have h0:r0.length=sz:=hl r0 (by simp);cases i with
   | zero =>simp at h; subst h;simp only[List.set_cons_zero,yN,Nat.zero_mul,Bfz];rw[List.take_append_of_le_length (by omega),List.drop_append_of_le_length (by omega)];simp
   | succ i =>simp at h;have ih:=Acl (rows:=rows) (fun r hr=>hl r (by simp[hr])) i r h j vs hj;simp only[List.set_cons_succ,yN];rw[ih,yj];rw[show i*sz+sz+j=r0.length+(i*sz+j) by omega,show r0.length+(i*sz+j)+vs.length=r0.length+(i*sz+j+vs.length) by omega];rw[List.take_length_add_append,List.drop_length_add_append];simp
section
variable{P:Program}{E:Env}{I0:Nat->Prop}{B:Nat}{A:Nat->Option Place}{h:Ev}{w:World}{t:TypeId}
theorem Hu:∀{h:Ev} {n:Nat} {x y:Bool × OB},look h n=some x->∀m,look (upd h n y) m=if m=n then some y else look h m
 | [],n,x,y,hl,m=>by cases hl
 | (k,z)::h,n,x,y,hl,m=>by
   simp only[look] at hl;simp only[upd];by_cases hk:k=n
   ·subst hk;simp only[Bfp,Bep,look];by_cases hm:m=k
    ·subst hm; simp
    ·rw[show(k==m)=false by simpa using fun e=>hm e.symm]; simp[hm]
   ·rw[show(k==n)=false by simpa using hk] at hl ⊢;simp only[Bet] at hl ⊢;simp only[look];by_cases hm:k=m
    ·subst hm; simp[hk]
    ·rw[show(k==m)=false by simpa using hm];simp only[Bet];exact Hu hl m
theorem Aaw(hm:Mem I0 B A h w){n:Nat}{p:Place}(hp:A n=some p)(hl:p.st=.live){g:Nat}(hg:p.H8=some g){new:Array Value}{ob ob':OB}(hlk:look h n=some (false,ob))
 (hob:Kd A w A (w.setRow g new)->D6 (B1 I0 B A (w.setRow g new)) (w.setRow g new) p (false,ob')) :
 Mem I0 B A (upd h n (false,ob')) (w.setRow g new)/\Kd A w A (w.setRow g new):=by
 have hother:∀b,b≠g->(w.setRow g new).heap[b]?=w.heap[b]?:=fun b hb=>setRow_other w g b _ hb
 have hsize:(w.setRow g new).heap.size=w.heap.size:=by simp[World.setRow]
 have hmv:Kd A w A (w.setRow g new):=by refine⟨by rw[hsize]; exact Bfj _,fun m q hq=>⟨q,hq,by by_cases hd:q.st=.dead; exact .inl hd; exact .inr ⟨hd,rfl⟩⟩,fun m q b hq hql hqb _=>⟨m,q,hq,hql,hqb⟩,fun b _ hb=>hother b (fun e=>hb n p hp hl (by rw[e]; exact hg))⟩
 refine⟨⟨by rw[hsize]; exact hm.hB,hm.I0lt,fun m q fo hq hlo=>?_,fun m q b hq hd hb=>by rw[hsize]; exact hm.blkB m q b hq hd hb,hm.inj⟩,hmv⟩;rw[Hu hlk] at hlo;by_cases hmn:m=n
 ·subst hmn;rw[Bfc rfl] at hlo;cases hlo;rw[hp] at hq; cases hq;exact hob hmv
 ·rw[Bfb hmn] at hlo;have h1:=hm.obj m q fo hq hlo;by_cases hd:q.st=.dead
  ·obtain⟨fz,ob⟩:=fo;cases ob with
   | dead=>exact hd
   | box cs=>exact absurd hd (Cf (Tn hm hq hlo).1)
   | ints e k l=>exact absurd hd (Cf (Fk hm hq hlo).1)
   | recs e sz l=>exact absurd hd (Cf (Gh hm hq hlo).1)
  ·exact D6.Em hmv.Em rfl rfl (fun b hb=>hother b (fun e=>hmn (hm.inj m n q p b hq hp hd (by rw[hl]; simp) hb (by rw[hg,e])))) fo h1
def W5(ns:List Nat)(A:Nat->Option Place)(w w':World):Prop:=∀m q b,m ∉ ns->A m=some q->q.st≠.dead->q.H8=some b->w'.heap[b]?=w.heap[b]?
theorem Vm(hm:Mem I0 B A h w){n:Nat}{p:Place}(hp:A n=some p)(hd:p.st≠.dead){g:Nat}(hg:p.H8=some g)(new:Array Value):W5 [n] A w (w.setRow g new):=fun m q b hmn hq hqd hqb =>
 setRow_other w g b _ fun e=>hmn (by rw[hm.inj m n q p b hq hp hqd hd hqb (by rw[hg,e])]; exact zf.2 rfl)
theorem Auv(hty:∀t ti,E.ty t=some ti->Cz P t ti)(hm:Mem I0 B A h w){a v:DV}{va vv:Value}(ha:Au (B1 I0 B A w) w a va)(hv:Au (B1 I0 B A w) w v vv){req:Bool}{h':Ev}
 (hs:Aax E h t a v=some (req,h')) (hreq:req=true) :
 ∃w',(Instr.storeAt t va vv).run P w=.ok () w'/\Mem I0 B A h' w'/\Kd A w A w'/\Below B w w'/\(∀m,(look h' m).isSome=(look h m).isSome)/\W5 (A0i a) A w w'/\(∀m,m ∉ A0i a->look h' m=look h m)/\(∀m,m∈A0i a->look h m≠none):=by
 subst hreq;unfold Aax at hs;cases hT:E.ty t with
 | none=>simp[hT] at hs
 | some ti =>
 simp only[hT,Bex] at hs;by_cases hc:(R6 v&&(cells v).length==ti.size&&(cells v).all Xo)=true
 ·rw[hc,Bep] at hs;simp only[Be0,beq_iff_eq] at hc;obtain⟨⟨hw,hcl⟩,hfl⟩:=hc;have hcr:=Aby hw hv;have hone:=Ali hfl hcr;have hvl:vv.cells.toList.length=ti.size:=by rw[<- hcr.length]; exact hcl
  have hsize:=(hty _ _ hT).Kk w
  have run:∀g o (cur:Array Value) e,va=.pointer (some ⟨g,o,none⟩)->w.heap[g]?=some (.cells cur e (0,0))->o+vv.cells.toList.length<=cur.size ->
   (Instr.storeAt t va vv).run P w=.ok () (w.setRow g (cur.toList.take o++vv.cells.toList++cur.toList.drop (o+vv.cells.toList.length)).toArray):=by
   intro g o cur e hva hg hle;have h1:=run_storeCells_at P g o e vv.cells.toList 0 cur w hg (by simpa using hle) hone;simp only[Bfx] at h1;have hsz:¬vv.cells.size≠ti.size:=by simp only[ya] at hvl; simp[hvl]
   simp only[Instr.storeAt,hva,Instr.sureAddr,Sem.run_bind,Sem.run_pure,Result.andThen_ok,storeVar,hsize,Bfb hsz,h1]
  have setB:∀g (new:Array Value),B<=g->Below B w (w.setRow g new):=fun g new hg =>
   ⟨rfl,rfl,rfl,by simp[World.setRow],fun k hk=>setRow_other w g k _ (by omega)⟩
  split at hs
  ·rename_i n i j;simp only[Au] at ha;obtain⟨_,p,hp,hd⟩:=ha;split at hs
   ·rename_i cs hlk;by_cases hq:(i==0&&decide (j+ti.size<=cs.length))=true
    ·rw[hq,Bep,Bes,Bey] at hs;obtain⟨_,rfl⟩:=hs;simp only[Be0,beq_iff_eq,Bew] at hq;obtain⟨hst,b,e,cur,hk,hh,hls⟩:=Tn hm hp hlk;have hd:=hd.resolve_left (Cf hst);unfold Mb at hd; rw[hk] at hd;obtain⟨_,hva⟩:=hd;have hle:j+vv.cells.toList.length<=cur.size:=by have:=hls.length; simp only[ya] at this hvl ⊢; omega
     have hblk:p.H8=some b:=by unfold Place.H8; rw[hk]
     have hBb:=(hm.blkB n p b hp (Cf hst) hblk).1
     obtain⟨h1,h2⟩:=Aaw hm hp hst hblk (new:=(cur.toList.take j++vv.cells.toList++cur.toList.drop (j+vv.cells.toList.length)).toArray) (ob':=.box (setCells cs j (cells v))) hlk (fun hmv=>by unfold D6;refine⟨hst,b,e,_,hk,setRow_heap w b cur _ e _ hh,?_⟩;exact Y7 (Bh.Em hmv.Em _ _ hls) (Bh.Em hmv.Em _ _ hcr) (by rw[hcl]; exact hq.2))
     exact⟨_,run b j cur e hva hh hle,h1,h2,setB _ _ hBb,fun m=>by rw[Hu hlk]; split<;>simp_all,Vm hm hp (Cf hst) hblk _,fun m hmn=>by rw[Hu hlk,Bfb (fun e=>hmn (by rw[e]; exact zf.2 rfl))],fun m hmn=>by rw[zf.1 hmn,hlk]; simp⟩
    ·simp only[zF] at hq; rw[hq] at hs; simp at hs
   ·rename_i e k l hlk;split at hs
    ·rename_i k' x;by_cases hq:(j==0&&decide (k=k'))=true
     ·rw[hq,Bep,Bes,Bey] at hs;obtain⟨hlt,rfl⟩:=hs;simp only[Be0,beq_iff_eq,Bew] at hq hlt;obtain⟨rfl,rfl⟩:=hq;obtain⟨hst,sv,hk,ho⟩:=Fk hm hp hlk;have hd:=hd.resolve_left (Cf hst);obtain⟨g,cap,rfl,_,_⟩:=H5 ho (by omega);unfold Mb at hd; rw[hk] at hd;simp only[Bfy,Bfx] at hd;simp only[Au] at hv; subst hv;have hc1:(Value.int k x).cells.toList=[.int k x]:=rfl;obtain⟨cur,hh,hle,hrow⟩:=Xf ho (vs:=[.int k x]) (o:=i) (by simp; omega);have hblk:p.H8=some g:=by unfold Place.H8; rw[hk]; rfl
      have hBb:=(hm.blkB n p g hp (Cf hst) hblk).1
      obtain⟨h1,h2⟩:=Aaw hm hp hst hblk (new:=(cur.toList.take i++[Value.int k x]++cur.toList.drop (i+[Value.int k x].length)).toArray) (ob':=.ints e k (l.set i x)) hlk (fun hmv=>by
       unfold D6;refine⟨hst,_,hk,?_⟩
       have e1:(l.set i x).map (Value.int k)=(l.map (Value.int k)).take i++[.int k x]++(l.map (Value.int k)).drop (i+[Value.int k x].length):=by rw[List.set_eq_take_append_cons_drop,Bfc hlt];simp
       rw[e1,yR];exact hrow)
      exact⟨_,run g i cur e hd hh hle,h1,h2,setB _ _ hBb,fun m=>by rw[Hu hlk]; split<;>simp_all,Vm hm hp (Cf hst) hblk _,fun m hmn=>by rw[Hu hlk,Bfb (fun e=>hmn (by rw[e]; exact zf.2 rfl))],fun m hmn=>by rw[zf.1 hmn,hlk]; simp⟩
     ·simp only[zF] at hq; rw[hq] at hs; simp at hs
    ·cases hs
   ·rename_i e sz l hlk;cases hlow:Ks h (cells v) with
    | none=>simp[hlow] at hs
    | some q =>
    obtain⟨vs,ns⟩:=q;simp only[hlow,Bex] at hs;by_cases hq:(decide (j+ti.size<=sz)&&ns.isEmpty)=true
    ·rw[hq,Bep,Bes,Bey] at hs;obtain⟨hlt,rfl⟩:=hs;simp only[Be0,Bew,List.isEmpty_iff] at hq hlt;obtain⟨hq,rfl⟩:=hq;obtain⟨hst,hsz,sv,rows,hk,hrr,hlen,ho⟩:=Gh hm hp hlk;have hd:=hd.resolve_left (Cf hst);obtain⟨g,cap,rfl,_,_⟩:=H5 ho (by omega);unfold Mb at hd; rw[hk] at hd;have hlv:=Qq (Zw hm 8) (cells v) _ vs [] hlow hcr;have hvl2:vs.length=ti.size:=by rw[hlv.length]; exact hvl
     have hli:l[i]?=some (l.getD i []):=by simp[getD,hlt]
     obtain⟨row,hrow,hlr⟩:=hrr.get i _ hli;have hrl:=(hlen row (xm hrow)).1
     have hin:i*sz+j+vv.cells.toList.length<=l.length*sz:=by have:=Be1 sz (show i+1<=l.length by omega);rw[yj] at this; omega
     obtain⟨cur,hh,hle,hrow'⟩:=Xf ho (vs:=vv.cells.toList) (o:=i*sz+j) hin;have hblk:p.H8=some g:=by unfold Place.H8; rw[hk]; rfl
     have hBb:=(hm.blkB n p g hp (Cf hst) hblk).1
     obtain⟨h1,h2⟩:=Aaw hm hp hst hblk (new:=(cur.toList.take (i*sz+j)++vv.cells.toList++cur.toList.drop (i*sz+j+vv.cells.toList.length)).toArray) (ob':=.recs e sz (l.set i (setCells (l.getD i []) j vs))) hlk (fun hmv=>by
      unfold D6;have hb:=hmv.Em (I0:=I0) (B:=B);have wd:M8 (Lq (seen I0 B A w [])) (B1 I0 B A w).bare:=⟨fun b hb'=>hb'.elim id (fun⟨_,_,hn,_⟩=>absurd hn (by simp)),rfl,fun _=>rfl,fun _=>rfl⟩
      refine⟨hst,hsz,_,rows.set i (row.take j++vv.cells.toList++row.drop (j+vv.cells.toList.length)),hk,?_,?_,?_⟩
      ·refine(D5.Em hb.bare _ _ hrr).set i ?_;exact Y7 (Bh.Em hb.bare _ _ hlr) (Bh.Em hb.bare _ _ (Bh.G8 wd _ _ hlv)) (by rw[hlr.length,hrl]; omega)
      ·intro r hr;rcases List.mem_or_eq_of_mem_set hr with hr | rfl
       ·exact hlen r hr
       ·refine⟨by simp only[Bfh,zI,zP]; omega,fun u hu=>?_⟩;have hro:=(hlen row (xm hrow)).2;simp only[zH] at hu;rcases hu with (hu | hu) | hu
        ·exact hro u (yY hu)
        ·exact hone u hu
        ·exact hro u (yF hu)
      ·rw[Acl (fun r hr=>(hlen r hr).1) i row hrow j _ (by omega),yR];exact hrow')
     exact⟨_,run g _ cur e hd hh hle,h1,h2,setB _ _ hBb,fun m=>by rw[Hu hlk]; split<;>simp_all,Vm hm hp (Cf hst) hblk _,fun m hmn=>by rw[Hu hlk,Bfb (fun e=>hmn (by rw[e]; exact zf.2 rfl))],fun m hmn=>by rw[zf.1 hmn,hlk]; simp⟩
    ·simp only[zF] at hq; rw[hq] at hs; simp at hs
   ·cases hs
  ·cases hs
 ·simp only[zF] at hc; rw[hc] at hs; simp at hs
end
section
variable{P:Program}{E:Env}{I0:Nat->Prop}{B:Nat}{A:Nat->Option Place}{h:Ev}{w:World}{t:TypeId}
theorem Uf{ty e:TypeId}{i:TypeInfo}(ht:P.underlying t=some (.slice e))(hi:P.info? e=some i){v:Value}{n size:Nat}{xs:List Value}(hown:w.ownsRow B e size v n xs)(a:Option Addr)(c:Nat) :
 (Builtin.append_ #[t,t] ty #[v,.slice a 0 c]).run P w=.ok v w:=by
 rcases H4 hown with ⟨rfl,rfl⟩ | ⟨g,cap,rfl,hc⟩
 ·cases a<;>simp[Builtin.append_,run_underlying ht,sizeOf,typeInfo,hi,Builtin.lenOf,Builtin.firstCells,loadCells,loadCellsFrom]
 ·cases a<;>simp[Builtin.append_,run_underlying ht,sizeOf,typeInfo,hi,Builtin.lenOf,Builtin.firstCells,loadCells,loadCellsFrom,hc,storeCells]
theorem T8{ty e:TypeId}{ei:TI}(hu:P.underlying t=some (.slice e))(hf:Cz P e ei)(hb:ei.bytes<=128)(hs:0<ei.size)(hB:B<=w.heap.size){v:Value}{n:Nat}{xs:List Value}(hown:w.ownsRow B e ei.size v n xs)
 {a:Option Addr} {m c:Nat} {news:List Value} (hl:news.length=m*ei.size) (hsrc:m=0\/∃b o,a=some ⟨b,o,none⟩/\Ho w b o news) (h1:∀u∈news,u.oneCell'=true) (hlim:n+m<=Q9 ei.bytes) :
 ∃v' w',(Builtin.append_ #[t,t] ty #[v,.slice a m c]).run P w=.ok v' w'/\w'.ownsRow B e ei.size v' (n+m) (xs++news)/\w.grownBy w' v.ownBlock/\(v'.ownBlock=v.ownBlock\/∀b,v'.ownBlock=some b->b=w.heap.size):=by
 obtain⟨i,z,hi,hsz,hby,hz,_,hzs,_⟩:=hf.info;rcases hsrc with rfl | ⟨b,o,rfl,hrd⟩
 ·have:news=[]:=Bfq (by omega);subst this;refine⟨v,w,Uf hu hi hown a c,by simpa using hown,⟨rfl,rfl,rfl,Bfj _,fun _ _ _=>rfl⟩,.inl rfl⟩
 ·have hnews:∀j u,news[j]?=some u->w.cell? ((⟨b,o,none⟩:Addr).add j)=some u:=fun j u hj=>by rw[Addr.add_lit]; exact hrd j u hj
  have hbytes:(n+m)*ei.bytes<=140737488355328:=Ach hlim hb;by_cases hm0:m=0
  ·subst hm0;have:news=[]:=Bfq (by omega);subst this;exact⟨v,w,Uf hu hi hown _ c,by simpa using hown,⟨rfl,rfl,rfl,Bfj _,fun _ _ _=>rfl⟩,.inl rfl⟩
  ·obtain⟨v',w',hrun,hown',hg,_⟩:=run_append_own (P:=P) w B t ty e i z ei.size ei.bytes hu hi hz hsz hby hzs hs v n xs hown ⟨b,o,none⟩ m c news hl hnews h1 (Afe hlim) hbytes hB;refine⟨v',w',hrun,hown',hg,?_⟩;have h63:n+m<=9223372036854775807:=by have:=Aff hlim; omega
   rcases hown.2 with ⟨rfl,rfl⟩ | ⟨g,cap,cur,rfl,hbg,hgc,hnc,hcm,hcs,htake⟩
   ·have hr:=run_append_nil (P:=P) w t ty e i z hu hi hz ⟨b,o,none⟩ m c news (by rw[hsz]; exact hl) hnews (by omega) (by omega) (by rw[hby]; rw[Bfz] at hbytes; omega);rw[hr] at hrun;cases hrun;exact .inr fun b hb=>by cases hb; rfl
   ·by_cases hroom:n+m<=cap
    ·have hfit:n*i.size+news.length<=cur.size:=by rw[hsz,hl,hcs,<- Bft]; exact Be1 _ hroom
     have hr:=run_append_room (P:=P) w t ty e i hu hi g n cap cur hgc ⟨b,o,none⟩ m c news (by rw[hsz]; exact hl) hnews h1 hroom hfit;rw[hr] at hrun;cases hrun;exact .inl rfl
    ·have holds:∀j u,xs[j]?=some u->w.cell? ((⟨g,0,none⟩:Addr).add j)=some u:=hown.cells (g:=g) rfl;have hr:=run_append_grow (P:=P) w t ty e i z hu hi hz ⟨g,0,none⟩ n cap xs (by rw[hsz]; exact hown.1) holds ⟨b,o,none⟩ m c news (by rw[hsz]; exact hl) hnews (by omega) (by omega) (growslice_fits (by omega) (by rw[hby]; exact hbytes));rw[hr] at hrun;cases hrun;exact .inr fun b hb=>by cases hb; rfl
theorem Abr(hm:Mem I0 B A h w){d:DV}{v:Value}(hv:Au (B1 I0 B A w) w d v){k:IntKind}{l:List Int}(h0:Oj h k d=some l) :
 ∃a m c,v=.slice a m c/\m=l.length/\(m=0\/∃b o,a=some ⟨b,o,none⟩/\Ho w b o (l.map (Value.int k))):=by
 have plain:∀{a:Option Addr} {cap:Nat} {l:List Int} {ok:Nat->Prop},(l=[]\/∃b o,a=some ⟨b,o,none⟩/\ok b/\∀(i:Nat) n,l[i]?=some n->w.cell? ⟨b,o+i,none⟩=some (.int k n)) ->
  (l.length=0\/∃b o,a=some ⟨b,o,none⟩/\Ho w b o (l.map (Value.int k))):=by
  intro a cap l ok hh;refine hh.imp (fun e=>by rw[e]; rfl) fun⟨b,o,e,_,hr⟩=>⟨b,o,e,fun i u hu=>?_⟩
  rw[Bf6] at hu;cases hli:l[i]? with
  | none=>rw[hli] at hu; cases hu
  | some n=>rw[hli] at hu; cases hu; exact hr i n hli
 unfold Oj at h0;split at h0
 ·simp only[Bes] at h0; subst h0; simp only[Au] at hv; exact⟨none,0,0,hv,rfl,.inl rfl⟩
 ·cases h0
 ·rename_i g k' l' hg;by_cases hk:k=k'
  ·subst hk;simp only[decide_true,Bep,Bes] at h0; subst h0;cases g with
   | own i e=>exact absurd rfl (hg i e)
   | arg=>simp only[Au] at hv; obtain⟨a,cap,rfl,_,hh⟩:=hv; exact⟨a,_,cap,rfl,rfl,plain (cap:=cap) hh⟩
   | fresh=>simp only[Au] at hv; obtain⟨a,cap,rfl,_,hh⟩:=hv; exact⟨a,_,cap,rfl,rfl,plain (cap:=cap) hh⟩
  ·simp[hk] at h0
 ·rename_i n;simp only[Au] at hv;obtain⟨_,p,hp,hd⟩:=hv;split at h0
  ·rename_i fz e k' l' hlk;by_cases hk:k=k'
   ·subst hk;simp only[decide_true,Bep,Bes] at h0; subst h0;obtain⟨hst,sv,hk,ho⟩:=Fk hm hp hlk;obtain⟨size,hk'⟩:=hd.resolve_left (Cf hst);rw[hk] at hk'; cases hk';obtain⟨a,cap,rfl,_,hh⟩:=Mv hk ho (Gx ho) (ok:=fun _=>True) (fun _ _=>trivial);simp only[zW,ym] at hh;refine⟨a,_,cap,?_,rfl,plain (cap:=cap) hh⟩;simp
   ·simp[hk] at h0
  ·cases h0
 ·rename_i n off len;simp only[Au] at hv;obtain⟨_,p,hp,hd⟩:=hv;split at h0
  ·rename_i fz e k' l' hlk;by_cases hk:k=k'
   ·subst hk;simp only[decide_true,Bep,Bes] at h0; subst h0;obtain⟨hst,sv,hk,ho⟩:=Fk hm hp hlk;obtain⟨sv',size,hk',hs⟩:=hd.resolve_left (Cf hst);rw[hk] at hk'; cases hk';obtain⟨a,cap,rfl,_,hh⟩:=Mv hk ho hs (ok:=fun _=>True) (fun _ _=>trivial);exact⟨a,_,cap,rfl,rfl,plain (cap:=cap) hh⟩
   ·simp[hk] at h0
  ·cases h0
 ·cases h0
theorem Aiv(hm:Mem I0 B A h w){d:DV}{v:Value}(hv:Au (B1 I0 B A w) w d v){sz:Nat}{l:List (List DV)}(h0:Sc h sz d=some l) :
 ∃a m c rows,v=.slice a m c/\m=l.length/\D5 (B1 I0 B A w).bare w l rows/\(∀r∈rows,r.length=sz/\∀u∈r,u.oneCell'=true)/\(m=0\/∃b o,a=some ⟨b,o,none⟩/\Ho w b o rows.flatten):=by
 have plain:∀{a:Option Addr} {l:List (List DV)} {ok:Nat->Prop},(l=[]\/∃b o rows,a=some ⟨b,o,none⟩/\ok b/\D5 (B1 I0 B A w).bare w l rows/\(∀r∈rows,r.length=sz/\∀u∈r,u.oneCell'=true)/\∀(i:Nat) u,rows.flatten[i]?=some u->w.cell? ⟨b,o+i,none⟩=some u) ->
  ∃rows,D5 (B1 I0 B A w).bare w l rows/\(∀r∈rows,r.length=sz/\∀u∈r,u.oneCell'=true)/\(l.length=0\/∃b o,a=some ⟨b,o,none⟩/\Ho w b o rows.flatten):=by
  intro a l ok hh;rcases hh with rfl | ⟨b,o,rows,e,_,hrr,hlen,hr⟩
  ·exact⟨[],by simp[D5],by simp,.inl rfl⟩
  ·exact⟨rows,hrr,hlen,.inr ⟨b,o,e,hr⟩⟩
 unfold Sc at h0;split at h0
 ·simp only[Bes] at h0; subst h0; simp only[Au] at hv; exact⟨none,0,0,[],hv,rfl,by simp[D5],by simp,.inl rfl⟩
 ·cases h0
 ·rename_i g sz' l' hg;by_cases hk:sz=sz'
  ·subst hk;simp only[Bfp,Bep,Bes] at h0; subst h0;cases g with
   | own i e=>exact absurd rfl (hg i e)
   | arg=>simp only[Au] at hv; obtain⟨a,cap,rfl,_,hh⟩:=hv; obtain⟨rows,q1,q2,q3⟩:=plain hh; exact⟨a,_,cap,rows,rfl,rfl,q1,q2,q3⟩
   | fresh=>simp only[Au] at hv; obtain⟨a,cap,rfl,_,hh⟩:=hv; obtain⟨rows,q1,q2,q3⟩:=plain hh; exact⟨a,_,cap,rows,rfl,rfl,q1,q2,q3⟩
  ·rw[show(sz==sz')=false by simpa using hk] at h0; simp at h0
 ·rename_i n;simp only[Au] at hv;obtain⟨_,p,hp,hd⟩:=hv;split at h0
  ·rename_i fz e sz' l' hlk;by_cases hk:sz=sz'
   ·subst hk;simp only[Bfp,Bep,Bes] at h0; subst h0;obtain⟨hst,_,sv,rows,hk,hrr,hlen,ho⟩:=Gh hm hp hlk;obtain⟨size,hk'⟩:=hd.resolve_left (Cf hst);rw[hk] at hk'; cases hk';obtain⟨a,cap,rfl,_,hh⟩:=Mu hk hrr hlen ho (Gx ho) (ok:=fun _=>True) (fun _ _=>trivial);simp only[zW,ym] at hh;obtain⟨rows',q1,q2,q3⟩:=plain hh;refine⟨a,_,cap,rows',?_,rfl,q1,q2,q3⟩;simp
   ·rw[show(sz==sz')=false by simpa using hk] at h0; simp at h0
  ·cases h0
 ·rename_i n off len;simp only[Au] at hv;obtain⟨_,p,hp,hd⟩:=hv;split at h0
  ·rename_i fz e sz' l' hlk;by_cases hk:sz=sz'
   ·subst hk;simp only[Bfp,Bep,Bes] at h0; subst h0;obtain⟨hst,_,sv,rows,hk,hrr,hlen,ho⟩:=Gh hm hp hlk;obtain⟨sv',size,hk',hs⟩:=hd.resolve_left (Cf hst);rw[hk] at hk'; cases hk';obtain⟨a,cap,rfl,_,hh⟩:=Mu hk hrr hlen ho hs (ok:=fun _=>True) (fun _ _=>trivial);obtain⟨rows',q1,q2,q3⟩:=plain hh;exact⟨a,_,cap,rows',rfl,rfl,q1,q2,q3⟩
   ·rw[show(sz==sz')=false by simpa using hk] at h0; simp at h0
  ·cases h0
 ·cases h0
def Xc(A:Nat->Option Place)(old:Option Nat)(nm:Nat)(p:Place):Nat->Option Place:=fun m =>
 if m=nm then some p else if old=some m then (A m).map fun q=>{ q with st:=.dead } else A m
theorem T9(hm:Mem I0 B A h w){nm:Nat}(hnm:A nm=none){old:Option Nat}{v v':Value}{sz:Nat}{w':World}(hg:w.grownBy w' v.ownBlock)
 (hold:∀b,v.ownBlock=some b->∃n p,old=some n/\A n=some p/\p.st=.live/\p.H8=some b)
 (hblk:v'.ownBlock=v.ownBlock\/∀b,v'.ownBlock=some b->b=w.heap.size)
 {h':Ev} {ob:OB} (hlk:∀m fo,look h' m=some fo->(m=nm/\fo=(false,ob))\/(m≠nm/\old=some m/\fo=(false,.dead))\/(m≠nm/\old≠some m/\look h m=some fo))
 (hlt:∀b,v'.ownBlock=some b->B<=b/\b<w'.heap.size)
 (hob:Kd A w (Xc A old nm ⟨.live,.row v' sz⟩) w'->D6 (B1 I0 B (Xc A old nm ⟨.live,.row v' sz⟩) w') w' ⟨.live,.row v' sz⟩ (false,ob)) :
 Mem I0 B (Xc A old nm ⟨.live,.row v' sz⟩) h' w'/\Kd A w (Xc A old nm ⟨.live,.row v' sz⟩) w'/\Below B w w':=by
 have inv:∀m q,Xc A old nm ⟨.live,.row v' sz⟩ m=some q->(m=nm/\q=⟨.live,.row v' sz⟩)\/(m≠nm/\old=some m/\∃r,A m=some r/\q={ r with st:=.dead })\/(m≠nm/\old≠some m/\A m=some q):=by
  intro m q hq;unfold Xc at hq;split at hq
  ·cases hq; exact .inl ⟨‹_›,rfl⟩
  ·split at hq
   ·cases hA:A m with
    | none=>simp[hA] at hq
    | some r=>simp only[hA,zU,Bes] at hq; exact .inr (.inl ⟨‹_›,‹_›,r,rfl,hq.symm⟩)
   ·exact .inr (.inr ⟨‹_›,‹_›,hq⟩)
 have hmv:Kd A w (Xc A old nm ⟨.live,.row v' sz⟩) w':=by
  refine⟨hg.size,fun m q hq=>?_,fun m q b hq hl hb hlt=>?_,fun b hb hnl=>hg.block b hb (fun e=>?_)⟩
  ·have hne:m≠nm:=fun e=>by rw[e,hnm] at hq; cases hq
   unfold Xc;rw[Bfb hne];by_cases ho:old=some m
   ·rw[Bfc ho,hq]; exact⟨_,rfl,.inl rfl⟩
   ·rw[Bfb ho]; exact⟨q,hq,by by_cases hd:q.st=.dead; exact .inl hd; exact .inr ⟨hd,rfl⟩⟩
  ·rcases inv m q hq with ⟨_,rfl⟩ | ⟨_,_,r,_,rfl⟩ | ⟨_,_,hA⟩
   ·rcases hblk with e | e
    ·have hb':v.ownBlock=some b:=by rw[<- e]; exact hb
     obtain⟨n,p,_,h2,h3,h4⟩:=hold b hb';exact⟨n,p,h2,h3,h4⟩
    ·have:=e b hb; omega
   ·cases hl
   ·exact⟨m,q,hA,hl,hb⟩
  ·obtain⟨n,p,_,h2,h3,h4⟩:=hold b e.symm;exact hnl n p h2 h3 h4
 refine⟨⟨Bfw hm.hB hg.size,hm.I0lt,fun m q fo hq hlo=>?_,fun m q b hq hd hb=>?_,fun m m' q q' b hq hq' hd hd' hb hb'=>?_⟩,hmv,⟨hg.os,hg.tape,hg.output,hg.size,fun k hk=>hg.block k (Bf0 hk hm.hB) (fun e=>?_)⟩⟩
 ·rcases inv m q hq with ⟨rfl,rfl⟩ | ⟨hne,ho,r,hA,rfl⟩ | ⟨hne,ho,hA⟩
  ·rcases hlk m fo hlo with ⟨_,rfl⟩ | ⟨hne,_⟩ | ⟨hne,_⟩
   ·exact hob hmv
   ·exact absurd rfl hne
   ·exact absurd rfl hne
  ·rcases hlk m fo hlo with ⟨e,_⟩ | ⟨_,_,rfl⟩ | ⟨_,ho',_⟩
   ·exact absurd e hne
   ·unfold D6; rfl
   ·exact absurd ho ho'
  ·rcases hlk m fo hlo with ⟨e,_⟩ | ⟨_,ho',_⟩ | ⟨_,_,hl⟩
   ·exact absurd e hne
   ·exact absurd ho' ho
   ·have h1:=hm.obj m q fo hA hl;by_cases hd:q.st=.dead
    ·obtain⟨fz,ob⟩:=fo;cases ob with
     | dead=>exact hd
     | box cs=>exact absurd hd (Cf (Tn hm hA hl).1)
     | ints e k l=>exact absurd hd (Cf (Fk hm hA hl).1)
     | recs e sz l=>exact absurd hd (Cf (Gh hm hA hl).1)
    ·refine D6.Em hmv.Em rfl rfl (fun b hb=>hg.block b (hm.blkB m q b hA hd hb).2 (fun e=>?_)) fo h1;obtain⟨n,p,h1,h2,h3,h4⟩:=hold b e.symm;have:=hm.inj m n q p b hA h2 hd (by rw[h3]; simp) hb h4;subst this;exact ho h1
 ·rcases inv m q hq with ⟨_,rfl⟩ | ⟨_,_,r,_,rfl⟩ | ⟨_,_,hA⟩
  ·exact hlt b hb
  ·exact absurd rfl hd
  ·have:=hm.blkB m q b hA hd hb; have:=hg.size; omega
 ·have hfreshcase:∀m q,Xc A old nm ⟨.live,.row v' sz⟩ m=some q->q.st≠.dead->q.H8=some b->m=nm\/(∃r,A m=some r/\r.st≠.dead/\r.H8=some b/\old≠some m):=by
   intro m q hq hd hb;rcases inv m q hq with ⟨e,_⟩ | ⟨_,_,r,_,rfl⟩ | ⟨_,ho,hA⟩
   ·exact .inl e
   ·exact absurd rfl hd
   ·exact .inr ⟨q,hA,hd,hb,ho⟩
  have hclash:∀m q m' r,m=nm->Xc A old nm ⟨.live,.row v' sz⟩ m=some q->q.H8=some b->A m'=some r->r.st≠.dead->r.H8=some b->old≠some m'->False:=by
   intro m q m' r e hq hb hA hd hrb ho;rcases inv m q hq with ⟨_,rfl⟩ | ⟨hne,_⟩ | ⟨hne,_⟩
   ·have hb':v'.ownBlock=some b:=hb;rcases hblk with e' | e'
    ·rw[e'] at hb';obtain⟨n,p,h1,h2,h3,h4⟩:=hold b hb';have:=hm.inj m' n r p b hA h2 hd (by rw[h3]; simp) hrb h4;subst this;exact ho h1
    ·have:=e' b hb';have:=(hm.blkB m' r b hA hd hrb).2;omega
   ·exact hne e
   ·exact hne e
  rcases hfreshcase m q hq hd hb with e | ⟨r,hA,hrd,hrb,ho⟩
  ·rcases hfreshcase m' q' hq' hd' hb' with e' | ⟨r',hA',hrd',hrb',ho'⟩
   ·rw[e,e']
   ·exact(hclash m q m' r' e hq hb hA' hrd' hrb' ho').elim
  ·rcases hfreshcase m' q' hq' hd' hb' with e' | ⟨r',hA',hrd',hrb',ho'⟩
   ·exact(hclash m' q' m r e' hq' hb' hA hrd hrb ho).elim
   ·exact hm.inj m m' r r' b hA hA' hrd hrd' hrb hrb'
 ·obtain⟨n,p,_,h2,h3,h4⟩:=hold k e.symm;have:=(hm.blkB n p k h2 (by rw[h3]; simp) h4).1;omega
end
section
variable{P:Program}{E:Env}{I0:Nat->Prop}{B:Nat}{A:Nat->Option Place}{h:Ev}{w:World}{t:TypeId}
theorem Ar5(hty:∀t ti,E.ty t=some ti->Cz P t ti)(hm:Mem I0 B A h w){nm:Nat}(hnm:A nm=none){ty:TypeId}{s x v:DV}{vs vx:Value}(hs:Au (B1 I0 B A w) w s vs)(hx:Au (B1 I0 B A w) w x vx){req:Bool}{h':Ev}
 (ha:R4 E h nm t s x=some (req,v,h')) (hreq:req=true) :
 ∃v' w' A',(Builtin.append_ #[t,t] ty #[vs,vx]).run P w=.ok v' w'/\Mem I0 B A' h' w'/\Kd A w A' w'/\Below B w w'/\Au (B1 I0 B A' w') w' v v' /\
  (∀m p,A' m=some p->A m=none->m=nm)/\(∀m,(look h' m).isSome=(decide (m=nm)||(look h m).isSome))/\W5 (Akk s) A w w'/\(∀m q,m ∉ Akk s->A m=some q->A' m=some q) /\
  (∀m,m ∉ Akk s->m≠nm->look h' m=look h m)/\(∀m,m∈Akk s->look h m≠none)/\look h nm=none:=by
 subst hreq;unfold R4 at ha;split at ha
 ·rename_i e _ hT;have hu:=(hty _ _ hT).desc;simp only[Dd] at hu;cases hE:E.ty e with
  | none=>simp[hE] at ha
  | some ei =>
  simp only[hE,Bex] at ha;by_cases hq:(decide (ei.bytes<=128)&&decide (0<ei.size)&&(look h nm).isNone)=true
  ·rw[hq,Bep] at ha;simp only[Be0,Bew,Option.isNone_iff_eq_none] at hq;obtain⟨⟨hq1,hq2⟩,hq3⟩:=hq;have hei:=hty _ _ hE
   have hne:∀{old:Option Nat} {p:Place} m q,Xc A old nm p m=some q->A m=none->m=nm:=by
    intro old p m q hq hA;unfold Xc at hq;split at hq
    ·assumption
    ·split at hq
     ·rw[hA] at hq; cases hq
     ·rw[hA] at hq; cases hq
   have ltB:∀{w':World} {sz n:Nat} {v':Value} {xs:List Value},w'.ownsRow B e sz v' n xs->∀b,v'.ownBlock=some b->B<=b/\b<w'.heap.size:=fun ho b hb=>ho.lt b hb
   have keepN:∀{w':World},w.grownBy w' none->W5 [] A w w':=fun hg m q b _ hq hqd hqb=>hg.block b (hm.blkB m q b hq hqd hqb).2 (by simp)
   have sameN:∀{p:Place} m q,m ∉ ([]:List Nat)->A m=some q->Xc A none nm p m=some q:=by intro p m q _ hq;unfold Xc;rw[Bfb (fun e=>by rw[e,hnm] at hq; cases hq),Bfb (by simp)];exact hq
   have sameO:∀{n:Nat} {p:Place} m q,m ∉ [n]->A m=some q->Xc A (some n) nm p m=some q:=by intro n p m q hn hq;unfold Xc;rw[Bfb (fun e=>by rw[e,hnm] at hq; cases hq),Bfb (fun e=>hn (by rw[xZ e]; exact zf.2 rfl))];exact hq
   have keepO:∀{n:Nat} {p:Place} {b':Option Nat} {w':World},A n=some p->p.st≠.dead->(∀b,b'=some b->p.H8=some b)->w.grownBy w' b'->W5 [n] A w w':=fun {n p b' w'} hp hd hb hg m q b hn hq hqd hqb =>
    hg.block b (hm.blkB m q b hq hqd hqb).2 (fun e=>hn (by rw[hm.inj m n q p b hq hp hqd hd hqb (hb b e.symm)]; exact zf.2 rfl))
   split at ha
   ·
    simp only[Au] at hs; subst hs;have hown:w.ownsRow B e ei.size (.slice none 0 0) 0 []:=World.ownsRow_nil w B e ei.size
    have hlk:∀ob m fo,look ((nm,false,ob)::h) m=some fo->(m=nm/\fo=(false,ob))\/(m≠nm/\(none:Option Nat)=some m/\fo=(false,.dead))\/(m≠nm/\(none:Option Nat)≠some m/\look h m=some fo):=by
     intro ob m fo hl;simp only[look] at hl;by_cases e:nm=m
     ·subst e; simp at hl; exact .inl ⟨rfl,hl.symm⟩
     ·rw[show(nm==m)=false by simpa using e] at hl;exact .inr (.inr ⟨fun e'=>e e'.symm,by simp,hl⟩)
    have hsame:∀ob m,m≠nm->look ((nm,false,ob)::h) m=look h m:=by intro ob m hm';simp only[look,show(nm==m)=false by simpa using fun e:nm=m=>hm' e.symm,Bet]
    have hdom:∀ob m,(look ((nm,false,ob)::h) m).isSome=(decide (m=nm)||(look h m).isSome):=by
     intro ob m;simp only[look];by_cases e:nm=m
     ·subst e; simp
     ·rw[show(nm==m)=false by simpa using e]; simp[show ¬m=nm from fun e'=>e e'.symm]
    split at ha
    ·rename_i k hk;by_cases hs1:ei.size=1
     ·simp only[hs1,Bfp,Bep] at ha;cases hel:Oj h k x with
      | none=>simp[hel] at ha
      | some l =>
        simp only[hel,Bex,Bes,Bey,Bew] at ha;obtain⟨hlim,rfl,rfl⟩:=ha;obtain⟨a,m,c,rfl,rfl,hsrc⟩:=Abr hm hx hel;obtain⟨v',w',hrun,hown',hg,hb⟩:=T8 (P:=P) (ty:=ty) hu hei hq1 hq2 hm.hB hown (a:=a) (c:=c) (news:=l.map (Value.int k)) (by rw[hs1]; simp) hsrc (by simp[Value.oneCell']) (by simpa using hlim)
        obtain⟨h1,h2,h3⟩:=T9 hm hnm (old:=none) (v:=.slice none 0 0) (sz:=1) hg (fun b hb=>by cases hb) hb (hlk (.ints e k l)) (ltB hown') (fun _=>by unfold D6;refine⟨rfl,v',rfl,?_⟩;rw[hs1] at hown';have q:=hown';simp only[Bfz,zV] at q;exact q)
        exact⟨v',w',_,hrun,h1,h2,h3,by simp only[Au]; exact⟨Jn hown',_,Bfc rfl,.inr ⟨1,rfl⟩⟩,hne,hdom _,keepN hg,sameN,fun m _ hmn=>hsame _ m hmn,fun m hmn=>absurd hmn (by simp[Akk]),hq3⟩
     ·rw[show(ei.size==1)=false by simpa using hs1] at ha; simp at ha
    ·cases hel:Sc h ei.size x with
     | none=>simp[hel] at ha
     | some l =>
       simp only[hel,Bex,Bes,Bey,Bew] at ha;obtain⟨hlim,rfl,rfl⟩:=ha;obtain⟨a,m,c,rows,rfl,rfl,hrr,hlen,hsrc⟩:=Aiv hm hx hel
       obtain⟨v',w',hrun,hown',hg,hb⟩:=T8 (P:=P) (ty:=ty) hu hei hq1 hq2 hm.hB hown (a:=a) (c:=c) (news:=rows.flatten) (by rw[Nw (fun r hr=>(hlen r hr).1),hrr.length]) hsrc (fun u hu=>by obtain⟨r,hr,hur⟩:=List.mem_flatten.1 hu;exact(hlen r hr).2 u hur) (by simpa using hlim)
       obtain⟨h1,h2,h3⟩:=T9 hm hnm (old:=none) (v:=.slice none 0 0) (sz:=ei.size) hg (fun b hb=>by cases hb) hb (hlk (.recs e ei.size l)) (ltB hown') (fun hmv=>by unfold D6;refine⟨rfl,hq2,v',rows,rfl,D5.Em (hmv.Em (I0:=I0) (B:=B)).bare _ _ hrr,hlen,?_⟩;have q:=hown';simp only[Bfz,zV] at q;exact q)
       exact⟨v',w',_,hrun,h1,h2,h3,by simp only[Au]; exact⟨Jn hown',_,Bfc rfl,.inr ⟨_,rfl⟩⟩,hne,hdom _,keepN hg,sameN,fun m _ hmn=>hsame _ m hmn,fun m hmn=>absurd hmn (by simp[Akk]),hq3⟩
   ·
    rename_i n;simp only[Au] at hs;obtain⟨_,p,hp,hd⟩:=hs
    have hlk:∀{ob0 ob:OB},look h n=some (false,ob0)->∀m fo,look ((nm,false,ob)::upd h n (false,.dead)) m=some fo->(m=nm/\fo=(false,ob))\/(m≠nm/\(some n:Option Nat)=some m/\fo=(false,.dead))\/(m≠nm/\(some n:Option Nat)≠some m/\look h m=some fo):=by
     intro ob0 ob hl0 m fo hl;simp only[look] at hl;by_cases e:nm=m
     ·subst e; simp at hl; exact .inl ⟨rfl,hl.symm⟩
     ·rw[show(nm==m)=false by simpa using e] at hl;simp only[Bet] at hl;rw[Hu hl0] at hl;by_cases e':m=n
      ·subst e'; rw[Bfc rfl] at hl; cases hl; exact .inr (.inl ⟨fun e'=>e e'.symm,rfl,rfl⟩)
      ·rw[Bfb e'] at hl;exact .inr (.inr ⟨fun e'=>e e'.symm,fun e''=>e' (xZ e'').symm,hl⟩)
    have hsame:∀{ob0 ob:OB},look h n=some (false,ob0)->∀m,m ∉ [n]->m≠nm->look ((nm,false,ob)::upd h n (false,.dead)) m=look h m:=by intro ob0 ob hl0 m hn hm';simp only[look,show(nm==m)=false by simpa using fun e:nm=m=>hm' e.symm,Bet];rw[Hu hl0,Bfb (fun e=>hn (by rw[e]; exact zf.2 rfl))]
    have hdom:∀{ob0 ob:OB},look h n=some (false,ob0)->∀m,(look ((nm,false,ob)::upd h n (false,.dead)) m).isSome=(decide (m=nm)||(look h m).isSome):=by
     intro ob0 ob hl0 m;simp only[look];by_cases e:nm=m
     ·subst e; simp
     ·rw[show(nm==m)=false by simpa using e];simp only[Bet,show ¬m=nm from fun e'=>e e'.symm,decide_false,Bool.false_or];rw[Hu hl0]; split<;>simp_all
    split at ha
    ·rename_i e' k l' hlo;obtain⟨hst,sv,hk,ho⟩:=Fk hm hp hlo;obtain⟨size,hk'⟩:=hd.resolve_left (Cf hst);rw[hk] at hk'; cases hk';cases hel:Oj h k x with
     | none=>simp[hel] at ha
     | some l =>
       simp only[hel,Bex] at ha;by_cases hc:(e==e'&&ei.size==1)=true
       ·rw[hc,Bep] at ha;simp only[Bes,Bey,Bew] at ha;obtain⟨hlim,rfl,rfl⟩:=ha;simp only[Be0,beq_iff_eq] at hc;obtain⟨rfl,hs1⟩:=hc;obtain⟨a,m,c,rfl,rfl,hsrc⟩:=Abr hm hx hel;obtain⟨v',w',hrun,hown',hg,hb⟩:=T8 (P:=P) (ty:=ty) hu hei hq1 hq2 hm.hB (by rw[hs1]; exact ho) (a:=a) (c:=c) (news:=l.map (Value.int k)) (by rw[hs1]; simp) hsrc (by simp[Value.oneCell']) hlim
        obtain⟨h1,h2,h3⟩:=T9 hm hnm (old:=some n) (sz:=1) hg (fun b hb=>⟨n,p,rfl,hp,hst,by unfold Place.H8; rw[hk]; exact hb⟩) hb (hlk (ob:=.ints e k (l'++l)) hlo) (ltB hown') (fun _=>by unfold D6;refine⟨rfl,v',rfl,?_⟩;rw[hs1] at hown';rw[Bfh,List.map_append];exact hown')
        exact⟨v',w',_,hrun,h1,h2,h3,by simp only[Au]; exact⟨Jn hown',_,Bfc rfl,.inr ⟨1,rfl⟩⟩,hne,hdom hlo,keepO hp (Cf hst) (fun b hb=>by unfold Place.H8; rw[hk]; exact hb) hg,sameO,fun m h1 h2=>hsame hlo m h1 h2,fun m hmn=>by rw[zf.1 hmn,hlo]; simp,hq3⟩
       ·simp only[zF] at hc; rw[hc] at ha; simp at ha
    ·rename_i e' sz l' hlo;obtain⟨hst,hsz,sv,rows',hk,hrr',hlen',ho⟩:=Gh hm hp hlo;obtain⟨size,hk'⟩:=hd.resolve_left (Cf hst);rw[hk] at hk'; cases hk';cases hel:Sc h sz x with
     | none=>simp[hel] at ha
     | some l =>
       simp only[hel,Bex] at ha;by_cases hc:(e==e'&&sz==ei.size)=true
       ·rw[hc,Bep] at ha;simp only[Bes,Bey,Bew] at ha;obtain⟨hlim,rfl,rfl⟩:=ha;simp only[Be0,beq_iff_eq] at hc;obtain⟨rfl,rfl⟩:=hc;obtain⟨a,m,c,rows,rfl,rfl,hrr,hlen,hsrc⟩:=Aiv hm hx hel
        obtain⟨v',w',hrun,hown',hg,hb⟩:=T8 (P:=P) (ty:=ty) hu hei hq1 hq2 hm.hB ho (a:=a) (c:=c) (news:=rows.flatten) (by rw[Nw (fun r hr=>(hlen r hr).1),hrr.length]) hsrc (fun u hu=>by obtain⟨r,hr,hur⟩:=List.mem_flatten.1 hu;exact(hlen r hr).2 u hur) hlim
        obtain⟨h1,h2,h3⟩:=T9 hm hnm (old:=some n) (sz:=ei.size) hg (fun b hb=>⟨n,p,rfl,hp,hst,by unfold Place.H8; rw[hk]; exact hb⟩) hb (hlk (ob:=.recs e ei.size (l'++l)) hlo) (ltB hown') (fun hmv=>by
         unfold D6;have hbr:=(hmv.Em (I0:=I0) (B:=B)).bare;refine⟨rfl,hq2,v',rows'++rows,rfl,(D5.Em hbr _ _ hrr').append (D5.Em hbr _ _ hrr),?_,?_⟩
         ·intro r hr;rcases zH.1 hr with hr | hr
          ·exact hlen' r hr
          ·exact hlen r hr
         ·rw[Bfh,List.flatten_append]; exact hown')
        exact⟨v',w',_,hrun,h1,h2,h3,by simp only[Au]; exact⟨Jn hown',_,Bfc rfl,.inr ⟨_,rfl⟩⟩,hne,hdom hlo,keepO hp (Cf hst) (fun b hb=>by unfold Place.H8; rw[hk]; exact hb) hg,sameO,fun m h1 h2=>hsame hlo m h1 h2,fun m hmn=>by rw[zf.1 hmn,hlo]; simp,hq3⟩
       ·simp only[zF] at hc; rw[hc] at ha; simp at ha
    ·cases ha
   ·cases ha
  ·simp only[zF] at hq; rw[hq] at ha; simp at ha
 ·cases ha
end
end Go.Den
