/- A verified evaluator of the program's form and its use for this seat: Den0, Den1, Den2, Den3, Den4, Den5, Den6, Den7, Den8, Den9. -/
import Derived.Below
import Derived.Orders
import Derived.Laws.MakeOwn
import Derived.Laws.Entries
import Derived.Laws.Cells
import Derived.Laws.StructEq
set_option linter.unusedVariables false
set_option linter.unusedSimpArgs false
open Option renaming some->wM,none->wN
open Bool renaming true->wc,false->wh
open List renaming getD->vC
open List renaming getD_eq_getElem?_getD->wT,drop_of_length_le->wX,getElem?_eq_getElem->wZ,length_append->w9,eq_nil_of_length_eq_zero->ve,mem_cons_of_mem->vg,getElem?_append_right->vi,mem_cons_self->vj,getElem?_eq_none->vk,range->zg,replicate->zo,cons_append->xG,getElem?_drop->yG,getElem?_take_eq_none->yR,getElem?_take_of_lt->yS,getElem?_set->wg,flatten_cons->yA,mem_of_getElem?->yT,length_nil->xt,mem_of_mem_take->yU
open Nat renaming mul_le_mul_right->wU,pow_le_pow_right->wY,eq_of_beq_eq_true->w7,div_div_eq_div_mul->vd,lt_of_le_of_lt->vf,lt_of_lt_of_le->vh,blt->yF,beq->zf,succ_mul->z9,mod_lt->zt,add_assoc->yo,add_sub_cancel->yC
open Array renaming getElem?_eq_getElem->w8
open BitVec renaming ofInt->zn
open Option renaming map_some->yh,getD_none->y8
open Bool renaming and_true->xH,not_eq_true->zA
noncomputable section
theorem Go.Aa : type_of% @cond_true := @cond_true
theorem Go.Ac : type_of% @decide_eq_true := @decide_eq_true
theorem Go.Ad : type_of% @Int.toNat_natCast := @Int.toNat_natCast
theorem Go.Ae : type_of% @Option.some.injEq := @Option.some.injEq
theorem Go.Af : type_of% @cond_false := @cond_false
theorem Go.Ag : type_of% @decide_eq_false := @decide_eq_false
theorem Go.Ah : type_of% @Bool.and_self := @Bool.and_self
theorem Go.Ai : type_of% @decide_eq_true_eq := @decide_eq_true_eq
theorem Go.Aj : type_of% @Option.bind_some := @Option.bind_some
theorem Go.Ak : type_of% @Prod.mk.injEq := @Prod.mk.injEq
theorem Go.Al : type_of% @wT := @wT
theorem Go.Am : type_of% @Bool.and_eq_true := @Bool.and_eq_true
theorem Go.An : type_of% @wU := @wU
theorem Go.Ao : type_of% @Nat.mod_eq_of_lt := @Nat.mod_eq_of_lt
theorem Go.Ap : type_of% @wX := @wX
theorem Go.Aq : type_of% @wY := @wY
theorem Go.Ar : type_of% @Bool.eq_iff_iff := @Bool.eq_iff_iff
theorem Go.As : type_of% @wZ := @wZ
theorem Go.Au : type_of% @w7 := @w7
theorem Go.Av : type_of% @decide_eq_false_iff_not := @decide_eq_false_iff_not
theorem Go.Aw : type_of% @w8 := @w8
theorem Go.Ax : type_of% @Int.natCast_mul := @Int.natCast_mul
theorem Go.Ay : type_of% @if_neg := @if_neg
theorem Go.Az : type_of% @if_pos := @if_pos
theorem Go.A0 : type_of% @Nat.mul_comm := @Nat.mul_comm
theorem Go.A5 : type_of% @Nat.pow_add := @Nat.pow_add
theorem Go.A6 : type_of% @of_decide_eq_true := @of_decide_eq_true
theorem Go.A7 : type_of% @Nat.mul_assoc := @Nat.mul_assoc
theorem Go.A8 : type_of% @w9 := @w9
theorem Go.A9 : type_of% @vd := @vd
theorem Go.AB : type_of% @Nat.le_refl := @Nat.le_refl
theorem Go.AD : type_of% @beq_eq_false_iff_ne := @beq_eq_false_iff_ne
theorem Go.AE : type_of% @Nat.mul_le_mul := @Nat.mul_le_mul
theorem Go.AF : type_of% @Nat.lt_or_ge := @Nat.lt_or_ge
theorem Go.AG : type_of% @Nat.pow_zero := @Nat.pow_zero
theorem Go.AH : type_of% @Bool.not_true := @Bool.not_true
theorem Go.AI : type_of% @beq_self_eq_true := @beq_self_eq_true
theorem Go.AJ : type_of% @ve := @ve
theorem Go.AK : type_of% @vf := @vf
theorem Go.AL : type_of% @List.length_range := @List.length_range
theorem Go.AM : type_of% @Nat.add_mul := @Nat.add_mul
theorem Go.AN : type_of% @vg := @vg
theorem Go.AO : type_of% @List.length_map := @List.length_map
theorem Go.AP : type_of% @Nat.le_trans := @Nat.le_trans
theorem Go.AQ : type_of% @Nat.add_zero := @Nat.add_zero
theorem Go.AR : type_of% @Nat.mul_one := @Nat.mul_one
theorem Go.AS : type_of% @Nat.zero_add := @Nat.zero_add
theorem Go.AU : type_of% @vh := @vh
theorem Go.AV : type_of% @Bool.or_true := @Bool.or_true
theorem Go.AW : type_of% @Bool.true_and := @Bool.true_and
theorem Go.AX : type_of% @vi := @vi
theorem Go.AY : type_of% @vj := @vj
theorem Go.AZ : type_of% @Nat.log2_lt := @Nat.log2_lt
theorem Go.Ba : type_of% @List.getElem?_map := @List.getElem?_map
theorem Go.Bb : type_of% @vk := @vk
theorem Go.Bc : type_of% @Bool.not_false := @Bool.not_false
theorem Go.Be : type_of% @Option.getD_some := @Option.getD_some
abbrev Go.Bf:=List Int
namespace Go.Den
inductive QT where
 | arg
 | BE
 | own (i:Nat) (e:TypeId)
 deriving DecidableEq
inductive DV where
 | undef
 | nil
 | bool (b:Bool)
 | int (k:IntKind) (n:Int)
 | fl (n:Nat)
 | nb (n:Nat)
 | agg (l:List DV)
 | CJ (l:List DV)
 | Bj (g:QT) (k:IntKind) (l:Bf)
 | CO (g:QT) (sz:Nat) (l:List (List DV))
 | Dh (n:Nat)
 | J9 (n off len:Nat)
 | ptr (n i j:Nat)
 | CL (cs:List DV)
 | fn (f:FuncId) (first captured:List DV)
 | gd (c:Bool) (d:DV)
inductive PSt where
 | live | frozen | dead
 deriving DecidableEq
inductive AlA where
 | box (b:Nat)
 | row (sv:Value) (size:Nat)
structure Place where
 st:PSt
 kind:AlA
def Place.F1(p:Place):Option Nat:=
 match p.kind with
 | .box b=>wM b
 | .row sv _=>sv.ownBlock
structure Ctx where
 ok:Nat->Prop
 B:Nat
 fr:Bool
 own:Nat->Option Nat
 at_:Nat->Option Place
def HF(n:Nat):Bool:=(Ieee.double.read n).isNaN
def M6(n m:Nat):Prop:=n=m\/(HF n=wc/\HF m=wc)
def Ky(sv:Value)(size off len:Nat)(v:Value):Prop:=
 match sv with
 | .slice (some ⟨g,0,none⟩) n _=>off+len<=n/\∃a cap,v=.slice (wM a) len cap/\len<=cap/\(len=0\/a=⟨g,off*size,wN⟩)
 | .slice none 0 0=>off=0/\len=0/\v=.slice wN 0 0
 | _=>False
def H9(p:Place)(i j:Nat)(v:Value):Prop:=
 match p.kind with
 | .box b=>i=0/\v=.pointer (wM ⟨b,j,wN⟩)
 | .row (.slice (some ⟨g,0,none⟩) _ _) size=>v=.pointer (wM ⟨g,i*size+j,wN⟩)
 | _=>False
def Ctx.bare(c:Ctx):Ctx:={ ok:=c.ok,B:=0,fr:=wh,own:=fun _=>wN,at_:=fun _=>wN }
def Ctx.F1(c:Ctx):QT->Nat->Prop
 | .arg,b=>c.ok b
 | .BE,b=>c.ok b/\c.fr=wc/\c.B<=b
 | .own i _,b=>c.own i=wM b
mutual
def By(c:Ctx)(w:World):DV->Value->Prop
 | .undef,_=>True
 | .nil,v=>v=.slice wN 0 0
 | .bool b,v=>v=.bool b
 | .int k n,v=>v=.int k n
 | .fl n,v=>∃m,v=.float .f64 m/\M6 n m
 | .nb n,v=>∃m:Nat,v=.int .u64 m/\M6 n m
 | .agg l,v=>∃vs,v=.agg vs/\BJ c w l vs.toList
 | .CJ l,v=>∃vs,v=.tuple vs/\BJ c w l vs.toList
 | .Bj (.own i e) k l,v=>w.ownsRow c.B e 1 v l.length (l.map (Value.int k))/\∀b,v.ownBlock=wM b->c.own i=wM b
 | .Bj g k l,v=>∃a cap,v=.slice a l.length cap/\l.length<=cap/\(l=[]\/∃b o,a=wM ⟨b,o,wN⟩/\c.F1 g b/\∀i n,l[i]?=wM n->w.cell? ⟨b,o+i,wN⟩=wM (.int k n))
 | .CO (.own i e) sz l,v=>∃rows:List (List Value),Dm c.bare w l rows/\(∀r∈rows,r.length=sz/\∀u∈r,u.oneCell'=wc)/\w.ownsRow c.B e sz v l.length rows.flatten/\∀b,v.ownBlock=wM b->c.own i=wM b
 | .CO g sz l,v=>∃a cap,v=.slice a l.length cap/\l.length<=cap/\(l=[]\/∃b o rows,a=wM ⟨b,o,wN⟩/\c.F1 g b/\Dm c.bare w l rows/\(∀r∈rows,r.length=sz/\∀u∈r,u.oneCell'=wc)/\∀i u,rows.flatten[i]?=wM u->w.cell? ⟨b,o+i,wN⟩=wM u)
 | .Dh n,v=>v.oneCell'=wc/\∃p,c.at_ n=wM p/\(p.st=.dead\/∃size,p.kind=.row v size)
 | .J9 n off len,v=>v.oneCell'=wc/\∃p,c.at_ n=wM p/\(p.st=.dead\/∃sv size,p.kind=.row sv size/\Ky sv size off len v)
 | .ptr n i j,v=>v.oneCell'=wc/\∃p,c.at_ n=wM p/\(p.st=.dead\/H9 p i j v)
 | .CL cs,v=>∃b o vs,v=.pointer (wM ⟨b,o,wN⟩)/\c.ok b/\BJ c.bare w cs vs/\∀(i:Nat) u,vs[i]?=wM u->w.cell? ⟨b,o+i,wN⟩=wM u
 | .fn f fs cs,v=>∃fs' cs',v=.func (.func f) fs' cs'/\BJ c w fs fs'.toList/\BJ c w cs cs'.toList
 | .gd g d,v=>(g=wc->By c w d v)/\(g=wh->v=Go.undef)
def BJ(c:Ctx)(w:World):List DV->List Value->Prop
 | [],vs=>vs=[]
 | d::ds,vs=>∃u us,vs=u::us/\By c w d u/\BJ c w ds us
def Dm(c:Ctx)(w:World):List (List DV)->List (List Value)->Prop
 | [],rs=>rs=[]
 | d::ds,rs=>∃r rest,rs=r::rest/\BJ c w d r/\Dm c w ds rest
end
structure Jr(c:Ctx)(w:World)(c':Ctx)(w':World):Prop where
 ok:∀b,c.ok b->c'.ok b
 B:c'.B=c.B
 fr:c'.fr=c.fr
 own:∀i b,c.own i=wM b->c'.own i=wM b
 at_:∀n p,c.at_ n=wM p->∃q,c'.at_ n=wM q/\(q.st=.dead\/(p.st≠.dead/\q.kind=p.kind))
 cell:∀b o,c.ok b->w'.cell? ⟨b,o,wN⟩=w.cell? ⟨b,o,wN⟩
 Aho:∀i b,c.own i=wM b->w'.heap[b]?=w.heap[b]?
theorem Jr.F1{c c':Ctx}{w w':World}(h:Jr c w c' w'){g:QT}{b:Nat}(hb:c.F1 g b):c'.F1 g b:=by
 cases g with
 | arg=>exact h.ok _ hb
 | BE=>exact⟨h.ok _ hb.1,by rw[h.fr]; exact hb.2.1,by rw[h.B]; exact hb.2.2⟩
 | own i e=>exact h.own _ _ hb
theorem Hb{w w':World}{base:Nat}{e:TypeId}{size n:Nat}{v:Value}{xs:List Value}(h:w.ownsRow base e size v n xs)
 (hb:∀b,v.ownBlock=wM b->w'.heap[b]?=w.heap[b]?):w'.ownsRow base e size v n xs:=by
 obtain⟨h1,h2⟩:=h;refine⟨h1,?_⟩;rcases h2 with h2 | ⟨g,cap,cur,hv,hg,hh,r⟩
 ·exact Or.inl h2
 ·exact Or.inr ⟨g,cap,cur,hv,hg,by rw[hb g (by rw[hv]; rfl)]; exact hh,r⟩
theorem Jr.bare{c c':Ctx}{w w':World}(h:Jr c w c' w'):Jr c.bare w c'.bare w' :=⟨h.ok,rfl,rfl,fun _ _ h=>(by cases h),fun _ _ h=>(by cases h),h.cell,fun _ _ h=>(by cases h)⟩
mutual
theorem By.D1{c c':Ctx}{w w':World}(h:Jr c w c' w'):∀(d:DV) (v:Value),By c w d v->By c' w' d v
 | .undef,_,_=>by simp[By]
 | .nil,v,hv=>by simp only[By] at hv ⊢; exact hv
 | .bool b,v,hv=>by simp only[By] at hv ⊢; exact hv
 | .int k n,v,hv=>by simp only[By] at hv ⊢; exact hv
 | .fl n,v,hv=>by simp only[By] at hv ⊢; exact hv
 | .nb n,v,hv=>by simp only[By] at hv ⊢; exact hv
 | .agg l,v,hv=>by simp only[By] at hv ⊢;obtain⟨vs,e,hl⟩:=hv;exact⟨vs,e,BJ.D1 h l _ hl⟩
 | .CJ l,v,hv=>by simp only[By] at hv ⊢;obtain⟨vs,e,hl⟩:=hv;exact⟨vs,e,BJ.D1 h l _ hl⟩
 | .Bj (.own i e) k l,v,hv=>by simp only[By] at hv ⊢;obtain⟨hr,ho⟩:=hv;refine⟨?_,fun b hb=>h.own _ _ (ho b hb)⟩;rw[h.B];exact Hb hr fun b hb=>h.Aho _ _ (ho b hb)
 | .Bj .arg k l,v,hv=>by
   simp only[By] at hv ⊢;obtain⟨a,cap,e,hc,hl⟩:=hv;refine⟨a,cap,e,hc,hl.imp id ?_⟩
   rintro ⟨b,o,ha,hb,hr⟩
   exact⟨b,o,ha,h.F1 hb,fun i n hi=>by rw[h.cell b _ hb]; exact hr i n hi⟩
 | .Bj .BE k l,v,hv=>by
   simp only[By] at hv ⊢;obtain⟨a,cap,e,hc,hl⟩:=hv;refine⟨a,cap,e,hc,hl.imp id ?_⟩
   rintro ⟨b,o,ha,hb,hr⟩
   exact⟨b,o,ha,h.F1 hb,fun i n hi=>by rw[h.cell b _ hb.1]; exact hr i n hi⟩
 | .CO (.own i e) sz l,v,hv=>by simp only[By] at hv ⊢;obtain⟨rows,hrr,hsz,hr,ho⟩:=hv;refine⟨rows,Dm.D1 h.bare l rows hrr,hsz,?_,fun b hb=>h.own _ _ (ho b hb)⟩;rw[h.B];exact Hb hr fun b hb=>h.Aho _ _ (ho b hb)
 | .CO .arg sz l,v,hv=>by
   simp only[By] at hv ⊢;obtain⟨a,cap,e,hc,hl⟩:=hv;refine⟨a,cap,e,hc,hl.imp id ?_⟩
   rintro ⟨b,o,rows,ha,hb,hrr,hsz,hr⟩
   exact⟨b,o,rows,ha,h.F1 hb,Dm.D1 h.bare l rows hrr,hsz,fun i n hi=>by rw[h.cell b _ hb]; exact hr i n hi⟩
 | .CO .BE sz l,v,hv=>by
   simp only[By] at hv ⊢;obtain⟨a,cap,e,hc,hl⟩:=hv;refine⟨a,cap,e,hc,hl.imp id ?_⟩
   rintro ⟨b,o,rows,ha,hb,hrr,hsz,hr⟩
   exact⟨b,o,rows,ha,h.F1 hb,Dm.D1 h.bare l rows hrr,hsz,fun i n hi=>by rw[h.cell b _ hb.1]; exact hr i n hi⟩
 | .Dh n,v,hv=>by
   simp only[By] at hv ⊢;obtain⟨h1,p,hp,hd⟩:=hv;obtain⟨q,hq,hk⟩:=h.at_ n p hp;refine⟨h1,q,hq,?_⟩;rcases hk with hk | ⟨hnd,hk⟩
   ·exact .inl hk
   ·rw[hk]; exact .inr (hd.resolve_left hnd)
 | .J9 n off len,v,hv=>by
   simp only[By] at hv ⊢;obtain⟨h1,p,hp,hd⟩:=hv;obtain⟨q,hq,hk⟩:=h.at_ n p hp;refine⟨h1,q,hq,?_⟩;rcases hk with hk | ⟨hnd,hk⟩
   ·exact .inl hk
   ·rw[hk]; exact .inr (hd.resolve_left hnd)
 | .ptr n i j,v,hv=>by
   simp only[By] at hv ⊢;obtain⟨h1,p,hp,hd⟩:=hv;obtain⟨q,hq,hk⟩:=h.at_ n p hp;refine⟨h1,q,hq,?_⟩;rcases hk with hk | ⟨hnd,hk⟩
   ·exact .inl hk
   ·have:=hd.resolve_left hnd;refine .inr ?_;unfold H9 at this ⊢;rw[hk]; exact this
 | .CL cs,v,hv=>by simp only[By] at hv ⊢;obtain⟨b,o,vs,e,hb,hl,hr⟩:=hv;exact⟨b,o,vs,e,h.ok _ hb,BJ.D1 h.bare cs vs hl,fun i u hi=>by rw[h.cell b _ hb]; exact hr i u hi⟩
 | .fn f fs cs,v,hv=>by simp only[By] at hv ⊢;obtain⟨fs',cs',e,h1,h2⟩:=hv;exact⟨fs',cs',e,BJ.D1 h fs _ h1,BJ.D1 h cs _ h2⟩
 | .gd g d,v,hv=>by simp only[By] at hv ⊢;exact⟨fun hg=>By.D1 h d v (hv.1 hg),hv.2⟩
theorem BJ.D1{c c':Ctx}{w w':World}(h:Jr c w c' w'):∀(l:List DV) (vs:List Value),BJ c w l vs->BJ c' w' l vs
 | [],vs,hv=>by simp only[BJ] at hv ⊢; exact hv
 | d::ds,vs,hv=>by simp only[BJ] at hv ⊢;obtain⟨u,us,e,h1,h2⟩:=hv;exact⟨u,us,e,By.D1 h d u h1,BJ.D1 h ds us h2⟩
theorem Dm.D1{c c':Ctx}{w w':World}(h:Jr c w c' w'):∀(l:List (List DV)) (rs:List (List Value)),Dm c w l rs->Dm c' w' l rs
 | [],vs,hv=>by simp only[Dm] at hv ⊢; exact hv
 | d::ds,vs,hv=>by simp only[Dm] at hv ⊢;obtain⟨u,us,e,h1,h2⟩:=hv;exact⟨u,us,e,BJ.D1 h d u h1,Dm.D1 h ds us h2⟩
end
structure Ig(c c':Ctx):Prop where
 ok:∀b,c.ok b->c'.ok b
 fr:c.fr=wh
 own:∀i,c.own i=wN
 at_:∀n,c.at_ n=wN
theorem Ig.bare{c c':Ctx}(h:Ig c c'):Ig c.bare c'.bare:=⟨h.ok,rfl,fun _=>rfl,fun _=>rfl⟩
theorem Ig.VV(c:Ctx):Ig c.bare c:=⟨fun _ h=>h,rfl,fun _=>rfl,fun _=>rfl⟩
theorem P0{w:World}{base base':Nat}{e:TypeId}{size n:Nat}{v:Value}{xs:List Value}(h:w.ownsRow base e size v n xs)(hb:v.ownBlock=wN):w.ownsRow base' e size v n xs:=by
 obtain⟨h1,h2⟩:=h;refine⟨h1,?_⟩;rcases h2 with h2 | ⟨g,cap,cur,hv,_⟩
 ·exact Or.inl h2
 ·rw[hv] at hb; cases hb
mutual
theorem By.EP{c c':Ctx}{w:World}(h:Ig c c'):∀(d:DV) (v:Value),By c w d v->By c' w d v
 | .undef,_,_=>by simp[By]
 | .nil,v,hv=>by simp only[By] at hv ⊢; exact hv
 | .bool b,v,hv=>by simp only[By] at hv ⊢; exact hv
 | .int k n,v,hv=>by simp only[By] at hv ⊢; exact hv
 | .fl n,v,hv=>by simp only[By] at hv ⊢; exact hv
 | .nb n,v,hv=>by simp only[By] at hv ⊢; exact hv
 | .agg l,v,hv=>by simp only[By] at hv ⊢;obtain⟨vs,e,hl⟩:=hv;exact⟨vs,e,BJ.EP h l _ hl⟩
 | .CJ l,v,hv=>by simp only[By] at hv ⊢;obtain⟨vs,e,hl⟩:=hv;exact⟨vs,e,BJ.EP h l _ hl⟩
 | .Bj (.own i e) k l,v,hv=>by
   simp only[By] at hv ⊢;obtain⟨hr,ho⟩:=hv
   have hn:v.ownBlock=wN:=by
    cases hvb:v.ownBlock with
    | none=>rfl
    | some b=>have:=ho b hvb; rw[h.own] at this; cases this
   exact⟨P0 hr hn,fun b hb=>by rw[hn] at hb; cases hb⟩
 | .Bj .arg k l,v,hv=>by
   simp only[By] at hv ⊢;obtain⟨a,cap,e,hc,hl⟩:=hv;refine⟨a,cap,e,hc,hl.imp id ?_⟩
   rintro ⟨b,o,ha,hb,hr⟩
   exact⟨b,o,ha,h.ok _ hb,hr⟩
 | .Bj .BE k l,v,hv=>by
   simp only[By] at hv ⊢;obtain⟨a,cap,e,hc,hl⟩:=hv;refine⟨a,cap,e,hc,hl.imp id ?_⟩
   rintro ⟨b,o,ha,hb,hr⟩
   have:=hb.2.1; rw[h.fr] at this; cases this
 | .CO (.own i e) sz l,v,hv=>by
   simp only[By] at hv ⊢;obtain⟨rows,hrr,hsz,hr,ho⟩:=hv
   have hn:v.ownBlock=wN:=by
    cases hvb:v.ownBlock with
    | none=>rfl
    | some b=>have:=ho b hvb; rw[h.own] at this; cases this
   exact⟨rows,Dm.EP h.bare l rows hrr,hsz,P0 hr hn,fun b hb=>by rw[hn] at hb; cases hb⟩
 | .CO .arg sz l,v,hv=>by
   simp only[By] at hv ⊢;obtain⟨a,cap,e,hc,hl⟩:=hv;refine⟨a,cap,e,hc,hl.imp id ?_⟩
   rintro ⟨b,o,rows,ha,hb,hrr,hsz,hr⟩
   exact⟨b,o,rows,ha,h.ok _ hb,Dm.EP h.bare l rows hrr,hsz,hr⟩
 | .CO .BE sz l,v,hv=>by
   simp only[By] at hv ⊢;obtain⟨a,cap,e,hc,hl⟩:=hv;refine⟨a,cap,e,hc,hl.imp id ?_⟩
   rintro ⟨b,o,rows,ha,hb,hrr,hsz,hr⟩
   have:=hb.2.1; rw[h.fr] at this; cases this
 | .Dh n,v,hv=>by simp only[By] at hv;obtain⟨_,p,hp,hd⟩:=hv;rw[h.at_] at hp; cases hp
 | .J9 n off len,v,hv=>by simp only[By] at hv;obtain⟨_,p,hp,hd⟩:=hv;rw[h.at_] at hp; cases hp
 | .ptr n i j,v,hv=>by simp only[By] at hv;obtain⟨_,p,hp,hd⟩:=hv;rw[h.at_] at hp; cases hp
 | .CL cs,v,hv=>by simp only[By] at hv ⊢;obtain⟨b,o,vs,e,hb,hl,hr⟩:=hv;exact⟨b,o,vs,e,h.ok _ hb,BJ.EP h.bare cs vs hl,hr⟩
 | .fn f fs cs,v,hv=>by simp only[By] at hv ⊢;obtain⟨fs',cs',e,h1,h2⟩:=hv;exact⟨fs',cs',e,BJ.EP h fs _ h1,BJ.EP h cs _ h2⟩
 | .gd g d,v,hv=>by simp only[By] at hv ⊢;exact⟨fun hg=>By.EP h d v (hv.1 hg),hv.2⟩
theorem BJ.EP{c c':Ctx}{w:World}(h:Ig c c'):∀(l:List DV) (vs:List Value),BJ c w l vs->BJ c' w l vs
 | [],vs,hv=>by simp only[BJ] at hv ⊢; exact hv
 | d::ds,vs,hv=>by simp only[BJ] at hv ⊢;obtain⟨u,us,e,h1,h2⟩:=hv;exact⟨u,us,e,By.EP h d u h1,BJ.EP h ds us h2⟩
theorem Dm.EP{c c':Ctx}{w:World}(h:Ig c c'):∀(l:List (List DV)) (rs:List (List Value)),Dm c w l rs->Dm c' w l rs
 | [],vs,hv=>by simp only[Dm] at hv ⊢; exact hv
 | d::ds,vs,hv=>by simp only[Dm] at hv ⊢;obtain⟨u,us,e,h1,h2⟩:=hv;exact⟨u,us,e,BJ.EP h d u h1,Dm.EP h ds us h2⟩
end
inductive TK where
 | bool | int (k:IntKind) | fl | ptr | slice (e:TypeId) | array (n:Nat) (e:TypeId) | struct (fs:List (Nat × TypeId)) | func | other
structure TI where
 size:Nat
 bytes:Nat
 kind:TK
 zero:List DV
def TI.agg(t:TI):Bool:=match t.kind with | .array .. | .struct _=>wc | _=>wh
inductive OB where
 | box (cs:List DV)
 | Bj (e:TypeId) (k:IntKind) (l:Bf)
 | CO (e:TypeId) (sz:Nat) (l:List (List DV))
 | dead
abbrev D6:=List (Nat × Bool × OB)
def look:D6->Nat->Option (Bool × OB)
 | [],_=>wN
 | (m,x)::h,n=>bif m==n then wM x else look h n
def Ul:D6->Nat->(Bool × OB)->D6
 | [],_,_=>[]
 | (m,x)::h,n,y=>bif m==n then (m,y)::h else (m,x)::Ul h n y
structure Ew where
 pre:List DV->Bool
 out:List DV->DV
inductive Ext where
 | bits | Lz | sqrt | Agi | Xe
inductive CK where
 | i (k:IntKind) | s (k:IntKind) | b | any
structure BK where
 Da:List Nat
 Cg:List (Nat × Nat × Nat × OB)
 Cv:List Nat
structure Writer where
 elem:TypeId
 kind:IntKind
 pre:Bf->List DV->Bool
 out:Bf->List DV->Bf
structure Env where
 ty:TypeId->Option TI
 GN:FuncId->Option Ew
 ext:FuncId->Option Ext
 eqs:TypeId->Bool
 I2:Nat->Bool
 live:Nat->Option (List Nat)
 hint:Nat->Option BK
 Lg:FuncId->Option TypeId:=fun _=>wN
 adv:TypeId->List CK:=fun _=>[]
 wr:FuncId->Option Writer:=fun _=>wN
 np:Nat:=0
def GK:Nat:=17592186044416
def Afi:Nat:=1099511627776
def Km(b:Nat):Nat:=bif Nat.ble b 8 then GK else Afi
theorem Tf{b n:Nat}(h:n<=Km b):n<=17592186044416:=by unfold Km GK Afi at h;cases hb:Nat.ble b 8<;>rw[hb] at h<;>simp at h<;>omega
theorem Rj{b n:Nat}(h:n<=Km b)(hb:b<=128):n*b<=140737488355328:=by
 unfold Km GK Afi at h;cases h8:Nat.ble b 8 with
 | true =>rw[h8] at h; simp at h;have:b<=8:=Nat.le_of_ble_eq_true h8;have:=AE h this;omega
 | false =>rw[h8] at h; simp at h;have:=AE h hb;omega
structure R where
 NK:Bool
 v:DV
 Cg:List OB:=[]
 Gy:List Nat:=[]
def cells:DV->List DV
 | .agg cs=>cs
 | d=>[d]
def shaped(ti:TI)(cs:List DV):Option DV :=bif ti.agg then (bif decide (ti.size<=cs.length) then wM (.agg (cs.take ti.size)) else wN) else (match cs with | c::_=>wM c | []=>wN)
def O1:DV->Bool
 | .undef | .agg _ | .CJ _ | .gd ..=>wh
 | _=>wc
def KS:DV->Bool
 | .agg _=>wc
 | d=>O1 d
def Ga(g:Bool):DV->DV × Bool
 | .gd c d=>(d,!g||c)
 | d=>(d,wc)
def scalar:DV->Bool
 | .bool _ | .int ..=>wc
 | _=>wh
def Yp:DV->DV->Bool
 | .bool a,.bool b=>a==b
 | .int _ a,.int _ b=>a==b
 | _,_=>wh
def sameShape:List DV->List DV->Bool
 | [],[]=>wc
 | .bool _::l,.bool _::m=>sameShape l m
 | .int k _::l,.int k' _::m=>decide (k=k')&&sameShape l m
 | _,_=>wh
def Yq:List DV->List DV->Bool
 | a::as,b::bs=>Yp a b&&Yq as bs
 | _,_=>wc
def nanBits:Nat:=0x7ff8000000000000
def BH(x y:Int):Bool:=
 match x,y with
 | .ofNat a,.ofNat b=>yF a b
 | .ofNat _,.negSucc _=>wh
 | .negSucc _,.ofNat _=>wc
 | .negSucc a,.negSucc b=>yF b a
def DT(x y:Int):Bool:=
 match x,y with
 | .ofNat a,.ofNat b=>Nat.ble a b
 | .ofNat _,.negSucc _=>wh
 | .negSucc _,.ofNat _=>wc
 | .negSucc a,.negSucc b=>Nat.ble b a
theorem B8(x y:Int):BH x y=decide (x<y):=by rw[Ar];unfold BH;cases x<;>cases y<;>simp[Nat.blt_eq]<;>omega
theorem Ei(x y:Int):DT x y=decide (x<=y):=by rw[Ar];unfold DT;cases x<;>cases y<;>simp[Nat.ble_eq]<;>omega
def Ma(op:BinOp)(k:IntKind)(x y:Int):Option R:=
 match op with
 | .add=>wM ⟨wc,.int k (k.wrap (x+y)),[],[]⟩
 | .sub=>wM ⟨wc,.int k (k.wrap (x-y)),[],[]⟩
 | .mul=>wM ⟨wc,.int k (k.wrap (x*y)),[],[]⟩
 | .quo=>wM ⟨y !=0,.int k (k.wrap (x.tdiv y)),[],[]⟩
 | .rem=>wM ⟨y !=0,.int k (x.tmod y),[],[]⟩
 | .and=>wM ⟨wc,.int k (k.wrap (zn k.bits x &&& zn k.bits y).toNat),[],[]⟩
 | .or=>wM ⟨wc,.int k (k.wrap (zn k.bits x ||| zn k.bits y).toNat),[],[]⟩
 | .xor=>wM ⟨wc,.int k (k.wrap (zn k.bits x ^^^ zn k.bits y).toNat),[],[]⟩
 | .andNot=>wM ⟨wc,.int k (k.wrap (zn k.bits x &&& ~~~(zn k.bits y)).toNat),[],[]⟩
 | .eql=>wM ⟨wc,.bool (x==y),[],[]⟩
 | .neq=>wM ⟨wc,.bool (x !=y),[],[]⟩
 | .lss=>wM ⟨wc,.bool (BH x y),[],[]⟩
 | .leq=>wM ⟨wc,.bool (DT x y),[],[]⟩
 | .gtr=>wM ⟨wc,.bool (BH y x),[],[]⟩
 | .geq=>wM ⟨wc,.bool (DT y x),[],[]⟩
 | _=>wN
def Yj(r:Option Nat):DV:=.fl (r.getD nanBits)
def PV(op:BinOp)(x y:Nat):Option R:=
 match op with
 | .add=>wM ⟨wc,Yj (Ieee.double.add x y),[],[]⟩
 | .sub=>wM ⟨wc,Yj (Ieee.double.sub x y),[],[]⟩
 | .mul=>wM ⟨wc,Yj (Ieee.double.mul x y),[],[]⟩
 | .quo=>wM ⟨wc,Yj (Ieee.double.div x y),[],[]⟩
 | .eql=>wM ⟨wc,.bool (Ieee.double.order x y==wM .eq),[],[]⟩
 | .neq=>wM ⟨wc,.bool (Ieee.double.order x y !=wM .eq),[],[]⟩
 | .lss=>wM ⟨wc,.bool (Ieee.double.order x y==wM .lt),[],[]⟩
 | .leq=>wM ⟨wc,.bool (Ieee.double.order x y==wM .lt||Ieee.double.order x y==wM .eq),[],[]⟩
 | .gtr=>wM ⟨wc,.bool (Ieee.double.order x y==wM .gt),[],[]⟩
 | .geq=>wM ⟨wc,.bool (Ieee.double.order x y==wM .gt||Ieee.double.order x y==wM .eq),[],[]⟩
 | _=>wN
def Aif(E:Env)(op:BinOp)(t:TypeId)(a b:DV):Option R:=
 match a,b with
 | .int k x,.int k' y =>
   match op with
   | .shl=>wM ⟨decide (0<=y),.int k (k.wrap (x*2^(min y.toNat k.bits))),[],[]⟩
   | .shr=>wM ⟨decide (0<=y),.int k (x.fdiv (2^(min y.toNat k.bits))),[],[]⟩
   | _=>bif decide (k=k') then Ma op k x y else wN
 | .fl x,.fl y=>PV op x y
 | .nb x,.int k y=>match op with
   | .andNot=>bif decide (k=.u64)&&decide (y=9223372036854775808) then wM ⟨wc,.nb (x%9223372036854775808),[],[]⟩ else wN
   | _=>wN
 | .bool x,.bool y=>match E.ty t with
   | some ⟨_,_,.bool,_⟩ =>
     match op with
     | .eql=>wM ⟨wc,.bool (x==y),[],[]⟩
     | .neq=>wM ⟨wc,.bool (!(x==y)),[],[]⟩
     | _=>wN
   | _=>wN
 | .agg x,.agg y =>
   bif E.eqs t&&(match E.ty t with | some ti=>sameShape ti.zero x&&sameShape ti.zero y | none=>wh) then
   match op with
   | .eql=>wM ⟨wc,.bool (Yq x y),[],[]⟩
   | .neq=>wM ⟨wc,.bool (!(Yq x y)),[],[]⟩
   | _=>wN
   else wN
 | _,_=>wN
def unD(op:UnOp)(a:DV):Option R:=
 match op,a with
 | .not,.bool b=>wM ⟨wc,.bool (!b),[],[]⟩
 | .neg,.int k x=>wM ⟨wc,.int k (k.wrap (0-x)),[],[]⟩
 | .xor,.int k x=>wM ⟨wc,.int k (k.wrap (zn k.bits (if k.signed then -1 else k.max) ^^^ zn k.bits x).toNat),[],[]⟩
 | _,_=>wN
def Abz(E:Env)(dst:TypeId)(src:TypeId)(a:DV):Option R:=
 match E.ty dst,E.ty src,a with
 | some ⟨_,_,.int k,_⟩,some ⟨_,_,.int _,_⟩,.int _ n=>wM ⟨wc,.int k (k.wrap n),[],[]⟩
 | some ⟨_,_,.fl,_⟩,some ⟨_,_,.int _,_⟩,.int _ n=>wM ⟨wc,.fl (Ieee.double.write (.number (decide (n<0)) n.natAbs 0)),[],[]⟩
 | some ⟨_,_,.fl,_⟩,some ⟨_,_,.fl,_⟩,.fl n=>wM ⟨wc,.fl n,[],[]⟩
 | _,_,_=>wN
def UN(h:D6)(ti:TI)(a:DV):Option R:=
 match a with
 | .CL cs=>(shaped ti cs).map fun v=>⟨wc,v,[],[]⟩
 | .ptr n i j =>
   match look h n with
   | some (_,.box cs)=>bif i==0&&decide (j<cs.length) then (shaped ti (cs.drop j)).map fun v=>⟨wc,v,[],[]⟩ else wN
   | some (_,.Bj _ k l)=>bif j==0&&!ti.agg then wM ⟨decide (i<l.length),.int k (l.getD i 0),[],[]⟩ else wN
   | some (_,.CO _ sz l) =>
     bif ti.agg then (cond (decide (j+ti.size<=sz)) (wM ⟨decide (i<l.length),.agg (((l.getD i []).drop j).take ti.size),[],[]⟩) wN)
     else (cond (decide (j<sz)) (wM ⟨decide (i<l.length),(l.getD i []).getD j .undef,[],[]⟩) wN)
   | _=>wN
 | _=>wN
def KY(h:D6)(n:Nat):Bool:=
 match look h n with
 | wM (_,.dead) | none=>wh
 | _=>wc
def LR(E:Env)(h:D6)(t:TypeId)(f:Nat)(a:DV):Option R:=
 match E.ty t with
 | some ⟨_,_,.struct fs,_⟩ =>
   match fs[f]? with
   | some (off,ft)=>(E.ty ft).bind fun fi =>
     bif decide (0<fi.size) then
     match a with
     | .ptr n i j=>bif KY h n then wM ⟨wc,.ptr n i (j+off),[],[]⟩ else wN
     | .CL cs=>wM ⟨wc,.CL (cs.drop off),[],[]⟩
     | _=>wN
     else wN
   | none=>wN
 | _=>wN
def UG(ti:TI)(cs:List DV)(off:Nat):Option DV:=
 bif ti.agg then (cond (decide (off+ti.size<=cs.length)) (wM (.agg ((cs.drop off).take ti.size))) wN)
 else (cond (decide (off<cs.length)) (wM (cs.getD off .undef)) wN)
def Wr(E:Env)(t:TypeId)(f:Nat)(a:DV):Option R:=
 match E.ty t with
 | some ⟨_,_,.struct fs,_⟩ =>
   match fs[f]?,a with
   | some (off,ft),.agg cs=>(E.ty ft).bind fun ti=>(UG ti cs off).map fun v=>⟨wc,v,[],[]⟩
   | _,_=>wN
 | _=>wN
def Ah9(h:D6):DV->Option Int
 | .nil=>wM 0
 | .Bj (.own _ _) _ _=>wN
 | .CO (.own _ _) _ _=>wN
 | .Bj _ _ l=>wM l.length
 | .CO _ _ l=>wM l.length
 | .Dh n=>match look h n with
   | some (_,.Bj _ _ l)=>wM l.length
   | some (_,.CO _ _ l)=>wM l.length
   | _=>wN
 | .J9 n _ len=>bif KY h n then wM len else wN
 | _=>wN
def rowOf(sz:Nat)(row:List DV):List DV:=(zg sz).map fun j=>row.getD j .undef
theorem Zf{sz:Nat}{row:List DV}(h:row.length=sz):rowOf sz row=row:=by
 unfold rowOf;refine List.ext_getElem? fun j=>?_
 rw[Ba];by_cases hj:j<sz
 ·rw[List.getElem?_range hj,As (by omega)];simp[Al,As (show j<row.length by omega)]
 ·rw[Bb (by rw[AL]; omega),Bb (by omega)]; rfl
def LP(E:Env)(h:D6)(t:TypeId)(a:DV)(i:Int):Option R:=
 match E.ty t with
 | some ⟨_,_,.slice e,_⟩=>(E.ty e).bind fun ei =>
   match a with
   | .Bj (.own _ _) _ _=>wN
   | .Bj _ k l=>bif ei.size==1 then wM ⟨decide (0<=i)&&decide (i<l.length),.CL [.int k (l.getD i.toNat 0)],[],[]⟩ else wN
   | .CO (.own _ _) _ _=>wN
   | .CO _ sz l=>bif ei.size==sz then wM ⟨decide (0<=i)&&decide (i<l.length),.CL (rowOf sz (l.getD i.toNat [])),[],[]⟩ else wN
   | .Dh n=>match look h n with
     | some (_,.Bj _ _ l)=>bif ei.size==1 then wM ⟨decide (0<=i)&&decide (i<l.length),.ptr n i.toNat 0,[],[]⟩ else wN
     | some (_,.CO _ sz l)=>bif ei.size==sz then wM ⟨decide (0<=i)&&decide (i<l.length),.ptr n i.toNat 0,[],[]⟩ else wN
     | _=>wN
   | .J9 n off len=>match look h n with
     | some (_,.Bj _ _ _)=>bif ei.size==1 then wM ⟨decide (0<=i)&&decide (i<len),.ptr n (off+i.toNat) 0,[],[]⟩ else wN
     | some (_,.CO _ sz _)=>bif ei.size==sz then wM ⟨decide (0<=i)&&decide (i<len),.ptr n (off+i.toNat) 0,[],[]⟩ else wN
     | _=>wN
   | _=>wN
 | some ⟨_,_,.array len e,_⟩ =>
   (E.ty e).bind fun ei =>
   match a with
   | .ptr n 0 j=>bif decide (1<len)&&KY h n then wM ⟨decide (0<=i)&&decide (i<len),.ptr n 0 (j+i.toNat*ei.size),[],[]⟩ else wN
   | .CL cs=>bif decide (1<len) then wM ⟨decide (0<=i)&&decide (i<len),.CL (cs.drop (i.toNat*ei.size)),[],[]⟩ else wN
   | _=>wN
 | _=>wN
def Wl(E:Env)(t:TypeId)(a:DV)(i:Int):Option R:=
 match E.ty t with
 | some ⟨_,_,.array len e,_⟩ =>
   match a with
   | .agg cs=>(E.ty e).bind fun ei =>
     bif decide (len*ei.size<=cs.length)&&decide (0<ei.size) then
      wM ⟨decide (0<=i)&&decide (i<len),cond ei.agg (.agg ((cs.drop (i.toNat*ei.size)).take ei.size)) (cs.getD (i.toNat*ei.size) .undef),[],[]⟩
     else wN
   | _=>wN
 | _=>wN
def Pk{α:Type}(lo hi:Option Int)(l:List α):List α:=
 match lo,hi with
 | none,none=>l
 | some x,none=>l.drop x.toNat
 | none,some y=>l.take y.toNat
 | some x,some y=>(l.take y.toNat).drop x.toNat
def okB(lo hi mx:Option Int)(len:Nat):Bool:=
 (match lo with | some x=>decide (0<=x)&&decide (x<=hi.getD len) | none=>wc) &&
 (match hi with | some x=>decide (0<=x)&&decide (x<=mx.getD len) | none=>wc) &&
 (match mx with | some x=>decide (0<=x)&&decide (x<=len)&&hi.isSome | none=>wc)
def VC(E:Env)(h:D6)(t:TypeId)(a:DV)(lo:Option Int)(hi:Option Int)(mx:Option Int):Option R:=
 match E.ty t with
 | some ⟨_,_,.slice e,_⟩=>(E.ty e).bind fun ei =>
   match a with
   | .nil=>bif lo.isNone&&hi.isNone&&mx.isNone then wM ⟨wc,.nil,[],[]⟩ else wN
   | .Bj (.own _ _) _ _=>wN
   | .Bj g k l=>bif ei.size==1 then wM ⟨okB lo hi mx l.length,.Bj g k (Pk lo hi l),[],[]⟩ else wN
   | .CO (.own _ _) _ _=>wN
   | .CO g sz l=>bif ei.size==sz then wM ⟨okB lo hi mx l.length,.CO g sz (Pk lo hi l),[],[]⟩ else wN
   | .Dh n=>match look h n with
     | some (_,.Bj _ _ l)=>bif ei.size==1 then wM ⟨okB lo hi mx l.length,.J9 n (lo.getD 0).toNat ((hi.getD l.length)-(lo.getD 0)).toNat,[],[]⟩ else wN
     | some (_,.CO _ sz l)=>bif ei.size==sz then wM ⟨okB lo hi mx l.length,.J9 n (lo.getD 0).toNat ((hi.getD l.length)-(lo.getD 0)).toNat,[],[]⟩ else wN
     | _=>wN
   | .J9 n off len=>match look h n with
     | some (_,.Bj _ _ _)=>bif ei.size==1 then wM ⟨okB lo hi mx len,.J9 n (off+(lo.getD 0).toNat) ((hi.getD len)-(lo.getD 0)).toNat,[],[]⟩ else wN
     | some (_,.CO _ sz _)=>bif ei.size==sz then wM ⟨okB lo hi mx len,.J9 n (off+(lo.getD 0).toNat) ((hi.getD len)-(lo.getD 0)).toNat,[],[]⟩ else wN
     | _=>wN
   | _=>wN
 | _=>wN
def lower(h:D6):Nat->DV->Option (DV × List Nat)
 | 0,_=>wN
 | f+1,d =>
   let all (l:List DV):Option (List DV × List Nat):=l.foldr (fun d acc=>(lower h f d).bind fun(x,ns)=>acc.bind fun(xs,ms)=>wM (x::xs,ns++ms)) (wM ([],[]))
   match d with
   | .undef=>wM (.undef,[])
   | .nil=>wM (.nil,[])
   | .bool b=>wM (.bool b,[])
   | .int k n=>wM (.int k n,[])
   | .fl n=>wM (.fl n,[])
   | .nb n=>wM (.nb n,[])
   | .agg l=>(all l).bind fun(l,ns)=>wM (.agg l,ns)
   | .CJ _=>wN
   | .Bj (.own _ _) _ _=>wN
   | .Bj _ k l=>wM (.Bj .arg k l,[])
   | .CO (.own _ _) _ _=>wN
   | .CO _ sz l=>wM (.CO .arg sz l,[])
   | .Dh n=>match look h n with
     | some (_,.Bj _ k l)=>wM (.Bj .arg k l,[n])
     | some (_,.CO _ sz l)=>wM (.CO .arg sz l,[n])
     | _=>wN
   | .J9 n off len=>match look h n with
     | some (_,.Bj _ k l)=>wM (.Bj .arg k ((l.drop off).take len),[n])
     | some (_,.CO _ sz l)=>wM (.CO .arg sz ((l.drop off).take len),[n])
     | _=>wN
   | .ptr n 0 j=>match look h n with
     | some (_,.box cs)=>(all (cs.drop j)).bind fun(l,ns)=>wM (.CL l,n::ns)
     | _=>wN
   | .ptr ..=>wN
   | .CL cs=>wM (.CL cs,[])
   | .fn g a c=>(all a).bind fun(a,ns)=>(all c).bind fun(c,ms)=>wM (.fn g a c,ns++ms)
   | .gd ..=>wN
def GU(h:D6)(l:List DV):Option (List DV × List Nat) :=l.foldr (fun d acc=>(lower h 8 d).bind fun(x,ns)=>acc.bind fun(xs,ms)=>wM (x::xs,ns++ms)) (wM ([],[]))
structure St where
 tmps:List DV
 heap:D6
def IS(h:D6)(k:IntKind):DV->Option (Bf)
 | .nil=>wM []
 | .Bj (.own _ _) _ _=>wN
 | .Bj _ k' l=>bif decide (k=k') then wM l else wN
 | .Dh n=>match look h n with
   | some (_,.Bj _ k' l)=>bif decide (k=k') then wM l else wN
   | _=>wN
 | .J9 n off len=>match look h n with
   | some (_,.Bj _ k' l)=>bif decide (k=k') then wM ((l.drop off).take len) else wN
   | _=>wN
 | _=>wN
def KW(h:D6)(sz:Nat):DV->Option (List (List DV))
 | .nil=>wM []
 | .CO (.own _ _) _ _=>wN
 | .CO _ sz' l=>bif sz==sz' then wM l else wN
 | .Dh n=>match look h n with
   | some (_,.CO _ sz' l)=>bif sz==sz' then wM l else wN
   | _=>wN
 | .J9 n off len=>match look h n with
   | some (_,.CO _ sz' l)=>bif sz==sz' then wM ((l.drop off).take len) else wN
   | _=>wN
 | _=>wN
def Ib(h:D6)(ns:List Nat):D6 :=ns.foldl (fun h n=>match look h n with | some (_,o)=>Ul h n (wc,o) | none=>h) h
def Fs:Nat->DV->Bool
 | 0,_=>wc
 | f+1,d=>match d with
   | .Bj .arg _ _=>wc
   | .CO ..=>wc
   | .agg l=>l.any (Fs f)
   | .CJ l=>l.any (Fs f)
   | .undef | .CL _ | .fn .. | .gd ..=>wc
   | _=>wh
def I1(g:Nat->DV->Option (DV × List (Nat × OB) × List Nat)):Nat->List DV->Option (List DV × List (Nat × OB) × List Nat)
 | _,[]=>wM ([],[],[])
 | nm,d::l=>match g nm d with
   | some (x,os,is)=>match I1 g (nm+os.length) l with
     | some (xs,os',is')=>wM (x::xs,os++os',is++is')
     | none=>wN
   | none=>wN
def EW(ad:Bool):Nat->Nat->DV->Option (DV × List (Nat × OB) × List Nat)
 | 0,_,_=>wN
 | f+1,nm,d =>
   match d with
   | .Bj (.own i e) k l=>bif ad then wM (.Dh nm,[(nm,.Bj e k l)],[i]) else wM (.Bj .BE k l,[],[])
   | .CO (.own i e) sz l=>bif ad&&decide (0<sz) then wM (.Dh nm,[(nm,.CO e sz l)],[i]) else bif ad then wN else wM (.CO .BE sz l,[],[])
   | .agg l=>match I1 (EW ad f) nm l with
     | some (l,os,is)=>wM (.agg l,os,is)
     | none=>wN
   | .CJ l=>match I1 (EW ad f) nm l with
     | some (l,os,is)=>wM (.CJ l,os,is)
     | none=>wN
   | .Dh _ | .J9 .. | .ptr .. | .gd .. | .fn ..=>wN
   | d=>wM (d,[],[])
def Jv:List Nat->Bool
 | []=>wc
 | a::l=>!(l.contains a)&&Jv l
structure R2 where
 NK:Bool
 v:DV
 Cg:List (Nat × OB)
 Gy:List Nat
def R.up(r:R):R2:=⟨r.NK,r.v,[],[]⟩
def AfM:DV->Int
 | .int _ x=>x
 | _=>0
def Tx:DV->Bf
 | .Bj _ _ l=>l
 | _=>[]
def AjF:DV->Bool
 | .bool b=>b
 | _=>wh
def isC:CK->DV->Bool
 | .i k,.int k' _=>decide (k=k')
 | .s k,.Bj .arg k' _=>decide (k=k')
 | .s _,.nil=>wc
 | .b,.bool _=>wc
 | .any,_=>wc
 | _,_=>wh
def asC:CK->DV->DV
 | .i k,d=>.int k (AfM d)
 | .s k,d=>.Bj .arg k (Tx d)
 | .b,d=>.bool (AjF d)
 | .any,d=>d
def isL:List CK->Nat->List DV->Bool
 | [],_,_=>wc
 | c::cs,i,row=>isC c (row.getD i .undef)&&isL cs (i+1) row
def asL:List CK->Nat->List DV->List DV
 | [],_,_=>[]
 | c::cs,i,row=>asC c (row.getD i .undef)::asL cs (i+1) row
def AhJ(h:D6):DV->Bool
 | .CL _=>wc
 | .ptr n _ _=>match look h n with
   | some (_,.CO ..)=>wc
   | _=>wh
 | _=>wh
def Ro(agg:Bool)(adv:List CK)(r:R):R2:=
 match adv with
 | []=>r.up
 | c::cs=>bif agg then (match r.v with
  | .agg l=>⟨r.NK&&(decide (l.length=(c::cs).length)&&isL (c::cs) 0 l),.agg (asL (c::cs) 0 l),[],[]⟩
  | _=>r.up)
   else ⟨r.NK&&isC c r.v,asC c r.v,[],[]⟩
def Ab1(E:Env)(h:D6)(nm:Nat)(ad:Bool)(g:FuncId)(args:List DV):Option R2:=
 (GU h args).bind fun(as,ns)=>(E.GN g).bind fun e =>
  (EW ad 6 nm (e.out as)).bind fun(v,os,is) =>
   bif Jv is then wM ⟨e.pre as,v,os,cond (Fs 6 (e.out as)) ns ([])⟩ else wN
def KA(x y b:Int):Int:=((x.toNat+18446744073709551616-y.toNat-b.toNat)%18446744073709551616:Nat)
def FZ(x y b:Int):Int:=(if x.toNat<y.toNat+b.toNat then 1 else 0:Nat)
def AjA(x:Ext)(args:List DV):Option R2:=
 match x,args with
 | .bits,[.fl n]=>wM ⟨wc,.nb n,[],[]⟩
 | .Agi,[.fl n]=>wM ⟨!(HF n),.int .u64 n,[],[]⟩
 | .Lz,[.int .u64 n]=>wM ⟨decide (0<=n),.fl n.toNat,[],[]⟩
 | .Lz,[.nb n]=>wM ⟨wc,.fl n,[],[]⟩
 | .sqrt,[.fl n]=>wM ⟨wc,Yj (Ieee.double.sqrt n),[],[]⟩
 | .Xe,[.int .u64 x,.int .u64 y,.int .u64 b]=>wM ⟨decide (b<=1),.CJ [.int .u64 (KA x y b),.int .u64 (FZ x y b)],[],[]⟩
 | _,_=>wN
def PS(place:Nat->Option (Nat × Nat))(cs:List DV):List (Nat × DV)->Option (List DV)
 | []=>wM cs
 | (i,v)::rest =>
   match place i with
   | none=>wN
   | some (off,size)=>bif KS v&&(cells v).length==size&&decide (off+(cells v).length<=cs.length) then
    PS place ((cells v).zipIdx.foldl (fun cs (c,j)=>cs.set (off+j) c) cs) rest else wN
def Px(E:Env):List (Nat × TypeId)->Option (List (Nat × Nat))
 | []=>wM []
 | (off,ft)::fs=>match E.ty ft with
   | some ti=>match Px E fs with
     | some l=>wM ((off,ti.size)::l)
     | none=>wN
   | none=>wN
def RO(E:Env)(t:TypeId):Option (Nat->Option (Nat × Nat)):=
 match E.ty t with
 | some ⟨_,_,.struct fs,_⟩=>match Px E fs with
   | some l=>wM fun i=>l[i]?
   | none=>wN
 | some ⟨_,_,.array _ e,_⟩=>match E.ty e with
   | some ti=>wM fun i=>wM (i*ti.size,ti.size)
   | none=>wN
 | _=>wN
def intOf:DV->Option Int
 | .int _ n=>wM n
 | _=>wN
def Ajy:List DV->Option (Bf)
 | []=>wM []
 | .int _ n::l=>(Ajy l).bind fun l=>wM (n::l)
 | _=>wN
def NV(k:IntKind):List DV->Option (Bf)
 | []=>wM []
 | .int k' n::l=>if decide (k=k') then (match NV k l with | some l=>wM (n::l) | none=>wN) else wN
 | _=>wN
def chunk(sz:Nat):Nat->List DV->List (List DV)
 | 0,_=>[]
 | n+1,l=>l.take sz::chunk sz n (l.drop sz)
def Nt(E:Env)(h:D6)(nm:Nat)(t:TypeId)(len:Nat)(parts:List (Nat × DV)):Option R2:=
 match E.ty t with
 | some ⟨_,_,.slice e,_⟩ =>
   (E.ty e).bind fun ei =>
    bif decide (len*ei.size<=4096)&&decide (0<ei.size) then
    (PS (fun i=>wM (i*ei.size,ei.size)) (zo len ei.zero).flatten parts).bind fun cs =>
     match ei.kind with
     | .int k=>bif ei.size==1 then (NV k cs).bind fun l=>wM ⟨wc,.Dh nm,[(nm,.Bj e k l)],[]⟩ else wN
     | _=>bif cs.all O1 then (GU h cs).bind fun(cs,ns)=>wM ⟨wc,.Dh nm,[(nm,.CO e ei.size (chunk ei.size len cs))],ns⟩ else wN
    else wN
 | _=>wN
def OR(E:Env)(nm:Nat)(t:TypeId)(a c:DV):Option R2:=
 match E.ty t,a,c with
 | some ⟨_,_,.slice e,_⟩,.int _ x,.int _ y =>
   (E.ty e).bind fun ei =>
    bif decide (ei.bytes<=128)&&decide (0<ei.size) then
     let NK:=decide (0<=x)&&decide (x<=y)&&decide (y<=Km ei.bytes)
     match ei.kind with
     | .int k=>match ei.zero with
       | [.int k' z]=>bif ei.size==1&&decide (k=k') then wM ⟨NK,.Dh nm,[(nm,.Bj e k (zo x.toNat z))],[]⟩ else wN
       | _=>wN
     | _=>wM ⟨NK,.Dh nm,[(nm,.CO e ei.size (zo x.toNat ei.zero))],[]⟩
    else wN
 | _,_,_=>wN
def maxD(gt:Bool):DV->DV->Option DV
 | .int k x,.int _ y=>wM (.int k (cond gt (max x y) (min x y)))
 | _,_=>wN
def Rk(gt:Bool):DV->List DV->Option DV
 | a,[]=>wM a
 | a,b::l=>(maxD gt a b).bind fun c=>Rk gt c l
def ZX:Value->DV
 | .bool b=>.bool b
 | .int k n=>.int k n
 | .float .f64 n=>.fl n
 | .slice none 0 0=>.nil
 | _=>.undef
def FL(l:List DV):Operand->DV
 | .tmp t=>l.getD t .undef
 | .const v=>ZX v
 | .global _=>.undef
 | .func f=>.fn f [] []
def LK(ρ:Operand->DV):Option Operand->Option (Option Int)
 | none=>wM wN
 | some y=>(intOf (ρ y)).bind fun i=>wM (wM i)
def Ep(E:Env)(h:D6)(nm:Nat)(ρ:Operand->DV)(op:Op):Option R2:=
 match op with
 | .move x | .assign x=>wM ⟨wc,ρ x,[],[]⟩
 | .alloc t=>(E.ty t).bind fun ti=>wM ⟨wc,.ptr nm 0 0,[(nm,.box ti.zero)],[]⟩
 | .box t x=>(E.ty t).bind fun ti=>bif KS (ρ x)&&(cells (ρ x)).length==ti.size then wM ⟨wc,.ptr nm 0 0,[(nm,.box (cells (ρ x)))],[]⟩ else wN
 | .build t parts=>(E.ty t).bind fun ti=>(RO E t).bind fun pl=>(PS pl ti.zero (parts.toList.map fun(i,x)=>(i,ρ x))).bind fun cs=>wM ⟨wc,.agg cs,[],[]⟩
 | .buildSlice t len parts=>Nt E h nm t len (parts.toList.map fun(i,x)=>(i,ρ x))
 | .load t a=>(E.ty t).bind fun ti=>(UN h ti (ρ a)).bind fun r=>wM (Ro ti.agg (cond (AhJ h (ρ a)) (E.adv t) ([])) r)
 | .nilCheck x=>match ρ x with
   | .ptr n i j=>bif KY h n then wM ⟨wc,.ptr n i j,[],[]⟩ else wN
   | .CL cs=>wM ⟨wc,.CL cs,[],[]⟩
   | .fn f a c=>wM ⟨wc,.fn f a c,[],[]⟩
   | _=>wN
 | .binOp op t x y _=>(Aif E op t (ρ x) (ρ y)).bind fun r=>wM r.up
 | .unOp op _ x=>(unD op (ρ x)).bind fun r=>wM r.up
 | .convert src dst x=>(Abz E dst src (ρ x)).bind fun r=>wM r.up
 | .makeFunc (.func f) first captured=>wM ⟨wc,.fn f (first.toList.map ρ) (captured.toList.map ρ),[],[]⟩
 | .makeSlice t l c=>OR E nm t (ρ l) (ρ c)
 | .slice t x lo hi mx =>
   (LK ρ lo).bind fun lo=>(LK ρ hi).bind fun hi=>(LK ρ mx).bind fun mx=>(VC E h t (ρ x) lo hi mx).bind fun r=>wM r.up
 | .fieldAddr t x f=>(LR E h t f (ρ x)).bind fun r=>wM r.up
 | .field t x f=>(Wr E t f (ρ x)).bind fun r=>wM r.up
 | .indexAddr t x i=>(intOf (ρ i)).bind fun i=>(LP E h t (ρ x) i).bind fun r=>wM r.up
 | .index t x i=>(intOf (ρ i)).bind fun i=>(Wl E t (ρ x) i).bind fun r=>wM r.up
 | .extract t i=>match ρ t with
   | .CJ l=>(l[i]?).bind fun d=>wM ⟨wc,d,[],[]⟩
   | _=>wN
 | .call ⟨.builtin .len,args,ts⟩=>match args.toList,ts.toList with
   | [x],[t]=>match E.ty t with
     | some ⟨_,_,.slice _,_⟩=>(Ah9 h (ρ x)).bind fun n=>wM ⟨wc,.int .i64 n,[],[]⟩
     | _=>wN
   | _,_=>wN
 | .call ⟨.builtin .max,args,_⟩=>match args.toList with
   | x::l=>(Rk wc (ρ x) (l.map ρ)).bind fun v=>wM ⟨wc,v,[],[]⟩
   | _=>wN
 | .call ⟨.builtin .min,args,_⟩=>match args.toList with
   | x::l=>(Rk wh (ρ x) (l.map ρ)).bind fun v=>wM ⟨wc,v,[],[]⟩
   | _=>wN
 | .call ⟨.value f,args,_⟩=>match ρ f with
   | .fn g first captured=>match E.ext g with
     | some x=>match first,captured with
       | [],[]=>AjA x (args.toList.map ρ)
       | _,_=>wN
     | none=>Ab1 E h (1000+8*nm) (E.I2 nm) g (first++args.toList.map ρ++captured)
   | _=>wN
 | _=>wN
def AaP(c:Bool)(a b:DV):Option (Bool × DV):=
 match (Ga c a).1,(Ga (!c) b).1 with
 | .bool x,.bool y=>wM ((Ga c a).2&&(Ga (!c) b).2,.bool (cond c x y))
 | .int k x,.int k' y=>bif decide (k=k') then wM ((Ga c a).2&&(Ga (!c) b).2,.int k (cond c x y)) else wN
 | _,_=>wN
def setCells:List DV->Nat->List DV->List DV
 | cs,_,[]=>cs
 | cs,j,v::vs=>setCells (cs.set j v) (j+1) vs
def Qn(E:Env)(h:D6)(t:TypeId)(a v:DV):Option (Bool × D6):=
 (E.ty t).bind fun ti =>
 bif KS v&&(cells v).length==ti.size&&(cells v).all O1 then
 match a with
 | .ptr n i j=>match look h n with
   | some (false,.box cs)=>bif i==0&&decide (j+ti.size<=cs.length) then wM (wc,Ul h n (wh,.box (setCells cs j (cells v)))) else wN
   | some (false,.Bj e k l)=>match v with
     | .int k' x=>bif j==0&&decide (k=k') then wM (decide (i<l.length),Ul h n (wh,.Bj e k (l.set i x))) else wN
     | _=>wN
   | some (false,.CO e sz l)=>(GU h (cells v)).bind fun(vs,ns)=>bif decide (j+ti.size<=sz)&&ns.isEmpty then
    wM (decide (i<l.length),Ul h n (wh,.CO e sz (l.set i (setCells (l.getD i []) j vs)))) else wN
   | _=>wN
 | _=>wN
 else wN
def KP(E:Env)(h:D6)(nm:Nat)(t:TypeId)(s x:DV):Option (Bool × DV × D6):=
 match E.ty t with
 | some ⟨_,_,.slice e,_⟩ =>
   (E.ty e).bind fun ei =>
   bif decide (ei.bytes<=128)&&decide (0<ei.size)&&(look h nm).isNone then
   match s with
   | .nil=>match ei.kind with
     | .int k=>bif ei.size==1 then (IS h k x).bind fun l=>wM (decide (l.length<=Km ei.bytes),.Dh nm,(nm,wh,.Bj e k l)::h) else wN
     | _=>(KW h ei.size x).bind fun l=>wM (decide (l.length<=Km ei.bytes),.Dh nm,(nm,wh,.CO e ei.size l)::h)
   | .Dh n=>match look h n with
     | some (false,.Bj e' k l')=>(IS h k x).bind fun l=>bif e==e'&&ei.size==1 then wM (decide (l'.length+l.length<=Km ei.bytes),.Dh nm,(nm,wh,.Bj e k (l'++l))::Ul h n (wh,.dead)) else wN
     | some (false,.CO e' sz l')=>(KW h sz x).bind fun l=>bif e==e'&&sz==ei.size then wM (decide (l'.length+l.length<=Km ei.bytes),.Dh nm,(nm,wh,.CO e sz (l'++l))::Ul h n (wh,.dead)) else wN
     | _=>wN
   | _=>wN
   else wN
 | _=>wN
def OC(l:List DV)(o:Option Nat)(v:DV):List DV:=
 match o with
 | some d=>l.set d v
 | none=>l
def L5(ops:Array Oper)(l:List DV)(o:Oper):Option (Option Bool):=
 match o.guard with
 | none=>wM wN
 | some (j,want)=>match (ops[j]?).bind (·.dst) with
   | some d=>match l.getD d .undef with
     | .bool b=>wM (wM (b==want))
     | .gd c (.bool b)=>wM (wM (c&&(b==want)))
     | _=>wN
   | none=>wN
def OH(g:Bool)(ρ:Operand->DV)(xs:List Operand):Bool:=xs.all fun x=>(Ga g (ρ x)).2
def Mr(l x:Bf):Bf:=x.take l.length++l.drop x.length
def KD(E:Env)(h:D6)(ρ:Operand->DV)(g?:Option Bool):Op->Option (Nat × Bool × DV × OB)
 | .call ⟨.value f,args,_⟩=>match g?,ρ f,args.toList with
   | none,.fn g [] [],x::xs=>match E.wr g with
     | some W=>(match ρ x with
       | .Dh n=>match look h n with
         | some (false,.Bj e k l)=>(GU h (xs.map ρ)).bind fun(ds,ns)=>bif e==W.elem&&decide (k=W.kind)&&!(ns.contains n) then wM (n,W.pre l ds,.undef,.Bj e k (W.out l ds)) else wN
         | _=>wN
       | _=>wN)
     | none=>match E.Lg g,ρ x,xs with
       | some e,.agg [.int .i64 _,.int .i64 _,.Dh n],[]=>(match look h n with
         | some (false,.Bj e' .u64 _)=>bif e==e' then wM (n,wc,.undef,.dead) else wN
         | _=>wN)
       | _,_,_=>wN
   | _,_,_=>wN
 | .call ⟨.builtin .copy,args,ts⟩=>match g?,args.toList,ts.toList with
   | none,[x,y],[t,_]=>match ρ x,E.ty t with
     | .Dh n,some ⟨_,_,.slice e,_⟩=>(match look h n,E.ty e with
       | some (false,.Bj e' k l),some ei=>(IS h k (ρ y)).bind fun z=>bif e==e'&&ei.size==1 then wM (n,wc,.int .i64 (min z.length l.length:Nat),.Bj e' k (Mr l z)) else wN
       | _,_=>wN)
     | _,_=>wN
   | _,_,_=>wN
 | _=>wN
def Js(E:Env)(ops:Array Oper)(draw:Bool)(st:St)(o:Oper):Option (Bool × St):=
 (L5 ops st.tmps o).bind fun g? =>
 let g:=g?.getD wc
 let nm:=o.dst.getD 0
 let ρ:=FL st.tmps
 let wrap (v:DV):DV:=match g? with | some c=>.gd c v | none=>v
 match o.op with
 | .pick c a b =>
   (match (Ga g (ρ c)).1 with
   | .bool c'=>(AaP c' (ρ a) (ρ b)).bind fun(r,v)=>wM (!g||((Ga g (ρ c)).2&&r),{ st with tmps:=OC st.tmps o.dst (wrap v) })
   | _=>wN)
 | .store t a x=>match g? with
   | none=>(Qn E st.heap t (ρ a) (ρ x)).bind fun(r,h)=>wM (r,{ tmps:=OC st.tmps o.dst .undef,heap:=h })
   | some _=>wN
 | .call ⟨.builtin .append,args,ts⟩=>match g?,args.toList,ts.toList with
   | none,[s,x],[t,t']=>bif t==t'&&o.dst.isSome then (KP E st.heap nm t (ρ s) (ρ x)).bind fun(r,v,h)=>wM (r,{ tmps:=OC st.tmps o.dst v,heap:=h }) else wN
   | _,_,_=>wN
 | op=>match bif draw then wN else KD E st.heap ρ g? op with
  | some (n,r,v,ob)=>wM (r,{ tmps:=OC st.tmps o.dst v,heap:=Ul st.heap n (wh,ob) })
  | none =>
   (Ep E st.heap nm (fun x=>(Ga g (ρ x)).1) op).bind fun r =>
    bif (r.Cg.all fun(n,_)=>(look st.heap n).isNone)&&Jv (r.Cg.map (·.1))&&(r.Cg.isEmpty||o.dst.isSome)&&(r.Gy.isEmpty||r.Gy.all fun n=>(look st.heap n).isSome) then
     wM (cond r.Gy.isEmpty (!g||(OH g ρ op.operands.toList&&r.NK)) (g&&(OH g ρ op.operands.toList&&r.NK)),
      { tmps:=OC st.tmps o.dst (wrap r.v),heap:=(r.Cg.map fun(n,ob)=>(n,wh,ob))++Ib st.heap r.Gy })
    else wN
def Ajg(E:Env)(o:Oper):Bool:=match o.dst with
 | some t=>yF t E.np
 | none=>wh
def QZ(E:Env)(ops:Array Oper)(draw:Bool)(st:St)(o:Oper):Option (Bool × St):=bif Ajg E o then wN else Js E ops draw st o
def Ahs{β:Type}(E:Env)(ops:Array Oper)(draw:Bool):List Oper->St->(St->Option β)->Option β
 | [],st,K=>K st
 | o::os,st,K=>match QZ E ops draw st o with
   | some (r,st')=>bif r then Ahs E ops draw os st' K else wN
   | none=>wN
def forget(Da:Option (List Nat))(st:St):St:=
 match Da with
 | none=>st
 | some ks=>{ st with tmps:=st.tmps.zipIdx.map fun(d,i)=>cond (ks.contains i) d .undef }
def Jx(n:Nat):List Nat->Bool
 | []=>wh
 | m::l=>bif zf n m then wc else Jx n l
def GW(o:Oper):List Nat:=o.after.toList.filterMap fun e=>bif Region.binds .any e then wM e.on else wN
def R5(D:List (List Nat))(i j:Nat):Bool:=Jx i (D.getD j [])||(D.getD j []).any fun m=>Jx i (D.getD m [])
def Kv(D:List (List Nat))(i j:Nat):Bool:=!(zf i j)&&(!(R5 D i j)&&!(R5 D j i))
def XJ(ms:List Nat)(h:D6):D6:=h.filter fun x=>!(Jx x.1 ms)
def AhE(ms:List Nat)(h:D6):D6:=h.filter fun x=>Jx x.1 ms
def AeX:DV->List Nat
 | .ptr n _ _=>[n]
 | _=>[]
def Wa:DV->List Nat
 | .Dh n=>[n]
 | _=>[]
def Alo(st:St)(o:Oper):List Nat:=
 match o.op with
 | .store _ a _=>AeX (FL st.tmps a)
 | .call ⟨.builtin .append,args,_⟩=>match args.toList with
   | [s,_]=>Wa (FL st.tmps s)
   | _=>[]
 | _=>[]
def Ox:Op->Bool
 | .store ..=>wc
 | .call ⟨.builtin .append,_,_⟩=>wc
 | _=>wh
def Fl(E:Env)(ops:Array Oper)(st:St)(o:Oper):List Nat:=
 bif Ox o.op then Alo st o else match L5 ops st.tmps o with
 | none=>[]
 | some g?=>match Ep E st.heap (o.dst.getD 0) (fun x=>(Ga (g?.getD wc) (FL st.tmps x)).1) o.op with
   | some r=>r.Gy
   | none=>[]
def XI:Op->Bool
 | .store ..=>wc
 | .buildSlice ..=>wc
 | .call ⟨.builtin .append,_,_⟩=>wc
 | .call ⟨.value _,_,_⟩=>wc
 | _=>wh
def KV(ms:List Nat)(st:St):St:=
 match ms with
 | []=>st
 | n::ms=>⟨st.tmps,XJ (n::ms) st.heap⟩
def Xh(E:Env)(ops:Array Oper)(ms:List Nat)(st:St)(o:Oper):Option (Bool × St):=
 match ms with
 | []=>QZ E ops wc st o
 | n::ms=>match QZ E ops wc ⟨st.tmps,XJ (n::ms) st.heap⟩ o with
   | some (r,st')=>bif st'.heap.all fun x=>!(Jx x.1 (n::ms)) then wM (r,⟨st'.tmps,st'.heap++AhE (n::ms) st.heap⟩) else wN
   | none=>wN
def Gr(D:List (List Nat))(k:Nat):List (Nat × List Nat)->List Nat
 | []=>[]
 | (s,ns)::M=>bif Kv D s k then ns++Gr D k M else Gr D k M
def JH(k:Nat):List (Nat × List Nat)->List Nat
 | []=>[]
 | (s,ns)::M=>bif zf s k then ns++JH k M else JH k M
def Nb(D:List (List Nat))(k:Nat):Bool:=(zg D.length).any fun j=>Kv D k j
def AaQ{β:Type}(E:Env)(ops:Array Oper)(D:List (List Nat))(M:List (Nat × List Nat)):Nat->List Oper->St->(St->Option β)->Option β
 | _,[],st,K=>K st
 | k,o::os,st,K=>match Xh E ops (Gr D k M) st o with
   | some (r,st')=>bif r&&(!(Nb D k)||(Fl E ops (KV (Gr D k M) st) o).all fun n=>Jx n (JH k M)) then AaQ E ops D M (k+1) os st' K else wN
   | none=>wN
def Wm(E:Env)(ops:Array Oper):Nat->List Oper->St->List (Nat × List Nat)
 | _,[],_=>[]
 | k,o::os,st=>match QZ E ops wc st o with
   | some (_,st')=>bif XI o.op then (k,Fl E ops st o)::Wm E ops (k+1) os st' else Wm E ops (k+1) os st'
   | none=>[]
def Wx(ops:Array Oper)(D:List (List Nat)):Bool:=
 (zg D.length).all fun k =>
  (D.getD k []).all (fun i=>yF i k) &&
  match ops[k]? with
  | none=>wh
  | some o=>(zg D.length).all fun j=>match ops[j]? with
    | none=>wh
    | some p=>match p.dst with
      | none=>wc
      | some t=>(zf j k||!(o.dst==wM t))&&(!(Jx t (o.looksAt ops))||(R5 D j k||R5 D k j))
def ZD(ops:Array Oper)(D:List (List Nat)):Nat->List Oper->Bool
 | _,[]=>wh
 | k,o::os=>(XI o.op&&Nb D k)||ZD ops D (k+1) os
def AfP{β:Type}(E:Env)(ops:Array Oper)(st:St)(K:St->Option β):Option β:=
 bif Wx ops (ops.toList.map GW) then
  AaQ E ops (ops.toList.map GW) (cond (ZD ops (ops.toList.map GW) 0 ops.toList) (Wm E ops 0 ops.toList st) ([])) 0 ops.toList st K
 else wN
def E7:Nat->List Nat->DV->Bool
 | 0,_,_=>wh
 | f+1,ns,d=>match d with
   | .Dh n | .J9 n _ _ | .ptr n _ _=>ns.contains n
   | .agg l | .CJ l=>l.all (E7 f ns)
   | .fn _ a c=>a.all (E7 f ns)&&c.all (E7 f ns)
   | .gd _ d=>E7 f ns d
   | _=>wc
def Pl(st:St):Nat × Nat × Nat × OB->DV
 | (0,s,_,_)=>st.tmps.getD s .undef
 | (b+1,j,_,_)=>match look st.heap b with
   | some (_,.box cs)=>cs.getD j .undef
   | _=>.undef
def VX(st:St)(x:Nat × Nat × Nat × OB):Option (Option Nat × OB):=
 match Pl st x with
 | .nil=>match x.2.2.2 with
   | .Bj e k []=>wM (wN,.Bj e k [])
   | .CO e sz []=>bif yF 0 sz then wM (wN,.CO e sz []) else wN
   | _=>wN
 | .Dh n=>match look st.heap n with
   | some (false,.Bj e k l)=>wM (wM n,.Bj e k l)
   | some (false,.CO e sz l)=>wM (wM n,.CO e sz l)
   | _=>wN
 | _=>wN
def SQ(st:St):List (Nat × Nat × Nat × OB)->Option (D6 × List Nat)
 | []=>wM ([],[])
 | x::xs=>match VX st x with
   | some (s,ob)=>match SQ st xs with
     | some (h,ns)=>wM ((x.2.2.1,wh,ob)::h,s.toList++ns)
     | none=>wN
   | none=>wN
def IJ(b j:Nat):List (Nat × Nat × Nat × OB)->Option Nat
 | []=>wN
 | (b',j',nm,_)::xs=>bif zf b b'&&zf j j' then wM nm else IJ b j xs
def OX(Cg:List (Nat × Nat × Nat × OB))(b:Nat):Nat->List DV->List DV
 | _,[]=>[]
 | j,d::l=>(match IJ b j Cg with | some nm=>.Dh nm | none=>d)::OX Cg b (j+1) l
def NM(Cg:List (Nat × Nat × Nat × OB))(Cv:List Nat)(b:Nat):Nat->List DV->Bool
 | _,[]=>wc
 | j,d::l=>((IJ b j Cg).isSome||E7 8 Cv d)&&NM Cg Cv b (j+1) l
def Sp(H:BK):Nat->List DV->List DV
 | _,[]=>[]
 | i,d::l=>(match IJ 0 i H.Cg with | some nm=>.Dh nm | none=>bif Jx i H.Da then d else .undef)::Sp H (i+1) l
def SO(H:BK):Nat->List DV->Bool
 | _,[]=>wc
 | i,d::l=>((IJ 0 i H.Cg).isSome||(!(Jx i H.Da)||E7 8 H.Cv d))&&SO H (i+1) l
def OY(st:St)(H:BK):List Nat->Option D6
 | []=>wM []
 | b::bs=>match look st.heap b with
   | some (f,.box cs)=>bif NM H.Cg H.Cv (b+1) 0 cs then (match OY st H bs with
     | some h=>wM ((b,f,.box (OX H.Cg (b+1) 0 cs))::h)
     | none=>wN) else wN
   | _=>wN
def Aae(H:Option BK)(st:St):Option St:=
 match H with
 | none=>wM st
 | some H=>match OY st H H.Cv,SQ st H.Cg with
   | some hb,some (ho,ns)=>bif Jv (H.Cv++H.Cg.map (·.2.2.1))&&Jv ns&&SO H 0 st.tmps then wM ⟨Sp H 0 st.tmps,hb++ho⟩ else wN
   | _,_=>wN
def Ajf:DV->Bool
 | .Bj .arg _ _ | .Bj .BE _ _ | .CO .arg _ _ | .CO .BE _ _=>wc
 | _=>wh
def Aiy(st:St)(H:BK):BK:={ Da:=H.Da,Cg:=H.Cg.filter fun x=>!(Ajf (Pl st x)),Cv:=H.Cv }
def Aee(h:D6):DV->DV
 | .Dh n=>match look h n with
   | some (true,.Bj _ k l)=>.Bj .BE k l
   | some (true,.CO _ sz l)=>.CO .BE sz l
   | _=>.Dh n
 | d=>d
def YO(st:St):St:=⟨st.tmps.map (Aee st.heap),st.heap⟩
def canon(H:Option BK)(st:St):Option St:=
 match H with
 | none=>wM st
 | some H=>Aae (wM (Aiy (YO st) H)) (YO st)
def PK{β:Type}(H:Option BK)(body:St->(St->Option β)->(Nat->St->Option β)->(St->Option β)->Option β):Nat->St->(Nat->St->Option β)->(St->Option β)->Option β
 | 0,_,_,_=>wN
 | n+1,st,Kx,Kr=>body st (fun st2=>match canon H st2 with | some st3=>PK H body n st3 Kx Kr | none=>wN) Kx Kr
def iter{β:Type}(H:Option BK)(body:St->(St->Option β)->(Nat->St->Option β)->(St->Option β)->Option β)(n:Nat)(st:St)(Kx:Nat->St->Option β)(Kr:St->Option β):Option β:=
 match canon H st with
 | some st1=>PK H body n st1 Kx Kr
 | none=>wN
def V5{α β:Type}(f:α->β)(x:α):β:=(Classical.choice (⟨⟨f x,rfl⟩⟩:Nonempty { y:β // y=f x })).1
theorem Uu{α β:Type}(f:α->β)(x:α):V5 f x=f x:=(Classical.choice (⟨⟨f x,rfl⟩⟩:Nonempty { y:β // y=f x })).2
def X3{β:Type}(E:Env)(ops:Array Oper)(draw:Bool)(Kn:St->Option β)(st:St):Option β :=bif draw then AfP E ops st Kn else Ahs E ops wh ops.toList st Kn
def den{β:Type}(E:Env)(fuel:Nat):Nat->Code->St->(St->Option β)->(Nat->St->Option β)->(St->Option β)->Option β
 | _,.skip,st,Kn,_,_=>Kn st
 | _,.label _,st,Kn,_,_=>Kn st
 | _,.region id ops draw,st,Kn,_,_=>match E.live id with
   | none=>X3 E ops draw Kn st
   | some ks=>V5 (X3 E ops draw Kn) (forget (wM ks) st)
 | b,.seq x y,st,Kn,Kx,Kr=>den E fuel b x st (fun st'=>den E fuel b y st' Kn Kx Kr) Kx Kr
 | b,.cond c x y,st,Kn,Kx,Kr=>match FL st.tmps c with
   | .bool t=>bif t then den E fuel b x st Kn Kx Kr else den E fuel b y st Kn Kx Kr
   | _=>wN
 | _,.block id c,st,Kn,Kx,Kr=>den E fuel id c st Kn (fun id' st'=>cond (id'==id) (Kn st') (Kx id' st')) Kr
 | b,.loop c,st,_,Kx,Kr=>iter (E.hint b) (den E fuel b c) fuel st Kx Kr
 | b,.scope c,st,Kn,Kx,Kr=>den E fuel b c st Kn Kx Kr
 | _,.exit id,st,_,Kx,_=>Kx id st
 | _,.ret,st,_,_,Kr=>Kr st
 | _,_,_,_,_,_=>wN
def F3(h:D6):Nat->DV->Option (DV × List Nat × List Nat)
 | 0,_=>wN
 | f+1,d =>
   let all (l:List DV):Option (List DV × List Nat × List Nat):=l.foldr (fun d acc=>(F3 h f d).bind fun(x,ns,os)=>acc.bind fun(xs,ms,ps)=>wM (x::xs,ns++ms,os++ps)) (wM ([],[],[]))
   match d with
   | .agg l=>(all l).bind fun(l,ns,os)=>wM (.agg l,ns,os)
   | .CJ l=>(all l).bind fun(l,ns,os)=>wM (.CJ l,ns,os)
   | .Dh n=>match look h n with
     | some (false,.Bj e k l)=>wM (.Bj (.own n e) k l,[],[n])
     | some (false,.CO e sz l)=>wM (.CO (.own n e) sz l,[],[n])
     | some (true,.Bj _ k l)=>wM (.Bj .BE k l,[],[])
     | some (true,.CO _ sz l)=>wM (.CO .BE sz l,[],[])
     | _=>wN
   | .J9 n off len=>match look h n with
     | some (_,.Bj _ k l)=>wM (.Bj .BE k ((l.drop off).take len),[n],[])
     | some (_,.CO _ sz l)=>wM (.CO .BE sz ((l.drop off).take len),[n],[])
     | _=>wN
   | .ptr .. | .fn .. | .gd .. | .undef | .CL _=>wN
   | d=>wM (d,[],[])
def SF(E:Env)(st:St):ResultVar->Option DV
 | .tmp t=>wM (st.tmps.getD t .undef)
 | .cell a t=>(E.ty t).bind fun ti=>(UN st.heap ti (st.tmps.getD a .undef)).bind fun r=>bif r.NK then wM r.v else wN
def OG(E:Env)(st:St):List ResultVar->Option (List DV)
 | []=>wM []
 | r::rs=>(SF E st r).bind fun d=>(OG E st rs).bind fun ds=>wM (d::ds)
def AeK:List DV->DV
 | [d]=>d
 | ds=>.CJ ds
def TW(E:Env)(fn:Func)(st:St):Option DV:=
 (OG E st fn.results.toList).bind fun ds =>
  (F3 st.heap 6 (AeK ds)).bind fun(d,ns,os) =>
   bif ns.all fun n=>!(os.contains n) then wM d else wN
def Cz(E:Env)(fuel:Nat)(fn:Func)(body:Code)(args:List DV):Option DV :=den E fuel 0 body ⟨args++zo (fn.ntmps-args.length) .undef,[]⟩ (fun st=>TW E fn st) (fun _ _=>wN) (fun st=>TW E fn st)
def Cd(I0:Nat->Prop)(B:Nat)(A:Nat->Option Place)(w:World):Ctx where
 ok:=fun b=>b<w.heap.size/\(I0 b\/B<=b)/\∀n p,A n=wM p->p.st=.live->p.F1≠wM b
 B:=B
 fr:=wc
 own:=fun _=>wN
 at_:=A
structure GG(A:Nat->Option Place)(w:World)(A':Nat->Option Place)(w':World):Prop where
 size:w.heap.size<=w'.heap.size
 names:∀n p,A n=wM p->∃q,A' n=wM q/\(q.st=.dead\/(p.st≠.dead/\q.kind=p.kind))
 live:∀n p b,A' n=wM p->p.st=.live->p.F1=wM b->b<w.heap.size->∃m q,A m=wM q/\q.st=.live/\q.F1=wM b
 kept:∀b,b<w.heap.size->(∀n p,A n=wM p->p.st=.live->p.F1≠wM b)->w'.heap[b]?=w.heap[b]?
theorem GG.D1{I0:Nat->Prop}{B:Nat}{A A':Nat->Option Place}{w w':World}(h:GG A w A' w'):
 Jr (Cd I0 B A w) w (Cd I0 B A' w') w' where
 ok:=fun b ⟨h1,h2,h3⟩=>⟨AU h1 h.size,h2,fun n p hp hl hb=>by obtain⟨m,q,hm,hql,hqb⟩:=h.live n p b hp hl hb h1;exact h3 m q hm hql hqb⟩
 B:=rfl
 fr:=rfl
 own:=fun _ _ h=>by cases h
 at_:=h.names
 cell:=fun b o ⟨h1,_,h3⟩=>World.cell?_of_block (h.kept b h1 h3)
 Aho:=fun _ _ h=>by cases h
theorem GG.refl(A:Nat->Option Place)(w:World):GG A w A w :=⟨AB _,fun n p h=>⟨p,h,by by_cases hp:p.st=.dead; exact .inl hp; exact .inr ⟨hp,rfl⟩⟩,fun n p b h hl hb _=>⟨n,p,h,hl,hb⟩,fun _ _ _=>rfl⟩
def Dn(c:Ctx)(w:World)(p:Place):Bool × OB->Prop
 | (_,.dead)=>p.st=.dead
 | (fz,.box cs)=>p.st=(if fz then .frozen else .live)/\∃b e cells,p.kind=.box b/\w.heap[b]?=wM (.cells cells e (0,0))/\BJ c w cs cells.toList
 | (fz,.Bj e k l)=>p.st=(if fz then .frozen else .live)/\∃sv,p.kind=.row sv 1/\w.ownsRow c.B e 1 sv l.length (l.map (Value.int k))
 | (fz,.CO e sz l)=>p.st=(if fz then .frozen else .live)/\0<sz/\∃sv rows,p.kind=.row sv sz/\Dm c.bare w l rows/\(∀r∈rows,r.length=sz/\∀u∈r,u.oneCell'=wc)/\w.ownsRow c.B e sz sv l.length rows.flatten
structure Mem(I0:Nat->Prop)(B:Nat)(A:Nat->Option Place)(h:D6)(w:World):Prop where
 hB:B<=w.heap.size
 Qg:∀b,I0 b->b<B
 obj:∀n p fo,A n=wM p->look h n=wM fo->Dn (Cd I0 B A w) w p fo
 Gf:∀n p b,A n=wM p->p.st≠.dead->p.F1=wM b->B<=b/\b<w.heap.size
 inj:∀n m p q b,A n=wM p->A m=wM q->p.st≠.dead->q.st≠.dead->p.F1=wM b->q.F1=wM b->n=m
theorem Dn.D1{c c':Ctx}{w w':World}(h:Jr c w c' w'){p q:Place}(hst:q.st=p.st)(hk:q.kind=p.kind)(hb:∀b,p.F1=wM b->w'.heap[b]?=w.heap[b]?):
 ∀(fo:Bool × OB),Dn c w p fo->Dn c' w' q fo
 | (fz,.dead),hr=>by unfold Dn at *; rw[hst]; exact hr
 | (fz,.box cs),hr=>by
   unfold Dn at *
   obtain⟨h1,b,e,cells,hk',hh,hl⟩:=hr;refine⟨by rw[hst]; exact h1,b,e,cells,hk.trans hk',?_,BJ.D1 h _ _ hl⟩;rw[hb b (by unfold Place.F1; rw[hk'])];exact hh
 | (fz,.Bj e k l),hr=>by
   unfold Dn at *
   obtain⟨h1,sv,hk',ho⟩:=hr;refine⟨by rw[hst]; exact h1,sv,hk.trans hk',?_⟩;rw[h.B];exact Hb ho fun b hb'=>hb b (by unfold Place.F1; rw[hk']; exact hb')
 | (fz,.CO e sz l),hr=>by
   unfold Dn at *
   obtain⟨h1,hsz,sv,rows,hk',hrr,hlen,ho⟩:=hr;refine⟨by rw[hst]; exact h1,hsz,sv,rows,hk.trans hk',Dm.D1 h.bare _ _ hrr,hlen,?_⟩;rw[h.B];exact Hb ho fun b hb'=>hb b (by unfold Place.F1; rw[hk']; exact hb')
theorem BJ.FE{c:Ctx}{w:World}{vs:List Value}:BJ c w [] vs↔vs=[]:=by simp[BJ]
theorem BJ.CR{c:Ctx}{w:World}{d:DV}{ds:List DV}{vs:List Value}:BJ c w (d::ds) vs↔∃u us,vs=u::us/\By c w d u/\BJ c w ds us:=by simp[BJ]
theorem BJ.length{c:Ctx}{w:World}:∀{ds:List DV} {vs:List Value},BJ c w ds vs->ds.length=vs.length
 | [],vs,h=>by rw[BJ.FE] at h; subst h; rfl
 | d::ds,vs,h=>by rw[BJ.CR] at h;obtain⟨u,us,rfl,_,h2⟩:=h;simp[BJ.length h2]
theorem BJ.get{c:Ctx}{w:World}:∀{ds:List DV} {vs:List Value},BJ c w ds vs->∀(i:Nat) d,ds[i]?=wM d->∃v,vs[i]?=wM v/\By c w d v
 | [],vs,h,i,d,hd=>by simp at hd
 | d::ds,vs,h,i,d',hd=>by
   rw[BJ.CR] at h;obtain⟨u,us,rfl,h1,h2⟩:=h;cases i with
   | zero=>simp at hd; subst hd; exact⟨u,by simp,h1⟩
   | succ i=>simp at hd; obtain⟨v,hv,hr⟩:=BJ.get h2 i d' hd; exact⟨v,by simpa using hv,hr⟩
theorem BJ.Ju{c:Ctx}{w:World}:∀{ds:List DV} {vs:List Value},ds.length=vs.length->(∀(i:Nat) d v,ds[i]?=wM d->vs[i]?=wM v->By c w d v)->BJ c w ds vs
 | [],vs,hl,_=>by rw[BJ.FE]; exact AJ (by simpa using hl.symm)
 | d::ds,[],hl,_=>by simp at hl
 | d::ds,v::vs,hl,h=>by rw[BJ.CR];exact⟨v,vs,rfl,h 0 d v (by simp) (by simp),BJ.Ju (by simpa using hl) fun i d' v' h1 h2=>h (i+1) d' v' (by simpa using h1) (by simpa using h2)⟩
theorem BJ.append{c:Ctx}{w:World}:∀{ds ds':List DV} {vs vs':List Value},BJ c w ds vs->BJ c w ds' vs'->BJ c w (ds++ds') (vs++vs')
 | [],ds',vs,vs',h,h'=>by rw[BJ.FE] at h; subst h; simpa using h'
 | d::ds,ds',vs,vs',h,h'=>by rw[BJ.CR] at h;obtain⟨u,us,rfl,h1,h2⟩:=h;simp only[xG];rw[BJ.CR];exact⟨u,us++vs',rfl,h1,BJ.append h2 h'⟩
theorem BJ.drop{c:Ctx}{w:World}{ds:List DV}{vs:List Value}(h:BJ c w ds vs)(n:Nat):BJ c w (ds.drop n) (vs.drop n):=by
 refine BJ.Ju (by simp[h.length]) fun i d v h1 h2=>?_
 rw[yG] at h1 h2;obtain⟨v',hv',hr⟩:=h.get _ _ h1;rw[hv'] at h2; cases h2; exact hr
theorem BJ.take{c:Ctx}{w:World}{ds:List DV}{vs:List Value}(h:BJ c w ds vs)(n:Nat):BJ c w (ds.take n) (vs.take n):=by
 refine BJ.Ju (by simp[h.length]) fun i d v h1 h2=>?_
 have hi:i<n:=by
  rcases AF i n with h' | h'
  ·exact h'
  ·rw[yR h'] at h1; cases h1
 rw[yS hi] at h1 h2;obtain⟨v',hv',hr⟩:=h.get _ _ h1;rw[hv'] at h2; cases h2; exact hr
theorem BJ.set{c:Ctx}{w:World}{ds:List DV}{vs:List Value}(h:BJ c w ds vs)(n:Nat){d:DV}{v:Value}(hd:By c w d v):BJ c w (ds.set n d) (vs.set n v):=by
 refine BJ.Ju (by simp[h.length]) fun i d' v' h1 h2=>?_
 rw[wg] at h1 h2;rw[h.length] at h1;split at h1
 ·rename_i hi;subst hi;split at h1
  ·rename_i hlt;simp only[if_true,hlt] at h2;cases h1; cases h2; exact hd
  ·cases h1
 ·rename_i hi;simp only[hi,if_false] at h2;obtain⟨v'',hv',hr⟩:=h.get _ _ h1;rw[hv'] at h2; cases h2; exact hr
theorem BJ.getD{c:Ctx}{w:World}{ds:List DV}{vs:List Value}(h:BJ c w ds vs)(i:Nat)(hi:i<ds.length):∃v,vs[i]?=wM v/\By c w (ds.getD i .undef) v:=by have:ds[i]?=wM ds[i]:=As hi;obtain⟨v,hv,hr⟩:=h.get i _ this;exact⟨v,hv,by simpa[vC,this] using hr⟩
theorem Dm.length{c:Ctx}{w:World}:∀{ds:List (List DV)} {rs:List (List Value)},Dm c w ds rs->ds.length=rs.length
 | [],rs,h=>by simp only[Dm] at h; subst h; rfl
 | d::ds,rs,h=>by simp only[Dm] at h;obtain⟨u,us,rfl,_,h2⟩:=h;simp[Dm.length h2]
theorem Dm.get{c:Ctx}{w:World}:∀{ds:List (List DV)} {rs:List (List Value)},Dm c w ds rs->∀(i:Nat) d,ds[i]?=wM d->∃r,rs[i]?=wM r/\BJ c w d r
 | [],vs,h,i,d,hd=>by simp at hd
 | d::ds,vs,h,i,d',hd=>by
   simp only[Dm] at h;obtain⟨u,us,rfl,h1,h2⟩:=h;cases i with
   | zero=>simp at hd; subst hd; exact⟨u,by simp,h1⟩
   | succ i=>simp at hd; obtain⟨v,hv,hr⟩:=Dm.get h2 i d' hd; exact⟨v,by simpa using hv,hr⟩
theorem Dm.Ju{c:Ctx}{w:World}:∀{ds:List (List DV)} {rs:List (List Value)},ds.length=rs.length->(∀(i:Nat) d r,ds[i]?=wM d->rs[i]?=wM r->BJ c w d r)->Dm c w ds rs
 | [],vs,hl,_=>by simp only[Dm]; exact AJ (by simpa using hl.symm)
 | d::ds,[],hl,_=>by simp at hl
 | d::ds,v::vs,hl,h=>by simp only[Dm];exact⟨v,vs,rfl,h 0 d v (by simp) (by simp),Dm.Ju (by simpa using hl) fun i d' v' h1 h2=>h (i+1) d' v' (by simpa using h1) (by simpa using h2)⟩
theorem Dm.append{c:Ctx}{w:World}:∀{ds ds':List (List DV)} {rs rs':List (List Value)},Dm c w ds rs->Dm c w ds' rs'->Dm c w (ds++ds') (rs++rs')
 | [],ds',vs,vs',h,h'=>by simp only[Dm] at h; subst h; simpa using h'
 | d::ds,ds',vs,vs',h,h'=>by simp only[Dm] at h;obtain⟨u,us,rfl,h1,h2⟩:=h;simp only[xG,Dm];exact⟨u,us++vs',rfl,h1,Dm.append h2 h'⟩
theorem Dm.drop{c:Ctx}{w:World}{ds:List (List DV)}{vs:List (List Value)}(h:Dm c w ds vs)(n:Nat):Dm c w (ds.drop n) (vs.drop n):=by
 refine Dm.Ju (by simp[h.length]) fun i d v h1 h2=>?_
 rw[yG] at h1 h2;obtain⟨v',hv',hr⟩:=h.get _ _ h1;rw[hv'] at h2; cases h2; exact hr
theorem Dm.take{c:Ctx}{w:World}{ds:List (List DV)}{vs:List (List Value)}(h:Dm c w ds vs)(n:Nat):Dm c w (ds.take n) (vs.take n):=by
 refine Dm.Ju (by simp[h.length]) fun i d v h1 h2=>?_
 have hi:i<n:=by
  rcases AF i n with h' | h'
  ·exact h'
  ·rw[yR h'] at h1; cases h1
 rw[yS hi] at h1 h2;obtain⟨v',hv',hr⟩:=h.get _ _ h1;rw[hv'] at h2; cases h2; exact hr
theorem Dm.set{c:Ctx}{w:World}{ds:List (List DV)}{vs:List (List Value)}(h:Dm c w ds vs)(n:Nat){d:List DV}{v:List Value}(hd:BJ c w d v):Dm c w (ds.set n d) (vs.set n v):=by
 refine Dm.Ju (by simp[h.length]) fun i d' v' h1 h2=>?_
 rw[wg] at h1 h2;rw[h.length] at h1;split at h1
 ·rename_i hi;subst hi;split at h1
  ·rename_i hlt;simp only[if_true,hlt] at h2;cases h1; cases h2; exact hd
  ·cases h1
 ·rename_i hi;simp only[hi,if_false] at h2;obtain⟨v'',hv',hr⟩:=h.get _ _ h1;rw[hv'] at h2; cases h2; exact hr
theorem KL{α:Type}{sz:Nat}:∀{rows:List (List α)},(∀r∈rows,r.length=sz)->∀(i:Nat) r,rows[i]?=wM r->∀(j:Nat) u,r[j]?=wM u->rows.flatten[i*sz+j]?=wM u
 | [],_,i,r,h,_,_,_=>by simp at h
 | r0::rows,hl,i,r,h,j,u,hu=>by
   have h0:r0.length=sz:=hl r0 (by simp);cases i with
   | zero =>simp at h; subst h;have hj:j<r0.length:=(List.getElem?_eq_some_iff.1 hu).1;simp only[yA,Nat.zero_mul,AS];rw[List.getElem?_append_left hj]; exact hu
   | succ i =>simp at h;have:=KL (rows:=rows) (fun r hr=>hl r (by simp[hr])) i r h j u hu;simp only[yA];rw[AX (by rw[h0,z9]; omega)];rw[<- this]; congr 1; rw[h0,z9]; omega
theorem Iv{α:Type}{sz:Nat}:∀{rows:List (List α)},(∀r∈rows,r.length=sz)->rows.flatten.length=rows.length*sz
 | [],_=>by simp
 | r0::rows,hl=>by simp only[yA,A8,List.length_cons];rw[Iv (rows:=rows) (fun r hr=>hl r (by simp[hr])),hl r0 (by simp),z9]; omega
def WI(zs:List DV)(vs:List Value):Prop:=∀(c:Ctx) (w:World),BJ c w zs vs
def CP(P:Program)(t:TypeId):TK->Prop
 | .slice e=>P.underlying t=wM (.slice e)
 | .array n e=>P.underlying t=wM (.array n e)
 | .struct fs=>∃gs:Array Field,P.underlying t=wM (.struct gs)/\(gs.toList.map fun f=>(f.offset,f.type))=fs
 | .int k=>P.underlying t=wM (.int k)
 | .fl=>P.underlying t=wM (.float .f64)
 | .bool=>P.underlying t=wM .bool
 | _=>∃d,P.underlying t=wM d/\(∀gs,d≠.struct gs)/\∀n e,d≠.array n e
structure CC(P:Program)(t:TypeId)(ti:TI):Prop where
 info:∃i z,P.info? t=wM i/\i.size=ti.size/\i.bytes=ti.bytes/\i.zero=wM z/\WI ti.zero z.cells.toList/\z.cells.size=ti.size/\(∀u∈z.cells.toList,u.oneCell'=wc)
 desc:CP P t ti.kind
section
variable{P:Program}{t:TypeId}{ti:TI}(w:World)
theorem CC.GQ(h:CC P t ti):(sizeOf t).run P w=.ok ti.size w:=by obtain⟨i,z,hi,hs,_⟩:=h.info;simp[sizeOf,typeInfo,hi,hs]
theorem CC.SB(h:CC P t ti):∃z,(zeroValue t).run P w=.ok z w/\WI ti.zero z.cells.toList/\z.cells.size=ti.size/\(∀u∈z.cells.toList,u.oneCell'=wc):=by obtain⟨i,z,hi,hs,_,hz,h1,h2,h3⟩:=h.info;exact⟨z,by simp[zeroValue,typeInfo,hi,hz],h1,h2,h3⟩
theorem CC.Pu(h:CC P t ti):(isAgg t).run P w=.ok ti.agg w:=by
 have hd:=h.desc;unfold TI.agg;cases hk:ti.kind with
 | slice e=>rw[hk] at hd; simp only[CP] at hd; simp[isAgg,run_underlying hd]
 | array n e=>rw[hk] at hd; simp only[CP] at hd; simp[isAgg,run_underlying hd]
 | struct fs=>rw[hk] at hd; simp only[CP] at hd; obtain⟨gs,hg,_⟩:=hd; simp[isAgg,run_underlying hg]
 | int k=>rw[hk] at hd; simp only[CP] at hd; simp[isAgg,run_underlying hd]
 | fl=>rw[hk] at hd; simp only[CP] at hd; simp[isAgg,run_underlying hd]
 | bool=>rw[hk] at hd; simp only[CP] at hd; simp[isAgg,run_underlying hd]
 | ptr=>rw[hk] at hd; simp only[CP] at hd; obtain⟨d,hu,h1,h2⟩:=hd; cases d<;>first | (simp[isAgg,run_underlying hu]; done) | (exact absurd rfl (h1 _)) | (exact absurd rfl (h2 _ _))
 | func=>rw[hk] at hd; simp only[CP] at hd; obtain⟨d,hu,h1,h2⟩:=hd; cases d<;>first | (simp[isAgg,run_underlying hu]; done) | (exact absurd rfl (h1 _)) | (exact absurd rfl (h2 _ _))
 | other=>rw[hk] at hd; simp only[CP] at hd; obtain⟨d,hu,h1,h2⟩:=hd; cases d<;>first | (simp[isAgg,run_underlying hu]; done) | (exact absurd rfl (h1 _)) | (exact absurd rfl (h2 _ _))
end
theorem M6.refl(n:Nat):M6 n n:=.inl rfl
theorem Eh{n:Nat}(h:HF n=wc):∃s f,Ieee.double.read n=.nan s f:=by
 unfold HF Ieee.Datum.isNaN at h;cases hr:Ieee.double.read n with
 | nan s f=>exact⟨s,f,rfl⟩
 | number=>rw[hr] at h; cases h
 | infinity=>rw[hr] at h; cases h
theorem M6.add{a b x y:Nat}(h1:M6 a x)(h2:M6 b y):Ieee.double.add x y=Ieee.double.add a b:=by
 rcases h1 with rfl | ⟨h1,h1'⟩
 ·rcases h2 with rfl | ⟨h2,h2'⟩
  ·rfl
  ·obtain⟨s,f,e⟩:=Eh h2; obtain⟨s',f',e'⟩:=Eh h2';unfold Ieee.Format.add; rw[e,e']; cases Ieee.double.read a<;>rfl
 ·obtain⟨s,f,e⟩:=Eh h1; obtain⟨s',f',e'⟩:=Eh h1';unfold Ieee.Format.add; rw[e,e']; rfl
theorem M6.sub{a b x y:Nat}(h1:M6 a x)(h2:M6 b y):Ieee.double.sub x y=Ieee.double.sub a b:=by
 rcases h1 with rfl | ⟨h1,h1'⟩
 ·rcases h2 with rfl | ⟨h2,h2'⟩
  ·rfl
  ·obtain⟨s,f,e⟩:=Eh h2; obtain⟨s',f',e'⟩:=Eh h2';unfold Ieee.Format.sub; rw[e,e']; cases Ieee.double.read a<;>rfl
 ·obtain⟨s,f,e⟩:=Eh h1; obtain⟨s',f',e'⟩:=Eh h1';unfold Ieee.Format.sub; rw[e,e']; rfl
theorem M6.mul{a b x y:Nat}(h1:M6 a x)(h2:M6 b y):Ieee.double.mul x y=Ieee.double.mul a b:=by
 rcases h1 with rfl | ⟨h1,h1'⟩
 ·rcases h2 with rfl | ⟨h2,h2'⟩
  ·rfl
  ·obtain⟨s,f,e⟩:=Eh h2; obtain⟨s',f',e'⟩:=Eh h2';unfold Ieee.Format.mul; rw[e,e']; cases Ieee.double.read a<;>rfl
 ·obtain⟨s,f,e⟩:=Eh h1; obtain⟨s',f',e'⟩:=Eh h1';unfold Ieee.Format.mul; rw[e,e']; rfl
theorem M6.div{a b x y:Nat}(h1:M6 a x)(h2:M6 b y):Ieee.double.div x y=Ieee.double.div a b:=by
 rcases h1 with rfl | ⟨h1,h1'⟩
 ·rcases h2 with rfl | ⟨h2,h2'⟩
  ·rfl
  ·obtain⟨s,f,e⟩:=Eh h2; obtain⟨s',f',e'⟩:=Eh h2';unfold Ieee.Format.div; rw[e,e']; cases Ieee.double.read a<;>rfl
 ·obtain⟨s,f,e⟩:=Eh h1; obtain⟨s',f',e'⟩:=Eh h1';unfold Ieee.Format.div; rw[e,e']; rfl
theorem M6.sqrt{a x:Nat}(h1:M6 a x):Ieee.double.sqrt x=Ieee.double.sqrt a:=by
 rcases h1 with rfl | ⟨h1,h1'⟩
 ·rfl
 ·obtain⟨s,f,e⟩:=Eh h1; obtain⟨s',f',e'⟩:=Eh h1';unfold Ieee.Format.sqrt; rw[e,e']; rfl
theorem M6.order{a b x y:Nat}(h1:M6 a x)(h2:M6 b y):Ieee.double.order x y=Ieee.double.order a b:=by
 rcases h1 with rfl | ⟨h1,h1'⟩
 ·rcases h2 with rfl | ⟨h2,h2'⟩
  ·rfl
  ·obtain⟨s,f,e⟩:=Eh h2; obtain⟨s',f',e'⟩:=Eh h2';unfold Ieee.Format.order; rw[e,e']; cases Ieee.double.read a<;>rfl
 ·obtain⟨s,f,e⟩:=Eh h1; obtain⟨s',f',e'⟩:=Eh h1';unfold Ieee.Format.order; rw[e,e']; rfl
theorem AeV(r q:Nat)(hr:r<4503599627370495)(_hq:q<2):HF (q*9223372036854775808+9218868437227405312+1+r)=wc:=by
 have hsw:Ieee.double.signWeight=9223372036854775808:=by decide +kernel
 have hb:Ieee.double.binade=4503599627370496:=by decide +kernel
 have hi:Ieee.double.infRung=9218868437227405312:=by decide +kernel
 unfold HF Ieee.Format.read;rw[hsw,hb,hi];have hm:(q*9223372036854775808+9218868437227405312+1+r)%9223372036854775808=9218868437227405313+r:=by omega
 simp only[hm];rw[Ay (by omega),Ay (by omega),Ay (by omega)];rfl
theorem AaZ(x y t:Nat):HF ((Question.nanBits .f64 x y).cut t)=wc:=by
 have e63:(2:Nat)^63=9223372036854775808:=by decide +kernel
 have e52:(2:Nat)^52-1=4503599627370495:=by decide +kernel
 have h:(Question.nanBits .f64 x y).cut t=(t%2)*9223372036854775808+9218868437227405312+1+(t / 2)%4503599627370495:=by unfold Question.cut;rw[e63,e52]
 rw[h];exact AeV _ _ (zt _ (by omega)) (zt _ (by omega))
theorem Ow:HF nanBits=wc:=by decide +kernel
def Vo(w w':World):Prop:=w'=w\/w'=w.drew
theorem SC{P:Program}(w:World)(op:BinOp)(x y a b:Nat)(r:R)(hx:M6 a x)(hy:M6 b y)(hop:op=.add\/op=.sub\/op=.mul\/op=.quo)(h:PV op a b=wM r):
 ∃m w',(Op.floatArith op .f64 x y).run P w=.ok (.float .f64 m) w'/\Vo w w'/\∃n,r.v=.fl n/\M6 n m:=by
 have key:∀(res:Option Nat) (nm:Nat),res=wN\/(∃k,res=wM k)->∃m w',((match res with
  | some r=>pure (.float .f64 r)
  | none=>do pure (.float .f64 (<- choose (.nanBits .f64 x y))):Sem Value)).run P w=.ok (.float .f64 m) w'/\Vo w w'/\M6 (res.getD nanBits) m:=by
  intro res nm hres;rcases hres with rfl | ⟨k,rfl⟩
  ·refine⟨(Question.nanBits .f64 x y).cut (w.tape w.drawn (.nanBits .f64 x y)),w.drew,?_,.inr rfl,.inr ⟨Ow,AaZ x y _⟩⟩;simp only[Sem.run_bind,run_choose,Question.forced,Result.andThen_ok,Sem.run_pure,Bool.false_eq_true,if_false];rfl
  ·exact⟨k,w,rfl,.inl rfl,.inl rfl⟩
 have hcase:∀res:Option Nat,res=wN\/∃k,res=wM k:=fun res=>by cases res; exact .inl rfl; exact .inr ⟨_,rfl⟩
 rcases hop with rfl | rfl | rfl | rfl
 ·simp only[PV,Ae] at h; subst h;obtain⟨m,w',h1,h2,h3⟩:=key (Ieee.double.add a b) 0 (hcase _);refine⟨m,w',?_,h2,_,rfl,h3⟩;have e:FloatKind.f64.format.add x y=Ieee.double.add a b:=M6.add hx hy;simp only[Op.floatArith,e,Sem.run_bind,Sem.run_pure,Result.andThen_ok]; exact h1
 ·simp only[PV,Ae] at h; subst h;obtain⟨m,w',h1,h2,h3⟩:=key (Ieee.double.sub a b) 0 (hcase _);refine⟨m,w',?_,h2,_,rfl,h3⟩;have e:FloatKind.f64.format.sub x y=Ieee.double.sub a b:=M6.sub hx hy;simp only[Op.floatArith,e,Sem.run_bind,Sem.run_pure,Result.andThen_ok]; exact h1
 ·simp only[PV,Ae] at h; subst h;obtain⟨m,w',h1,h2,h3⟩:=key (Ieee.double.mul a b) 0 (hcase _);refine⟨m,w',?_,h2,_,rfl,h3⟩;have e:FloatKind.f64.format.mul x y=Ieee.double.mul a b:=M6.mul hx hy;simp only[Op.floatArith,e,Sem.run_bind,Sem.run_pure,Result.andThen_ok]; exact h1
 ·simp only[PV,Ae] at h; subst h;obtain⟨m,w',h1,h2,h3⟩:=key (Ieee.double.div a b) 0 (hcase _);refine⟨m,w',?_,h2,_,rfl,h3⟩;have e:FloatKind.f64.format.div x y=Ieee.double.div a b:=M6.div hx hy;simp only[Op.floatArith,e,Sem.run_bind,Sem.run_pure,Result.andThen_ok]; exact h1
set_option linter.unusedSimpArgs false
def Any(d:DV)(v:Value):Prop:=∀(c:Ctx) (w:World),By c w d v
theorem Any.bool(b:Bool):Any (.bool b) (.bool b):=fun _ _=>by simp[By]
theorem Any.int(k:IntKind)(n:Int):Any (.int k n) (.int k n):=fun _ _=>by simp[By]
theorem Any.fl{n m:Nat}(h:M6 n m):Any (.fl n) (.float .f64 m):=fun _ _=>by simp only[By]; exact⟨m,rfl,h⟩
theorem Vg{P:Program}(w:World){op:BinOp}{t:TypeId}{k:IntKind}{x y:Int}{r:R}(hop:op≠.shl/\op≠.shr)(h:Ma op k x y=wM r)(hr:r.NK=wc):
 ∃v,(binOp op t (.int k x) (.int k y)).run P w=.ok v w/\Any r.v v:=by
 obtain⟨h1,h2⟩:=hop;cases op
 case add | sub | mul =>simp only[Ma,Ae] at h; subst h;refine⟨_,?_,Any.int _ _⟩;simp[binOp,Op.intArith]
 case quo | rem =>simp only[Ma,Ae] at h; subst h;simp only[bne_iff_ne,ne_eq] at hr;refine⟨_,?_,Any.int _ _⟩;simp only[binOp,Op.intDiv,ne_eq,not_true_eq_false,if_false,Ay hr,Sem.run_pure]
 case and | or | xor | andNot =>simp only[Ma,Ae] at h; subst h;refine⟨_,?_,Any.int _ _⟩;simp only[binOp,Op.intBits,ne_eq,not_true_eq_false,if_false,Sem.run_pure]
 case eql | neq =>simp only[Ma,Ae] at h; subst h;refine⟨_,?_,Any.bool _⟩;simp only[binOp,Op.intCmp,ne_eq,not_true_eq_false,if_false,Sem.run_pure]
 case lss | gtr =>simp only[Ma,Ae] at h; subst h;refine⟨_,?_,Any.bool _⟩;simp only[binOp,Op.intCmp,ne_eq,not_true_eq_false,if_false,Sem.run_pure];rw[B8]
 case leq | geq =>simp only[Ma,Ae] at h; subst h;refine⟨_,?_,Any.bool _⟩;simp only[binOp,Op.intCmp,ne_eq,not_true_eq_false,if_false,Sem.run_pure];rw[Ei]
 case shl=>exact absurd rfl h1
 case shr=>exact absurd rfl h2
theorem Agj{P:Program}(w:World){op:BinOp}{t:TypeId}{a b x y:Nat}{r:R}(hx:M6 a x)(hy:M6 b y)(h:PV op a b=wM r):
 ∃v w',(binOp op t (.float .f64 x) (.float .f64 y)).run P w=.ok v w'/\Vo w w'/\Any r.v v:=by
 have ho:FloatKind.f64.format.order x y=Ieee.double.order a b:=M6.order hx hy;cases op
 case add | sub | mul | quo =>obtain⟨m,w',h1,h2,n,h3,h4⟩:=SC (P:=P) w _ x y a b r hx hy (by simp) h;exact⟨_,w',by simpa[binOp] using h1,h2,by rw[h3]; exact Any.fl h4⟩
 case eql | neq | lss | leq | gtr | geq =>simp only[PV,Ae] at h; subst h;exact⟨_,w,by simp[binOp,Op.floatCmp,ho],.inl rfl,Any.bool _⟩
 all_goals simp[PV] at h
structure Aas(P:Program)(t:TypeId)(ti:TI):Prop where
 guard:P.eqGuardType P.depth t=wh
 eq:∀(w:World) (c:Ctx) (x y:List DV) (xs ys:Array Value),sameShape ti.zero x=wc->sameShape ti.zero y=wc->BJ c w x xs.toList->BJ c w y ys.toList ->
  (Op.equal t (.agg xs) (.agg ys)).run P w=.ok (Yq x y) w
theorem UR(n:Nat):HF (n%9223372036854775808)=HF n:=by unfold HF Ieee.Format.read;have e0:Ieee.double.signWeight=9223372036854775808:=rfl;dsimp only;rw[e0,Nat.mod_mod];split<;>(try split)<;>(try split)<;>rfl
theorem Ale(m:Nat):(zn 64 (m:Int) &&& ~~~(zn 64 9223372036854775808)).toNat=m%9223372036854775808:=by
 have e1 : ~~~(zn 64 9223372036854775808)=BitVec.ofNat 64 (2^63-1):=by decide
 rw[e1,BitVec.toNat_and,BitVec.toNat_ofNat,BitVec.toNat_ofInt];have e2:(((m:Int)%((2^64:Nat):Int)).toNat)=m%2^64:=by omega
 rw[e2,show(2^63-1)%2^64=2^63-1 from rfl,Nat.and_two_pow_sub_one_eq_mod];omega
theorem Mg(m:Nat):IntKind.u64.wrap ((zn IntKind.u64.bits (m:Int) &&& ~~~(zn IntKind.u64.bits 9223372036854775808)).toNat:Int)=((m%9223372036854775808:Nat):Int):=by have e:(zn IntKind.u64.bits (m:Int) &&& ~~~(zn IntKind.u64.bits 9223372036854775808)).toNat=m%9223372036854775808:=Ale m;rw[e];unfold IntKind.wrap;simp[IntKind.bits,IntKind.signed];omega
theorem Aie{P:Program}{E:Env}(hty:∀t ti,E.ty t=wM ti->CC P t ti)(heq:∀t ti,E.eqs t=wc->E.ty t=wM ti->Aas P t ti)
 (w:World) {c:Ctx} {op:BinOp} {t:TypeId} {x y:Operand} {a b:DV} {va vb:Value} {r:R} (ha:By c w a va) (hb:By c w b vb)
 (h:Aif E op t a b=wM r) (hr:r.NK=wc):
 ∃v w',((do eqGuard op t x y va vb; binOp op t va vb:Sem Value)).run P w=.ok v w'/\Vo w w'/\Any r.v v:=by
 have pre:∀(va vb:Value),(∀xs,va≠.agg xs)->(va≠.nilIface)->(eqGuard op t x y va vb).run P w=.ok () w:=by intro va vb h1 h2;cases op<;>(simp only[eqGuard]; first | rfl | (cases va<;>first | rfl | exact absurd rfl (h1 _) | exact absurd rfl h2))
 cases a<;>cases b<;>simp only[Aif,reduceCtorEq] at h
 case int.int k x' k' y' =>
  simp only[By] at ha hb;subst ha; subst hb;have hp:=pre (.int k x') (.int k' y') (by simp) (by simp);by_cases h1:op=.shl
  ·subst h1;simp only[Ae] at h; subst h;simp only[Ai] at hr;exact⟨_,w,by simp only[Sem.run_bind,hp,Result.andThen_ok,binOp,Op.shift,Sem.run_ite]; rw[Ay (by omega)]; rfl,.inl rfl,Any.int _ _⟩
  ·by_cases h2:op=.shr
   ·subst h2;simp only[Ae] at h; subst h;simp only[Ai] at hr;exact⟨_,w,by simp only[Sem.run_bind,hp,Result.andThen_ok,binOp,Op.shift,Sem.run_ite]; rw[Ay (by omega)]; rfl,.inl rfl,Any.int _ _⟩
   ·have h':(cond (decide (k=k')) (Ma op k x' y') wN)=wM r:=by cases op<;>first | exact h | exact absurd rfl h1 | exact absurd rfl h2
    by_cases hk:k=k'
    ·subst hk;simp only[decide_true,Aa] at h';obtain⟨v,hv,ho⟩:=Vg (P:=P) w (t:=t) ⟨h1,h2⟩ h' hr;exact⟨v,w,by simp only[Sem.run_bind,hp,Result.andThen_ok]; exact hv,.inl rfl,ho⟩
    ·simp[hk] at h'
 case fl.fl x' y' =>simp only[By] at ha hb;obtain⟨m1,rfl,f1⟩:=ha;obtain⟨m2,rfl,f2⟩:=hb;have hp:=pre (.float .f64 m1) (.float .f64 m2) (by simp) (by simp);obtain⟨v,w',hv,hd,ho⟩:=Agj (P:=P) w (t:=t) f1 f2 h;exact⟨v,w',by simp only[Sem.run_bind,hp,Result.andThen_ok]; exact hv,hd,ho⟩
 case nb.int x' k' y' =>
  cases op<;>simp only[reduceCtorEq] at h;by_cases hk:k'=.u64/\y'=9223372036854775808
  ·obtain⟨rfl,rfl⟩:=hk;simp only[decide_true,Ah,Aa,Ae] at h; subst h;simp only[By] at ha hb;obtain⟨m,rfl,f⟩:=ha;subst hb;have hp:=pre (.int .u64 (m:Int)) (.int .u64 9223372036854775808) (by simp) (by simp);obtain⟨v,hv,ho⟩:=Vg (P:=P) w (op:=.andNot) (t:=t) (k:=.u64) (x:=(m:Int)) (y:=9223372036854775808) ⟨by simp,by simp⟩ rfl rfl;refine⟨v,w,by simp only[Sem.run_bind,hp,Result.andThen_ok]; exact hv,.inl rfl,fun c w=>?_⟩;have ho:=ho c w;simp only[By] at ho ⊢;refine⟨m%9223372036854775808,?_,?_⟩
   ·rw[ho,Mg m]
   ·rcases f with rfl | ⟨f1,f2⟩
    ·exact .inl rfl
    ·exact .inr ⟨by rw[UR]; exact f1,by rw[UR]; exact f2⟩
  ·have:(decide (k'=IntKind.u64)&&decide (y'=9223372036854775808))=wh:=by rw[Bool.eq_false_iff]; intro hh; rw[Am,Ai,Ai] at hh; exact hk hh
   rw[this] at h; cases h
 case bool.bool x' y' =>
  simp only[By] at ha hb;subst ha; subst hb;have hp:=pre (.bool x') (.bool y') (by simp) (by simp);split at h
  ·rename_i hT;have hd:=(hty _ _ hT).desc;simp only[CP] at hd
   have he:(Op.equal t (.bool x') (.bool y')).run P w=.ok (x'==y') w:=by show(Op.equalIn (9999+1) t (.bool x') (.bool y')).run P w=_;exact run_equalIn_bool' w 9999 t x' y' hd
   cases op<;>simp only[Ae,reduceCtorEq] at h
   all_goals subst h
   all_goals
    refine⟨_,w,?_,.inl rfl,Any.bool _⟩;simp only[Sem.run_bind,hp,Result.andThen_ok,binOp,he,Sem.run_pure]
  ·cases h
 case agg.agg x' y' =>
  simp only[By] at ha hb;obtain⟨xs,rfl,hx⟩:=ha;obtain⟨ys,rfl,hy⟩:=hb;cases hE:E.eqs t with
  | false=>simp[hE] at h
  | true =>
    cases hT:E.ty t with
    | none=>simp[hE,hT] at h
    | some ti =>
      have hf:=heq t ti hE hT;simp only[hE,hT,AW] at h;cases h1:sameShape ti.zero x' with
      | false=>simp[h1] at h
      | true =>
        cases h2:sameShape ti.zero y' with
        | false=>simp[h1,h2] at h
        | true =>
          simp only[h1,h2,Ah,Aa] at h;have he:=hf.eq w c x' y' xs ys h1 h2 hx hy
          have hg:(eqGuard op t x y (.agg xs) (.agg ys)).run P w=.ok () w:=by
           cases op<;>simp only[Ae,reduceCtorEq] at h
           all_goals
            unfold eqGuard;simp[hf.guard]
          cases op<;>simp only[Ae,reduceCtorEq] at h
          all_goals subst h
          all_goals
           refine⟨_,w,?_,.inl rfl,Any.bool _⟩;simp only[Sem.run_bind,hg,Result.andThen_ok,binOp,he,Sem.run_pure]
theorem AiD{P:Program}(w:World){c:Ctx}{op:UnOp}{a:DV}{va:Value}{r:R}(ha:By c w a va)(h:unD op a=wM r):
 ∃v,(Op.unary op va).run P w=.ok v w/\Any r.v v:=by
 cases op<;>cases a<;>simp only[unD,Ae,reduceCtorEq] at h
 all_goals subst h
 all_goals simp only[By] at ha
 all_goals subst ha
 case neg.int k x=>exact⟨_,by simp only[Op.unary,Op.intArith,Sem.run_pure],Any.int _ _⟩
 case xor.int k x=>exact⟨_,by simp only[Op.unary,Op.intBits,Sem.run_pure],Any.int _ _⟩
 case not.bool b=>exact⟨_,by simp only[Op.unary,Sem.run_pure],Any.bool _⟩
theorem AfZ{P:Program}{E:Env}(hty:∀t ti,E.ty t=wM ti->CC P t ti)(w:World){c:Ctx}{src dst:TypeId}{a:DV}{va:Value}{r:R}(ha:By c w a va)(h:Abz E dst src a=wM r):
 ∃v,(convert src dst va).run P w=.ok v w/\Any r.v v:=by
 unfold Abz at h;split at h
 ·rename_i hd hs;simp only[Ae] at h; subst h;have h1:=(hty _ _ hd).desc;have h2:=(hty _ _ hs).desc;simp only[CP] at h1 h2;simp only[By] at ha; subst ha;refine⟨_,?_,Any.int _ _⟩;simp[convert,run_underlying h1,run_underlying h2,Conv.intToInt]
 ·rename_i hd hs;simp only[Ae] at h; subst h;have h1:=(hty _ _ hd).desc;have h2:=(hty _ _ hs).desc;simp only[CP] at h1 h2;simp only[By] at ha; subst ha;refine⟨_,?_,Any.fl (M6.refl _)⟩;simp only[convert,run_underlying h1,run_underlying h2,Sem.run_bind,Result.andThen_ok,Conv.intToFloat,Sem.run_pure];rfl
 ·rename_i hd hs;simp only[Ae] at h; subst h;have h1:=(hty _ _ hd).desc;have h2:=(hty _ _ hs).desc;simp only[CP] at h1 h2;simp only[By] at ha;obtain⟨m,rfl,f⟩:=ha;refine⟨_,?_,Any.fl f⟩;simp only[convert,run_underlying h1,run_underlying h2,Sem.run_bind,Result.andThen_ok,Conv.floatToFloat,if_true,Sem.run_pure]
 ·cases h
def Fb(w:World)(b o:Nat)(vs:List Value):Prop:=∀(i:Nat) u,vs[i]?=wM u->w.cell? ⟨b,o+i,wN⟩=wM u
theorem Fb.drop{w:World}{b o:Nat}{vs:List Value}(h:Fb w b o vs)(n:Nat):Fb w b (o+n) (vs.drop n):=fun i u hi=>by rw[yG] at hi;have:=h _ _ hi;rwa[<- yo] at this
theorem Fb.take{w:World}{b o:Nat}{vs:List Value}(h:Fb w b o vs)(n:Nat):Fb w b o (vs.take n):=fun i u hi=>by
 refine h i u ?_;rcases AF i n with h' | h'
 ·rwa[yS h'] at hi
 ·rw[yR h'] at hi; cases hi
section
variable{P:Program}{t:TypeId}{ti:TI}(w:World)
theorem MQ(hf:CC P t ti)(ha:ti.agg=wc){b o:Nat}{vs:List Value}(hr:Fb w b o vs)(hl:ti.size<=vs.length):
 (Instr.loadAt t (.pointer (wM ⟨b,o,wN⟩))).run P w=.ok (.agg (vs.take ti.size).toArray) w:=by
 have h1:=run_loadCells_list (P:=P) w ⟨b,o,wN⟩ (vs.take ti.size) (fun j v hj=>by rw[Addr.add_lit]; exact hr.take _ j v hj);rw[List.length_take,Nat.min_eq_left hl] at h1;simp[Instr.loadAt,Instr.sureAddr,loadVar,hf.Pu w,ha,hf.GQ w,h1]
theorem Kc(hf:CC P t ti)(ha:ti.agg=wh){b o:Nat}{v:Value}(hr:w.cell? ⟨b,o,wN⟩=wM v):
 (Instr.loadAt t (.pointer (wM ⟨b,o,wN⟩))).run P w=.ok v w:=by
 simp[Instr.loadAt,Instr.sureAddr,loadVar,hf.Pu w,ha,hr]
theorem Abb(hf:CC P t ti){c:Ctx}{b o:Nat}{cs:List DV}{vs:List Value}{d:DV}(hr:Fb w b o vs)(hl:BJ c w cs vs)(h:shaped ti cs=wM d):
 ∃v,(Instr.loadAt t (.pointer (wM ⟨b,o,wN⟩))).run P w=.ok v w/\By c w d v:=by
 unfold shaped at h;cases ha:ti.agg with
 | true =>
   simp only[ha,Aa] at h;by_cases hs:ti.size<=cs.length
   ·simp only[hs,decide_true,Aa,Ae] at h; subst h;refine⟨_,MQ w hf ha hr (by rw[<- hl.length]; exact hs),?_⟩;simp only[By];exact⟨_,rfl,by simpa using hl.take _⟩
   ·simp[hs] at h
 | false =>
   simp only[ha,Af] at h;cases cs with
   | nil=>cases h
   | cons d' ds =>simp only[Ae] at h; subst h;rw[BJ.CR] at hl;obtain⟨u,us,rfl,h1,_⟩:=hl;exact⟨u,Kc w hf ha (by have:=hr 0 u (by simp); simpa using this),h1⟩
end
theorem DX{I0:Nat->Prop}{B:Nat}{A:Nat->Option Place}{h:D6}{w:World}(hm:Mem I0 B A h w){n:Nat}{p:Place}(hp:A n=wM p){fz:Bool}{e:TypeId}{k:IntKind}{l:Bf}(hl:look h n=wM (fz,.Bj e k l)):
 p.st=(if fz then .frozen else .live)/\∃sv,p.kind=.row sv 1/\w.ownsRow B e 1 sv l.length (l.map (Value.int k)):=by
 have:=hm.obj n p _ hp hl;unfold Dn at this;exact this
theorem Ez{I0:Nat->Prop}{B:Nat}{A:Nat->Option Place}{h:D6}{w:World}(hm:Mem I0 B A h w){n:Nat}{p:Place}(hp:A n=wM p){fz:Bool}{e:TypeId}{sz:Nat}{l:List (List DV)}(hl:look h n=wM (fz,.CO e sz l)):
 p.st=(if fz then .frozen else .live)/\0<sz/\∃sv rows,p.kind=.row sv sz/\Dm (Cd I0 B A w).bare w l rows/\(∀r∈rows,r.length=sz/\∀u∈r,u.oneCell'=wc)/\w.ownsRow B e sz sv l.length rows.flatten:=by
 have:=hm.obj n p _ hp hl;unfold Dn at this;exact this
theorem LJ{I0:Nat->Prop}{B:Nat}{A:Nat->Option Place}{h:D6}{w:World}(hm:Mem I0 B A h w){n:Nat}{p:Place}(hp:A n=wM p){fz:Bool}{cs:List DV}(hl:look h n=wM (fz,.box cs)):
 p.st=(if fz then .frozen else .live)/\∃b e cells,p.kind=.box b/\w.heap[b]?=wM (.cells cells e (0,0))/\BJ (Cd I0 B A w) w cs cells.toList:=by
 have:=hm.obj n p _ hp hl;unfold Dn at this;exact this
theorem Ck{p:Place}{fz:Bool}(h:p.st=(if fz then PSt.frozen else PSt.live)):p.st≠.dead:=by cases fz<;>simp at h<;>simp[h]
theorem Fu{w:World}{base:Nat}{e:TypeId}{size n:Nat}{v:Value}{xs:List Value}(h:w.ownsRow base e size v n xs)(hn:0<n):
 ∃g cap,v=.slice (wM ⟨g,0,wN⟩) n cap/\n<=cap/\Fb w g 0 xs:=by
 rcases h.2 with ⟨_,rfl⟩ | ⟨g,cap,cur,rfl,_,_,hc,_⟩
 ·omega
 ·refine⟨g,cap,rfl,hc,fun i u hi=>?_⟩;have:=h.cells (g:=g) rfl i u hi;rw[Addr.add_lit] at this;exact this
theorem Ft{w:World}{base:Nat}{e:TypeId}{size n:Nat}{v:Value}{xs:List Value}(h:w.ownsRow base e size v n xs):
 (v=.slice wN 0 0/\n=0)\/∃g cap,v=.slice (wM ⟨g,0,wN⟩) n cap/\n<=cap:=by
 rcases h.2 with ⟨h1,h2⟩ | ⟨g,cap,cur,rfl,_,_,hc,_⟩
 ·exact .inl ⟨h1,h2⟩
 ·exact .inr ⟨g,cap,rfl,hc⟩
theorem Vf{w:World}{b:Nat}{cells:Array Value}{e:TypeId}(h:w.heap[b]?=wM (.cells cells e (0,0))):Fb w b 0 cells.toList:=fun i u hi=>by simp only[World.cell?,h,AS];simpa using hi
section
variable{P:Program}{I0:Nat->Prop}{B:Nat}{A:Nat->Option Place}{h:D6}{w:World}{t:TypeId}{ti:TI}
theorem XP(hm:Mem I0 B A h w)(hf:CC P t ti){a:DV}{va:Value}{r:R}(ha:By (Cd I0 B A w) w a va)(hl:UN h ti a=wM r)(hr:r.NK=wc):
 ∃v,(Instr.loadAt t va).run P w=.ok v w/\By (Cd I0 B A w) w r.v v:=by
 unfold UN at hl;split at hl
 ·rename_i cs;simp only[By] at ha;obtain⟨b,o,vs,rfl,_,hls,hread⟩:=ha;cases hs:shaped ti cs with
  | none=>simp[hs] at hl
  | some d =>simp only[hs,yh,Ae] at hl; subst hl;obtain⟨v,h1,h2⟩:=Abb (P:=P) (t:=t) w hf (vs:=vs) hread hls hs;exact⟨v,h1,By.EP (Ig.VV _) _ _ h2⟩
 ·rename_i n i j;simp only[By] at ha;obtain⟨_,p,hp,hd⟩:=ha;split at hl
  ·rename_i fz cs hlk;obtain⟨hst,b,e,cells,hk,hh,hls⟩:=LJ hm hp hlk;have hd:=hd.resolve_left (Ck hst);unfold H9 at hd; rw[hk] at hd;obtain⟨rfl,rfl⟩:=hd;by_cases hj:j<cs.length
   ·simp only[hj,decide_true,xH,AI,Aa] at hl;cases hs:shaped ti (cs.drop j) with
    | none=>simp[hs] at hl
    | some d =>simp only[hs,yh,Ae] at hl; subst hl;have:=(Vf hh).drop j;rw[AS] at this;exact Abb (P:=P) (t:=t) w hf this (hls.drop j) hs
   ·simp[hj] at hl
  ·rename_i fz e k l hlk;obtain⟨hst,sv,hk,ho⟩:=DX hm hp hlk;have hd:=hd.resolve_left (Ck hst);cases hag:ti.agg with
   | true=>simp[hag] at hl
   | false =>
     by_cases hj:j=0
     ·subst hj;simp only[hag,Bc,xH,AI,Aa,Ae] at hl; subst hl;simp only[Ai] at hr;obtain⟨g,cap,rfl,_,hread⟩:=Fu ho (by omega);unfold H9 at hd; rw[hk] at hd;simp only[AR,AQ] at hd; subst hd;have hi:(l.map (Value.int k))[i]?=wM (.int k (l.getD i 0)):=by simp[vC,hr]
      have:=hread i _ hi;rw[AS] at this;exact⟨_,Kc w hf hag this,by simp[By]⟩
     ·rw[show(j==0)=wh by simpa using hj] at hl; simp at hl
  ·rename_i fz e sz l hlk;obtain⟨hst,hsz,sv,rows,hk,hrr,hlen,ho⟩:=Ez hm hp hlk;have hd:=hd.resolve_left (Ck hst)
   have key:i<l.length->∃g,va=.pointer (wM ⟨g,i*sz+j,wN⟩)/\∃row,rows[i]?=wM row/\row.length=sz/\Fb w g (i*sz) row/\BJ (Cd I0 B A w).bare w (l.getD i []) row:=by
    intro hi;obtain⟨g,cap,rfl,_,hread⟩:=Fu ho (by omega);unfold H9 at hd; rw[hk] at hd;have hli:l[i]?=wM (l.getD i []):=by simp[vC,hi]
    obtain⟨row,hrow,hlr⟩:=hrr.get i _ hli;refine⟨g,hd,row,hrow,(hlen row (yT hrow)).1,fun x u hu=>?_,hlr⟩;have:=hread _ _ (KL (fun r hr=>(hlen r hr).1) i row hrow x u hu);rwa[AS] at this
   cases hag:ti.agg with
   | true =>
     simp only[hag,Aa] at hl;by_cases hjs:j+ti.size<=sz
     ·simp only[hjs,decide_true,Aa,Ae] at hl; subst hl;simp only[Ai] at hr;obtain⟨g,rfl,row,hrow,hrl,hread,hlr⟩:=key hr;have h1:=MQ (P:=P) (t:=t) w hf hag (hread.drop j) (by rw[List.length_drop]; omega);refine⟨_,h1,?_⟩;simp only[By];exact⟨_,rfl,by simpa using BJ.EP (Ig.VV _) _ _ ((hlr.drop j).take ti.size)⟩
     ·simp[hjs] at hl
   | false =>
     simp only[hag,Af] at hl;by_cases hjs:j<sz
     ·simp only[hjs,decide_true,Aa,Ae] at hl; subst hl;simp only[Ai] at hr;obtain⟨g,rfl,row,hrow,hrl,hread,hlr⟩:=key hr;obtain⟨v,hv,hvr⟩:=hlr.getD j (by rw[hlr.length]; omega);exact⟨v,Kc w hf hag (hread j v hv),By.EP (Ig.VV _) _ _ hvr⟩
     ·simp[hjs] at hl
  ·cases hl
 ·cases hl
end
section
variable{P:Program}{E:Env}{I0:Nat->Prop}{B:Nat}{A:Nat->Option Place}{h:D6}{w:World}{t:TypeId}
theorem Tv{gs:Array Field}{fs:List (Nat × TypeId)}(hg:(gs.toList.map fun f=>(f.offset,f.type))=fs){i off:Nat}{ft:TypeId}(hi:fs[i]?=wM (off,ft)):
 ∃f,gs[i]?=wM f/\f.offset=off/\f.type=ft:=by
 subst hg;rw[Ba] at hi;cases hq:gs.toList[i]? with
 | none=>simp[hq] at hi
 | some f =>simp only[hq,yh,Ae,Ak] at hi;exact⟨f,by simpa using hq,hi.1,hi.2⟩
theorem Qa(hm:Mem I0 B A h w){n:Nat}{p:Place}(hp:A n=wM p)(ha:KY h n=wc):p.st≠.dead:=by
 unfold KY at ha;split at ha
 ·cases ha
 ·cases ha
 ·rename_i x hx1 hx2;cases hq:look h n with
  | none=>exact absurd hq hx2
  | some fo =>
    obtain⟨fz,ob⟩:=fo;cases ob with
    | box cs=>exact Ck (LJ hm hp hq).1
    | Bj e k l=>exact Ck (DX hm hp hq).1
    | CO e sz l=>exact Ck (Ez hm hp hq).1
    | dead=>exact absurd hq (hx1 fz)
theorem Uc(hty:∀t ti,E.ty t=wM ti->CC P t ti)(hm:Mem I0 B A h w){a:DV}{va:Value}{f:Nat}{r:R}(ha:By (Cd I0 B A w) w a va)(hl:LR E h t f a=wM r):
 ∃v,(Instr.fieldAt t va f).run P w=.ok v w/\By (Cd I0 B A w) w r.v v:=by
 unfold LR at hl;split at hl
 ·rename_i fs _ hT;have hd:=(hty _ _ hT).desc;simp only[CP] at hd;obtain⟨gs,hu,hg⟩:=hd;split at hl
  ·rename_i off ft hoff;obtain⟨fl,hfl,ho,hft⟩:=Tv hg hoff;cases hF:E.ty ft with
   | none=>simp[hF] at hl
   | some fi =>
     simp only[hF,Aj] at hl;by_cases hpos:0<fi.size
     ·simp only[hpos,decide_true,Aa] at hl;have hsz:(sizeOf fl.type).run P w=.ok fi.size w:=by rw[hft]; exact(hty _ _ hF).GQ w
      have hne:¬fi.size=0:=by omega
      have run:∀b o,(Instr.fieldAt t (.pointer (wM ⟨b,o,wN⟩)) f).run P w=.ok (.pointer (wM ⟨b,o+off,wN⟩)) w:=by intro b o;simp[Instr.fieldAt,run_underlying hu,hfl,Instr.sureAddr,fieldPlace,hsz,hne,ho,Addr.add_lit]
      split at hl
      ·rename_i n i j;cases hal:KY h n with
       | false=>simp[hal] at hl
       | true =>
       simp only[hal,Aa,Ae] at hl; subst hl;simp only[By] at ha ⊢;obtain⟨_,p,hp,hd⟩:=ha;have hd:=hd.resolve_left (Qa hm hp hal);unfold H9 at hd;split at hd
       ·rename_i b hk;obtain⟨rfl,rfl⟩:=hd;exact⟨_,run _ _,rfl,p,hp,.inr (by unfold H9; rw[hk]; exact⟨rfl,rfl⟩)⟩
       ·rename_i g _ _ size hk;subst hd;exact⟨_,run _ _,rfl,p,hp,.inr (by unfold H9; rw[hk]; simp[yo])⟩
       ·exact hd.elim
      ·rename_i cs;simp only[Ae] at hl; subst hl;simp only[By] at ha ⊢;obtain⟨b,o,vs,rfl,hok,hls,hread⟩:=ha;exact⟨_,run _ _,b,o+off,vs.drop off,rfl,hok,hls.drop off,Fb.drop hread off⟩
      ·cases hl
     ·simp[hpos] at hl
  ·cases hl
 ·cases hl
theorem Xx{P:Program}{w:World}{t:TypeId}{ti:TI}(hf:CC P t ti){c:Ctx}{cs:List DV}{vs:Array Value}{off:Nat}{d:DV}(hl:BJ c w cs vs.toList)(h:UG ti cs off=wM d):
 ∃v,(part t vs off).run P w=.ok v w/\By c w d v:=by
 unfold UG at h;cases ha:ti.agg with
 | true =>
   simp only[ha,Aa] at h;by_cases hs:off+ti.size<=cs.length
   ·simp only[hs,decide_true,Aa,Ae] at h; subst h;refine⟨.agg (vs.extract off (off+ti.size)),by simp[part,hf.Pu w,ha,hf.GQ w],?_⟩;simp only[By];refine⟨_,rfl,?_⟩
    have:(vs.extract off (off+ti.size)).toList=(vs.toList.drop off).take ti.size:=by simp[List.take_drop]
    rw[this];exact(hl.drop off).take _
   ·simp[hs] at h
 | false =>
   simp only[ha,Af] at h;by_cases hs:off<cs.length
   ·simp only[hs,decide_true,Aa,Ae] at h; subst h;obtain⟨v,hv,hr⟩:=hl.getD off hs;refine⟨v,?_,hr⟩;have hv':vs[off]?=wM v:=by simpa using hv
    simp[part,hf.Pu w,ha,hv']
   ·simp[hs] at h
theorem AcV(hty:∀t ti,E.ty t=wM ti->CC P t ti){c:Ctx}{a:DV}{va:Value}{f:Nat}{r:R}(ha:By c w a va)(hl:Wr E t f a=wM r):
 ∃v,(Instr.field t va f).run P w=.ok v w/\By c w r.v v:=by
 unfold Wr at hl;split at hl
 ·rename_i fs _ hT;have hd:=(hty _ _ hT).desc;simp only[CP] at hd;obtain⟨gs,hu,hg⟩:=hd;split at hl
  ·rename_i off ft cs hoff;obtain⟨fl,hfl,ho,hft⟩:=Tv hg hoff;cases hF:E.ty ft with
   | none=>simp[hF] at hl
   | some fi =>
     cases hp:UG fi cs off with
     | none=>simp[hF,hp] at hl
     | some d =>simp only[hF,hp,Aj,yh,Ae] at hl; subst hl;simp only[By] at ha;obtain⟨vs,rfl,hls⟩:=ha;obtain⟨v,h1,h2⟩:=Xx (P:=P) (hty _ _ hF) hls hp;refine⟨v,?_,h2⟩;simp[Instr.field,run_underlying hu,hfl,asAgg,ho,hft,h1]
  ·cases hl
 ·cases hl
theorem Ah8(hm:Mem I0 B A h w){a:DV}{va:Value}{n:Int}(ha:By (Cd I0 B A w) w a va)(hl:Ah9 h a=wM n):
 ∃(ad:Option Addr) (l cap:Nat),va=.slice ad l cap/\(l:Int)=n:=by
 unfold Ah9 at hl;split at hl
 ·simp only[Ae] at hl; simp only[By] at ha; exact⟨wN,0,0,ha,by simpa using hl⟩
 ·cases hl
 ·cases hl
 ·rename_i g k l hg;simp only[Ae] at hl;cases g with
  | own i e=>exact absurd rfl (hg i e)
  | arg=>simp only[By] at ha; obtain⟨ad,cap,rfl,_⟩:=ha; exact⟨ad,_,cap,rfl,hl⟩
  | BE=>simp only[By] at ha; obtain⟨ad,cap,rfl,_⟩:=ha; exact⟨ad,_,cap,rfl,hl⟩
 ·rename_i g sz l hg;simp only[Ae] at hl;cases g with
  | own i e=>exact absurd rfl (hg i e)
  | arg=>simp only[By] at ha; obtain⟨ad,cap,rfl,_⟩:=ha; exact⟨ad,_,cap,rfl,hl⟩
  | BE=>simp only[By] at ha; obtain⟨ad,cap,rfl,_⟩:=ha; exact⟨ad,_,cap,rfl,hl⟩
 ·rename_i n';simp only[By] at ha;obtain⟨_,p,hp,hd⟩:=ha;split at hl
  ·rename_i e k l hlk;obtain⟨hst,sv,hk,ho⟩:=DX hm hp hlk;obtain⟨size,hk'⟩:=hd.resolve_left (Ck hst);rw[hk] at hk'; cases hk';simp only[Ae] at hl;rcases Ft ho with ⟨rfl,h0⟩ | ⟨g,cap,rfl,_⟩
   ·exact⟨wN,0,0,rfl,by rw[<- hl,h0]⟩
   ·exact⟨_,_,_,rfl,hl⟩
  ·rename_i e sz l hlk;obtain⟨hst,_,sv,rows,hk,_,_,ho⟩:=Ez hm hp hlk;obtain⟨size,hk'⟩:=hd.resolve_left (Ck hst);rw[hk] at hk'; cases hk';simp only[Ae] at hl;rcases Ft ho with ⟨rfl,h0⟩ | ⟨g,cap,rfl,_⟩
   ·exact⟨wN,0,0,rfl,by rw[<- hl,h0]⟩
   ·exact⟨_,_,_,rfl,hl⟩
  ·cases hl
 ·rename_i n' off len;cases hal:KY h n' with
  | false=>simp[hal] at hl
  | true =>
    simp only[hal,Aa,Ae] at hl;simp only[By] at ha;obtain⟨_,p,hp,hd⟩:=ha;obtain⟨sv,size,hk,hs⟩:=hd.resolve_left (Qa hm hp hal);unfold Ky at hs;split at hs
    ·obtain⟨_,a',cap,rfl,_⟩:=hs; exact⟨_,_,_,rfl,hl⟩
    ·obtain⟨_,rfl,rfl⟩:=hs; exact⟨_,_,_,rfl,hl⟩
    ·exact hs.elim
 ·cases hl
end
section
variable{P:Program}{E:Env}{I0:Nat->Prop}{B:Nat}{A:Nat->Option Place}{h:D6}{w:World}{t:TypeId}
theorem bnd{i:Int}{n:Nat}(h:(decide (0<=i)&&decide (i<n))=wc):0<=i/\i<n:=by simpa using h
theorem run_indexAt_slice{e:TypeId}(hu:P.underlying t=wM (.slice e)){es:Nat}(hes:(sizeOf e).run P w=.ok es w){b o len cap:Nat}{k:IntKind}{i:Int}(hi:0<=i/\i<len):
 (Instr.indexAt t (.slice (wM ⟨b,o,wN⟩) len cap) (.int k i)).run P w=.ok (.pointer (wM ⟨b,o+i.toNat*es,wN⟩)) w:=by
 obtain⟨h0,h1⟩:=hi;have:(⟨b,o,wN⟩:Addr).add (i.toNat*es)=⟨b,o+i.toNat*es,wN⟩:=Addr.add_lit _ _ _;simp[Instr.indexAt,asIntOf,run_underlying hu,h0,h1,hes,this]
theorem TZ(hty:∀t ti,E.ty t=wM ti->CC P t ti)(hm:Mem I0 B A h w){a:DV}{va:Value}{k:IntKind}{i:Int}{r:R}(ha:By (Cd I0 B A w) w a va)(hl:LP E h t a i=wM r)(hr:r.NK=wc):
 ∃v,(Instr.indexAt t va (.int k i)).run P w=.ok v w/\By (Cd I0 B A w) w r.v v:=by
 unfold LP at hl;split at hl
 ·rename_i e _ hT;have hu:=(hty _ _ hT).desc;simp only[CP] at hu;cases hE:E.ty e with
  | none=>simp[hE] at hl
  | some ei =>
  simp only[hE,Aj] at hl;have hes:=(hty _ _ hE).GQ w;split at hl
  ·cases hl
  ·rename_i g kk l hg;by_cases h1:ei.size=1
   ·simp only[h1,AI,Aa,Ae] at hl; subst hl;obtain⟨h0,hlt⟩:=bnd hr
    have hmain:∃cap b o,va=.slice (wM ⟨b,o,wN⟩) l.length cap/\(Cd I0 B A w).ok b/\∀(i:Nat) n,l[i]?=wM n->w.cell? ⟨b,o+i,wN⟩=wM (.int kk n):=by
     cases g with
     | own i e=>exact absurd rfl (hg i e)
     | arg=>simp only[By] at ha; obtain⟨ad,cap,rfl,_,hh⟩:=ha; rcases hh with rfl | ⟨b,o,rfl,hb,hrd⟩; (simp at hlt; omega); exact⟨cap,b,o,rfl,hb,hrd⟩
     | BE=>simp only[By] at ha; obtain⟨ad,cap,rfl,_,hh⟩:=ha; rcases hh with rfl | ⟨b,o,rfl,hb,hrd⟩; (simp at hlt; omega); exact⟨cap,b,o,rfl,hb.1,hrd⟩
    obtain⟨cap,b,o,rfl,hok,hrd⟩:=hmain;have hrun:=run_indexAt_slice (P:=P) (w:=w) (cap:=cap) (b:=b) (o:=o) (k:=k) hu (by rw[h1] at hes; exact hes) ⟨h0,hlt⟩;rw[AR] at hrun;refine⟨_,hrun,?_⟩;simp only[By]
    have hn:l[i.toNat]?=wM (l.getD i.toNat 0):=by
     have:i.toNat<l.length:=by omega
     simp[vC,this]
    refine⟨b,o+i.toNat,[.int kk (l.getD i.toNat 0)],rfl,hok,?_,?_⟩
    ·simp[BJ,By]
    ·intro j u hj;cases j with
     | zero=>simp at hj; subst hj; simpa using hrd _ _ hn
     | succ j=>simp at hj
   ·rw[show(ei.size==1)=wh by simpa using h1] at hl; simp at hl
  ·cases hl
  ·rename_i g sz l hg;by_cases h1:ei.size=sz
   ·simp only[h1,AI,Aa,Ae] at hl; subst hl;obtain⟨h0,hlt⟩:=bnd hr
    have hmain:∃cap b o rows,va=.slice (wM ⟨b,o,wN⟩) l.length cap/\(Cd I0 B A w).ok b/\Dm (Cd I0 B A w).bare w l rows/\(∀r∈rows,r.length=sz/\∀u∈r,u.oneCell'=wc)/\Fb w b o rows.flatten:=by
     cases g with
     | own i e=>exact absurd rfl (hg i e)
     | arg=>simp only[By] at ha; obtain⟨ad,cap,rfl,_,hh⟩:=ha; rcases hh with rfl | ⟨b,o,rows,rfl,hb,hrr,hlen,hrd⟩; (simp at hlt; omega); exact⟨cap,b,o,rows,rfl,hb,hrr,hlen,hrd⟩
     | BE=>simp only[By] at ha; obtain⟨ad,cap,rfl,_,hh⟩:=ha; rcases hh with rfl | ⟨b,o,rows,rfl,hb,hrr,hlen,hrd⟩; (simp at hlt; omega); exact⟨cap,b,o,rows,rfl,hb.1,hrr,hlen,hrd⟩
    obtain⟨cap,b,o,rows,rfl,hok,hrr,hlen,hrd⟩:=hmain;have hrun:=run_indexAt_slice (P:=P) (w:=w) (cap:=cap) (b:=b) (o:=o) (k:=k) hu (by rw[h1] at hes; exact hes) ⟨h0,hlt⟩;refine⟨_,hrun,?_⟩;simp only[By]
    have hn:l[i.toNat]?=wM (l.getD i.toNat []):=by
     have:i.toNat<l.length:=by omega
     simp[vC,this]
    obtain⟨row,hrow,hlr⟩:=hrr.get _ _ hn;refine⟨b,o+i.toNat*sz,row,rfl,hok,by rw[Zf (hlr.length.trans (hlen row (yT hrow)).1)]; exact hlr,fun j u hj=>?_⟩;rw[yo];exact hrd _ _ (KL (fun r hr=>(hlen r hr).1) _ _ hrow j u hj)
   ·rw[show(ei.size==sz)=wh by simpa using h1] at hl; simp at hl
  ·rename_i n;simp only[By] at ha;obtain⟨_,p,hp,hd⟩:=ha;split at hl
   ·rename_i e' kk l hlk;obtain⟨hst,sv,hk,ho⟩:=DX hm hp hlk;obtain⟨size,hk'⟩:=hd.resolve_left (Ck hst);rw[hk] at hk'; cases hk';by_cases h1:ei.size=1
    ·simp only[h1,AI,Aa,Ae] at hl; subst hl;obtain⟨h0,hlt⟩:=bnd hr;obtain⟨g,cap,rfl,_,_⟩:=Fu ho (by omega);have hrun:=run_indexAt_slice (P:=P) (w:=w) (cap:=cap) (b:=g) (o:=0) (k:=k) hu (by rw[h1] at hes; exact hes) ⟨h0,hlt⟩;refine⟨_,hrun,?_⟩;simp only[By];exact⟨rfl,p,hp,.inr (by unfold H9; rw[hk]; simp)⟩
    ·rw[show(ei.size==1)=wh by simpa using h1] at hl; simp at hl
   ·rename_i e' sz l hlk;obtain⟨hst,_,sv,rows,hk,hrr,hlen,ho⟩:=Ez hm hp hlk;obtain⟨size,hk'⟩:=hd.resolve_left (Ck hst);rw[hk] at hk'; cases hk';by_cases h1:ei.size=sz
    ·simp only[h1,AI,Aa,Ae] at hl; subst hl;obtain⟨h0,hlt⟩:=bnd hr;obtain⟨g,cap,rfl,_,_⟩:=Fu ho (by omega);have hrun:=run_indexAt_slice (P:=P) (w:=w) (cap:=cap) (b:=g) (o:=0) (k:=k) hu (by rw[h1] at hes; exact hes) ⟨h0,hlt⟩;refine⟨_,hrun,?_⟩;simp only[By];exact⟨rfl,p,hp,.inr (by unfold H9; rw[hk]; simp)⟩
    ·rw[show(ei.size==sz)=wh by simpa using h1] at hl; simp at hl
   ·cases hl
  ·rename_i n off len;simp only[By] at ha;obtain⟨_,p,hp,hd⟩:=ha
   have key:∀(sz:Nat) sv,p.kind=.row sv sz->Ky sv sz off len va->ei.size=sz->(0<=i/\i<len)->∃v,(Instr.indexAt t va (.int k i)).run P w=.ok v w/\By (Cd I0 B A w) w (.ptr n (off+i.toNat) 0) v:=by
    intro sz sv hk hs h1 hb;unfold Ky at hs;split at hs
    ·rename_i g nn cc;obtain⟨_,a',cap,rfl,_,ha'⟩:=hs;have ha':=ha'.resolve_left (by omega);subst ha';have hrun:=run_indexAt_slice (P:=P) (w:=w) (cap:=cap) (b:=g) (o:=off*sz) (k:=k) hu (by rw[h1] at hes; exact hes) hb;refine⟨_,hrun,?_⟩;simp only[By];exact⟨rfl,p,hp,.inr (by unfold H9; rw[hk]; simp[AM])⟩
    ·omega
    ·exact hs.elim
   split at hl
   ·rename_i e' kk l hlk;obtain⟨hst,sv,hk,ho⟩:=DX hm hp hlk;obtain⟨sv',size,hk',hs⟩:=hd.resolve_left (Ck hst);rw[hk] at hk'; cases hk';by_cases h1:ei.size=1
    ·simp only[h1,AI,Aa,Ae] at hl; subst hl;exact key 1 _ hk hs h1 (bnd hr)
    ·rw[show(ei.size==1)=wh by simpa using h1] at hl; simp at hl
   ·rename_i e' sz l hlk;obtain⟨hst,_,sv,rows,hk,hrr,hlen,ho⟩:=Ez hm hp hlk;obtain⟨sv',size,hk',hs⟩:=hd.resolve_left (Ck hst);rw[hk] at hk'; cases hk';by_cases h1:ei.size=sz
    ·simp only[h1,AI,Aa,Ae] at hl; subst hl;exact key sz _ hk hs h1 (bnd hr)
    ·rw[show(ei.size==sz)=wh by simpa using h1] at hl; simp at hl
   ·cases hl
  ·cases hl
 ·rename_i len e _ hT;have hu:=(hty _ _ hT).desc;simp only[CP] at hu;cases hE:E.ty e with
  | none=>simp[hE] at hl
  | some ei =>
  simp only[hE,Aj] at hl;have hes:=(hty _ _ hE).GQ w
  have run:∀b o,(0<=i/\i<len)->(Instr.indexAt t (.pointer (wM ⟨b,o,wN⟩)) (.int k i)).run P w=.ok (.pointer (wM ⟨b,o+i.toNat*ei.size,wN⟩)) w:=by intro b o hb;obtain⟨h0,h1⟩:=hb;have:(⟨b,o,wN⟩:Addr).add (i.toNat*ei.size)=⟨b,o+i.toNat*ei.size,wN⟩:=Addr.add_lit _ _ _;simp[Instr.indexAt,asIntOf,run_underlying hu,Instr.sureAddr,h0,h1,hes,this]
  split at hl
  ·rename_i n j;by_cases hq:(decide (1<len)&&KY h n)=wc
   ·simp only[hq,Aa,Ae] at hl; subst hl;simp only[By] at ha ⊢;obtain⟨_,p,hp,hd⟩:=ha;have hd:=hd.resolve_left (Qa hm hp (by simp at hq; exact hq.2));unfold H9 at hd;split at hd
    ·rename_i b hk;obtain⟨_,rfl⟩:=hd;exact⟨_,run _ _ (bnd hr),rfl,p,hp,.inr (by unfold H9; rw[hk]; exact⟨rfl,rfl⟩)⟩
    ·rename_i g _ _ size hk;subst hd;exact⟨_,run _ _ (bnd hr),rfl,p,hp,.inr (by unfold H9; rw[hk]; simp)⟩
    ·exact hd.elim
   ·simp only[zA] at hq; rw[hq] at hl; simp at hl
  ·rename_i cs;by_cases hq:1<len
   ·simp only[hq,decide_true,Aa,Ae] at hl; subst hl;simp only[By] at ha ⊢;obtain⟨b,o,vs,rfl,hok,hls,hread⟩:=ha;exact⟨_,run _ _ (bnd hr),b,o+i.toNat*ei.size,vs.drop (i.toNat*ei.size),rfl,hok,hls.drop _,Fb.drop hread _⟩
   ·simp[hq] at hl
  ·cases hl
 ·cases hl
theorem AcN(hty:∀t ti,E.ty t=wM ti->CC P t ti){c:Ctx}{a:DV}{va:Value}{k:IntKind}{i:Int}{r:R}(ha:By c w a va)(hl:Wl E t a i=wM r)(hr:r.NK=wc):
 ∃v,(Instr.index t va (.int k i)).run P w=.ok v w/\By c w r.v v:=by
 unfold Wl at hl;split at hl
 ·rename_i len e _ hT;have hu:=(hty _ _ hT).desc;simp only[CP] at hu;split at hl
  ·rename_i cs;cases hE:E.ty e with
   | none=>simp[hE] at hl
   | some ei =>
   simp only[hE,Aj] at hl;by_cases hq:(decide (len*ei.size<=cs.length)&&decide (0<ei.size))=wc
   ·simp only[hq,Aa,Ae] at hl; subst hl;obtain⟨h0,h1⟩:=bnd hr;simp only[Am,Ai] at hq;simp only[By] at ha;obtain⟨vs,rfl,hls⟩:=ha;have hin:i.toNat<len:=by omega
    have hbig:i.toNat*ei.size+ei.size<=len*ei.size:=by have:=An ei.size (show i.toNat+1<=len by omega);rw[z9] at this; exact this
    have hpd:UG ei cs (i.toNat*ei.size)=wM (cond ei.agg (.agg ((cs.drop (i.toNat*ei.size)).take ei.size)) (cs.getD (i.toNat*ei.size) .undef)):=by
     unfold UG;cases hag:ei.agg with
     | true=>simp only[Aa]; rw[show decide (i.toNat*ei.size+ei.size<=cs.length)=wc by simp; omega]; rfl
     | false=>simp only[Af]; rw[show decide (i.toNat*ei.size<cs.length)=wc by simp; omega]; rfl
    obtain⟨v,h2,h3⟩:=Xx (P:=P) (w:=w) (hty _ _ hE) hls hpd;refine⟨v,?_,h3⟩;simp[Instr.index,asIntOf,run_underlying hu,h0,h1,(hty _ _ hE).GQ w,h2]
   ·simp only[zA] at hq; rw[hq] at hl; simp at hl
  ·cases hl
 ·cases hl
end
def Gw:Option Int->Option Value->Prop
 | none,v=>v=wN
 | some x,v=>∃k,v=wM (.int k x)
theorem RG{α:Type}(lo hi:Option Int)(l:List α):Pk lo hi l=(l.take (hi.getD l.length).toNat).drop (lo.getD 0).toNat:=by cases lo<;>cases hi<;>simp[Pk]
theorem MT{lo hi mx:Option Int}{len:Nat}(h:okB lo hi mx len=wc):
 0<=lo.getD 0/\lo.getD 0<=hi.getD len/\0<=hi.getD len/\hi.getD len<=mx.getD len/\(∀m,mx=wM m->0<=m/\m<=len/\hi.isSome=wc):=by
 unfold okB at h;cases lo<;>cases hi<;>cases mx<;>simp at h ⊢<;>omega
theorem JI{α:Type}{sz:Nat}:∀{rows:List (List α)},(∀r∈rows,r.length=sz)->∀(n:Nat),(rows.take n).flatten=rows.flatten.take (n*sz)
 | [],_,n=>by simp
 | r0::rows,hl,n=>by
   have h0:r0.length=sz:=hl r0 (by simp);cases n with
   | zero=>simp
   | succ n =>simp only[List.take_succ_cons,yA];rw[JI (rows:=rows) (fun r hr=>hl r (by simp[hr])) n,z9,List.take_append,List.take_of_length_le (l:=r0) (by omega),h0,yC]
theorem LQ{α:Type}{sz:Nat}:∀{rows:List (List α)},(∀r∈rows,r.length=sz)->∀(n:Nat),(rows.drop n).flatten=rows.flatten.drop (n*sz)
 | [],_,n=>by simp
 | r0::rows,hl,n=>by
   have h0:r0.length=sz:=hl r0 (by simp);cases n with
   | zero=>simp
   | succ n =>simp only[List.drop_succ_cons,yA];rw[LQ (rows:=rows) (fun r hr=>hl r (by simp[hr])) n,z9,List.drop_append,List.drop_eq_nil_of_le (as:=r0) (by omega),h0,yC,List.nil_append]
theorem ED{w:World}{base:Nat}{e:TypeId}{size n:Nat}{v:Value}{xs:List Value}(h:w.ownsRow base e size v n xs):Ky v size 0 n v:=by
 rcases Ft h with ⟨rfl,rfl⟩ | ⟨g,cap,rfl,hc⟩
 ·simp[Ky]
 ·simp only[Ky]; exact⟨by omega,_,_,rfl,hc,.inr (by simp)⟩
section
variable{P:Program}{w:World}
theorem JO(k:IntKind){x:Int}{y:Nat}(h0:0<=x)(h1:x<=y)(code:BoundsCode):(Instr.sliceBound (.int k x) y code).run P w=.ok x.toNat w:=by simp[Instr.sliceBound,asIntOf,h0,h1]
theorem Zd{lo hi mx:Option Int}{vlo vhi vmx:Option Value}{len cap:Nat}(h:okB lo hi mx len=wc)(hc:len<=cap)(h1:Gw lo vlo)(h2:Gw hi vhi)(h3:Gw mx vmx):
 (Instr.sliceBounds wc len cap vlo vhi vmx).run P w=.ok ((lo.getD 0).toNat,(hi.getD len).toNat,(mx.getD cap).toNat) w:=by
 obtain⟨a1,a2,a3,a4,a5⟩:=MT h;cases mx with
 | none =>
   simp only[Gw] at h3; subst h3;simp only[y8] at a4;cases hi with
   | none =>
     simp only[Gw] at h2; subst h2;cases lo with
     | none=>simp only[Gw] at h1; subst h1; simp[Instr.sliceBounds]
     | some x =>obtain⟨k,rfl⟩:=h1;simp only[Be,y8] at a1 a2;simp[Instr.sliceBounds,JO k a1 a2]
   | some y =>
     obtain⟨k',rfl⟩:=h2;simp only[Be] at a2 a3 a4;have hy:=JO (P:=P) (w:=w) k' a3 (show y<=(cap:Int) by omega) .sliceAcap;cases lo with
     | none=>simp only[Gw] at h1; subst h1; simp[Instr.sliceBounds,hy]
     | some x =>obtain⟨k,rfl⟩:=h1;simp only[Be] at a1 a2;have hx:=JO (P:=P) (w:=w) k a1 (show x<=(y.toNat:Int) by omega) .sliceB;simp[Instr.sliceBounds,hy,hx]
 | some m =>
   obtain⟨k'',rfl⟩:=h3;obtain⟨b1,b2,b3⟩:=a5 m rfl;have hm:=JO (P:=P) (w:=w) k'' b1 (show m<=(cap:Int) by omega) .slice3Acap;cases hi with
   | none=>cases b3
   | some y =>
     obtain⟨k',rfl⟩:=h2;simp only[Be] at a2 a3 a4;have hy:=JO (P:=P) (w:=w) k' a3 (show y<=(m.toNat:Int) by omega) .slice3B;cases lo with
     | none=>simp only[Gw] at h1; subst h1; simp[Instr.sliceBounds,hm,hy]
     | some x =>obtain⟨k,rfl⟩:=h1;simp only[Be] at a1 a2;have hx:=JO (P:=P) (w:=w) k a1 (show x<=(y.toNat:Int) by omega) .slice3C;simp[Instr.sliceBounds,hm,hy,hx]
theorem Je{t e:TypeId}{es:Nat}(hu:P.underlying t=wM (.slice e))(hes:(sizeOf e).run P w=.ok es w){lo hi mx:Option Int}{vlo vhi vmx:Option Value}{a:Option Addr}{len cap:Nat}(h:okB lo hi mx len=wc)(hc:len<=cap)(h1:Gw lo vlo)(h2:Gw hi vhi)(h3:Gw mx vmx):
 (Instr.sliceAt t (.slice a len cap) vlo vhi vmx).run P w=.ok (.slice (if (mx.getD cap).toNat=(lo.getD 0).toNat then a else a.map (·.add ((lo.getD 0).toNat*es))) ((hi.getD len).toNat-(lo.getD 0).toNat) ((mx.getD cap).toNat-(lo.getD 0).toNat)) w:=by
 have hb:=Zd (P:=P) (w:=w) h hc h1 h2 h3;simp[Instr.sliceAt,Instr.slice,run_underlying hu,hb,hes]
variable{E:Env}{I0:Nat->Prop}{B:Nat}{A:Nat->Option Place}{h:D6}{t:TypeId}
theorem P3{lo hi mx:Option Int}{len cap:Nat}(h:okB lo hi mx len=wc)(hc:len<=cap):(lo.getD 0).toNat<=(hi.getD len).toNat/\(hi.getD len).toNat<=len/\(hi.getD len).toNat<=(mx.getD cap).toNat:=by
 obtain⟨a1,a2,a3,a4,a5⟩:=MT h;cases mx with
 | none=>simp only[y8] at *; omega
 | some m=>obtain⟨b1,b2,b3⟩:=a5 m rfl; simp only[Be] at *; omega
theorem RD{n:Nat}{p:Place}(hp:A n=wM p){sv:Value}{sz:Nat}(hk:p.kind=.row sv sz){e:TypeId}{es:Nat}(hu:P.underlying t=wM (.slice e))(hes:(sizeOf e).run P w=.ok es w)(h1:es=sz)
 {off len:Nat} {va:Value} (hs:Ky sv sz off len va) {lo hi mx:Option Int} {vlo vhi vmx:Option Value} (hq:okB lo hi mx len=wc) (hlo:Gw lo vlo) (hhi:Gw hi vhi) (hmx:Gw mx vmx):
 ∃v,(Instr.sliceAt t va vlo vhi vmx).run P w=.ok v w/\By (Cd I0 B A w) w (.J9 n (off+(lo.getD 0).toNat) ((hi.getD len)-(lo.getD 0)).toNat) v:=by
 obtain⟨a1,a2,a3,a4,a5⟩:=MT hq;have hsub:((hi.getD len)-(lo.getD 0)).toNat=(hi.getD len).toNat-(lo.getD 0).toNat:=by omega
 unfold Ky at hs;split at hs
 ·rename_i g nn cc;obtain⟨hle,a',cap,rfl,hcap,ha'⟩:=hs;obtain⟨c1,c2,c3⟩:=P3 hq hcap;refine⟨_,Je hu hes hq hcap hlo hhi hmx,?_⟩;simp only[By];refine⟨rfl,p,hp,.inr ⟨_,sz,hk,?_⟩⟩;unfold Ky;rw[hsub];refine⟨by omega,?_⟩;by_cases hm:(mx.getD ↑cap).toNat=(lo.getD 0).toNat
  ·rw[Az hm];exact⟨a',_,rfl,by omega,.inl (by omega)⟩
  ·rw[Ay hm];refine⟨_,_,rfl,by omega,?_⟩;by_cases h0:len=0
   ·exact .inl (by omega)
   ·have ha':=ha'.resolve_left h0;subst ha';refine .inr ?_;show(⟨g,off*sz,wN⟩:Addr).add _=_;rw[Addr.add_lit,h1,AM]
 ·obtain⟨rfl,rfl,rfl⟩:=hs;obtain⟨c1,c2,c3⟩:=P3 hq (AB 0);refine⟨_,Je hu hes hq (AB 0) hlo hhi hmx,?_⟩;simp only[By];refine⟨rfl,p,hp,.inr ⟨_,sz,hk,?_⟩⟩;unfold Ky;rw[hsub]
  have hmz:(mx.getD ((0:Nat):Int)).toNat=0:=by
   cases mx with
   | none=>rfl
   | some m=>have:=a5 m rfl; simp only[Be]; omega
  refine⟨by omega,by omega,?_⟩;have e1:(lo.getD 0).toNat=0:=by omega
  have e2:(hi.getD ((0:Nat):Int)).toNat=0:=by omega
  rw[hmz,e1,e2];rfl
 ·exact hs.elim
theorem AbX(hty:∀t ti,E.ty t=wM ti->CC P t ti)(hm:Mem I0 B A h w){a:DV}{va:Value}{lo hi mx:Option Int}{vlo vhi vmx:Option Value}{r:R}(ha:By (Cd I0 B A w) w a va)(hlo:Gw lo vlo)(hhi:Gw hi vhi)(hmx:Gw mx vmx)(hl:VC E h t a lo hi mx=wM r)(hr:r.NK=wc):
 ∃v,(Instr.sliceAt t va vlo vhi vmx).run P w=.ok v w/\By (Cd I0 B A w) w r.v v:=by
 unfold VC at hl;split at hl
 ·rename_i e _ hT;have hu:=(hty _ _ hT).desc;simp only[CP] at hu;cases hE:E.ty e with
  | none=>simp[hE] at hl
  | some ei =>
  simp only[hE,Aj] at hl;have hes:=(hty _ _ hE).GQ w;split at hl
  ·cases lo<;>cases hi<;>cases mx<;>simp at hl;subst hl;simp only[Gw] at hlo hhi hmx;subst hlo; subst hhi; subst hmx;simp only[By] at ha; subst ha;have:=Je (P:=P) (w:=w) (lo:=wN) (hi:=wN) (mx:=wN) (vlo:=wN) (vhi:=wN) (vmx:=wN) (a:=wN) (len:=0) (cap:=0) hu hes rfl (AB 0) rfl rfl rfl;exact⟨_,this,by simp[By]⟩
  ·cases hl
  ·rename_i g kk l hg;by_cases h1:ei.size=1
   ·simp only[h1,AI,Aa,Ae] at hl; subst hl;rw[h1] at hes
    have hmain:∃ad cap,va=.slice ad l.length cap/\l.length<=cap/\(l=[]\/∃b o,ad=wM ⟨b,o,wN⟩/\(Cd I0 B A w).F1 g b/\∀(i:Nat) n,l[i]?=wM n->w.cell? ⟨b,o+i,wN⟩=wM (.int kk n)):=by
     cases g with
     | own i e=>exact absurd rfl (hg i e)
     | arg=>simpa only[By] using ha
     | BE=>simpa only[By] using ha
    obtain⟨ad,cap,rfl,hcap,hh⟩:=hmain;obtain⟨c1,c2,c3⟩:=P3 hr hcap;obtain⟨a1,a2,a3,a4,a5⟩:=MT hr;refine⟨_,Je hu hes hr hcap hlo hhi hmx,?_⟩
    have hlen:(Pk lo hi l).length=(hi.getD l.length).toNat-(lo.getD 0).toNat:=by rw[RG]; simp; omega
    have goal:∃a' cap',(Value.slice (if (mx.getD cap).toNat=(lo.getD 0).toNat then ad else ad.map (·.add ((lo.getD 0).toNat*1))) ((hi.getD l.length).toNat-(lo.getD 0).toNat) ((mx.getD cap).toNat-(lo.getD 0).toNat))=.slice a' (Pk lo hi l).length cap'/\(Pk lo hi l).length<=cap'/\((Pk lo hi l)=[]\/∃b o,a'=wM ⟨b,o,wN⟩/\(Cd I0 B A w).F1 g b/\∀(i:Nat) n,(Pk lo hi l)[i]?=wM n->w.cell? ⟨b,o+i,wN⟩=wM (.int kk n)):=by
     rw[hlen];refine⟨_,_,rfl,by omega,?_⟩;by_cases h0:(hi.getD l.length).toNat-(lo.getD 0).toNat=0
     ·exact .inl (AJ (by omega))
     ·rcases hh with rfl | ⟨b,o,rfl,hb,hrd⟩
      ·simp only[xt] at *; omega
      ·refine .inr ⟨b,o+(lo.getD 0).toNat,?_,hb,fun i n hi'=>?_⟩
       ·rw[Ay (by omega)];simp only[yh,AR];rw[Addr.add_lit]
       ·rw[RG,yG] at hi'
        have hlt:(lo.getD 0).toNat+i<(hi.getD l.length).toNat:=by
         rcases AF ((lo.getD 0).toNat+i) (hi.getD l.length).toNat with h' | h'
         ·exact h'
         ·rw[yR h'] at hi'; cases hi'
        rw[yS hlt] at hi';rw[yo];exact hrd _ _ hi'
    cases g with
    | own i e=>exact absurd rfl (hg i e)
    | arg=>simpa only[By] using goal
    | BE=>simpa only[By] using goal
   ·rw[show(ei.size==1)=wh by simpa using h1] at hl; simp at hl
  ·cases hl
  ·rename_i g sz l hg;by_cases h1:ei.size=sz
   ·simp only[h1,AI,Aa,Ae] at hl; subst hl;rw[h1] at hes
    have hmain:∃ad cap,va=.slice ad l.length cap/\l.length<=cap/\(l=[]\/∃b o rows,ad=wM ⟨b,o,wN⟩/\(Cd I0 B A w).F1 g b/\Dm (Cd I0 B A w).bare w l rows/\(∀r∈rows,r.length=sz/\∀u∈r,u.oneCell'=wc)/\∀(i:Nat) u,rows.flatten[i]?=wM u->w.cell? ⟨b,o+i,wN⟩=wM u):=by
     cases g with
     | own i e=>exact absurd rfl (hg i e)
     | arg=>simpa only[By] using ha
     | BE=>simpa only[By] using ha
    obtain⟨ad,cap,rfl,hcap,hh⟩:=hmain;obtain⟨c1,c2,c3⟩:=P3 hr hcap;obtain⟨a1,a2,a3,a4,a5⟩:=MT hr;refine⟨_,Je hu hes hr hcap hlo hhi hmx,?_⟩
    have hlen:(Pk lo hi l).length=(hi.getD l.length).toNat-(lo.getD 0).toNat:=by rw[RG]; simp; omega
    have goal:∃a' cap',(Value.slice (if (mx.getD cap).toNat=(lo.getD 0).toNat then ad else ad.map (·.add ((lo.getD 0).toNat*sz))) ((hi.getD l.length).toNat-(lo.getD 0).toNat) ((mx.getD cap).toNat-(lo.getD 0).toNat))=.slice a' (Pk lo hi l).length cap'/\(Pk lo hi l).length<=cap'/\((Pk lo hi l)=[]\/∃b o rows,a'=wM ⟨b,o,wN⟩/\(Cd I0 B A w).F1 g b/\Dm (Cd I0 B A w).bare w (Pk lo hi l) rows/\(∀r∈rows,r.length=sz/\∀u∈r,u.oneCell'=wc)/\∀(i:Nat) u,rows.flatten[i]?=wM u->w.cell? ⟨b,o+i,wN⟩=wM u):=by
     rw[hlen];refine⟨_,_,rfl,by omega,?_⟩;by_cases h0:(hi.getD l.length).toNat-(lo.getD 0).toNat=0
     ·exact .inl (AJ (by omega))
     ·rcases hh with rfl | ⟨b,o,rows,rfl,hb,hrr,hlr,hrd⟩
      ·simp only[xt] at *; omega
      ·refine .inr ⟨b,o+(lo.getD 0).toNat*sz,(rows.take (hi.getD l.length).toNat).drop (lo.getD 0).toNat,?_,hb,?_,?_,?_⟩
       ·rw[Ay (by omega)];simp only[yh];rw[Addr.add_lit]
       ·rw[RG]; exact(hrr.take _).drop _
       ·exact fun r hr'=>hlr r (yU (List.mem_of_mem_drop hr'))
       ·intro i u hi';rw[yo];refine hrd _ _ ?_;rw[LQ (fun r hr'=>(hlr r (yU hr')).1),yG,JI (fun r hr'=>(hlr r hr').1)] at hi';rcases AF ((lo.getD 0).toNat*sz+i) ((hi.getD l.length).toNat*sz) with h' | h'
        ·rwa[yS h'] at hi'
        ·rw[yR h'] at hi'; cases hi'
    cases g with
    | own i e=>exact absurd rfl (hg i e)
    | arg=>simpa only[By] using goal
    | BE=>simpa only[By] using goal
   ·rw[show(ei.size==sz)=wh by simpa using h1] at hl; simp at hl
  ·rename_i n;simp only[By] at ha;obtain⟨_,p,hp,hd⟩:=ha;split at hl
   ·rename_i e' kk l hlk;obtain⟨hst,sv,hk,ho⟩:=DX hm hp hlk;obtain⟨size,hk'⟩:=hd.resolve_left (Ck hst);rw[hk] at hk'; cases hk';by_cases h1:ei.size=1
    ·simp only[h1,AI,Aa,Ae] at hl; subst hl;have:=RD (I0:=I0) (B:=B) (A:=A) (off:=0) (len:=l.length) hp hk hu hes h1 (va:=va) (ED ho) hr hlo hhi hmx;simpa using this
    ·rw[show(ei.size==1)=wh by simpa using h1] at hl; simp at hl
   ·rename_i e' sz l hlk;obtain⟨hst,_,sv,rows,hk,hrr,hlen,ho⟩:=Ez hm hp hlk;obtain⟨size,hk'⟩:=hd.resolve_left (Ck hst);rw[hk] at hk'; cases hk';by_cases h1:ei.size=sz
    ·simp only[h1,AI,Aa,Ae] at hl; subst hl;have:=RD (I0:=I0) (B:=B) (A:=A) (off:=0) (len:=l.length) hp hk hu hes h1 (va:=va) (ED ho) hr hlo hhi hmx;simpa using this
    ·rw[show(ei.size==sz)=wh by simpa using h1] at hl; simp at hl
   ·cases hl
  ·rename_i n off len;simp only[By] at ha;obtain⟨_,p,hp,hd⟩:=ha;split at hl
   ·rename_i e' kk l hlk;obtain⟨hst,sv,hk,ho⟩:=DX hm hp hlk;obtain⟨sv',size,hk',hs⟩:=hd.resolve_left (Ck hst);rw[hk] at hk'; cases hk';by_cases h1:ei.size=1
    ·simp only[h1,AI,Aa,Ae] at hl; subst hl;exact RD hp hk hu hes h1 hs hr hlo hhi hmx
    ·rw[show(ei.size==1)=wh by simpa using h1] at hl; simp at hl
   ·rename_i e' sz l hlk;obtain⟨hst,_,sv,rows,hk,hrr,hlen,ho⟩:=Ez hm hp hlk;obtain⟨sv',size,hk',hs⟩:=hd.resolve_left (Ck hst);rw[hk] at hk'; cases hk';by_cases h1:ei.size=sz
    ·simp only[h1,AI,Aa,Ae] at hl; subst hl;exact RD hp hk hu hes h1 hs hr hlo hhi hmx
    ·rw[show(ei.size==sz)=wh by simpa using h1] at hl; simp at hl
   ·cases hl
  ·cases hl
 ·cases hl
end
end Go.Den
end
