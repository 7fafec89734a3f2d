/- A verified evaluator of the program's form and its use for this seat: Den0, Den1, Den2, Den3, Den4, Den5, Den6, Den7, Den8, Den9. -/
import Derived.Below
import Derived.Orders
import Derived.Laws.MakeOwn
import Derived.Laws.Entries
import Derived.Laws.Cells
import Derived.Laws.StructEq
set_option linter.unusedVariables false
set_option linter.unusedSimpArgs false
open Option renaming some->xM,none->xN
open Bool renaming true->wg,false->wy
open List renaming getD->vB
open List renaming getD_eq_getElem?_getD->w8,drop_of_length_le->vd,getElem?_eq_getElem->vf,length_append->vi,eq_nil_of_length_eq_zero->vk,mem_cons_of_mem->vn,getElem?_append_right->vq,mem_cons_self->vr,getElem?_eq_none->vt,range->zg,replicate->zq,cons_append->wu,getElem?_drop->yB,getElem?_take_eq_none->yW,getElem?_take_of_lt->yG,getElem?_set->wx,flatten_cons->yH,mem_of_getElem?->yX,length_nil->xO,mem_of_mem_take->yZ
open Nat renaming mul_le_mul_right->w9,pow_le_pow_right->ve,eq_of_beq_eq_true->vg,div_div_eq_div_mul->vj,lt_of_le_of_lt->vm,lt_of_lt_of_le->vo,blt->yQ,beq->zj,succ_mul->yd,mod_lt->zv,add_assoc->yf,add_sub_cancel->yC
open Array renaming getElem?_eq_getElem->vh
open BitVec renaming ofInt->zp
open Option renaming map_some->z5,getD_none->xD
open Bool renaming and_true->xj,not_eq_true->zD
noncomputable section
theorem Go.Aa : type_of% @cond_true := @cond_true
theorem Go.Ac : type_of% @decide_eq_true := @decide_eq_true
theorem Go.Ad : type_of% @Int.toNat_natCast := @Int.toNat_natCast
theorem Go.Ae : type_of% @Option.some.injEq := @Option.some.injEq
theorem Go.Af : type_of% @cond_false := @cond_false
theorem Go.Ag : type_of% @decide_eq_false := @decide_eq_false
theorem Go.Ah : type_of% @Bool.and_self := @Bool.and_self
theorem Go.Ai : type_of% @decide_eq_true_eq := @decide_eq_true_eq
theorem Go.Aj : type_of% @Option.bind_some := @Option.bind_some
theorem Go.Ak : type_of% @Prod.mk.injEq := @Prod.mk.injEq
theorem Go.Al : type_of% @w8 := @w8
theorem Go.Am : type_of% @Bool.and_eq_true := @Bool.and_eq_true
theorem Go.An : type_of% @w9 := @w9
theorem Go.Ao : type_of% @Nat.mod_eq_of_lt := @Nat.mod_eq_of_lt
theorem Go.Ap : type_of% @vd := @vd
theorem Go.Aq : type_of% @ve := @ve
theorem Go.Ar : type_of% @Bool.eq_iff_iff := @Bool.eq_iff_iff
theorem Go.As : type_of% @vf := @vf
theorem Go.Au : type_of% @vg := @vg
theorem Go.Av : type_of% @decide_eq_false_iff_not := @decide_eq_false_iff_not
theorem Go.Aw : type_of% @vh := @vh
theorem Go.Ax : type_of% @Int.natCast_mul := @Int.natCast_mul
theorem Go.Ay : type_of% @if_neg := @if_neg
theorem Go.Az : type_of% @if_pos := @if_pos
theorem Go.A1 : type_of% @Nat.mul_comm := @Nat.mul_comm
theorem Go.A2 : type_of% @Nat.pow_add := @Nat.pow_add
theorem Go.A3 : type_of% @of_decide_eq_true := @of_decide_eq_true
theorem Go.A4 : type_of% @Nat.mul_assoc := @Nat.mul_assoc
theorem Go.A5 : type_of% @vi := @vi
theorem Go.A6 : type_of% @vj := @vj
theorem Go.A7 : type_of% @Nat.le_refl := @Nat.le_refl
theorem Go.A8 : type_of% @beq_eq_false_iff_ne := @beq_eq_false_iff_ne
theorem Go.A9 : type_of% @Nat.mul_le_mul := @Nat.mul_le_mul
theorem Go.AA : type_of% @Nat.lt_or_ge := @Nat.lt_or_ge
theorem Go.AB : type_of% @Nat.pow_zero := @Nat.pow_zero
theorem Go.AD : type_of% @Bool.not_true := @Bool.not_true
theorem Go.AE : type_of% @beq_self_eq_true := @beq_self_eq_true
theorem Go.AF : type_of% @vk := @vk
theorem Go.AG : type_of% @vm := @vm
theorem Go.AH : type_of% @List.length_range := @List.length_range
theorem Go.AI : type_of% @Nat.add_mul := @Nat.add_mul
theorem Go.AJ : type_of% @vn := @vn
theorem Go.AK : type_of% @List.length_map := @List.length_map
theorem Go.AL : type_of% @Nat.le_trans := @Nat.le_trans
theorem Go.AM : type_of% @Nat.add_zero := @Nat.add_zero
theorem Go.AN : type_of% @Nat.mul_one := @Nat.mul_one
theorem Go.AO : type_of% @Nat.zero_add := @Nat.zero_add
theorem Go.AP : type_of% @vo := @vo
theorem Go.AQ : type_of% @Bool.or_true := @Bool.or_true
theorem Go.AR : type_of% @Bool.true_and := @Bool.true_and
theorem Go.AS : type_of% @vq := @vq
theorem Go.AU : type_of% @vr := @vr
theorem Go.AV : type_of% @Nat.log2_lt := @Nat.log2_lt
theorem Go.AW : type_of% @List.getElem?_map := @List.getElem?_map
theorem Go.AY : type_of% @vt := @vt
theorem Go.AZ : type_of% @Bool.not_false := @Bool.not_false
theorem Go.Ba : type_of% @Option.getD_some := @Option.getD_some
abbrev Go.Bb:=List Int
namespace Go.Den
inductive Aai where
 | arg
 | BF
 | own (i:Nat) (e:TypeId)
 deriving DecidableEq
inductive DV where
 | undef
 | nil
 | bool (b:Bool)
 | int (k:IntKind) (n:Int)
 | fl (n:Nat)
 | nb (n:Nat)
 | agg (l:List DV)
 | Cw (l:List DV)
 | Bh (g:Aai) (k:IntKind) (l:Bb)
 | C3 (g:Aai) (sz:Nat) (l:List (List DV))
 | De (n:Nat)
 | Ky (n off len:Nat)
 | ptr (n i j:Nat)
 | CQ (cs:List DV)
 | fn (f:FuncId) (first captured:List DV)
 | gd (c:Bool) (d:DV)
inductive PSt where
 | live | frozen | dead
 deriving DecidableEq
inductive AnH where
 | box (b:Nat)
 | row (sv:Value) (size:Nat)
structure Place where
 st:PSt
 kind:AnH
def Place.FK(p:Place):Option Nat:=
 match p.kind with
 | .box b=>xM b
 | .row sv _=>sv.ownBlock
structure Ctx where
 ok:Nat->Prop
 B:Nat
 fr:Bool
 own:Nat->Option Nat
 at_:Nat->Option Place
def Fl(n:Nat):Bool:=(Ieee.double.read n).isNaN
def NC(n m:Nat):Prop:=n=m\/(Fl n=wg/\Fl m=wg)
def Lt(sv:Value)(size off len:Nat)(v:Value):Prop:=
 match sv with
 | .slice (some ⟨g,0,none⟩) n _=>off+len<=n/\∃a cap,v=.slice (xM a) len cap/\len<=cap/\(len=0\/a=⟨g,off*size,xN⟩)
 | .slice none 0 0=>off=0/\len=0/\v=.slice xN 0 0
 | _=>False
def Iv(p:Place)(i j:Nat)(v:Value):Prop:=
 match p.kind with
 | .box b=>i=0/\v=.pointer (xM ⟨b,j,xN⟩)
 | .row (.slice (some ⟨g,0,none⟩) _ _) size=>v=.pointer (xM ⟨g,i*size+j,xN⟩)
 | _=>False
def Ctx.bare(c:Ctx):Ctx:={ ok:=c.ok,B:=0,fr:=wy,own:=fun _=>xN,at_:=fun _=>xN }
def Ctx.FK(c:Ctx):Aai->Nat->Prop
 | .arg,b=>c.ok b
 | .BF,b=>c.ok b/\c.fr=wg/\c.B<=b
 | .own i _,b=>c.own i=xM b
mutual
def Bz(c:Ctx)(w:World):DV->Value->Prop
 | .undef,_=>True
 | .nil,v=>v=.slice xN 0 0
 | .bool b,v=>v=.bool b
 | .int k n,v=>v=.int k n
 | .fl n,v=>∃m,v=.float .f64 m/\NC n m
 | .nb n,v=>∃m:Nat,v=.int .u64 m/\NC n m
 | .agg l,v=>∃vs,v=.agg vs/\BN c w l vs.toList
 | .Cw l,v=>∃vs,v=.tuple vs/\BN c w l vs.toList
 | .Bh (.own i e) k l,v=>w.ownsRow c.B e 1 v l.length (l.map (Value.int k))/\∀b,v.ownBlock=xM b->c.own i=xM b
 | .Bh g k l,v=>∃a cap,v=.slice a l.length cap/\l.length<=cap/\(l=[]\/∃b o,a=xM ⟨b,o,xN⟩/\c.FK g b/\∀i n,l[i]?=xM n->w.cell? ⟨b,o+i,xN⟩=xM (.int k n))
 | .C3 (.own i e) sz l,v=>∃rows:List (List Value),Dp c.bare w l rows/\(∀r∈rows,r.length=sz/\∀u∈r,u.oneCell'=wg)/\w.ownsRow c.B e sz v l.length rows.flatten/\∀b,v.ownBlock=xM b->c.own i=xM b
 | .C3 g sz l,v=>∃a cap,v=.slice a l.length cap/\l.length<=cap/\(l=[]\/∃b o rows,a=xM ⟨b,o,xN⟩/\c.FK g b/\Dp c.bare w l rows/\(∀r∈rows,r.length=sz/\∀u∈r,u.oneCell'=wg)/\∀i u,rows.flatten[i]?=xM u->w.cell? ⟨b,o+i,xN⟩=xM u)
 | .De n,v=>v.oneCell'=wg/\∃p,c.at_ n=xM p/\(p.st=.dead\/∃size,p.kind=.row v size)
 | .Ky n off len,v=>v.oneCell'=wg/\∃p,c.at_ n=xM p/\(p.st=.dead\/∃sv size,p.kind=.row sv size/\Lt sv size off len v)
 | .ptr n i j,v=>v.oneCell'=wg/\∃p,c.at_ n=xM p/\(p.st=.dead\/Iv p i j v)
 | .CQ cs,v=>∃b o vs,v=.pointer (xM ⟨b,o,xN⟩)/\c.ok b/\BN c.bare w cs vs/\∀(i:Nat) u,vs[i]?=xM u->w.cell? ⟨b,o+i,xN⟩=xM u
 | .fn f fs cs,v=>∃fs' cs',v=.func (.func f) fs' cs'/\BN c w fs fs'.toList/\BN c w cs cs'.toList
 | .gd g d,v=>(g=wg->Bz c w d v)/\(g=wy->v=Go.undef)
def BN(c:Ctx)(w:World):List DV->List Value->Prop
 | [],vs=>vs=[]
 | d::ds,vs=>∃u us,vs=u::us/\Bz c w d u/\BN c w ds us
def Dp(c:Ctx)(w:World):List (List DV)->List (List Value)->Prop
 | [],rs=>rs=[]
 | d::ds,rs=>∃r rest,rs=r::rest/\BN c w d r/\Dp c w ds rest
end
structure JZ(c:Ctx)(w:World)(c':Ctx)(w':World):Prop where
 ok:∀b,c.ok b->c'.ok b
 B:c'.B=c.B
 fr:c'.fr=c.fr
 own:∀i b,c.own i=xM b->c'.own i=xM b
 at_:∀n p,c.at_ n=xM p->∃q,c'.at_ n=xM q/\(q.st=.dead\/(p.st≠.dead/\q.kind=p.kind))
 cell:∀b o,c.ok b->w'.cell? ⟨b,o,xN⟩=w.cell? ⟨b,o,xN⟩
 Ajy:∀i b,c.own i=xM b->w'.heap[b]?=w.heap[b]?
theorem JZ.FK{c c':Ctx}{w w':World}(h:JZ c w c' w'){g:Aai}{b:Nat}(hb:c.FK g b):c'.FK g b:=by
 cases g with
 | arg=>exact h.ok _ hb
 | BF=>exact⟨h.ok _ hb.1,by rw[h.fr]; exact hb.2.1,by rw[h.B]; exact hb.2.2⟩
 | own i e=>exact h.own _ _ hb
theorem HK{w w':World}{base:Nat}{e:TypeId}{size n:Nat}{v:Value}{xs:List Value}(h:w.ownsRow base e size v n xs)
 (hb:∀b,v.ownBlock=xM b->w'.heap[b]?=w.heap[b]?):w'.ownsRow base e size v n xs:=by
 obtain⟨h1,h2⟩:=h;refine⟨h1,?_⟩;rcases h2 with h2 | ⟨g,cap,cur,hv,hg,hh,r⟩
 ·exact Or.inl h2
 ·exact Or.inr ⟨g,cap,cur,hv,hg,by rw[hb g (by rw[hv]; rfl)]; exact hh,r⟩
theorem JZ.bare{c c':Ctx}{w w':World}(h:JZ c w c' w'):JZ c.bare w c'.bare w' :=⟨h.ok,rfl,rfl,fun _ _ h=>(by cases h),fun _ _ h=>(by cases h),h.cell,fun _ _ h=>(by cases h)⟩
mutual
theorem Bz.D4{c c':Ctx}{w w':World}(h:JZ c w c' w'):∀(d:DV) (v:Value),Bz c w d v->Bz c' w' d v
 | .undef,_,_=>by simp[Bz]
 | .nil,v,hv=>by simp only[Bz] at hv ⊢; exact hv
 | .bool b,v,hv=>by simp only[Bz] at hv ⊢; exact hv
 | .int k n,v,hv=>by simp only[Bz] at hv ⊢; exact hv
 | .fl n,v,hv=>by simp only[Bz] at hv ⊢; exact hv
 | .nb n,v,hv=>by simp only[Bz] at hv ⊢; exact hv
 | .agg l,v,hv=>by simp only[Bz] at hv ⊢;obtain⟨vs,e,hl⟩:=hv;exact⟨vs,e,BN.D4 h l _ hl⟩
 | .Cw l,v,hv=>by simp only[Bz] at hv ⊢;obtain⟨vs,e,hl⟩:=hv;exact⟨vs,e,BN.D4 h l _ hl⟩
 | .Bh (.own i e) k l,v,hv=>by simp only[Bz] at hv ⊢;obtain⟨hr,ho⟩:=hv;refine⟨?_,fun b hb=>h.own _ _ (ho b hb)⟩;rw[h.B];exact HK hr fun b hb=>h.Ajy _ _ (ho b hb)
 | .Bh .arg k l,v,hv=>by
   simp only[Bz] at hv ⊢;obtain⟨a,cap,e,hc,hl⟩:=hv;refine⟨a,cap,e,hc,hl.imp id ?_⟩
   rintro ⟨b,o,ha,hb,hr⟩
   exact⟨b,o,ha,h.FK hb,fun i n hi=>by rw[h.cell b _ hb]; exact hr i n hi⟩
 | .Bh .BF k l,v,hv=>by
   simp only[Bz] at hv ⊢;obtain⟨a,cap,e,hc,hl⟩:=hv;refine⟨a,cap,e,hc,hl.imp id ?_⟩
   rintro ⟨b,o,ha,hb,hr⟩
   exact⟨b,o,ha,h.FK hb,fun i n hi=>by rw[h.cell b _ hb.1]; exact hr i n hi⟩
 | .C3 (.own i e) sz l,v,hv=>by simp only[Bz] at hv ⊢;obtain⟨rows,hrr,hsz,hr,ho⟩:=hv;refine⟨rows,Dp.D4 h.bare l rows hrr,hsz,?_,fun b hb=>h.own _ _ (ho b hb)⟩;rw[h.B];exact HK hr fun b hb=>h.Ajy _ _ (ho b hb)
 | .C3 .arg sz l,v,hv=>by
   simp only[Bz] at hv ⊢;obtain⟨a,cap,e,hc,hl⟩:=hv;refine⟨a,cap,e,hc,hl.imp id ?_⟩
   rintro ⟨b,o,rows,ha,hb,hrr,hsz,hr⟩
   exact⟨b,o,rows,ha,h.FK hb,Dp.D4 h.bare l rows hrr,hsz,fun i n hi=>by rw[h.cell b _ hb]; exact hr i n hi⟩
 | .C3 .BF sz l,v,hv=>by
   simp only[Bz] at hv ⊢;obtain⟨a,cap,e,hc,hl⟩:=hv;refine⟨a,cap,e,hc,hl.imp id ?_⟩
   rintro ⟨b,o,rows,ha,hb,hrr,hsz,hr⟩
   exact⟨b,o,rows,ha,h.FK hb,Dp.D4 h.bare l rows hrr,hsz,fun i n hi=>by rw[h.cell b _ hb.1]; exact hr i n hi⟩
 | .De n,v,hv=>by
   simp only[Bz] at hv ⊢;obtain⟨h1,p,hp,hd⟩:=hv;obtain⟨q,hq,hk⟩:=h.at_ n p hp;refine⟨h1,q,hq,?_⟩;rcases hk with hk | ⟨hnd,hk⟩
   ·exact .inl hk
   ·rw[hk]; exact .inr (hd.resolve_left hnd)
 | .Ky n off len,v,hv=>by
   simp only[Bz] at hv ⊢;obtain⟨h1,p,hp,hd⟩:=hv;obtain⟨q,hq,hk⟩:=h.at_ n p hp;refine⟨h1,q,hq,?_⟩;rcases hk with hk | ⟨hnd,hk⟩
   ·exact .inl hk
   ·rw[hk]; exact .inr (hd.resolve_left hnd)
 | .ptr n i j,v,hv=>by
   simp only[Bz] at hv ⊢;obtain⟨h1,p,hp,hd⟩:=hv;obtain⟨q,hq,hk⟩:=h.at_ n p hp;refine⟨h1,q,hq,?_⟩;rcases hk with hk | ⟨hnd,hk⟩
   ·exact .inl hk
   ·have:=hd.resolve_left hnd;refine .inr ?_;unfold Iv at this ⊢;rw[hk]; exact this
 | .CQ cs,v,hv=>by simp only[Bz] at hv ⊢;obtain⟨b,o,vs,e,hb,hl,hr⟩:=hv;exact⟨b,o,vs,e,h.ok _ hb,BN.D4 h.bare cs vs hl,fun i u hi=>by rw[h.cell b _ hb]; exact hr i u hi⟩
 | .fn f fs cs,v,hv=>by simp only[Bz] at hv ⊢;obtain⟨fs',cs',e,h1,h2⟩:=hv;exact⟨fs',cs',e,BN.D4 h fs _ h1,BN.D4 h cs _ h2⟩
 | .gd g d,v,hv=>by simp only[Bz] at hv ⊢;exact⟨fun hg=>Bz.D4 h d v (hv.1 hg),hv.2⟩
theorem BN.D4{c c':Ctx}{w w':World}(h:JZ c w c' w'):∀(l:List DV) (vs:List Value),BN c w l vs->BN c' w' l vs
 | [],vs,hv=>by simp only[BN] at hv ⊢; exact hv
 | d::ds,vs,hv=>by simp only[BN] at hv ⊢;obtain⟨u,us,e,h1,h2⟩:=hv;exact⟨u,us,e,Bz.D4 h d u h1,BN.D4 h ds us h2⟩
theorem Dp.D4{c c':Ctx}{w w':World}(h:JZ c w c' w'):∀(l:List (List DV)) (rs:List (List Value)),Dp c w l rs->Dp c' w' l rs
 | [],vs,hv=>by simp only[Dp] at hv ⊢; exact hv
 | d::ds,vs,hv=>by simp only[Dp] at hv ⊢;obtain⟨u,us,e,h1,h2⟩:=hv;exact⟨u,us,e,BN.D4 h d u h1,Dp.D4 h ds us h2⟩
end
structure Ji(c c':Ctx):Prop where
 ok:∀b,c.ok b->c'.ok b
 fr:c.fr=wy
 own:∀i,c.own i=xN
 at_:∀n,c.at_ n=xN
theorem Ji.bare{c c':Ctx}(h:Ji c c'):Ji c.bare c'.bare:=⟨h.ok,rfl,fun _=>rfl,fun _=>rfl⟩
theorem Ji.Xz(c:Ctx):Ji c.bare c:=⟨fun _ h=>h,rfl,fun _=>rfl,fun _=>rfl⟩
theorem Q2{w:World}{base base':Nat}{e:TypeId}{size n:Nat}{v:Value}{xs:List Value}(h:w.ownsRow base e size v n xs)(hb:v.ownBlock=xN):w.ownsRow base' e size v n xs:=by
 obtain⟨h1,h2⟩:=h;refine⟨h1,?_⟩;rcases h2 with h2 | ⟨g,cap,cur,hv,_⟩
 ·exact Or.inl h2
 ·rw[hv] at hb; cases hb
mutual
theorem Bz.Fa{c c':Ctx}{w:World}(h:Ji c c'):∀(d:DV) (v:Value),Bz c w d v->Bz c' w d v
 | .undef,_,_=>by simp[Bz]
 | .nil,v,hv=>by simp only[Bz] at hv ⊢; exact hv
 | .bool b,v,hv=>by simp only[Bz] at hv ⊢; exact hv
 | .int k n,v,hv=>by simp only[Bz] at hv ⊢; exact hv
 | .fl n,v,hv=>by simp only[Bz] at hv ⊢; exact hv
 | .nb n,v,hv=>by simp only[Bz] at hv ⊢; exact hv
 | .agg l,v,hv=>by simp only[Bz] at hv ⊢;obtain⟨vs,e,hl⟩:=hv;exact⟨vs,e,BN.Fa h l _ hl⟩
 | .Cw l,v,hv=>by simp only[Bz] at hv ⊢;obtain⟨vs,e,hl⟩:=hv;exact⟨vs,e,BN.Fa h l _ hl⟩
 | .Bh (.own i e) k l,v,hv=>by
   simp only[Bz] at hv ⊢;obtain⟨hr,ho⟩:=hv
   have hn:v.ownBlock=xN:=by
    cases hvb:v.ownBlock with
    | none=>rfl
    | some b=>have:=ho b hvb; rw[h.own] at this; cases this
   exact⟨Q2 hr hn,fun b hb=>by rw[hn] at hb; cases hb⟩
 | .Bh .arg k l,v,hv=>by
   simp only[Bz] at hv ⊢;obtain⟨a,cap,e,hc,hl⟩:=hv;refine⟨a,cap,e,hc,hl.imp id ?_⟩
   rintro ⟨b,o,ha,hb,hr⟩
   exact⟨b,o,ha,h.ok _ hb,hr⟩
 | .Bh .BF k l,v,hv=>by
   simp only[Bz] at hv ⊢;obtain⟨a,cap,e,hc,hl⟩:=hv;refine⟨a,cap,e,hc,hl.imp id ?_⟩
   rintro ⟨b,o,ha,hb,hr⟩
   have:=hb.2.1; rw[h.fr] at this; cases this
 | .C3 (.own i e) sz l,v,hv=>by
   simp only[Bz] at hv ⊢;obtain⟨rows,hrr,hsz,hr,ho⟩:=hv
   have hn:v.ownBlock=xN:=by
    cases hvb:v.ownBlock with
    | none=>rfl
    | some b=>have:=ho b hvb; rw[h.own] at this; cases this
   exact⟨rows,Dp.Fa h.bare l rows hrr,hsz,Q2 hr hn,fun b hb=>by rw[hn] at hb; cases hb⟩
 | .C3 .arg sz l,v,hv=>by
   simp only[Bz] at hv ⊢;obtain⟨a,cap,e,hc,hl⟩:=hv;refine⟨a,cap,e,hc,hl.imp id ?_⟩
   rintro ⟨b,o,rows,ha,hb,hrr,hsz,hr⟩
   exact⟨b,o,rows,ha,h.ok _ hb,Dp.Fa h.bare l rows hrr,hsz,hr⟩
 | .C3 .BF sz l,v,hv=>by
   simp only[Bz] at hv ⊢;obtain⟨a,cap,e,hc,hl⟩:=hv;refine⟨a,cap,e,hc,hl.imp id ?_⟩
   rintro ⟨b,o,rows,ha,hb,hrr,hsz,hr⟩
   have:=hb.2.1; rw[h.fr] at this; cases this
 | .De n,v,hv=>by simp only[Bz] at hv;obtain⟨_,p,hp,hd⟩:=hv;rw[h.at_] at hp; cases hp
 | .Ky n off len,v,hv=>by simp only[Bz] at hv;obtain⟨_,p,hp,hd⟩:=hv;rw[h.at_] at hp; cases hp
 | .ptr n i j,v,hv=>by simp only[Bz] at hv;obtain⟨_,p,hp,hd⟩:=hv;rw[h.at_] at hp; cases hp
 | .CQ cs,v,hv=>by simp only[Bz] at hv ⊢;obtain⟨b,o,vs,e,hb,hl,hr⟩:=hv;exact⟨b,o,vs,e,h.ok _ hb,BN.Fa h.bare cs vs hl,hr⟩
 | .fn f fs cs,v,hv=>by simp only[Bz] at hv ⊢;obtain⟨fs',cs',e,h1,h2⟩:=hv;exact⟨fs',cs',e,BN.Fa h fs _ h1,BN.Fa h cs _ h2⟩
 | .gd g d,v,hv=>by simp only[Bz] at hv ⊢;exact⟨fun hg=>Bz.Fa h d v (hv.1 hg),hv.2⟩
theorem BN.Fa{c c':Ctx}{w:World}(h:Ji c c'):∀(l:List DV) (vs:List Value),BN c w l vs->BN c' w l vs
 | [],vs,hv=>by simp only[BN] at hv ⊢; exact hv
 | d::ds,vs,hv=>by simp only[BN] at hv ⊢;obtain⟨u,us,e,h1,h2⟩:=hv;exact⟨u,us,e,Bz.Fa h d u h1,BN.Fa h ds us h2⟩
theorem Dp.Fa{c c':Ctx}{w:World}(h:Ji c c'):∀(l:List (List DV)) (rs:List (List Value)),Dp c w l rs->Dp c' w l rs
 | [],vs,hv=>by simp only[Dp] at hv ⊢; exact hv
 | d::ds,vs,hv=>by simp only[Dp] at hv ⊢;obtain⟨u,us,e,h1,h2⟩:=hv;exact⟨u,us,e,BN.Fa h d u h1,Dp.Fa h ds us h2⟩
end
inductive TK where
 | bool | int (k:IntKind) | fl | ptr | slice (e:TypeId) | array (n:Nat) (e:TypeId) | struct (fs:List (Nat × TypeId)) | func | other
structure TI where
 size:Nat
 bytes:Nat
 kind:TK
 zero:List DV
def TI.agg(t:TI):Bool:=match t.kind with | .array .. | .struct _=>wg | _=>wy
inductive OB where
 | box (cs:List DV)
 | Bh (e:TypeId) (k:IntKind) (l:Bb)
 | C3 (e:TypeId) (sz:Nat) (l:List (List DV))
 | dead
abbrev DB:=List (Nat × Bool × OB)
def look:DB->Nat->Option (Bool × OB)
 | [],_=>xN
 | (m,x)::h,n=>bif m==n then xM x else look h n
def V4:DB->Nat->(Bool × OB)->DB
 | [],_,_=>[]
 | (m,x)::h,n,y=>bif m==n then (m,y)::h else (m,x)::V4 h n y
structure EC where
 pre:List DV->Bool
 out:List DV->DV
inductive Ext where
 | bits | M8 | sqrt | Air | Y5
inductive CK where
 | i (k:IntKind) | s (k:IntKind) | b | any
structure BH where
 CH:List Nat
 BW:List (Nat × Nat × Nat × OB)
 Cf:List Nat
structure Writer where
 elem:TypeId
 kind:IntKind
 pre:Bb->List DV->Bool
 out:Bb->List DV->Bb
structure Env where
 ty:TypeId->Option TI
 Il:FuncId->Option EC
 ext:FuncId->Option Ext
 eqs:TypeId->Bool
 ME:Nat->Bool
 live:Nat->Option (List Nat)
 hint:Nat->Option BH
 Ny:FuncId->Option TypeId:=fun _=>xN
 adv:TypeId->List CK:=fun _=>[]
 wr:FuncId->Option Writer:=fun _=>xN
 np:Nat:=0
def GL:Nat:=17592186044416
def QL:Nat:=1099511627776
def Lf(b:Nat):Nat:=bif Nat.ble b 8 then GL else QL
theorem Ur{b n:Nat}(h:n<=Lf b):n<=17592186044416:=by unfold Lf GL QL at h;cases hb:Nat.ble b 8<;>rw[hb] at h<;>simp at h<;>omega
theorem Sx{b n:Nat}(h:n<=Lf b)(hb:b<=128):n*b<=140737488355328:=by
 unfold Lf GL QL at h;cases h8:Nat.ble b 8 with
 | true =>rw[h8] at h; simp at h;have:b<=8:=Nat.le_of_ble_eq_true h8;have:=A9 h this;omega
 | false =>rw[h8] at h; simp at h;have:=A9 h hb;omega
structure R where
 OE:Bool
 v:DV
 BW:List OB:=[]
 GV:List Nat:=[]
def cells:DV->List DV
 | .agg cs=>cs
 | d=>[d]
def shaped(ti:TI)(cs:List DV):Option DV :=bif ti.agg then (bif decide (ti.size<=cs.length) then xM (.agg (cs.take ti.size)) else xN) else (match cs with | c::_=>xM c | []=>xN)
def P3:DV->Bool
 | .undef | .agg _ | .Cw _ | .gd ..=>wy
 | _=>wg
def LX:DV->Bool
 | .agg _=>wg
 | d=>P3 d
def G8(g:Bool):DV->DV × Bool
 | .gd c d=>(d,!g||c)
 | d=>(d,wg)
def scalar:DV->Bool
 | .bool _ | .int ..=>wg
 | _=>wy
def UI:DV->DV->Bool
 | .bool a,.bool b=>a==b
 | .int _ a,.int _ b=>a==b
 | _,_=>wy
def sameShape:List DV->List DV->Bool
 | [],[]=>wg
 | .bool _::l,.bool _::m=>sameShape l m
 | .int k _::l,.int k' _::m=>decide (k=k')&&sameShape l m
 | _,_=>wy
def Wr:List DV->List DV->Bool
 | a::as,b::bs=>UI a b&&Wr as bs
 | _,_=>wg
def nanBits:Nat:=0x7ff8000000000000
def BI(x y:Int):Bool:=
 match x,y with
 | .ofNat a,.ofNat b=>yQ a b
 | .ofNat _,.negSucc _=>wy
 | .negSucc _,.ofNat _=>wg
 | .negSucc a,.negSucc b=>yQ b a
def Eu(x y:Int):Bool:=
 match x,y with
 | .ofNat a,.ofNat b=>Nat.ble a b
 | .ofNat _,.negSucc _=>wy
 | .negSucc _,.ofNat _=>wg
 | .negSucc a,.negSucc b=>Nat.ble b a
theorem Bw(x y:Int):BI x y=decide (x<y):=by rw[Ar];unfold BI;cases x<;>cases y<;>simp[Nat.blt_eq]<;>omega
theorem DX(x y:Int):Eu x y=decide (x<=y):=by rw[Ar];unfold Eu;cases x<;>cases y<;>simp[Nat.ble_eq]<;>omega
def Np(op:BinOp)(k:IntKind)(x y:Int):Option R:=
 match op with
 | .add=>xM ⟨wg,.int k (k.wrap (x+y)),[],[]⟩
 | .sub=>xM ⟨wg,.int k (k.wrap (x-y)),[],[]⟩
 | .mul=>xM ⟨wg,.int k (k.wrap (x*y)),[],[]⟩
 | .quo=>xM ⟨y !=0,.int k (k.wrap (x.tdiv y)),[],[]⟩
 | .rem=>xM ⟨y !=0,.int k (x.tmod y),[],[]⟩
 | .and=>xM ⟨wg,.int k (k.wrap (zp k.bits x &&& zp k.bits y).toNat),[],[]⟩
 | .or=>xM ⟨wg,.int k (k.wrap (zp k.bits x ||| zp k.bits y).toNat),[],[]⟩
 | .xor=>xM ⟨wg,.int k (k.wrap (zp k.bits x ^^^ zp k.bits y).toNat),[],[]⟩
 | .andNot=>xM ⟨wg,.int k (k.wrap (zp k.bits x &&& ~~~(zp k.bits y)).toNat),[],[]⟩
 | .eql=>xM ⟨wg,.bool (x==y),[],[]⟩
 | .neq=>xM ⟨wg,.bool (x !=y),[],[]⟩
 | .lss=>xM ⟨wg,.bool (BI x y),[],[]⟩
 | .leq=>xM ⟨wg,.bool (Eu x y),[],[]⟩
 | .gtr=>xM ⟨wg,.bool (BI y x),[],[]⟩
 | .geq=>xM ⟨wg,.bool (Eu y x),[],[]⟩
 | _=>xN
def ZB(r:Option Nat):DV:=.fl (r.getD nanBits)
def Rd(op:BinOp)(x y:Nat):Option R:=
 match op with
 | .add=>xM ⟨wg,ZB (Ieee.double.add x y),[],[]⟩
 | .sub=>xM ⟨wg,ZB (Ieee.double.sub x y),[],[]⟩
 | .mul=>xM ⟨wg,ZB (Ieee.double.mul x y),[],[]⟩
 | .quo=>xM ⟨wg,ZB (Ieee.double.div x y),[],[]⟩
 | .eql=>xM ⟨wg,.bool (Ieee.double.order x y==xM .eq),[],[]⟩
 | .neq=>xM ⟨wg,.bool (Ieee.double.order x y !=xM .eq),[],[]⟩
 | .lss=>xM ⟨wg,.bool (Ieee.double.order x y==xM .lt),[],[]⟩
 | .leq=>xM ⟨wg,.bool (Ieee.double.order x y==xM .lt||Ieee.double.order x y==xM .eq),[],[]⟩
 | .gtr=>xM ⟨wg,.bool (Ieee.double.order x y==xM .gt),[],[]⟩
 | .geq=>xM ⟨wg,.bool (Ieee.double.order x y==xM .gt||Ieee.double.order x y==xM .eq),[],[]⟩
 | _=>xN
def Ak2(E:Env)(op:BinOp)(t:TypeId)(a b:DV):Option R:=
 match a,b with
 | .int k x,.int k' y =>
   match op with
   | .shl=>xM ⟨decide (0<=y),.int k (k.wrap (x*2^(min y.toNat k.bits))),[],[]⟩
   | .shr=>xM ⟨decide (0<=y),.int k (x.fdiv (2^(min y.toNat k.bits))),[],[]⟩
   | _=>bif decide (k=k') then Np op k x y else xN
 | .fl x,.fl y=>Rd op x y
 | .nb x,.int k y=>match op with
   | .andNot=>bif decide (k=.u64)&&decide (y=9223372036854775808) then xM ⟨wg,.nb (x%9223372036854775808),[],[]⟩ else xN
   | _=>xN
 | .bool x,.bool y=>match E.ty t with
   | some ⟨_,_,.bool,_⟩ =>
     match op with
     | .eql=>xM ⟨wg,.bool (x==y),[],[]⟩
     | .neq=>xM ⟨wg,.bool (!(x==y)),[],[]⟩
     | _=>xN
   | _=>xN
 | .agg x,.agg y =>
   bif E.eqs t&&(match E.ty t with | some ti=>sameShape ti.zero x&&sameShape ti.zero y | none=>wy) then
   match op with
   | .eql=>xM ⟨wg,.bool (Wr x y),[],[]⟩
   | .neq=>xM ⟨wg,.bool (!(Wr x y)),[],[]⟩
   | _=>xN
   else xN
 | _,_=>xN
def unD(op:UnOp)(a:DV):Option R:=
 match op,a with
 | .not,.bool b=>xM ⟨wg,.bool (!b),[],[]⟩
 | .neg,.int k x=>xM ⟨wg,.int k (k.wrap (0-x)),[],[]⟩
 | .xor,.int k x=>xM ⟨wg,.int k (k.wrap (zp k.bits (if k.signed then -1 else k.max) ^^^ zp k.bits x).toNat),[],[]⟩
 | _,_=>xN
def Adi(E:Env)(dst:TypeId)(src:TypeId)(a:DV):Option R:=
 match E.ty dst,E.ty src,a with
 | some ⟨_,_,.int k,_⟩,some ⟨_,_,.int _,_⟩,.int _ n=>xM ⟨wg,.int k (k.wrap n),[],[]⟩
 | some ⟨_,_,.fl,_⟩,some ⟨_,_,.int _,_⟩,.int _ n=>xM ⟨wg,.fl (Ieee.double.write (.number (decide (n<0)) n.natAbs 0)),[],[]⟩
 | some ⟨_,_,.fl,_⟩,some ⟨_,_,.fl,_⟩,.fl n=>xM ⟨wg,.fl n,[],[]⟩
 | _,_,_=>xN
def Wf(h:DB)(ti:TI)(a:DV):Option R:=
 match a with
 | .CQ cs=>(shaped ti cs).map fun v=>⟨wg,v,[],[]⟩
 | .ptr n i j =>
   match look h n with
   | some (_,.box cs)=>bif i==0&&decide (j<cs.length) then (shaped ti (cs.drop j)).map fun v=>⟨wg,v,[],[]⟩ else xN
   | some (_,.Bh _ k l)=>bif j==0&&!ti.agg then xM ⟨decide (i<l.length),.int k (l.getD i 0),[],[]⟩ else xN
   | some (_,.C3 _ sz l) =>
     bif ti.agg then (cond (decide (j+ti.size<=sz)) (xM ⟨decide (i<l.length),.agg (((l.getD i []).drop j).take ti.size),[],[]⟩) xN)
     else (cond (decide (j<sz)) (xM ⟨decide (i<l.length),(l.getD i []).getD j .undef,[],[]⟩) xN)
   | _=>xN
 | _=>xN
def Mg(h:DB)(n:Nat):Bool:=
 match look h n with
 | xM (_,.dead) | none=>wy
 | _=>wg
def Nf(E:Env)(h:DB)(t:TypeId)(f:Nat)(a:DV):Option R:=
 match E.ty t with
 | some ⟨_,_,.struct fs,_⟩ =>
   match fs[f]? with
   | some (off,ft)=>(E.ty ft).bind fun fi =>
     bif decide (0<fi.size) then
     match a with
     | .ptr n i j=>bif Mg h n then xM ⟨wg,.ptr n i (j+off),[],[]⟩ else xN
     | .CQ cs=>xM ⟨wg,.CQ (cs.drop off),[],[]⟩
     | _=>xN
     else xN
   | none=>xN
 | _=>xN
def VT(ti:TI)(cs:List DV)(off:Nat):Option DV:=
 bif ti.agg then (cond (decide (off+ti.size<=cs.length)) (xM (.agg ((cs.drop off).take ti.size))) xN)
 else (cond (decide (off<cs.length)) (xM (cs.getD off .undef)) xN)
def XS(E:Env)(t:TypeId)(f:Nat)(a:DV):Option R:=
 match E.ty t with
 | some ⟨_,_,.struct fs,_⟩ =>
   match fs[f]?,a with
   | some (off,ft),.agg cs=>(E.ty ft).bind fun ti=>(VT ti cs off).map fun v=>⟨wg,v,[],[]⟩
   | _,_=>xN
 | _=>xN
def AjW(h:DB):DV->Option Int
 | .nil=>xM 0
 | .Bh (.own _ _) _ _=>xN
 | .C3 (.own _ _) _ _=>xN
 | .Bh _ _ l=>xM l.length
 | .C3 _ _ l=>xM l.length
 | .De n=>match look h n with
   | some (_,.Bh _ _ l)=>xM l.length
   | some (_,.C3 _ _ l)=>xM l.length
   | _=>xN
 | .Ky n _ len=>bif Mg h n then xM len else xN
 | _=>xN
def rowOf(sz:Nat)(row:List DV):List DV:=(zg sz).map fun j=>row.getD j .undef
theorem AaG{sz:Nat}{row:List DV}(h:row.length=sz):rowOf sz row=row:=by
 unfold rowOf;refine List.ext_getElem? fun j=>?_
 rw[AW];by_cases hj:j<sz
 ·rw[List.getElem?_range hj,As (by omega)];simp[Al,As (show j<row.length by omega)]
 ·rw[AY (by rw[AH]; omega),AY (by omega)]; rfl
def MY(E:Env)(h:DB)(t:TypeId)(a:DV)(i:Int):Option R:=
 match E.ty t with
 | some ⟨_,_,.slice e,_⟩=>(E.ty e).bind fun ei =>
   match a with
   | .Bh (.own _ _) _ _=>xN
   | .Bh _ k l=>bif ei.size==1 then xM ⟨decide (0<=i)&&decide (i<l.length),.CQ [.int k (l.getD i.toNat 0)],[],[]⟩ else xN
   | .C3 (.own _ _) _ _=>xN
   | .C3 _ sz l=>bif ei.size==sz then xM ⟨decide (0<=i)&&decide (i<l.length),.CQ (rowOf sz (l.getD i.toNat [])),[],[]⟩ else xN
   | .De n=>match look h n with
     | some (_,.Bh _ _ l)=>bif ei.size==1 then xM ⟨decide (0<=i)&&decide (i<l.length),.ptr n i.toNat 0,[],[]⟩ else xN
     | some (_,.C3 _ sz l)=>bif ei.size==sz then xM ⟨decide (0<=i)&&decide (i<l.length),.ptr n i.toNat 0,[],[]⟩ else xN
     | _=>xN
   | .Ky n off len=>match look h n with
     | some (_,.Bh _ _ _)=>bif ei.size==1 then xM ⟨decide (0<=i)&&decide (i<len),.ptr n (off+i.toNat) 0,[],[]⟩ else xN
     | some (_,.C3 _ sz _)=>bif ei.size==sz then xM ⟨decide (0<=i)&&decide (i<len),.ptr n (off+i.toNat) 0,[],[]⟩ else xN
     | _=>xN
   | _=>xN
 | some ⟨_,_,.array len e,_⟩ =>
   (E.ty e).bind fun ei =>
   match a with
   | .ptr n 0 j=>bif decide (1<len)&&Mg h n then xM ⟨decide (0<=i)&&decide (i<len),.ptr n 0 (j+i.toNat*ei.size),[],[]⟩ else xN
   | .CQ cs=>bif decide (1<len) then xM ⟨decide (0<=i)&&decide (i<len),.CQ (cs.drop (i.toNat*ei.size)),[],[]⟩ else xN
   | _=>xN
 | _=>xN
def XM(E:Env)(t:TypeId)(a:DV)(i:Int):Option R:=
 match E.ty t with
 | some ⟨_,_,.array len e,_⟩ =>
   match a with
   | .agg cs=>(E.ty e).bind fun ei =>
     bif decide (len*ei.size<=cs.length)&&decide (0<ei.size) then
      xM ⟨decide (0<=i)&&decide (i<len),cond ei.agg (.agg ((cs.drop (i.toNat*ei.size)).take ei.size)) (cs.getD (i.toNat*ei.size) .undef),[],[]⟩
     else xN
   | _=>xN
 | _=>xN
def Ql{α:Type}(lo hi:Option Int)(l:List α):List α:=
 match lo,hi with
 | none,none=>l
 | some x,none=>l.drop x.toNat
 | none,some y=>l.take y.toNat
 | some x,some y=>(l.take y.toNat).drop x.toNat
def okB(lo hi mx:Option Int)(len:Nat):Bool:=
 (match lo with | some x=>decide (0<=x)&&decide (x<=hi.getD len) | none=>wg) &&
 (match hi with | some x=>decide (0<=x)&&decide (x<=mx.getD len) | none=>wg) &&
 (match mx with | some x=>decide (0<=x)&&decide (x<=len)&&hi.isSome | none=>wg)
def Xa(E:Env)(h:DB)(t:TypeId)(a:DV)(lo:Option Int)(hi:Option Int)(mx:Option Int):Option R:=
 match E.ty t with
 | some ⟨_,_,.slice e,_⟩=>(E.ty e).bind fun ei =>
   match a with
   | .nil=>bif lo.isNone&&hi.isNone&&mx.isNone then xM ⟨wg,.nil,[],[]⟩ else xN
   | .Bh (.own _ _) _ _=>xN
   | .Bh g k l=>bif ei.size==1 then xM ⟨okB lo hi mx l.length,.Bh g k (Ql lo hi l),[],[]⟩ else xN
   | .C3 (.own _ _) _ _=>xN
   | .C3 g sz l=>bif ei.size==sz then xM ⟨okB lo hi mx l.length,.C3 g sz (Ql lo hi l),[],[]⟩ else xN
   | .De n=>match look h n with
     | some (_,.Bh _ _ l)=>bif ei.size==1 then xM ⟨okB lo hi mx l.length,.Ky n (lo.getD 0).toNat ((hi.getD l.length)-(lo.getD 0)).toNat,[],[]⟩ else xN
     | some (_,.C3 _ sz l)=>bif ei.size==sz then xM ⟨okB lo hi mx l.length,.Ky n (lo.getD 0).toNat ((hi.getD l.length)-(lo.getD 0)).toNat,[],[]⟩ else xN
     | _=>xN
   | .Ky n off len=>match look h n with
     | some (_,.Bh _ _ _)=>bif ei.size==1 then xM ⟨okB lo hi mx len,.Ky n (off+(lo.getD 0).toNat) ((hi.getD len)-(lo.getD 0)).toNat,[],[]⟩ else xN
     | some (_,.C3 _ sz _)=>bif ei.size==sz then xM ⟨okB lo hi mx len,.Ky n (off+(lo.getD 0).toNat) ((hi.getD len)-(lo.getD 0)).toNat,[],[]⟩ else xN
     | _=>xN
   | _=>xN
 | _=>xN
def lower(h:DB):Nat->DV->Option (DV × List Nat)
 | 0,_=>xN
 | f+1,d =>
   let all (l:List DV):Option (List DV × List Nat):=l.foldr (fun d acc=>(lower h f d).bind fun(x,ns)=>acc.bind fun(xs,ms)=>xM (x::xs,ns++ms)) (xM ([],[]))
   match d with
   | .undef=>xM (.undef,[])
   | .nil=>xM (.nil,[])
   | .bool b=>xM (.bool b,[])
   | .int k n=>xM (.int k n,[])
   | .fl n=>xM (.fl n,[])
   | .nb n=>xM (.nb n,[])
   | .agg l=>(all l).bind fun(l,ns)=>xM (.agg l,ns)
   | .Cw _=>xN
   | .Bh (.own _ _) _ _=>xN
   | .Bh _ k l=>xM (.Bh .arg k l,[])
   | .C3 (.own _ _) _ _=>xN
   | .C3 _ sz l=>xM (.C3 .arg sz l,[])
   | .De n=>match look h n with
     | some (_,.Bh _ k l)=>xM (.Bh .arg k l,[n])
     | some (_,.C3 _ sz l)=>xM (.C3 .arg sz l,[n])
     | _=>xN
   | .Ky n off len=>match look h n with
     | some (_,.Bh _ k l)=>xM (.Bh .arg k ((l.drop off).take len),[n])
     | some (_,.C3 _ sz l)=>xM (.C3 .arg sz ((l.drop off).take len),[n])
     | _=>xN
   | .ptr n 0 j=>match look h n with
     | some (_,.box cs)=>(all (cs.drop j)).bind fun(l,ns)=>xM (.CQ l,n::ns)
     | _=>xN
   | .ptr ..=>xN
   | .CQ cs=>xM (.CQ cs,[])
   | .fn g a c=>(all a).bind fun(a,ns)=>(all c).bind fun(c,ms)=>xM (.fn g a c,ns++ms)
   | .gd ..=>xN
def H4(h:DB)(l:List DV):Option (List DV × List Nat) :=l.foldr (fun d acc=>(lower h 8 d).bind fun(x,ns)=>acc.bind fun(xs,ms)=>xM (x::xs,ns++ms)) (xM ([],[]))
structure St where
 tmps:List DV
 heap:DB
def J2(h:DB)(k:IntKind):DV->Option (Bb)
 | .nil=>xM []
 | .Bh (.own _ _) _ _=>xN
 | .Bh _ k' l=>bif decide (k=k') then xM l else xN
 | .De n=>match look h n with
   | some (_,.Bh _ k' l)=>bif decide (k=k') then xM l else xN
   | _=>xN
 | .Ky n off len=>match look h n with
   | some (_,.Bh _ k' l)=>bif decide (k=k') then xM ((l.drop off).take len) else xN
   | _=>xN
 | _=>xN
def Md(h:DB)(sz:Nat):DV->Option (List (List DV))
 | .nil=>xM []
 | .C3 (.own _ _) _ _=>xN
 | .C3 _ sz' l=>bif sz==sz' then xM l else xN
 | .De n=>match look h n with
   | some (_,.C3 _ sz' l)=>bif sz==sz' then xM l else xN
   | _=>xN
 | .Ky n off len=>match look h n with
   | some (_,.C3 _ sz' l)=>bif sz==sz' then xM ((l.drop off).take len) else xN
   | _=>xN
 | _=>xN
def IL(h:DB)(ns:List Nat):DB :=ns.foldl (fun h n=>match look h n with | some (_,o)=>V4 h n (wg,o) | none=>h) h
def FC:Nat->DV->Bool
 | 0,_=>wg
 | f+1,d=>match d with
   | .Bh .arg _ _=>wg
   | .C3 ..=>wg
   | .agg l=>l.any (FC f)
   | .Cw l=>l.any (FC f)
   | .undef | .CQ _ | .fn .. | .gd ..=>wg
   | _=>wy
def Jh(g:Nat->DV->Option (DV × List (Nat × OB) × List Nat)):Nat->List DV->Option (List DV × List (Nat × OB) × List Nat)
 | _,[]=>xM ([],[],[])
 | nm,d::l=>match g nm d with
   | some (x,os,is)=>match Jh g (nm+os.length) l with
     | some (xs,os',is')=>xM (x::xs,os++os',is++is')
     | none=>xN
   | none=>xN
def Fg(ad:Bool):Nat->Nat->DV->Option (DV × List (Nat × OB) × List Nat)
 | 0,_,_=>xN
 | f+1,nm,d =>
   match d with
   | .Bh (.own i e) k l=>bif ad then xM (.De nm,[(nm,.Bh e k l)],[i]) else xM (.Bh .BF k l,[],[])
   | .C3 (.own i e) sz l=>bif ad&&decide (0<sz) then xM (.De nm,[(nm,.C3 e sz l)],[i]) else bif ad then xN else xM (.C3 .BF sz l,[],[])
   | .agg l=>match Jh (Fg ad f) nm l with
     | some (l,os,is)=>xM (.agg l,os,is)
     | none=>xN
   | .Cw l=>match Jh (Fg ad f) nm l with
     | some (l,os,is)=>xM (.Cw l,os,is)
     | none=>xN
   | .De _ | .Ky .. | .ptr .. | .gd .. | .fn ..=>xN
   | d=>xM (d,[],[])
def Kf:List Nat->Bool
 | []=>wg
 | a::l=>!(l.contains a)&&Kf l
structure R2 where
 OE:Bool
 v:DV
 BW:List (Nat × OB)
 GV:List Nat
def R.up(r:R):R2:=⟨r.OE,r.v,[],[]⟩
def JT:DV->Int
 | .int _ x=>x
 | _=>0
def GC:DV->Bb
 | .Bh _ _ l=>l
 | _=>[]
def J3:DV->Bool
 | .bool b=>b
 | _=>wy
def Wl:CK->DV->Bool
 | .i k,.int k' _=>decide (k=k')
 | .s k,.Bh .arg k' _=>decide (k=k')
 | .s _,.nil=>wg
 | .b,.bool _=>wg
 | .any,_=>wg
 | _,_=>wy
def asC:CK->DV->DV
 | .i k,d=>.int k (JT d)
 | .s k,d=>.Bh .arg k (GC d)
 | .b,d=>.bool (J3 d)
 | .any,d=>d
def isL:List CK->Nat->List DV->Bool
 | [],_,_=>wg
 | c::cs,i,row=>Wl c (row.getD i .undef)&&isL cs (i+1) row
def asL:List CK->Nat->List DV->List DV
 | [],_,_=>[]
 | c::cs,i,row=>asC c (row.getD i .undef)::asL cs (i+1) row
def Aki(h:DB):DV->Bool
 | .CQ _=>wg
 | .ptr n _ _=>match look h n with
   | some (_,.C3 ..)=>wg
   | _=>wy
 | _=>wy
def S7(agg:Bool)(adv:List CK)(r:R):R2:=
 match adv with
 | []=>r.up
 | c::cs=>bif agg then (match r.v with
  | .agg l=>⟨r.OE&&(decide (l.length=(c::cs).length)&&isL (c::cs) 0 l),.agg (asL (c::cs) 0 l),[],[]⟩
  | _=>r.up)
   else ⟨r.OE&&Wl c r.v,asC c r.v,[],[]⟩
def Adq(E:Env)(h:DB)(nm:Nat)(ad:Bool)(g:FuncId)(args:List DV):Option R2:=
 (H4 h args).bind fun(as,ns)=>(E.Il g).bind fun e =>
  (Fg ad 6 nm (e.out as)).bind fun(v,os,is) =>
   bif Kf is then xM ⟨e.pre as,v,os,cond (FC 6 (e.out as)) ns ([])⟩ else xN
def L9(x y b:Int):Int:=((x.toNat+18446744073709551616-y.toNat-b.toNat)%18446744073709551616:Nat)
def G7(x y b:Int):Int:=(if x.toNat<y.toNat+b.toNat then 1 else 0:Nat)
def Ame(x:Ext)(args:List DV):Option R2:=
 match x,args with
 | .bits,[.fl n]=>xM ⟨wg,.nb n,[],[]⟩
 | .Air,[.fl n]=>xM ⟨!(Fl n),.int .u64 n,[],[]⟩
 | .M8,[.int .u64 n]=>xM ⟨decide (0<=n),.fl n.toNat,[],[]⟩
 | .M8,[.nb n]=>xM ⟨wg,.fl n,[],[]⟩
 | .sqrt,[.fl n]=>xM ⟨wg,ZB (Ieee.double.sqrt n),[],[]⟩
 | .Y5,[.int .u64 x,.int .u64 y,.int .u64 b]=>xM ⟨decide (b<=1),.Cw [.int .u64 (L9 x y b),.int .u64 (G7 x y b)],[],[]⟩
 | _,_=>xN
def QX(place:Nat->Option (Nat × Nat))(cs:List DV):List (Nat × DV)->Option (List DV)
 | []=>xM cs
 | (i,v)::rest =>
   match place i with
   | none=>xN
   | some (off,size)=>bif LX v&&(cells v).length==size&&decide (off+(cells v).length<=cs.length) then
    QX place ((cells v).zipIdx.foldl (fun cs (c,j)=>cs.set (off+j) c) cs) rest else xN
def Qy(E:Env):List (Nat × TypeId)->Option (List (Nat × Nat))
 | []=>xM []
 | (off,ft)::fs=>match E.ty ft with
   | some ti=>match Qy E fs with
     | some l=>xM ((off,ti.size)::l)
     | none=>xN
   | none=>xN
def SX(E:Env)(t:TypeId):Option (Nat->Option (Nat × Nat)):=
 match E.ty t with
 | some ⟨_,_,.struct fs,_⟩=>match Qy E fs with
   | some l=>xM fun i=>l[i]?
   | none=>xN
 | some ⟨_,_,.array _ e,_⟩=>match E.ty e with
   | some ti=>xM fun i=>xM (i*ti.size,ti.size)
   | none=>xN
 | _=>xN
def intOf:DV->Option Int
 | .int _ n=>xM n
 | _=>xN
def Ama:List DV->Option (Bb)
 | []=>xM []
 | .int _ n::l=>(Ama l).bind fun l=>xM (n::l)
 | _=>xN
def OQ(k:IntKind):List DV->Option (Bb)
 | []=>xM []
 | .int k' n::l=>if decide (k=k') then (match OQ k l with | some l=>xM (n::l) | none=>xN) else xN
 | _=>xN
def chunk(sz:Nat):Nat->List DV->List (List DV)
 | 0,_=>[]
 | n+1,l=>l.take sz::chunk sz n (l.drop sz)
def Oo(E:Env)(h:DB)(nm:Nat)(t:TypeId)(len:Nat)(parts:List (Nat × DV)):Option R2:=
 match E.ty t with
 | some ⟨_,_,.slice e,_⟩ =>
   (E.ty e).bind fun ei =>
    bif decide (len*ei.size<=4096)&&decide (0<ei.size) then
    (QX (fun i=>xM (i*ei.size,ei.size)) (zq len ei.zero).flatten parts).bind fun cs =>
     match ei.kind with
     | .int k=>bif ei.size==1 then (OQ k cs).bind fun l=>xM ⟨wg,.De nm,[(nm,.Bh e k l)],[]⟩ else xN
     | _=>bif cs.all P3 then (H4 h cs).bind fun(cs,ns)=>xM ⟨wg,.De nm,[(nm,.C3 e ei.size (chunk ei.size len cs))],ns⟩ else xN
    else xN
 | _=>xN
def PO(E:Env)(nm:Nat)(t:TypeId)(a c:DV):Option R2:=
 match E.ty t,a,c with
 | some ⟨_,_,.slice e,_⟩,.int _ x,.int _ y =>
   (E.ty e).bind fun ei =>
    bif decide (ei.bytes<=128)&&decide (0<ei.size) then
     let OE:=decide (0<=x)&&decide (x<=y)&&decide (y<=Lf ei.bytes)
     match ei.kind with
     | .int k=>match ei.zero with
       | [.int k' z]=>bif ei.size==1&&decide (k=k') then xM ⟨OE,.De nm,[(nm,.Bh e k (zq x.toNat z))],[]⟩ else xN
       | _=>xN
     | _=>xM ⟨OE,.De nm,[(nm,.C3 e ei.size (zq x.toNat ei.zero))],[]⟩
    else xN
 | _,_,_=>xN
def maxD(gt:Bool):DV->DV->Option DV
 | .int k x,.int _ y=>xM (.int k (cond gt (max x y) (min x y)))
 | _,_=>xN
def Sz(gt:Bool):DV->List DV->Option DV
 | a,[]=>xM a
 | a,b::l=>(maxD gt a b).bind fun c=>Sz gt c l
def AbB:Value->DV
 | .bool b=>.bool b
 | .int k n=>.int k n
 | .float .f64 n=>.fl n
 | .slice none 0 0=>.nil
 | _=>.undef
def Gp(l:List DV):Operand->DV
 | .tmp t=>l.getD t .undef
 | .const v=>AbB v
 | .global _=>.undef
 | .func f=>.fn f [] []
def MQ(ρ:Operand->DV):Option Operand->Option (Option Int)
 | none=>xM xN
 | some y=>(intOf (ρ y)).bind fun i=>xM (xM i)
def Ez(E:Env)(h:DB)(nm:Nat)(ρ:Operand->DV)(op:Op):Option R2:=
 match op with
 | .move x | .assign x=>xM ⟨wg,ρ x,[],[]⟩
 | .alloc t=>(E.ty t).bind fun ti=>xM ⟨wg,.ptr nm 0 0,[(nm,.box ti.zero)],[]⟩
 | .box t x=>(E.ty t).bind fun ti=>bif LX (ρ x)&&(cells (ρ x)).length==ti.size then xM ⟨wg,.ptr nm 0 0,[(nm,.box (cells (ρ x)))],[]⟩ else xN
 | .build t parts=>(E.ty t).bind fun ti=>(SX E t).bind fun pl=>(QX pl ti.zero (parts.toList.map fun(i,x)=>(i,ρ x))).bind fun cs=>xM ⟨wg,.agg cs,[],[]⟩
 | .buildSlice t len parts=>Oo E h nm t len (parts.toList.map fun(i,x)=>(i,ρ x))
 | .load t a=>(E.ty t).bind fun ti=>(Wf h ti (ρ a)).bind fun r=>xM (S7 ti.agg (cond (Aki h (ρ a)) (E.adv t) ([])) r)
 | .nilCheck x=>match ρ x with
   | .ptr n i j=>bif Mg h n then xM ⟨wg,.ptr n i j,[],[]⟩ else xN
   | .CQ cs=>xM ⟨wg,.CQ cs,[],[]⟩
   | .fn f a c=>xM ⟨wg,.fn f a c,[],[]⟩
   | _=>xN
 | .binOp op t x y _=>(Ak2 E op t (ρ x) (ρ y)).bind fun r=>xM r.up
 | .unOp op _ x=>(unD op (ρ x)).bind fun r=>xM r.up
 | .convert src dst x=>(Adi E dst src (ρ x)).bind fun r=>xM r.up
 | .makeFunc (.func f) first captured=>xM ⟨wg,.fn f (first.toList.map ρ) (captured.toList.map ρ),[],[]⟩
 | .makeSlice t l c=>PO E nm t (ρ l) (ρ c)
 | .slice t x lo hi mx =>
   (MQ ρ lo).bind fun lo=>(MQ ρ hi).bind fun hi=>(MQ ρ mx).bind fun mx=>(Xa E h t (ρ x) lo hi mx).bind fun r=>xM r.up
 | .fieldAddr t x f=>(Nf E h t f (ρ x)).bind fun r=>xM r.up
 | .field t x f=>(XS E t f (ρ x)).bind fun r=>xM r.up
 | .indexAddr t x i=>(intOf (ρ i)).bind fun i=>(MY E h t (ρ x) i).bind fun r=>xM r.up
 | .index t x i=>(intOf (ρ i)).bind fun i=>(XM E t (ρ x) i).bind fun r=>xM r.up
 | .extract t i=>match ρ t with
   | .Cw l=>(l[i]?).bind fun d=>xM ⟨wg,d,[],[]⟩
   | _=>xN
 | .call ⟨.builtin .len,args,ts⟩=>match args.toList,ts.toList with
   | [x],[t]=>match E.ty t with
     | some ⟨_,_,.slice _,_⟩=>(AjW h (ρ x)).bind fun n=>xM ⟨wg,.int .i64 n,[],[]⟩
     | _=>xN
   | _,_=>xN
 | .call ⟨.builtin .max,args,_⟩=>match args.toList with
   | x::l=>(Sz wg (ρ x) (l.map ρ)).bind fun v=>xM ⟨wg,v,[],[]⟩
   | _=>xN
 | .call ⟨.builtin .min,args,_⟩=>match args.toList with
   | x::l=>(Sz wy (ρ x) (l.map ρ)).bind fun v=>xM ⟨wg,v,[],[]⟩
   | _=>xN
 | .call ⟨.value f,args,_⟩=>match ρ f with
   | .fn g first captured=>match E.ext g with
     | some x=>match first,captured with
       | [],[]=>Ame x (args.toList.map ρ)
       | _,_=>xN
     | none=>Adq E h (1000+8*nm) (E.ME nm) g (first++args.toList.map ρ++captured)
   | _=>xN
 | _=>xN
def Ac0(c:Bool)(a b:DV):Option (Bool × DV):=
 match (G8 c a).1,(G8 (!c) b).1 with
 | .bool x,.bool y=>xM ((G8 c a).2&&(G8 (!c) b).2,.bool (cond c x y))
 | .int k x,.int k' y=>bif decide (k=k') then xM ((G8 c a).2&&(G8 (!c) b).2,.int k (cond c x y)) else xN
 | _,_=>xN
def setCells:List DV->Nat->List DV->List DV
 | cs,_,[]=>cs
 | cs,j,v::vs=>setCells (cs.set j v) (j+1) vs
def Rz(E:Env)(h:DB)(t:TypeId)(a v:DV):Option (Bool × DB):=
 (E.ty t).bind fun ti =>
 bif LX v&&(cells v).length==ti.size&&(cells v).all P3 then
 match a with
 | .ptr n i j=>match look h n with
   | some (false,.box cs)=>bif i==0&&decide (j+ti.size<=cs.length) then xM (wg,V4 h n (wy,.box (setCells cs j (cells v)))) else xN
   | some (false,.Bh e k l)=>match v with
     | .int k' x=>bif j==0&&decide (k=k') then xM (decide (i<l.length),V4 h n (wy,.Bh e k (l.set i x))) else xN
     | _=>xN
   | some (false,.C3 e sz l)=>(H4 h (cells v)).bind fun(vs,ns)=>bif decide (j+ti.size<=sz)&&ns.isEmpty then
    xM (decide (i<l.length),V4 h n (wy,.C3 e sz (l.set i (setCells (l.getD i []) j vs)))) else xN
   | _=>xN
 | _=>xN
 else xN
def LS(E:Env)(h:DB)(nm:Nat)(t:TypeId)(s x:DV):Option (Bool × DV × DB):=
 match E.ty t with
 | some ⟨_,_,.slice e,_⟩ =>
   (E.ty e).bind fun ei =>
   bif decide (ei.bytes<=128)&&decide (0<ei.size)&&(look h nm).isNone then
   match s with
   | .nil=>match ei.kind with
     | .int k=>bif ei.size==1 then (J2 h k x).bind fun l=>xM (decide (l.length<=Lf ei.bytes),.De nm,(nm,wy,.Bh e k l)::h) else xN
     | _=>(Md h ei.size x).bind fun l=>xM (decide (l.length<=Lf ei.bytes),.De nm,(nm,wy,.C3 e ei.size l)::h)
   | .De n=>match look h n with
     | some (false,.Bh e' k l')=>(J2 h k x).bind fun l=>bif e==e'&&ei.size==1 then xM (decide (l'.length+l.length<=Lf ei.bytes),.De nm,(nm,wy,.Bh e k (l'++l))::V4 h n (wy,.dead)) else xN
     | some (false,.C3 e' sz l')=>(Md h sz x).bind fun l=>bif e==e'&&sz==ei.size then xM (decide (l'.length+l.length<=Lf ei.bytes),.De nm,(nm,wy,.C3 e sz (l'++l))::V4 h n (wy,.dead)) else xN
     | _=>xN
   | _=>xN
   else xN
 | _=>xN
def PC(l:List DV)(o:Option Nat)(v:DV):List DV:=
 match o with
 | some d=>l.set d v
 | none=>l
def MA(ops:Array Oper)(l:List DV)(o:Oper):Option (Option Bool):=
 match o.guard with
 | none=>xM xN
 | some (j,want)=>match (ops[j]?).bind (·.dst) with
   | some d=>match l.getD d .undef with
     | .bool b=>xM (xM (b==want))
     | .gd c (.bool b)=>xM (xM (c&&(b==want)))
     | _=>xN
   | none=>xN
def PF(g:Bool)(ρ:Operand->DV)(xs:List Operand):Bool:=xs.all fun x=>(G8 g (ρ x)).2
def QZ(l x:Bb):Bb:=x.take l.length++l.drop x.length
def LD(E:Env)(h:DB)(ρ:Operand->DV)(g?:Option Bool):Op->Option (Nat × Bool × DV × OB)
 | .call ⟨.value f,args,_⟩=>match g?,ρ f,args.toList with
   | none,.fn g [] [],x::xs=>match E.wr g with
     | some W=>(match ρ x with
       | .De n=>match look h n with
         | some (false,.Bh e k l)=>(H4 h (xs.map ρ)).bind fun(ds,ns)=>bif e==W.elem&&decide (k=W.kind)&&!(ns.contains n) then xM (n,W.pre l ds,.undef,.Bh e k (W.out l ds)) else xN
         | _=>xN
       | _=>xN)
     | none=>match E.Ny g,ρ x,xs with
       | some e,.agg [.int .i64 _,.int .i64 _,.De n],[]=>(match look h n with
         | some (false,.Bh e' .u64 _)=>bif e==e' then xM (n,wg,.undef,.dead) else xN
         | _=>xN)
       | _,_,_=>xN
   | _,_,_=>xN
 | .call ⟨.builtin .copy,args,ts⟩=>match g?,args.toList,ts.toList with
   | none,[x,y],[t,_]=>match ρ x,E.ty t with
     | .De n,some ⟨_,_,.slice e,_⟩=>(match look h n,E.ty e with
       | some (false,.Bh e' k l),some ei=>(J2 h k (ρ y)).bind fun z=>bif e==e'&&ei.size==1 then xM (n,wg,.int .i64 (min z.length l.length:Nat),.Bh e' k (QZ l z)) else xN
       | _,_=>xN)
     | _,_=>xN
   | _,_,_=>xN
 | _=>xN
def Kc(E:Env)(ops:Array Oper)(draw:Bool)(st:St)(o:Oper):Option (Bool × St):=
 (MA ops st.tmps o).bind fun g? =>
 let g:=g?.getD wg
 let nm:=o.dst.getD 0
 let ρ:=Gp st.tmps
 let wrap (v:DV):DV:=match g? with | some c=>.gd c v | none=>v
 match o.op with
 | .pick c a b =>
   (match (G8 g (ρ c)).1 with
   | .bool c'=>(Ac0 c' (ρ a) (ρ b)).bind fun(r,v)=>xM (!g||((G8 g (ρ c)).2&&r),{ st with tmps:=PC st.tmps o.dst (wrap v) })
   | _=>xN)
 | .store t a x=>match g? with
   | none=>(Rz E st.heap t (ρ a) (ρ x)).bind fun(r,h)=>xM (r,{ tmps:=PC st.tmps o.dst .undef,heap:=h })
   | some _=>xN
 | .call ⟨.builtin .append,args,ts⟩=>match g?,args.toList,ts.toList with
   | none,[s,x],[t,t']=>bif t==t'&&o.dst.isSome then (LS E st.heap nm t (ρ s) (ρ x)).bind fun(r,v,h)=>xM (r,{ tmps:=PC st.tmps o.dst v,heap:=h }) else xN
   | _,_,_=>xN
 | op=>match bif draw then xN else LD E st.heap ρ g? op with
  | some (n,r,v,ob)=>xM (r,{ tmps:=PC st.tmps o.dst v,heap:=V4 st.heap n (wy,ob) })
  | none =>
   (Ez E st.heap nm (fun x=>(G8 g (ρ x)).1) op).bind fun r =>
    bif (r.BW.all fun(n,_)=>(look st.heap n).isNone)&&Kf (r.BW.map (·.1))&&(r.BW.isEmpty||o.dst.isSome)&&(r.GV.isEmpty||r.GV.all fun n=>(look st.heap n).isSome) then
     xM (cond r.GV.isEmpty (!g||(PF g ρ op.operands.toList&&r.OE)) (g&&(PF g ρ op.operands.toList&&r.OE)),
      { tmps:=PC st.tmps o.dst (wrap r.v),heap:=(r.BW.map fun(n,ob)=>(n,wy,ob))++IL st.heap r.GV })
    else xN
def AlF(E:Env)(o:Oper):Bool:=match o.dst with
 | some t=>yQ t E.np
 | none=>wy
def Sn(E:Env)(ops:Array Oper)(draw:Bool)(st:St)(o:Oper):Option (Bool × St):=bif AlF E o then xN else Kc E ops draw st o
def Ajz{β:Type}(E:Env)(ops:Array Oper)(draw:Bool):List Oper->St->(St->Option β)->Option β
 | [],st,K=>K st
 | o::os,st,K=>match Sn E ops draw st o with
   | some (r,st')=>bif r then Ajz E ops draw os st' K else xN
   | none=>xN
def forget(CH:Option (List Nat))(st:St):St:=
 match CH with
 | none=>st
 | some ks=>{ st with tmps:=st.tmps.zipIdx.map fun(d,i)=>cond (ks.contains i) d .undef }
def K7(n:Nat):List Nat->Bool
 | []=>wy
 | m::l=>bif zj n m then wg else K7 n l
def H7(o:Oper):List Nat:=o.after.toList.filterMap fun e=>bif Region.binds .any e then xM e.on else xN
def SF(D:List (List Nat))(i j:Nat):Bool:=K7 i (D.getD j [])||(D.getD j []).any fun m=>K7 i (D.getD m [])
def Lp(D:List (List Nat))(i j:Nat):Bool:=!(zj i j)&&(!(SF D i j)&&!(SF D j i))
def Zi(ms:List Nat)(h:DB):DB:=h.filter fun x=>!(K7 x.1 ms)
def Akb(ms:List Nat)(h:DB):DB:=h.filter fun x=>K7 x.1 ms
def AgT:DV->List Nat
 | .ptr n _ _=>[n]
 | _=>[]
def X9:DV->List Nat
 | .De n=>[n]
 | _=>[]
def An0(st:St)(o:Oper):List Nat:=
 match o.op with
 | .store _ a _=>AgT (Gp st.tmps a)
 | .call ⟨.builtin .append,args,_⟩=>match args.toList with
   | [s,_]=>X9 (Gp st.tmps s)
   | _=>[]
 | _=>[]
def Pz:Op->Bool
 | .store ..=>wg
 | .call ⟨.builtin .append,_,_⟩=>wg
 | _=>wy
def F5(E:Env)(ops:Array Oper)(st:St)(o:Oper):List Nat:=
 bif Pz o.op then An0 st o else match MA ops st.tmps o with
 | none=>[]
 | some g?=>match Ez E st.heap (o.dst.getD 0) (fun x=>(G8 (g?.getD wg) (Gp st.tmps x)).1) o.op with
   | some r=>r.GV
   | none=>[]
def Zh:Op->Bool
 | .store ..=>wg
 | .buildSlice ..=>wg
 | .call ⟨.builtin .append,_,_⟩=>wg
 | .call ⟨.value _,_,_⟩=>wg
 | _=>wy
def Mb(ms:List Nat)(st:St):St:=
 match ms with
 | []=>st
 | n::ms=>⟨st.tmps,Zi (n::ms) st.heap⟩
def Y8(E:Env)(ops:Array Oper)(ms:List Nat)(st:St)(o:Oper):Option (Bool × St):=
 match ms with
 | []=>Sn E ops wg st o
 | n::ms=>match Sn E ops wg ⟨st.tmps,Zi (n::ms) st.heap⟩ o with
   | some (r,st')=>bif st'.heap.all fun x=>!(K7 x.1 (n::ms)) then xM (r,⟨st'.tmps,st'.heap++Akb (n::ms) st.heap⟩) else xN
   | none=>xN
def GP(D:List (List Nat))(k:Nat):List (Nat × List Nat)->List Nat
 | []=>[]
 | (s,ns)::M=>bif Lp D s k then ns++GP D k M else GP D k M
def K4(k:Nat):List (Nat × List Nat)->List Nat
 | []=>[]
 | (s,ns)::M=>bif zj s k then ns++K4 k M else K4 k M
def NZ(D:List (List Nat))(k:Nat):Bool:=(zg D.length).any fun j=>Lp D k j
def Ac1{β:Type}(E:Env)(ops:Array Oper)(D:List (List Nat))(M:List (Nat × List Nat)):Nat->List Oper->St->(St->Option β)->Option β
 | _,[],st,K=>K st
 | k,o::os,st,K=>match Y8 E ops (GP D k M) st o with
   | some (r,st')=>bif r&&(!(NZ D k)||(F5 E ops (Mb (GP D k M) st) o).all fun n=>K7 n (K4 k M)) then Ac1 E ops D M (k+1) os st' K else xN
   | none=>xN
def XN(E:Env)(ops:Array Oper):Nat->List Oper->St->List (Nat × List Nat)
 | _,[],_=>[]
 | k,o::os,st=>match Sn E ops wg st o with
   | some (_,st')=>bif Zh o.op then (k,F5 E ops st o)::XN E ops (k+1) os st' else XN E ops (k+1) os st'
   | none=>[]
def XU(ops:Array Oper)(D:List (List Nat)):Bool:=
 (zg D.length).all fun k =>
  (D.getD k []).all (fun i=>yQ i k) &&
  match ops[k]? with
  | none=>wy
  | some o=>(zg D.length).all fun j=>match ops[j]? with
    | none=>wy
    | some p=>match p.dst with
      | none=>wg
      | some t=>(zj j k||!(o.dst==xM t))&&(!(K7 t (o.looksAt ops))||(SF D j k||SF D k j))
def Abi(ops:Array Oper)(D:List (List Nat)):Nat->List Oper->Bool
 | _,[]=>wy
 | k,o::os=>(Zh o.op&&NZ D k)||Abi ops D (k+1) os
def AhZ{β:Type}(E:Env)(ops:Array Oper)(st:St)(K:St->Option β):Option β:=
 bif XU ops (ops.toList.map H7) then
  Ac1 E ops (ops.toList.map H7) (cond (Abi ops (ops.toList.map H7) 0 ops.toList) (XN E ops 0 ops.toList st) ([])) 0 ops.toList st K
 else xN
def EG:Nat->List Nat->DV->Bool
 | 0,_,_=>wy
 | f+1,ns,d=>match d with
   | .De n | .Ky n _ _ | .ptr n _ _=>ns.contains n
   | .agg l | .Cw l=>l.all (EG f ns)
   | .fn _ a c=>a.all (EG f ns)&&c.all (EG f ns)
   | .gd _ d=>EG f ns d
   | _=>wg
def Qm(st:St):Nat × Nat × Nat × OB->DV
 | (0,s,_,_)=>st.tmps.getD s .undef
 | (b+1,j,_,_)=>match look st.heap b with
   | some (_,.box cs)=>cs.getD j .undef
   | _=>.undef
def X1(st:St)(x:Nat × Nat × Nat × OB):Option (Option Nat × OB):=
 match Qm st x with
 | .nil=>match x.2.2.2 with
   | .Bh e k []=>xM (xN,.Bh e k [])
   | .C3 e sz []=>bif yQ 0 sz then xM (xN,.C3 e sz []) else xN
   | _=>xN
 | .De n=>match look st.heap n with
   | some (false,.Bh e k l)=>xM (xM n,.Bh e k l)
   | some (false,.C3 e sz l)=>xM (xM n,.C3 e sz l)
   | _=>xN
 | _=>xN
def TW(st:St):List (Nat × Nat × Nat × OB)->Option (DB × List Nat)
 | []=>xM ([],[])
 | x::xs=>match X1 st x with
   | some (s,ob)=>match TW st xs with
     | some (h,ns)=>xM ((x.2.2.1,wy,ob)::h,s.toList++ns)
     | none=>xN
   | none=>xN
def Jy(b j:Nat):List (Nat × Nat × Nat × OB)->Option Nat
 | []=>xN
 | (b',j',nm,_)::xs=>bif zj b b'&&zj j j' then xM nm else Jy b j xs
def PY(BW:List (Nat × Nat × Nat × OB))(b:Nat):Nat->List DV->List DV
 | _,[]=>[]
 | j,d::l=>(match Jy b j BW with | some nm=>.De nm | none=>d)::PY BW b (j+1) l
def OG(BW:List (Nat × Nat × Nat × OB))(Cf:List Nat)(b:Nat):Nat->List DV->Bool
 | _,[]=>wg
 | j,d::l=>((Jy b j BW).isSome||EG 8 Cf d)&&OG BW Cf b (j+1) l
def Ts(H:BH):Nat->List DV->List DV
 | _,[]=>[]
 | i,d::l=>(match Jy 0 i H.BW with | some nm=>.De nm | none=>bif K7 i H.CH then d else .undef)::Ts H (i+1) l
def TT(H:BH):Nat->List DV->Bool
 | _,[]=>wg
 | i,d::l=>((Jy 0 i H.BW).isSome||(!(K7 i H.CH)||EG 8 H.Cf d))&&TT H (i+1) l
def Qa(st:St)(H:BH):List Nat->Option DB
 | []=>xM []
 | b::bs=>match look st.heap b with
   | some (f,.box cs)=>bif OG H.BW H.Cf (b+1) 0 cs then (match Qa st H bs with
     | some h=>xM ((b,f,.box (PY H.BW (b+1) 0 cs))::h)
     | none=>xN) else xN
   | _=>xN
def AbI(H:Option BH)(st:St):Option St:=
 match H with
 | none=>xM st
 | some H=>match Qa st H H.Cf,TW st H.BW with
   | some hb,some (ho,ns)=>bif Kf (H.Cf++H.BW.map (·.2.2.1))&&Kf ns&&TT H 0 st.tmps then xM ⟨Ts H 0 st.tmps,hb++ho⟩ else xN
   | _,_=>xN
def AlE:DV->Bool
 | .Bh .arg _ _ | .Bh .BF _ _ | .C3 .arg _ _ | .C3 .BF _ _=>wg
 | _=>wy
def AkF(st:St)(H:BH):BH:={ CH:=H.CH,BW:=H.BW.filter fun x=>!(AlE (Qm st x)),Cf:=H.Cf }
def AfQ(h:DB):DV->DV
 | .De n=>match look h n with
   | some (true,.Bh _ k l)=>.Bh .BF k l
   | some (true,.C3 _ sz l)=>.C3 .BF sz l
   | _=>.De n
 | d=>d
def Aaw(st:St):St:=⟨st.tmps.map (AfQ st.heap),st.heap⟩
def canon(H:Option BH)(st:St):Option St:=
 match H with
 | none=>xM st
 | some H=>AbI (xM (AkF (Aaw st) H)) (Aaw st)
def Uz{β:Type}(H:Option BH)(body:St->(St->Option β)->(Nat->St->Option β)->(St->Option β)->Option β):Nat->St->(Nat->St->Option β)->(St->Option β)->Option β
 | 0,_,_,_=>xN
 | n+1,st,Kx,Kr=>body st (fun st2=>match canon H st2 with | some st3=>Uz H body n st3 Kx Kr | none=>xN) Kx Kr
def iter{β:Type}(H:Option BH)(body:St->(St->Option β)->(Nat->St->Option β)->(St->Option β)->Option β)(n:Nat)(st:St)(Kx:Nat->St->Option β)(Kr:St->Option β):Option β:=
 match canon H st with
 | some st1=>Uz H body n st1 Kx Kr
 | none=>xN
def WT{α β:Type}(f:α->β)(x:α):β:=(Classical.choice (⟨⟨f x,rfl⟩⟩:Nonempty { y:β // y=f x })).1
theorem VD{α β:Type}(f:α->β)(x:α):WT f x=f x:=(Classical.choice (⟨⟨f x,rfl⟩⟩:Nonempty { y:β // y=f x })).2
def YU{β:Type}(E:Env)(ops:Array Oper)(draw:Bool)(Kn:St->Option β)(st:St):Option β :=bif draw then AhZ E ops st Kn else Ajz E ops wy ops.toList st Kn
def den{β:Type}(E:Env)(fuel:Nat):Nat->Code->St->(St->Option β)->(Nat->St->Option β)->(St->Option β)->Option β
 | _,.skip,st,Kn,_,_=>Kn st
 | _,.label _,st,Kn,_,_=>Kn st
 | _,.region id ops draw,st,Kn,_,_=>match E.live id with
   | none=>YU E ops draw Kn st
   | some ks=>WT (YU E ops draw Kn) (forget (xM ks) st)
 | b,.seq x y,st,Kn,Kx,Kr=>den E fuel b x st (fun st'=>den E fuel b y st' Kn Kx Kr) Kx Kr
 | b,.cond c x y,st,Kn,Kx,Kr=>match Gp st.tmps c with
   | .bool t=>bif t then den E fuel b x st Kn Kx Kr else den E fuel b y st Kn Kx Kr
   | _=>xN
 | _,.block id c,st,Kn,Kx,Kr=>den E fuel id c st Kn (fun id' st'=>cond (id'==id) (Kn st') (Kx id' st')) Kr
 | b,.loop c,st,_,Kx,Kr=>iter (E.hint b) (den E fuel b c) fuel st Kx Kr
 | b,.scope c,st,Kn,Kx,Kr=>den E fuel b c st Kn Kx Kr
 | _,.exit id,st,_,Kx,_=>Kx id st
 | _,.ret,st,_,_,Kr=>Kr st
 | _,_,_,_,_,_=>xN
def FQ(h:DB):Nat->DV->Option (DV × List Nat × List Nat)
 | 0,_=>xN
 | f+1,d =>
   let all (l:List DV):Option (List DV × List Nat × List Nat):=l.foldr (fun d acc=>(FQ h f d).bind fun(x,ns,os)=>acc.bind fun(xs,ms,ps)=>xM (x::xs,ns++ms,os++ps)) (xM ([],[],[]))
   match d with
   | .agg l=>(all l).bind fun(l,ns,os)=>xM (.agg l,ns,os)
   | .Cw l=>(all l).bind fun(l,ns,os)=>xM (.Cw l,ns,os)
   | .De n=>match look h n with
     | some (false,.Bh e k l)=>xM (.Bh (.own n e) k l,[],[n])
     | some (false,.C3 e sz l)=>xM (.C3 (.own n e) sz l,[],[n])
     | some (true,.Bh _ k l)=>xM (.Bh .BF k l,[],[])
     | some (true,.C3 _ sz l)=>xM (.C3 .BF sz l,[],[])
     | _=>xN
   | .Ky n off len=>match look h n with
     | some (_,.Bh _ k l)=>xM (.Bh .BF k ((l.drop off).take len),[n],[])
     | some (_,.C3 _ sz l)=>xM (.C3 .BF sz ((l.drop off).take len),[n],[])
     | _=>xN
   | .ptr .. | .fn .. | .gd .. | .undef | .CQ _=>xN
   | d=>xM (d,[],[])
def TD(E:Env)(st:St):ResultVar->Option DV
 | .tmp t=>xM (st.tmps.getD t .undef)
 | .cell a t=>(E.ty t).bind fun ti=>(Wf st.heap ti (st.tmps.getD a .undef)).bind fun r=>bif r.OE then xM r.v else xN
def PE(E:Env)(st:St):List ResultVar->Option (List DV)
 | []=>xM []
 | r::rs=>(TD E st r).bind fun d=>(PE E st rs).bind fun ds=>xM (d::ds)
def AgD:List DV->DV
 | [d]=>d
 | ds=>.Cw ds
def Vh(E:Env)(fn:Func)(st:St):Option DV:=
 (PE E st fn.results.toList).bind fun ds =>
  (FQ st.heap 6 (AgD ds)).bind fun(d,ns,os) =>
   bif ns.all fun n=>!(os.contains n) then xM d else xN
def BX(E:Env)(fuel:Nat)(fn:Func)(body:Code)(args:List DV):Option DV :=den E fuel 0 body ⟨args++zq (fn.ntmps-args.length) .undef,[]⟩ (fun st=>Vh E fn st) (fun _ _=>xN) (fun st=>Vh E fn st)
def Cd(I0:Nat->Prop)(B:Nat)(A:Nat->Option Place)(w:World):Ctx where
 ok:=fun b=>b<w.heap.size/\(I0 b\/B<=b)/\∀n p,A n=xM p->p.st=.live->p.FK≠xM b
 B:=B
 fr:=wg
 own:=fun _=>xN
 at_:=A
structure Hu(A:Nat->Option Place)(w:World)(A':Nat->Option Place)(w':World):Prop where
 size:w.heap.size<=w'.heap.size
 names:∀n p,A n=xM p->∃q,A' n=xM q/\(q.st=.dead\/(p.st≠.dead/\q.kind=p.kind))
 live:∀n p b,A' n=xM p->p.st=.live->p.FK=xM b->b<w.heap.size->∃m q,A m=xM q/\q.st=.live/\q.FK=xM b
 kept:∀b,b<w.heap.size->(∀n p,A n=xM p->p.st=.live->p.FK≠xM b)->w'.heap[b]?=w.heap[b]?
theorem Hu.D4{I0:Nat->Prop}{B:Nat}{A A':Nat->Option Place}{w w':World}(h:Hu A w A' w'):
 JZ (Cd I0 B A w) w (Cd I0 B A' w') w' where
 ok:=fun b ⟨h1,h2,h3⟩=>⟨AP h1 h.size,h2,fun n p hp hl hb=>by obtain⟨m,q,hm,hql,hqb⟩:=h.live n p b hp hl hb h1;exact h3 m q hm hql hqb⟩
 B:=rfl
 fr:=rfl
 own:=fun _ _ h=>by cases h
 at_:=h.names
 cell:=fun b o ⟨h1,_,h3⟩=>World.cell?_of_block (h.kept b h1 h3)
 Ajy:=fun _ _ h=>by cases h
theorem Hu.refl(A:Nat->Option Place)(w:World):Hu A w A w :=⟨A7 _,fun n p h=>⟨p,h,by by_cases hp:p.st=.dead; exact .inl hp; exact .inr ⟨hp,rfl⟩⟩,fun n p b h hl hb _=>⟨n,p,h,hl,hb⟩,fun _ _ _=>rfl⟩
def Dr(c:Ctx)(w:World)(p:Place):Bool × OB->Prop
 | (_,.dead)=>p.st=.dead
 | (fz,.box cs)=>p.st=(if fz then .frozen else .live)/\∃b e cells,p.kind=.box b/\w.heap[b]?=xM (.cells cells e (0,0))/\BN c w cs cells.toList
 | (fz,.Bh e k l)=>p.st=(if fz then .frozen else .live)/\∃sv,p.kind=.row sv 1/\w.ownsRow c.B e 1 sv l.length (l.map (Value.int k))
 | (fz,.C3 e sz l)=>p.st=(if fz then .frozen else .live)/\0<sz/\∃sv rows,p.kind=.row sv sz/\Dp c.bare w l rows/\(∀r∈rows,r.length=sz/\∀u∈r,u.oneCell'=wg)/\w.ownsRow c.B e sz sv l.length rows.flatten
structure Mem(I0:Nat->Prop)(B:Nat)(A:Nat->Option Place)(h:DB)(w:World):Prop where
 hB:B<=w.heap.size
 Rp:∀b,I0 b->b<B
 obj:∀n p fo,A n=xM p->look h n=xM fo->Dr (Cd I0 B A w) w p fo
 GF:∀n p b,A n=xM p->p.st≠.dead->p.FK=xM b->B<=b/\b<w.heap.size
 inj:∀n m p q b,A n=xM p->A m=xM q->p.st≠.dead->q.st≠.dead->p.FK=xM b->q.FK=xM b->n=m
theorem Dr.D4{c c':Ctx}{w w':World}(h:JZ c w c' w'){p q:Place}(hst:q.st=p.st)(hk:q.kind=p.kind)(hb:∀b,p.FK=xM b->w'.heap[b]?=w.heap[b]?):
 ∀(fo:Bool × OB),Dr c w p fo->Dr c' w' q fo
 | (fz,.dead),hr=>by unfold Dr at *; rw[hst]; exact hr
 | (fz,.box cs),hr=>by
   unfold Dr at *
   obtain⟨h1,b,e,cells,hk',hh,hl⟩:=hr;refine⟨by rw[hst]; exact h1,b,e,cells,hk.trans hk',?_,BN.D4 h _ _ hl⟩;rw[hb b (by unfold Place.FK; rw[hk'])];exact hh
 | (fz,.Bh e k l),hr=>by
   unfold Dr at *
   obtain⟨h1,sv,hk',ho⟩:=hr;refine⟨by rw[hst]; exact h1,sv,hk.trans hk',?_⟩;rw[h.B];exact HK ho fun b hb'=>hb b (by unfold Place.FK; rw[hk']; exact hb')
 | (fz,.C3 e sz l),hr=>by
   unfold Dr at *
   obtain⟨h1,hsz,sv,rows,hk',hrr,hlen,ho⟩:=hr;refine⟨by rw[hst]; exact h1,hsz,sv,rows,hk.trans hk',Dp.D4 h.bare _ _ hrr,hlen,?_⟩;rw[h.B];exact HK ho fun b hb'=>hb b (by unfold Place.FK; rw[hk']; exact hb')
theorem BN.FU{c:Ctx}{w:World}{vs:List Value}:BN c w [] vs↔vs=[]:=by simp[BN]
theorem BN.CS{c:Ctx}{w:World}{d:DV}{ds:List DV}{vs:List Value}:BN c w (d::ds) vs↔∃u us,vs=u::us/\Bz c w d u/\BN c w ds us:=by simp[BN]
theorem BN.length{c:Ctx}{w:World}:∀{ds:List DV} {vs:List Value},BN c w ds vs->ds.length=vs.length
 | [],vs,h=>by rw[BN.FU] at h; subst h; rfl
 | d::ds,vs,h=>by rw[BN.CS] at h;obtain⟨u,us,rfl,_,h2⟩:=h;simp[BN.length h2]
theorem BN.get{c:Ctx}{w:World}:∀{ds:List DV} {vs:List Value},BN c w ds vs->∀(i:Nat) d,ds[i]?=xM d->∃v,vs[i]?=xM v/\Bz c w d v
 | [],vs,h,i,d,hd=>by simp at hd
 | d::ds,vs,h,i,d',hd=>by
   rw[BN.CS] at h;obtain⟨u,us,rfl,h1,h2⟩:=h;cases i with
   | zero=>simp at hd; subst hd; exact⟨u,by simp,h1⟩
   | succ i=>simp at hd; obtain⟨v,hv,hr⟩:=BN.get h2 i d' hd; exact⟨v,by simpa using hv,hr⟩
theorem BN.Ke{c:Ctx}{w:World}:∀{ds:List DV} {vs:List Value},ds.length=vs.length->(∀(i:Nat) d v,ds[i]?=xM d->vs[i]?=xM v->Bz c w d v)->BN c w ds vs
 | [],vs,hl,_=>by rw[BN.FU]; exact AF (by simpa using hl.symm)
 | d::ds,[],hl,_=>by simp at hl
 | d::ds,v::vs,hl,h=>by rw[BN.CS];exact⟨v,vs,rfl,h 0 d v (by simp) (by simp),BN.Ke (by simpa using hl) fun i d' v' h1 h2=>h (i+1) d' v' (by simpa using h1) (by simpa using h2)⟩
theorem BN.append{c:Ctx}{w:World}:∀{ds ds':List DV} {vs vs':List Value},BN c w ds vs->BN c w ds' vs'->BN c w (ds++ds') (vs++vs')
 | [],ds',vs,vs',h,h'=>by rw[BN.FU] at h; subst h; simpa using h'
 | d::ds,ds',vs,vs',h,h'=>by rw[BN.CS] at h;obtain⟨u,us,rfl,h1,h2⟩:=h;simp only[wu];rw[BN.CS];exact⟨u,us++vs',rfl,h1,BN.append h2 h'⟩
theorem BN.drop{c:Ctx}{w:World}{ds:List DV}{vs:List Value}(h:BN c w ds vs)(n:Nat):BN c w (ds.drop n) (vs.drop n):=by
 refine BN.Ke (by simp[h.length]) fun i d v h1 h2=>?_
 rw[yB] at h1 h2;obtain⟨v',hv',hr⟩:=h.get _ _ h1;rw[hv'] at h2; cases h2; exact hr
theorem BN.take{c:Ctx}{w:World}{ds:List DV}{vs:List Value}(h:BN c w ds vs)(n:Nat):BN c w (ds.take n) (vs.take n):=by
 refine BN.Ke (by simp[h.length]) fun i d v h1 h2=>?_
 have hi:i<n:=by
  rcases AA i n with h' | h'
  ·exact h'
  ·rw[yW h'] at h1; cases h1
 rw[yG hi] at h1 h2;obtain⟨v',hv',hr⟩:=h.get _ _ h1;rw[hv'] at h2; cases h2; exact hr
theorem BN.set{c:Ctx}{w:World}{ds:List DV}{vs:List Value}(h:BN c w ds vs)(n:Nat){d:DV}{v:Value}(hd:Bz c w d v):BN c w (ds.set n d) (vs.set n v):=by
 refine BN.Ke (by simp[h.length]) fun i d' v' h1 h2=>?_
 rw[wx] at h1 h2;rw[h.length] at h1;split at h1
 ·rename_i hi;subst hi;split at h1
  ·rename_i hlt;simp only[if_true,hlt] at h2;cases h1; cases h2; exact hd
  ·cases h1
 ·rename_i hi;simp only[hi,if_false] at h2;obtain⟨v'',hv',hr⟩:=h.get _ _ h1;rw[hv'] at h2; cases h2; exact hr
theorem BN.getD{c:Ctx}{w:World}{ds:List DV}{vs:List Value}(h:BN c w ds vs)(i:Nat)(hi:i<ds.length):∃v,vs[i]?=xM v/\Bz c w (ds.getD i .undef) v:=by have:ds[i]?=xM ds[i]:=As hi;obtain⟨v,hv,hr⟩:=h.get i _ this;exact⟨v,hv,by simpa[vB,this] using hr⟩
theorem Dp.length{c:Ctx}{w:World}:∀{ds:List (List DV)} {rs:List (List Value)},Dp c w ds rs->ds.length=rs.length
 | [],rs,h=>by simp only[Dp] at h; subst h; rfl
 | d::ds,rs,h=>by simp only[Dp] at h;obtain⟨u,us,rfl,_,h2⟩:=h;simp[Dp.length h2]
theorem Dp.get{c:Ctx}{w:World}:∀{ds:List (List DV)} {rs:List (List Value)},Dp c w ds rs->∀(i:Nat) d,ds[i]?=xM d->∃r,rs[i]?=xM r/\BN c w d r
 | [],vs,h,i,d,hd=>by simp at hd
 | d::ds,vs,h,i,d',hd=>by
   simp only[Dp] at h;obtain⟨u,us,rfl,h1,h2⟩:=h;cases i with
   | zero=>simp at hd; subst hd; exact⟨u,by simp,h1⟩
   | succ i=>simp at hd; obtain⟨v,hv,hr⟩:=Dp.get h2 i d' hd; exact⟨v,by simpa using hv,hr⟩
theorem Dp.Ke{c:Ctx}{w:World}:∀{ds:List (List DV)} {rs:List (List Value)},ds.length=rs.length->(∀(i:Nat) d r,ds[i]?=xM d->rs[i]?=xM r->BN c w d r)->Dp c w ds rs
 | [],vs,hl,_=>by simp only[Dp]; exact AF (by simpa using hl.symm)
 | d::ds,[],hl,_=>by simp at hl
 | d::ds,v::vs,hl,h=>by simp only[Dp];exact⟨v,vs,rfl,h 0 d v (by simp) (by simp),Dp.Ke (by simpa using hl) fun i d' v' h1 h2=>h (i+1) d' v' (by simpa using h1) (by simpa using h2)⟩
theorem Dp.append{c:Ctx}{w:World}:∀{ds ds':List (List DV)} {rs rs':List (List Value)},Dp c w ds rs->Dp c w ds' rs'->Dp c w (ds++ds') (rs++rs')
 | [],ds',vs,vs',h,h'=>by simp only[Dp] at h; subst h; simpa using h'
 | d::ds,ds',vs,vs',h,h'=>by simp only[Dp] at h;obtain⟨u,us,rfl,h1,h2⟩:=h;simp only[wu,Dp];exact⟨u,us++vs',rfl,h1,Dp.append h2 h'⟩
theorem Dp.drop{c:Ctx}{w:World}{ds:List (List DV)}{vs:List (List Value)}(h:Dp c w ds vs)(n:Nat):Dp c w (ds.drop n) (vs.drop n):=by
 refine Dp.Ke (by simp[h.length]) fun i d v h1 h2=>?_
 rw[yB] at h1 h2;obtain⟨v',hv',hr⟩:=h.get _ _ h1;rw[hv'] at h2; cases h2; exact hr
theorem Dp.take{c:Ctx}{w:World}{ds:List (List DV)}{vs:List (List Value)}(h:Dp c w ds vs)(n:Nat):Dp c w (ds.take n) (vs.take n):=by
 refine Dp.Ke (by simp[h.length]) fun i d v h1 h2=>?_
 have hi:i<n:=by
  rcases AA i n with h' | h'
  ·exact h'
  ·rw[yW h'] at h1; cases h1
 rw[yG hi] at h1 h2;obtain⟨v',hv',hr⟩:=h.get _ _ h1;rw[hv'] at h2; cases h2; exact hr
theorem Dp.set{c:Ctx}{w:World}{ds:List (List DV)}{vs:List (List Value)}(h:Dp c w ds vs)(n:Nat){d:List DV}{v:List Value}(hd:BN c w d v):Dp c w (ds.set n d) (vs.set n v):=by
 refine Dp.Ke (by simp[h.length]) fun i d' v' h1 h2=>?_
 rw[wx] at h1 h2;rw[h.length] at h1;split at h1
 ·rename_i hi;subst hi;split at h1
  ·rename_i hlt;simp only[if_true,hlt] at h2;cases h1; cases h2; exact hd
  ·cases h1
 ·rename_i hi;simp only[hi,if_false] at h2;obtain⟨v'',hv',hr⟩:=h.get _ _ h1;rw[hv'] at h2; cases h2; exact hr
theorem LP{α:Type}{sz:Nat}:∀{rows:List (List α)},(∀r∈rows,r.length=sz)->∀(i:Nat) r,rows[i]?=xM r->∀(j:Nat) u,r[j]?=xM u->rows.flatten[i*sz+j]?=xM u
 | [],_,i,r,h,_,_,_=>by simp at h
 | r0::rows,hl,i,r,h,j,u,hu=>by
   have h0:r0.length=sz:=hl r0 (by simp);cases i with
   | zero =>simp at h; subst h;have hj:j<r0.length:=(List.getElem?_eq_some_iff.1 hu).1;simp only[yH,Nat.zero_mul,AO];rw[List.getElem?_append_left hj]; exact hu
   | succ i =>simp at h;have:=LP (rows:=rows) (fun r hr=>hl r (by simp[hr])) i r h j u hu;simp only[yH];rw[AS (by rw[h0,yd]; omega)];rw[<- this]; congr 1; rw[h0,yd]; omega
theorem Je{α:Type}{sz:Nat}:∀{rows:List (List α)},(∀r∈rows,r.length=sz)->rows.flatten.length=rows.length*sz
 | [],_=>by simp
 | r0::rows,hl=>by simp only[yH,A5,List.length_cons];rw[Je (rows:=rows) (fun r hr=>hl r (by simp[hr])),hl r0 (by simp),yd]; omega
def Yp(zs:List DV)(vs:List Value):Prop:=∀(c:Ctx) (w:World),BN c w zs vs
def Da(P:Program)(t:TypeId):TK->Prop
 | .slice e=>P.underlying t=xM (.slice e)
 | .array n e=>P.underlying t=xM (.array n e)
 | .struct fs=>∃gs:Array Field,P.underlying t=xM (.struct gs)/\(gs.toList.map fun f=>(f.offset,f.type))=fs
 | .int k=>P.underlying t=xM (.int k)
 | .fl=>P.underlying t=xM (.float .f64)
 | .bool=>P.underlying t=xM .bool
 | _=>∃d,P.underlying t=xM d/\(∀gs,d≠.struct gs)/\∀n e,d≠.array n e
structure CJ(P:Program)(t:TypeId)(ti:TI):Prop where
 info:∃i z,P.info? t=xM i/\i.size=ti.size/\i.bytes=ti.bytes/\i.zero=xM z/\Yp ti.zero z.cells.toList/\z.cells.size=ti.size/\(∀u∈z.cells.toList,u.oneCell'=wg)
 desc:Da P t ti.kind
section
variable{P:Program}{t:TypeId}{ti:TI}(w:World)
theorem CJ.H0(h:CJ P t ti):(sizeOf t).run P w=.ok ti.size w:=by obtain⟨i,z,hi,hs,_⟩:=h.info;simp[sizeOf,typeInfo,hi,hs]
theorem CJ.T9(h:CJ P t ti):∃z,(zeroValue t).run P w=.ok z w/\Yp ti.zero z.cells.toList/\z.cells.size=ti.size/\(∀u∈z.cells.toList,u.oneCell'=wg):=by obtain⟨i,z,hi,hs,_,hz,h1,h2,h3⟩:=h.info;exact⟨z,by simp[zeroValue,typeInfo,hi,hz],h1,h2,h3⟩
theorem CJ.Qv(h:CJ P t ti):(isAgg t).run P w=.ok ti.agg w:=by
 have hd:=h.desc;unfold TI.agg;cases hk:ti.kind with
 | slice e=>rw[hk] at hd; simp only[Da] at hd; simp[isAgg,run_underlying hd]
 | array n e=>rw[hk] at hd; simp only[Da] at hd; simp[isAgg,run_underlying hd]
 | struct fs=>rw[hk] at hd; simp only[Da] at hd; obtain⟨gs,hg,_⟩:=hd; simp[isAgg,run_underlying hg]
 | int k=>rw[hk] at hd; simp only[Da] at hd; simp[isAgg,run_underlying hd]
 | fl=>rw[hk] at hd; simp only[Da] at hd; simp[isAgg,run_underlying hd]
 | bool=>rw[hk] at hd; simp only[Da] at hd; simp[isAgg,run_underlying hd]
 | ptr=>rw[hk] at hd; simp only[Da] at hd; obtain⟨d,hu,h1,h2⟩:=hd; cases d<;>first | (simp[isAgg,run_underlying hu]; done) | (exact absurd rfl (h1 _)) | (exact absurd rfl (h2 _ _))
 | func=>rw[hk] at hd; simp only[Da] at hd; obtain⟨d,hu,h1,h2⟩:=hd; cases d<;>first | (simp[isAgg,run_underlying hu]; done) | (exact absurd rfl (h1 _)) | (exact absurd rfl (h2 _ _))
 | other=>rw[hk] at hd; simp only[Da] at hd; obtain⟨d,hu,h1,h2⟩:=hd; cases d<;>first | (simp[isAgg,run_underlying hu]; done) | (exact absurd rfl (h1 _)) | (exact absurd rfl (h2 _ _))
end
theorem NC.refl(n:Nat):NC n n:=.inl rfl
theorem Ei{n:Nat}(h:Fl n=wg):∃s f,Ieee.double.read n=.nan s f:=by
 unfold Fl Ieee.Datum.isNaN at h;cases hr:Ieee.double.read n with
 | nan s f=>exact⟨s,f,rfl⟩
 | number=>rw[hr] at h; cases h
 | infinity=>rw[hr] at h; cases h
theorem NC.add{a b x y:Nat}(h1:NC a x)(h2:NC b y):Ieee.double.add x y=Ieee.double.add a b:=by
 rcases h1 with rfl | ⟨h1,h1'⟩
 ·rcases h2 with rfl | ⟨h2,h2'⟩
  ·rfl
  ·obtain⟨s,f,e⟩:=Ei h2; obtain⟨s',f',e'⟩:=Ei h2';unfold Ieee.Format.add; rw[e,e']; cases Ieee.double.read a<;>rfl
 ·obtain⟨s,f,e⟩:=Ei h1; obtain⟨s',f',e'⟩:=Ei h1';unfold Ieee.Format.add; rw[e,e']; rfl
theorem NC.sub{a b x y:Nat}(h1:NC a x)(h2:NC b y):Ieee.double.sub x y=Ieee.double.sub a b:=by
 rcases h1 with rfl | ⟨h1,h1'⟩
 ·rcases h2 with rfl | ⟨h2,h2'⟩
  ·rfl
  ·obtain⟨s,f,e⟩:=Ei h2; obtain⟨s',f',e'⟩:=Ei h2';unfold Ieee.Format.sub; rw[e,e']; cases Ieee.double.read a<;>rfl
 ·obtain⟨s,f,e⟩:=Ei h1; obtain⟨s',f',e'⟩:=Ei h1';unfold Ieee.Format.sub; rw[e,e']; rfl
theorem NC.mul{a b x y:Nat}(h1:NC a x)(h2:NC b y):Ieee.double.mul x y=Ieee.double.mul a b:=by
 rcases h1 with rfl | ⟨h1,h1'⟩
 ·rcases h2 with rfl | ⟨h2,h2'⟩
  ·rfl
  ·obtain⟨s,f,e⟩:=Ei h2; obtain⟨s',f',e'⟩:=Ei h2';unfold Ieee.Format.mul; rw[e,e']; cases Ieee.double.read a<;>rfl
 ·obtain⟨s,f,e⟩:=Ei h1; obtain⟨s',f',e'⟩:=Ei h1';unfold Ieee.Format.mul; rw[e,e']; rfl
theorem NC.div{a b x y:Nat}(h1:NC a x)(h2:NC b y):Ieee.double.div x y=Ieee.double.div a b:=by
 rcases h1 with rfl | ⟨h1,h1'⟩
 ·rcases h2 with rfl | ⟨h2,h2'⟩
  ·rfl
  ·obtain⟨s,f,e⟩:=Ei h2; obtain⟨s',f',e'⟩:=Ei h2';unfold Ieee.Format.div; rw[e,e']; cases Ieee.double.read a<;>rfl
 ·obtain⟨s,f,e⟩:=Ei h1; obtain⟨s',f',e'⟩:=Ei h1';unfold Ieee.Format.div; rw[e,e']; rfl
theorem NC.sqrt{a x:Nat}(h1:NC a x):Ieee.double.sqrt x=Ieee.double.sqrt a:=by
 rcases h1 with rfl | ⟨h1,h1'⟩
 ·rfl
 ·obtain⟨s,f,e⟩:=Ei h1; obtain⟨s',f',e'⟩:=Ei h1';unfold Ieee.Format.sqrt; rw[e,e']; rfl
theorem NC.order{a b x y:Nat}(h1:NC a x)(h2:NC b y):Ieee.double.order x y=Ieee.double.order a b:=by
 rcases h1 with rfl | ⟨h1,h1'⟩
 ·rcases h2 with rfl | ⟨h2,h2'⟩
  ·rfl
  ·obtain⟨s,f,e⟩:=Ei h2; obtain⟨s',f',e'⟩:=Ei h2';unfold Ieee.Format.order; rw[e,e']; cases Ieee.double.read a<;>rfl
 ·obtain⟨s,f,e⟩:=Ei h1; obtain⟨s',f',e'⟩:=Ei h1';unfold Ieee.Format.order; rw[e,e']; rfl
theorem AgR(r q:Nat)(hr:r<4503599627370495)(_hq:q<2):Fl (q*9223372036854775808+9218868437227405312+1+r)=wg:=by
 have hsw:Ieee.double.signWeight=9223372036854775808:=by decide +kernel
 have hb:Ieee.double.binade=4503599627370496:=by decide +kernel
 have hi:Ieee.double.infRung=9218868437227405312:=by decide +kernel
 unfold Fl Ieee.Format.read;rw[hsw,hb,hi];have hm:(q*9223372036854775808+9218868437227405312+1+r)%9223372036854775808=9218868437227405313+r:=by omega
 simp only[hm];rw[Ay (by omega),Ay (by omega),Ay (by omega)];rfl
theorem Ac9(x y t:Nat):Fl ((Question.nanBits .f64 x y).cut t)=wg:=by
 have e63:(2:Nat)^63=9223372036854775808:=by decide +kernel
 have e52:(2:Nat)^52-1=4503599627370495:=by decide +kernel
 have h:(Question.nanBits .f64 x y).cut t=(t%2)*9223372036854775808+9218868437227405312+1+(t / 2)%4503599627370495:=by unfold Question.cut;rw[e63,e52]
 rw[h];exact AgR _ _ (zv _ (by omega)) (zv _ (by omega))
theorem Py:Fl nanBits=wg:=by decide +kernel
def WB(w w':World):Prop:=w'=w\/w'=w.drew
theorem TA{P:Program}(w:World)(op:BinOp)(x y a b:Nat)(r:R)(hx:NC a x)(hy:NC b y)(hop:op=.add\/op=.sub\/op=.mul\/op=.quo)(h:Rd op a b=xM r):
 ∃m w',(Op.floatArith op .f64 x y).run P w=.ok (.float .f64 m) w'/\WB w w'/\∃n,r.v=.fl n/\NC n m:=by
 have key:∀(res:Option Nat) (nm:Nat),res=xN\/(∃k,res=xM k)->∃m w',((match res with
  | some r=>pure (.float .f64 r)
  | none=>do pure (.float .f64 (<- choose (.nanBits .f64 x y))):Sem Value)).run P w=.ok (.float .f64 m) w'/\WB w w'/\NC (res.getD nanBits) m:=by
  intro res nm hres;rcases hres with rfl | ⟨k,rfl⟩
  ·refine⟨(Question.nanBits .f64 x y).cut (w.tape w.drawn (.nanBits .f64 x y)),w.drew,?_,.inr rfl,.inr ⟨Py,Ac9 x y _⟩⟩;simp only[Sem.run_bind,run_choose,Question.forced,Result.andThen_ok,Sem.run_pure,Bool.false_eq_true,if_false];rfl
  ·exact⟨k,w,rfl,.inl rfl,.inl rfl⟩
 have hcase:∀res:Option Nat,res=xN\/∃k,res=xM k:=fun res=>by cases res; exact .inl rfl; exact .inr ⟨_,rfl⟩
 rcases hop with rfl | rfl | rfl | rfl
 ·simp only[Rd,Ae] at h; subst h;obtain⟨m,w',h1,h2,h3⟩:=key (Ieee.double.add a b) 0 (hcase _);refine⟨m,w',?_,h2,_,rfl,h3⟩;have e:FloatKind.f64.format.add x y=Ieee.double.add a b:=NC.add hx hy;simp only[Op.floatArith,e,Sem.run_bind,Sem.run_pure,Result.andThen_ok]; exact h1
 ·simp only[Rd,Ae] at h; subst h;obtain⟨m,w',h1,h2,h3⟩:=key (Ieee.double.sub a b) 0 (hcase _);refine⟨m,w',?_,h2,_,rfl,h3⟩;have e:FloatKind.f64.format.sub x y=Ieee.double.sub a b:=NC.sub hx hy;simp only[Op.floatArith,e,Sem.run_bind,Sem.run_pure,Result.andThen_ok]; exact h1
 ·simp only[Rd,Ae] at h; subst h;obtain⟨m,w',h1,h2,h3⟩:=key (Ieee.double.mul a b) 0 (hcase _);refine⟨m,w',?_,h2,_,rfl,h3⟩;have e:FloatKind.f64.format.mul x y=Ieee.double.mul a b:=NC.mul hx hy;simp only[Op.floatArith,e,Sem.run_bind,Sem.run_pure,Result.andThen_ok]; exact h1
 ·simp only[Rd,Ae] at h; subst h;obtain⟨m,w',h1,h2,h3⟩:=key (Ieee.double.div a b) 0 (hcase _);refine⟨m,w',?_,h2,_,rfl,h3⟩;have e:FloatKind.f64.format.div x y=Ieee.double.div a b:=NC.div hx hy;simp only[Op.floatArith,e,Sem.run_bind,Sem.run_pure,Result.andThen_ok]; exact h1
set_option linter.unusedSimpArgs false
def Any(d:DV)(v:Value):Prop:=∀(c:Ctx) (w:World),Bz c w d v
theorem Any.bool(b:Bool):Any (.bool b) (.bool b):=fun _ _=>by simp[Bz]
theorem Any.int(k:IntKind)(n:Int):Any (.int k n) (.int k n):=fun _ _=>by simp[Bz]
theorem Any.fl{n m:Nat}(h:NC n m):Any (.fl n) (.float .f64 m):=fun _ _=>by simp only[Bz]; exact⟨m,rfl,h⟩
theorem W3{P:Program}(w:World){op:BinOp}{t:TypeId}{k:IntKind}{x y:Int}{r:R}(hop:op≠.shl/\op≠.shr)(h:Np op k x y=xM r)(hr:r.OE=wg):
 ∃v,(binOp op t (.int k x) (.int k y)).run P w=.ok v w/\Any r.v v:=by
 obtain⟨h1,h2⟩:=hop;cases op
 case add | sub | mul =>simp only[Np,Ae] at h; subst h;refine⟨_,?_,Any.int _ _⟩;simp[binOp,Op.intArith]
 case quo | rem =>simp only[Np,Ae] at h; subst h;simp only[bne_iff_ne,ne_eq] at hr;refine⟨_,?_,Any.int _ _⟩;simp only[binOp,Op.intDiv,ne_eq,not_true_eq_false,if_false,Ay hr,Sem.run_pure]
 case and | or | xor | andNot =>simp only[Np,Ae] at h; subst h;refine⟨_,?_,Any.int _ _⟩;simp only[binOp,Op.intBits,ne_eq,not_true_eq_false,if_false,Sem.run_pure]
 case eql | neq =>simp only[Np,Ae] at h; subst h;refine⟨_,?_,Any.bool _⟩;simp only[binOp,Op.intCmp,ne_eq,not_true_eq_false,if_false,Sem.run_pure]
 case lss | gtr =>simp only[Np,Ae] at h; subst h;refine⟨_,?_,Any.bool _⟩;simp only[binOp,Op.intCmp,ne_eq,not_true_eq_false,if_false,Sem.run_pure];rw[Bw]
 case leq | geq =>simp only[Np,Ae] at h; subst h;refine⟨_,?_,Any.bool _⟩;simp only[binOp,Op.intCmp,ne_eq,not_true_eq_false,if_false,Sem.run_pure];rw[DX]
 case shl=>exact absurd rfl h1
 case shr=>exact absurd rfl h2
theorem Ais{P:Program}(w:World){op:BinOp}{t:TypeId}{a b x y:Nat}{r:R}(hx:NC a x)(hy:NC b y)(h:Rd op a b=xM r):
 ∃v w',(binOp op t (.float .f64 x) (.float .f64 y)).run P w=.ok v w'/\WB w w'/\Any r.v v:=by
 have ho:FloatKind.f64.format.order x y=Ieee.double.order a b:=NC.order hx hy;cases op
 case add | sub | mul | quo =>obtain⟨m,w',h1,h2,n,h3,h4⟩:=TA (P:=P) w _ x y a b r hx hy (by simp) h;exact⟨_,w',by simpa[binOp] using h1,h2,by rw[h3]; exact Any.fl h4⟩
 case eql | neq | lss | leq | gtr | geq =>simp only[Rd,Ae] at h; subst h;exact⟨_,w,by simp[binOp,Op.floatCmp,ho],.inl rfl,Any.bool _⟩
 all_goals simp[Rd] at h
structure Yr(P:Program)(t:TypeId)(ti:TI):Prop where
 guard:P.eqGuardType P.depth t=wy
 eq:∀(w:World) (c:Ctx) (x y:List DV) (xs ys:Array Value),sameShape ti.zero x=wg->sameShape ti.zero y=wg->BN c w x xs.toList->BN c w y ys.toList ->
  (Op.equal t (.agg xs) (.agg ys)).run P w=.ok (Wr x y) w
theorem Wj(n:Nat):Fl (n%9223372036854775808)=Fl n:=by unfold Fl Ieee.Format.read;have e0:Ieee.double.signWeight=9223372036854775808:=rfl;dsimp only;rw[e0,Nat.mod_mod];split<;>(try split)<;>(try split)<;>rfl
theorem Ann(m:Nat):(zp 64 (m:Int) &&& ~~~(zp 64 9223372036854775808)).toNat=m%9223372036854775808:=by
 have e1 : ~~~(zp 64 9223372036854775808)=BitVec.ofNat 64 (2^63-1):=by decide
 rw[e1,BitVec.toNat_and,BitVec.toNat_ofNat,BitVec.toNat_ofInt];have e2:(((m:Int)%((2^64:Nat):Int)).toNat)=m%2^64:=by omega
 rw[e2,show(2^63-1)%2^64=2^63-1 from rfl,Nat.and_two_pow_sub_one_eq_mod];omega
theorem Nu(m:Nat):IntKind.u64.wrap ((zp IntKind.u64.bits (m:Int) &&& ~~~(zp IntKind.u64.bits 9223372036854775808)).toNat:Int)=((m%9223372036854775808:Nat):Int):=by have e:(zp IntKind.u64.bits (m:Int) &&& ~~~(zp IntKind.u64.bits 9223372036854775808)).toNat=m%9223372036854775808:=Ann m;rw[e];unfold IntKind.wrap;simp[IntKind.bits,IntKind.signed];omega
theorem Ak1{P:Program}{E:Env}(hty:∀t ti,E.ty t=xM ti->CJ P t ti)(heq:∀t ti,E.eqs t=wg->E.ty t=xM ti->Yr P t ti)
 (w:World) {c:Ctx} {op:BinOp} {t:TypeId} {x y:Operand} {a b:DV} {va vb:Value} {r:R} (ha:Bz c w a va) (hb:Bz c w b vb)
 (h:Ak2 E op t a b=xM r) (hr:r.OE=wg):
 ∃v w',((do eqGuard op t x y va vb; binOp op t va vb:Sem Value)).run P w=.ok v w'/\WB w w'/\Any r.v v:=by
 have pre:∀(va vb:Value),(∀xs,va≠.agg xs)->(va≠.nilIface)->(eqGuard op t x y va vb).run P w=.ok () w:=by intro va vb h1 h2;cases op<;>(simp only[eqGuard]; first | rfl | (cases va<;>first | rfl | exact absurd rfl (h1 _) | exact absurd rfl h2))
 cases a<;>cases b<;>simp only[Ak2,reduceCtorEq] at h
 case int.int k x' k' y' =>
  simp only[Bz] at ha hb;subst ha; subst hb;have hp:=pre (.int k x') (.int k' y') (by simp) (by simp);by_cases h1:op=.shl
  ·subst h1;simp only[Ae] at h; subst h;simp only[Ai] at hr;exact⟨_,w,by simp only[Sem.run_bind,hp,Result.andThen_ok,binOp,Op.shift,Sem.run_ite]; rw[Ay (by omega)]; rfl,.inl rfl,Any.int _ _⟩
  ·by_cases h2:op=.shr
   ·subst h2;simp only[Ae] at h; subst h;simp only[Ai] at hr;exact⟨_,w,by simp only[Sem.run_bind,hp,Result.andThen_ok,binOp,Op.shift,Sem.run_ite]; rw[Ay (by omega)]; rfl,.inl rfl,Any.int _ _⟩
   ·have h':(cond (decide (k=k')) (Np op k x' y') xN)=xM r:=by cases op<;>first | exact h | exact absurd rfl h1 | exact absurd rfl h2
    by_cases hk:k=k'
    ·subst hk;simp only[decide_true,Aa] at h';obtain⟨v,hv,ho⟩:=W3 (P:=P) w (t:=t) ⟨h1,h2⟩ h' hr;exact⟨v,w,by simp only[Sem.run_bind,hp,Result.andThen_ok]; exact hv,.inl rfl,ho⟩
    ·simp[hk] at h'
 case fl.fl x' y' =>simp only[Bz] at ha hb;obtain⟨m1,rfl,f1⟩:=ha;obtain⟨m2,rfl,f2⟩:=hb;have hp:=pre (.float .f64 m1) (.float .f64 m2) (by simp) (by simp);obtain⟨v,w',hv,hd,ho⟩:=Ais (P:=P) w (t:=t) f1 f2 h;exact⟨v,w',by simp only[Sem.run_bind,hp,Result.andThen_ok]; exact hv,hd,ho⟩
 case nb.int x' k' y' =>
  cases op<;>simp only[reduceCtorEq] at h;by_cases hk:k'=.u64/\y'=9223372036854775808
  ·obtain⟨rfl,rfl⟩:=hk;simp only[decide_true,Ah,Aa,Ae] at h; subst h;simp only[Bz] at ha hb;obtain⟨m,rfl,f⟩:=ha;subst hb;have hp:=pre (.int .u64 (m:Int)) (.int .u64 9223372036854775808) (by simp) (by simp);obtain⟨v,hv,ho⟩:=W3 (P:=P) w (op:=.andNot) (t:=t) (k:=.u64) (x:=(m:Int)) (y:=9223372036854775808) ⟨by simp,by simp⟩ rfl rfl;refine⟨v,w,by simp only[Sem.run_bind,hp,Result.andThen_ok]; exact hv,.inl rfl,fun c w=>?_⟩;have ho:=ho c w;simp only[Bz] at ho ⊢;refine⟨m%9223372036854775808,?_,?_⟩
   ·rw[ho,Nu m]
   ·rcases f with rfl | ⟨f1,f2⟩
    ·exact .inl rfl
    ·exact .inr ⟨by rw[Wj]; exact f1,by rw[Wj]; exact f2⟩
  ·have:(decide (k'=IntKind.u64)&&decide (y'=9223372036854775808))=wy:=by rw[Bool.eq_false_iff]; intro hh; rw[Am,Ai,Ai] at hh; exact hk hh
   rw[this] at h; cases h
 case bool.bool x' y' =>
  simp only[Bz] at ha hb;subst ha; subst hb;have hp:=pre (.bool x') (.bool y') (by simp) (by simp);split at h
  ·rename_i hT;have hd:=(hty _ _ hT).desc;simp only[Da] at hd
   have he:(Op.equal t (.bool x') (.bool y')).run P w=.ok (x'==y') w:=by show(Op.equalIn (9999+1) t (.bool x') (.bool y')).run P w=_;exact run_equalIn_bool' w 9999 t x' y' hd
   cases op<;>simp only[Ae,reduceCtorEq] at h
   all_goals subst h
   all_goals
    refine⟨_,w,?_,.inl rfl,Any.bool _⟩;simp only[Sem.run_bind,hp,Result.andThen_ok,binOp,he,Sem.run_pure]
  ·cases h
 case agg.agg x' y' =>
  simp only[Bz] at ha hb;obtain⟨xs,rfl,hx⟩:=ha;obtain⟨ys,rfl,hy⟩:=hb;cases hE:E.eqs t with
  | false=>simp[hE] at h
  | true =>
    cases hT:E.ty t with
    | none=>simp[hE,hT] at h
    | some ti =>
      have hf:=heq t ti hE hT;simp only[hE,hT,AR] at h;cases h1:sameShape ti.zero x' with
      | false=>simp[h1] at h
      | true =>
        cases h2:sameShape ti.zero y' with
        | false=>simp[h1,h2] at h
        | true =>
          simp only[h1,h2,Ah,Aa] at h;have he:=hf.eq w c x' y' xs ys h1 h2 hx hy
          have hg:(eqGuard op t x y (.agg xs) (.agg ys)).run P w=.ok () w:=by
           cases op<;>simp only[Ae,reduceCtorEq] at h
           all_goals
            unfold eqGuard;simp[hf.guard]
          cases op<;>simp only[Ae,reduceCtorEq] at h
          all_goals subst h
          all_goals
           refine⟨_,w,?_,.inl rfl,Any.bool _⟩;simp only[Sem.run_bind,hg,Result.andThen_ok,binOp,he,Sem.run_pure]
theorem Alf{P:Program}(w:World){c:Ctx}{op:UnOp}{a:DV}{va:Value}{r:R}(ha:Bz c w a va)(h:unD op a=xM r):
 ∃v,(Op.unary op va).run P w=.ok v w/\Any r.v v:=by
 cases op<;>cases a<;>simp only[unD,Ae,reduceCtorEq] at h
 all_goals subst h
 all_goals simp only[Bz] at ha
 all_goals subst ha
 case neg.int k x=>exact⟨_,by simp only[Op.unary,Op.intArith,Sem.run_pure],Any.int _ _⟩
 case xor.int k x=>exact⟨_,by simp only[Op.unary,Op.intBits,Sem.run_pure],Any.int _ _⟩
 case not.bool b=>exact⟨_,by simp only[Op.unary,Sem.run_pure],Any.bool _⟩
theorem Aii{P:Program}{E:Env}(hty:∀t ti,E.ty t=xM ti->CJ P t ti)(w:World){c:Ctx}{src dst:TypeId}{a:DV}{va:Value}{r:R}(ha:Bz c w a va)(h:Adi E dst src a=xM r):
 ∃v,(convert src dst va).run P w=.ok v w/\Any r.v v:=by
 unfold Adi at h;split at h
 ·rename_i hd hs;simp only[Ae] at h; subst h;have h1:=(hty _ _ hd).desc;have h2:=(hty _ _ hs).desc;simp only[Da] at h1 h2;simp only[Bz] at ha; subst ha;refine⟨_,?_,Any.int _ _⟩;simp[convert,run_underlying h1,run_underlying h2,Conv.intToInt]
 ·rename_i hd hs;simp only[Ae] at h; subst h;have h1:=(hty _ _ hd).desc;have h2:=(hty _ _ hs).desc;simp only[Da] at h1 h2;simp only[Bz] at ha; subst ha;refine⟨_,?_,Any.fl (NC.refl _)⟩;simp only[convert,run_underlying h1,run_underlying h2,Sem.run_bind,Result.andThen_ok,Conv.intToFloat,Sem.run_pure];rfl
 ·rename_i hd hs;simp only[Ae] at h; subst h;have h1:=(hty _ _ hd).desc;have h2:=(hty _ _ hs).desc;simp only[Da] at h1 h2;simp only[Bz] at ha;obtain⟨m,rfl,f⟩:=ha;refine⟨_,?_,Any.fl f⟩;simp only[convert,run_underlying h1,run_underlying h2,Sem.run_bind,Result.andThen_ok,Conv.floatToFloat,if_true,Sem.run_pure]
 ·cases h
def Fp(w:World)(b o:Nat)(vs:List Value):Prop:=∀(i:Nat) u,vs[i]?=xM u->w.cell? ⟨b,o+i,xN⟩=xM u
theorem Fp.drop{w:World}{b o:Nat}{vs:List Value}(h:Fp w b o vs)(n:Nat):Fp w b (o+n) (vs.drop n):=fun i u hi=>by rw[yB] at hi;have:=h _ _ hi;rwa[<- yf] at this
theorem Fp.take{w:World}{b o:Nat}{vs:List Value}(h:Fp w b o vs)(n:Nat):Fp w b o (vs.take n):=fun i u hi=>by
 refine h i u ?_;rcases AA i n with h' | h'
 ·rwa[yG h'] at hi
 ·rw[yW h'] at hi; cases hi
section
variable{P:Program}{t:TypeId}{ti:TI}(w:World)
theorem NT(hf:CJ P t ti)(ha:ti.agg=wg){b o:Nat}{vs:List Value}(hr:Fp w b o vs)(hl:ti.size<=vs.length):
 (Instr.loadAt t (.pointer (xM ⟨b,o,xN⟩))).run P w=.ok (.agg (vs.take ti.size).toArray) w:=by
 have h1:=run_loadCells_list (P:=P) w ⟨b,o,xN⟩ (vs.take ti.size) (fun j v hj=>by rw[Addr.add_lit]; exact hr.take _ j v hj);rw[List.length_take,Nat.min_eq_left hl] at h1;simp[Instr.loadAt,Instr.sureAddr,loadVar,hf.Qv w,ha,hf.H0 w,h1]
theorem KW(hf:CJ P t ti)(ha:ti.agg=wy){b o:Nat}{v:Value}(hr:w.cell? ⟨b,o,xN⟩=xM v):
 (Instr.loadAt t (.pointer (xM ⟨b,o,xN⟩))).run P w=.ok v w:=by
 simp[Instr.loadAt,Instr.sureAddr,loadVar,hf.Qv w,ha,hr]
theorem AcE(hf:CJ P t ti){c:Ctx}{b o:Nat}{cs:List DV}{vs:List Value}{d:DV}(hr:Fp w b o vs)(hl:BN c w cs vs)(h:shaped ti cs=xM d):
 ∃v,(Instr.loadAt t (.pointer (xM ⟨b,o,xN⟩))).run P w=.ok v w/\Bz c w d v:=by
 unfold shaped at h;cases ha:ti.agg with
 | true =>
   simp only[ha,Aa] at h;by_cases hs:ti.size<=cs.length
   ·simp only[hs,decide_true,Aa,Ae] at h; subst h;refine⟨_,NT w hf ha hr (by rw[<- hl.length]; exact hs),?_⟩;simp only[Bz];exact⟨_,rfl,by simpa using hl.take _⟩
   ·simp[hs] at h
 | false =>
   simp only[ha,Af] at h;cases cs with
   | nil=>cases h
   | cons d' ds =>simp only[Ae] at h; subst h;rw[BN.CS] at hl;obtain⟨u,us,rfl,h1,_⟩:=hl;exact⟨u,KW w hf ha (by have:=hr 0 u (by simp); simpa using this),h1⟩
end
theorem Ej{I0:Nat->Prop}{B:Nat}{A:Nat->Option Place}{h:DB}{w:World}(hm:Mem I0 B A h w){n:Nat}{p:Place}(hp:A n=xM p){fz:Bool}{e:TypeId}{k:IntKind}{l:Bb}(hl:look h n=xM (fz,.Bh e k l)):
 p.st=(if fz then .frozen else .live)/\∃sv,p.kind=.row sv 1/\w.ownsRow B e 1 sv l.length (l.map (Value.int k)):=by
 have:=hm.obj n p _ hp hl;unfold Dr at this;exact this
theorem E9{I0:Nat->Prop}{B:Nat}{A:Nat->Option Place}{h:DB}{w:World}(hm:Mem I0 B A h w){n:Nat}{p:Place}(hp:A n=xM p){fz:Bool}{e:TypeId}{sz:Nat}{l:List (List DV)}(hl:look h n=xM (fz,.C3 e sz l)):
 p.st=(if fz then .frozen else .live)/\0<sz/\∃sv rows,p.kind=.row sv sz/\Dp (Cd I0 B A w).bare w l rows/\(∀r∈rows,r.length=sz/\∀u∈r,u.oneCell'=wg)/\w.ownsRow B e sz sv l.length rows.flatten:=by
 have:=hm.obj n p _ hp hl;unfold Dr at this;exact this
theorem MO{I0:Nat->Prop}{B:Nat}{A:Nat->Option Place}{h:DB}{w:World}(hm:Mem I0 B A h w){n:Nat}{p:Place}(hp:A n=xM p){fz:Bool}{cs:List DV}(hl:look h n=xM (fz,.box cs)):
 p.st=(if fz then .frozen else .live)/\∃b e cells,p.kind=.box b/\w.heap[b]?=xM (.cells cells e (0,0))/\BN (Cd I0 B A w) w cs cells.toList:=by
 have:=hm.obj n p _ hp hl;unfold Dr at this;exact this
theorem Cn{p:Place}{fz:Bool}(h:p.st=(if fz then PSt.frozen else PSt.live)):p.st≠.dead:=by cases fz<;>simp at h<;>simp[h]
theorem FH{w:World}{base:Nat}{e:TypeId}{size n:Nat}{v:Value}{xs:List Value}(h:w.ownsRow base e size v n xs)(hn:0<n):
 ∃g cap,v=.slice (xM ⟨g,0,xN⟩) n cap/\n<=cap/\Fp w g 0 xs:=by
 rcases h.2 with ⟨_,rfl⟩ | ⟨g,cap,cur,rfl,_,_,hc,_⟩
 ·omega
 ·refine⟨g,cap,rfl,hc,fun i u hi=>?_⟩;have:=h.cells (g:=g) rfl i u hi;rw[Addr.add_lit] at this;exact this
theorem FG{w:World}{base:Nat}{e:TypeId}{size n:Nat}{v:Value}{xs:List Value}(h:w.ownsRow base e size v n xs):
 (v=.slice xN 0 0/\n=0)\/∃g cap,v=.slice (xM ⟨g,0,xN⟩) n cap/\n<=cap:=by
 rcases h.2 with ⟨h1,h2⟩ | ⟨g,cap,cur,rfl,_,_,hc,_⟩
 ·exact .inl ⟨h1,h2⟩
 ·exact .inr ⟨g,cap,rfl,hc⟩
theorem W1{w:World}{b:Nat}{cells:Array Value}{e:TypeId}(h:w.heap[b]?=xM (.cells cells e (0,0))):Fp w b 0 cells.toList:=fun i u hi=>by simp only[World.cell?,h,AO];simpa using hi
section
variable{P:Program}{I0:Nat->Prop}{B:Nat}{A:Nat->Option Place}{h:DB}{w:World}{t:TypeId}{ti:TI}
theorem Zm(hm:Mem I0 B A h w)(hf:CJ P t ti){a:DV}{va:Value}{r:R}(ha:Bz (Cd I0 B A w) w a va)(hl:Wf h ti a=xM r)(hr:r.OE=wg):
 ∃v,(Instr.loadAt t va).run P w=.ok v w/\Bz (Cd I0 B A w) w r.v v:=by
 unfold Wf at hl;split at hl
 ·rename_i cs;simp only[Bz] at ha;obtain⟨b,o,vs,rfl,_,hls,hread⟩:=ha;cases hs:shaped ti cs with
  | none=>simp[hs] at hl
  | some d =>simp only[hs,z5,Ae] at hl; subst hl;obtain⟨v,h1,h2⟩:=AcE (P:=P) (t:=t) w hf (vs:=vs) hread hls hs;exact⟨v,h1,Bz.Fa (Ji.Xz _) _ _ h2⟩
 ·rename_i n i j;simp only[Bz] at ha;obtain⟨_,p,hp,hd⟩:=ha;split at hl
  ·rename_i fz cs hlk;obtain⟨hst,b,e,cells,hk,hh,hls⟩:=MO hm hp hlk;have hd:=hd.resolve_left (Cn hst);unfold Iv at hd; rw[hk] at hd;obtain⟨rfl,rfl⟩:=hd;by_cases hj:j<cs.length
   ·simp only[hj,decide_true,xj,AE,Aa] at hl;cases hs:shaped ti (cs.drop j) with
    | none=>simp[hs] at hl
    | some d =>simp only[hs,z5,Ae] at hl; subst hl;have:=(W1 hh).drop j;rw[AO] at this;exact AcE (P:=P) (t:=t) w hf this (hls.drop j) hs
   ·simp[hj] at hl
  ·rename_i fz e k l hlk;obtain⟨hst,sv,hk,ho⟩:=Ej hm hp hlk;have hd:=hd.resolve_left (Cn hst);cases hag:ti.agg with
   | true=>simp[hag] at hl
   | false =>
     by_cases hj:j=0
     ·subst hj;simp only[hag,AZ,xj,AE,Aa,Ae] at hl; subst hl;simp only[Ai] at hr;obtain⟨g,cap,rfl,_,hread⟩:=FH ho (by omega);unfold Iv at hd; rw[hk] at hd;simp only[AN,AM] at hd; subst hd;have hi:(l.map (Value.int k))[i]?=xM (.int k (l.getD i 0)):=by simp[vB,hr]
      have:=hread i _ hi;rw[AO] at this;exact⟨_,KW w hf hag this,by simp[Bz]⟩
     ·rw[show(j==0)=wy by simpa using hj] at hl; simp at hl
  ·rename_i fz e sz l hlk;obtain⟨hst,hsz,sv,rows,hk,hrr,hlen,ho⟩:=E9 hm hp hlk;have hd:=hd.resolve_left (Cn hst)
   have key:i<l.length->∃g,va=.pointer (xM ⟨g,i*sz+j,xN⟩)/\∃row,rows[i]?=xM row/\row.length=sz/\Fp w g (i*sz) row/\BN (Cd I0 B A w).bare w (l.getD i []) row:=by
    intro hi;obtain⟨g,cap,rfl,_,hread⟩:=FH ho (by omega);unfold Iv at hd; rw[hk] at hd;have hli:l[i]?=xM (l.getD i []):=by simp[vB,hi]
    obtain⟨row,hrow,hlr⟩:=hrr.get i _ hli;refine⟨g,hd,row,hrow,(hlen row (yX hrow)).1,fun x u hu=>?_,hlr⟩;have:=hread _ _ (LP (fun r hr=>(hlen r hr).1) i row hrow x u hu);rwa[AO] at this
   cases hag:ti.agg with
   | true =>
     simp only[hag,Aa] at hl;by_cases hjs:j+ti.size<=sz
     ·simp only[hjs,decide_true,Aa,Ae] at hl; subst hl;simp only[Ai] at hr;obtain⟨g,rfl,row,hrow,hrl,hread,hlr⟩:=key hr;have h1:=NT (P:=P) (t:=t) w hf hag (hread.drop j) (by rw[List.length_drop]; omega);refine⟨_,h1,?_⟩;simp only[Bz];exact⟨_,rfl,by simpa using BN.Fa (Ji.Xz _) _ _ ((hlr.drop j).take ti.size)⟩
     ·simp[hjs] at hl
   | false =>
     simp only[hag,Af] at hl;by_cases hjs:j<sz
     ·simp only[hjs,decide_true,Aa,Ae] at hl; subst hl;simp only[Ai] at hr;obtain⟨g,rfl,row,hrow,hrl,hread,hlr⟩:=key hr;obtain⟨v,hv,hvr⟩:=hlr.getD j (by rw[hlr.length]; omega);exact⟨v,KW w hf hag (hread j v hv),Bz.Fa (Ji.Xz _) _ _ hvr⟩
     ·simp[hjs] at hl
  ·cases hl
 ·cases hl
end
section
variable{P:Program}{E:Env}{I0:Nat->Prop}{B:Nat}{A:Nat->Option Place}{h:DB}{w:World}{t:TypeId}
theorem UE{gs:Array Field}{fs:List (Nat × TypeId)}(hg:(gs.toList.map fun f=>(f.offset,f.type))=fs){i off:Nat}{ft:TypeId}(hi:fs[i]?=xM (off,ft)):
 ∃f,gs[i]?=xM f/\f.offset=off/\f.type=ft:=by
 subst hg;rw[AW] at hi;cases hq:gs.toList[i]? with
 | none=>simp[hq] at hi
 | some f =>simp only[hq,z5,Ae,Ak] at hi;exact⟨f,by simpa using hq,hi.1,hi.2⟩
theorem Rl(hm:Mem I0 B A h w){n:Nat}{p:Place}(hp:A n=xM p)(ha:Mg h n=wg):p.st≠.dead:=by
 unfold Mg at ha;split at ha
 ·cases ha
 ·cases ha
 ·rename_i x hx1 hx2;cases hq:look h n with
  | none=>exact absurd hq hx2
  | some fo =>
    obtain⟨fz,ob⟩:=fo;cases ob with
    | box cs=>exact Cn (MO hm hp hq).1
    | Bh e k l=>exact Cn (Ej hm hp hq).1
    | C3 e sz l=>exact Cn (E9 hm hp hq).1
    | dead=>exact absurd hq (hx1 fz)
theorem Vw(hty:∀t ti,E.ty t=xM ti->CJ P t ti)(hm:Mem I0 B A h w){a:DV}{va:Value}{f:Nat}{r:R}(ha:Bz (Cd I0 B A w) w a va)(hl:Nf E h t f a=xM r):
 ∃v,(Instr.fieldAt t va f).run P w=.ok v w/\Bz (Cd I0 B A w) w r.v v:=by
 unfold Nf at hl;split at hl
 ·rename_i fs _ hT;have hd:=(hty _ _ hT).desc;simp only[Da] at hd;obtain⟨gs,hu,hg⟩:=hd;split at hl
  ·rename_i off ft hoff;obtain⟨fl,hfl,ho,hft⟩:=UE hg hoff;cases hF:E.ty ft with
   | none=>simp[hF] at hl
   | some fi =>
     simp only[hF,Aj] at hl;by_cases hpos:0<fi.size
     ·simp only[hpos,decide_true,Aa] at hl;have hsz:(sizeOf fl.type).run P w=.ok fi.size w:=by rw[hft]; exact(hty _ _ hF).H0 w
      have hne:¬fi.size=0:=by omega
      have run:∀b o,(Instr.fieldAt t (.pointer (xM ⟨b,o,xN⟩)) f).run P w=.ok (.pointer (xM ⟨b,o+off,xN⟩)) w:=by intro b o;simp[Instr.fieldAt,run_underlying hu,hfl,Instr.sureAddr,fieldPlace,hsz,hne,ho,Addr.add_lit]
      split at hl
      ·rename_i n i j;cases hal:Mg h n with
       | false=>simp[hal] at hl
       | true =>
       simp only[hal,Aa,Ae] at hl; subst hl;simp only[Bz] at ha ⊢;obtain⟨_,p,hp,hd⟩:=ha;have hd:=hd.resolve_left (Rl hm hp hal);unfold Iv at hd;split at hd
       ·rename_i b hk;obtain⟨rfl,rfl⟩:=hd;exact⟨_,run _ _,rfl,p,hp,.inr (by unfold Iv; rw[hk]; exact⟨rfl,rfl⟩)⟩
       ·rename_i g _ _ size hk;subst hd;exact⟨_,run _ _,rfl,p,hp,.inr (by unfold Iv; rw[hk]; simp[yf])⟩
       ·exact hd.elim
      ·rename_i cs;simp only[Ae] at hl; subst hl;simp only[Bz] at ha ⊢;obtain⟨b,o,vs,rfl,hok,hls,hread⟩:=ha;exact⟨_,run _ _,b,o+off,vs.drop off,rfl,hok,hls.drop off,Fp.drop hread off⟩
      ·cases hl
     ·simp[hpos] at hl
  ·cases hl
 ·cases hl
theorem YQ{P:Program}{w:World}{t:TypeId}{ti:TI}(hf:CJ P t ti){c:Ctx}{cs:List DV}{vs:Array Value}{off:Nat}{d:DV}(hl:BN c w cs vs.toList)(h:VT ti cs off=xM d):
 ∃v,(part t vs off).run P w=.ok v w/\Bz c w d v:=by
 unfold VT at h;cases ha:ti.agg with
 | true =>
   simp only[ha,Aa] at h;by_cases hs:off+ti.size<=cs.length
   ·simp only[hs,decide_true,Aa,Ae] at h; subst h;refine⟨.agg (vs.extract off (off+ti.size)),by simp[part,hf.Qv w,ha,hf.H0 w],?_⟩;simp only[Bz];refine⟨_,rfl,?_⟩
    have:(vs.extract off (off+ti.size)).toList=(vs.toList.drop off).take ti.size:=by simp[List.take_drop]
    rw[this];exact(hl.drop off).take _
   ·simp[hs] at h
 | false =>
   simp only[ha,Af] at h;by_cases hs:off<cs.length
   ·simp only[hs,decide_true,Aa,Ae] at h; subst h;obtain⟨v,hv,hr⟩:=hl.getD off hs;refine⟨v,?_,hr⟩;have hv':vs[off]?=xM v:=by simpa using hv
    simp[part,hf.Qv w,ha,hv']
   ·simp[hs] at h
theorem AeO(hty:∀t ti,E.ty t=xM ti->CJ P t ti){c:Ctx}{a:DV}{va:Value}{f:Nat}{r:R}(ha:Bz c w a va)(hl:XS E t f a=xM r):
 ∃v,(Instr.field t va f).run P w=.ok v w/\Bz c w r.v v:=by
 unfold XS at hl;split at hl
 ·rename_i fs _ hT;have hd:=(hty _ _ hT).desc;simp only[Da] at hd;obtain⟨gs,hu,hg⟩:=hd;split at hl
  ·rename_i off ft cs hoff;obtain⟨fl,hfl,ho,hft⟩:=UE hg hoff;cases hF:E.ty ft with
   | none=>simp[hF] at hl
   | some fi =>
     cases hp:VT fi cs off with
     | none=>simp[hF,hp] at hl
     | some d =>simp only[hF,hp,Aj,z5,Ae] at hl; subst hl;simp only[Bz] at ha;obtain⟨vs,rfl,hls⟩:=ha;obtain⟨v,h1,h2⟩:=YQ (P:=P) (hty _ _ hF) hls hp;refine⟨v,?_,h2⟩;simp[Instr.field,run_underlying hu,hfl,asAgg,ho,hft,h1]
  ·cases hl
 ·cases hl
theorem AjV(hm:Mem I0 B A h w){a:DV}{va:Value}{n:Int}(ha:Bz (Cd I0 B A w) w a va)(hl:AjW h a=xM n):
 ∃(ad:Option Addr) (l cap:Nat),va=.slice ad l cap/\(l:Int)=n:=by
 unfold AjW at hl;split at hl
 ·simp only[Ae] at hl; simp only[Bz] at ha; exact⟨xN,0,0,ha,by simpa using hl⟩
 ·cases hl
 ·cases hl
 ·rename_i g k l hg;simp only[Ae] at hl;cases g with
  | own i e=>exact absurd rfl (hg i e)
  | arg=>simp only[Bz] at ha; obtain⟨ad,cap,rfl,_⟩:=ha; exact⟨ad,_,cap,rfl,hl⟩
  | BF=>simp only[Bz] at ha; obtain⟨ad,cap,rfl,_⟩:=ha; exact⟨ad,_,cap,rfl,hl⟩
 ·rename_i g sz l hg;simp only[Ae] at hl;cases g with
  | own i e=>exact absurd rfl (hg i e)
  | arg=>simp only[Bz] at ha; obtain⟨ad,cap,rfl,_⟩:=ha; exact⟨ad,_,cap,rfl,hl⟩
  | BF=>simp only[Bz] at ha; obtain⟨ad,cap,rfl,_⟩:=ha; exact⟨ad,_,cap,rfl,hl⟩
 ·rename_i n';simp only[Bz] at ha;obtain⟨_,p,hp,hd⟩:=ha;split at hl
  ·rename_i e k l hlk;obtain⟨hst,sv,hk,ho⟩:=Ej hm hp hlk;obtain⟨size,hk'⟩:=hd.resolve_left (Cn hst);rw[hk] at hk'; cases hk';simp only[Ae] at hl;rcases FG ho with ⟨rfl,h0⟩ | ⟨g,cap,rfl,_⟩
   ·exact⟨xN,0,0,rfl,by rw[<- hl,h0]⟩
   ·exact⟨_,_,_,rfl,hl⟩
  ·rename_i e sz l hlk;obtain⟨hst,_,sv,rows,hk,_,_,ho⟩:=E9 hm hp hlk;obtain⟨size,hk'⟩:=hd.resolve_left (Cn hst);rw[hk] at hk'; cases hk';simp only[Ae] at hl;rcases FG ho with ⟨rfl,h0⟩ | ⟨g,cap,rfl,_⟩
   ·exact⟨xN,0,0,rfl,by rw[<- hl,h0]⟩
   ·exact⟨_,_,_,rfl,hl⟩
  ·cases hl
 ·rename_i n' off len;cases hal:Mg h n' with
  | false=>simp[hal] at hl
  | true =>
    simp only[hal,Aa,Ae] at hl;simp only[Bz] at ha;obtain⟨_,p,hp,hd⟩:=ha;obtain⟨sv,size,hk,hs⟩:=hd.resolve_left (Rl hm hp hal);unfold Lt at hs;split at hs
    ·obtain⟨_,a',cap,rfl,_⟩:=hs; exact⟨_,_,_,rfl,hl⟩
    ·obtain⟨_,rfl,rfl⟩:=hs; exact⟨_,_,_,rfl,hl⟩
    ·exact hs.elim
 ·cases hl
end
section
variable{P:Program}{E:Env}{I0:Nat->Prop}{B:Nat}{A:Nat->Option Place}{h:DB}{w:World}{t:TypeId}
theorem bnd{i:Int}{n:Nat}(h:(decide (0<=i)&&decide (i<n))=wg):0<=i/\i<n:=by simpa using h
theorem run_indexAt_slice{e:TypeId}(hu:P.underlying t=xM (.slice e)){es:Nat}(hes:(sizeOf e).run P w=.ok es w){b o len cap:Nat}{k:IntKind}{i:Int}(hi:0<=i/\i<len):
 (Instr.indexAt t (.slice (xM ⟨b,o,xN⟩) len cap) (.int k i)).run P w=.ok (.pointer (xM ⟨b,o+i.toNat*es,xN⟩)) w:=by
 obtain⟨h0,h1⟩:=hi;have:(⟨b,o,xN⟩:Addr).add (i.toNat*es)=⟨b,o+i.toNat*es,xN⟩:=Addr.add_lit _ _ _;simp[Instr.indexAt,asIntOf,run_underlying hu,h0,h1,hes,this]
theorem Vt(hty:∀t ti,E.ty t=xM ti->CJ P t ti)(hm:Mem I0 B A h w){a:DV}{va:Value}{k:IntKind}{i:Int}{r:R}(ha:Bz (Cd I0 B A w) w a va)(hl:MY E h t a i=xM r)(hr:r.OE=wg):
 ∃v,(Instr.indexAt t va (.int k i)).run P w=.ok v w/\Bz (Cd I0 B A w) w r.v v:=by
 unfold MY at hl;split at hl
 ·rename_i e _ hT;have hu:=(hty _ _ hT).desc;simp only[Da] at hu;cases hE:E.ty e with
  | none=>simp[hE] at hl
  | some ei =>
  simp only[hE,Aj] at hl;have hes:=(hty _ _ hE).H0 w;split at hl
  ·cases hl
  ·rename_i g kk l hg;by_cases h1:ei.size=1
   ·simp only[h1,AE,Aa,Ae] at hl; subst hl;obtain⟨h0,hlt⟩:=bnd hr
    have hmain:∃cap b o,va=.slice (xM ⟨b,o,xN⟩) l.length cap/\(Cd I0 B A w).ok b/\∀(i:Nat) n,l[i]?=xM n->w.cell? ⟨b,o+i,xN⟩=xM (.int kk n):=by
     cases g with
     | own i e=>exact absurd rfl (hg i e)
     | arg=>simp only[Bz] at ha; obtain⟨ad,cap,rfl,_,hh⟩:=ha; rcases hh with rfl | ⟨b,o,rfl,hb,hrd⟩; (simp at hlt; omega); exact⟨cap,b,o,rfl,hb,hrd⟩
     | BF=>simp only[Bz] at ha; obtain⟨ad,cap,rfl,_,hh⟩:=ha; rcases hh with rfl | ⟨b,o,rfl,hb,hrd⟩; (simp at hlt; omega); exact⟨cap,b,o,rfl,hb.1,hrd⟩
    obtain⟨cap,b,o,rfl,hok,hrd⟩:=hmain;have hrun:=run_indexAt_slice (P:=P) (w:=w) (cap:=cap) (b:=b) (o:=o) (k:=k) hu (by rw[h1] at hes; exact hes) ⟨h0,hlt⟩;rw[AN] at hrun;refine⟨_,hrun,?_⟩;simp only[Bz]
    have hn:l[i.toNat]?=xM (l.getD i.toNat 0):=by
     have:i.toNat<l.length:=by omega
     simp[vB,this]
    refine⟨b,o+i.toNat,[.int kk (l.getD i.toNat 0)],rfl,hok,?_,?_⟩
    ·simp[BN,Bz]
    ·intro j u hj;cases j with
     | zero=>simp at hj; subst hj; simpa using hrd _ _ hn
     | succ j=>simp at hj
   ·rw[show(ei.size==1)=wy by simpa using h1] at hl; simp at hl
  ·cases hl
  ·rename_i g sz l hg;by_cases h1:ei.size=sz
   ·simp only[h1,AE,Aa,Ae] at hl; subst hl;obtain⟨h0,hlt⟩:=bnd hr
    have hmain:∃cap b o rows,va=.slice (xM ⟨b,o,xN⟩) l.length cap/\(Cd I0 B A w).ok b/\Dp (Cd I0 B A w).bare w l rows/\(∀r∈rows,r.length=sz/\∀u∈r,u.oneCell'=wg)/\Fp w b o rows.flatten:=by
     cases g with
     | own i e=>exact absurd rfl (hg i e)
     | arg=>simp only[Bz] at ha; obtain⟨ad,cap,rfl,_,hh⟩:=ha; rcases hh with rfl | ⟨b,o,rows,rfl,hb,hrr,hlen,hrd⟩; (simp at hlt; omega); exact⟨cap,b,o,rows,rfl,hb,hrr,hlen,hrd⟩
     | BF=>simp only[Bz] at ha; obtain⟨ad,cap,rfl,_,hh⟩:=ha; rcases hh with rfl | ⟨b,o,rows,rfl,hb,hrr,hlen,hrd⟩; (simp at hlt; omega); exact⟨cap,b,o,rows,rfl,hb.1,hrr,hlen,hrd⟩
    obtain⟨cap,b,o,rows,rfl,hok,hrr,hlen,hrd⟩:=hmain;have hrun:=run_indexAt_slice (P:=P) (w:=w) (cap:=cap) (b:=b) (o:=o) (k:=k) hu (by rw[h1] at hes; exact hes) ⟨h0,hlt⟩;refine⟨_,hrun,?_⟩;simp only[Bz]
    have hn:l[i.toNat]?=xM (l.getD i.toNat []):=by
     have:i.toNat<l.length:=by omega
     simp[vB,this]
    obtain⟨row,hrow,hlr⟩:=hrr.get _ _ hn;refine⟨b,o+i.toNat*sz,row,rfl,hok,by rw[AaG (hlr.length.trans (hlen row (yX hrow)).1)]; exact hlr,fun j u hj=>?_⟩;rw[yf];exact hrd _ _ (LP (fun r hr=>(hlen r hr).1) _ _ hrow j u hj)
   ·rw[show(ei.size==sz)=wy by simpa using h1] at hl; simp at hl
  ·rename_i n;simp only[Bz] at ha;obtain⟨_,p,hp,hd⟩:=ha;split at hl
   ·rename_i e' kk l hlk;obtain⟨hst,sv,hk,ho⟩:=Ej hm hp hlk;obtain⟨size,hk'⟩:=hd.resolve_left (Cn hst);rw[hk] at hk'; cases hk';by_cases h1:ei.size=1
    ·simp only[h1,AE,Aa,Ae] at hl; subst hl;obtain⟨h0,hlt⟩:=bnd hr;obtain⟨g,cap,rfl,_,_⟩:=FH ho (by omega);have hrun:=run_indexAt_slice (P:=P) (w:=w) (cap:=cap) (b:=g) (o:=0) (k:=k) hu (by rw[h1] at hes; exact hes) ⟨h0,hlt⟩;refine⟨_,hrun,?_⟩;simp only[Bz];exact⟨rfl,p,hp,.inr (by unfold Iv; rw[hk]; simp)⟩
    ·rw[show(ei.size==1)=wy by simpa using h1] at hl; simp at hl
   ·rename_i e' sz l hlk;obtain⟨hst,_,sv,rows,hk,hrr,hlen,ho⟩:=E9 hm hp hlk;obtain⟨size,hk'⟩:=hd.resolve_left (Cn hst);rw[hk] at hk'; cases hk';by_cases h1:ei.size=sz
    ·simp only[h1,AE,Aa,Ae] at hl; subst hl;obtain⟨h0,hlt⟩:=bnd hr;obtain⟨g,cap,rfl,_,_⟩:=FH ho (by omega);have hrun:=run_indexAt_slice (P:=P) (w:=w) (cap:=cap) (b:=g) (o:=0) (k:=k) hu (by rw[h1] at hes; exact hes) ⟨h0,hlt⟩;refine⟨_,hrun,?_⟩;simp only[Bz];exact⟨rfl,p,hp,.inr (by unfold Iv; rw[hk]; simp)⟩
    ·rw[show(ei.size==sz)=wy by simpa using h1] at hl; simp at hl
   ·cases hl
  ·rename_i n off len;simp only[Bz] at ha;obtain⟨_,p,hp,hd⟩:=ha
   have key:∀(sz:Nat) sv,p.kind=.row sv sz->Lt sv sz off len va->ei.size=sz->(0<=i/\i<len)->∃v,(Instr.indexAt t va (.int k i)).run P w=.ok v w/\Bz (Cd I0 B A w) w (.ptr n (off+i.toNat) 0) v:=by
    intro sz sv hk hs h1 hb;unfold Lt at hs;split at hs
    ·rename_i g nn cc;obtain⟨_,a',cap,rfl,_,ha'⟩:=hs;have ha':=ha'.resolve_left (by omega);subst ha';have hrun:=run_indexAt_slice (P:=P) (w:=w) (cap:=cap) (b:=g) (o:=off*sz) (k:=k) hu (by rw[h1] at hes; exact hes) hb;refine⟨_,hrun,?_⟩;simp only[Bz];exact⟨rfl,p,hp,.inr (by unfold Iv; rw[hk]; simp[AI])⟩
    ·omega
    ·exact hs.elim
   split at hl
   ·rename_i e' kk l hlk;obtain⟨hst,sv,hk,ho⟩:=Ej hm hp hlk;obtain⟨sv',size,hk',hs⟩:=hd.resolve_left (Cn hst);rw[hk] at hk'; cases hk';by_cases h1:ei.size=1
    ·simp only[h1,AE,Aa,Ae] at hl; subst hl;exact key 1 _ hk hs h1 (bnd hr)
    ·rw[show(ei.size==1)=wy by simpa using h1] at hl; simp at hl
   ·rename_i e' sz l hlk;obtain⟨hst,_,sv,rows,hk,hrr,hlen,ho⟩:=E9 hm hp hlk;obtain⟨sv',size,hk',hs⟩:=hd.resolve_left (Cn hst);rw[hk] at hk'; cases hk';by_cases h1:ei.size=sz
    ·simp only[h1,AE,Aa,Ae] at hl; subst hl;exact key sz _ hk hs h1 (bnd hr)
    ·rw[show(ei.size==sz)=wy by simpa using h1] at hl; simp at hl
   ·cases hl
  ·cases hl
 ·rename_i len e _ hT;have hu:=(hty _ _ hT).desc;simp only[Da] at hu;cases hE:E.ty e with
  | none=>simp[hE] at hl
  | some ei =>
  simp only[hE,Aj] at hl;have hes:=(hty _ _ hE).H0 w
  have run:∀b o,(0<=i/\i<len)->(Instr.indexAt t (.pointer (xM ⟨b,o,xN⟩)) (.int k i)).run P w=.ok (.pointer (xM ⟨b,o+i.toNat*ei.size,xN⟩)) w:=by intro b o hb;obtain⟨h0,h1⟩:=hb;have:(⟨b,o,xN⟩:Addr).add (i.toNat*ei.size)=⟨b,o+i.toNat*ei.size,xN⟩:=Addr.add_lit _ _ _;simp[Instr.indexAt,asIntOf,run_underlying hu,Instr.sureAddr,h0,h1,hes,this]
  split at hl
  ·rename_i n j;by_cases hq:(decide (1<len)&&Mg h n)=wg
   ·simp only[hq,Aa,Ae] at hl; subst hl;simp only[Bz] at ha ⊢;obtain⟨_,p,hp,hd⟩:=ha;have hd:=hd.resolve_left (Rl hm hp (by simp at hq; exact hq.2));unfold Iv at hd;split at hd
    ·rename_i b hk;obtain⟨_,rfl⟩:=hd;exact⟨_,run _ _ (bnd hr),rfl,p,hp,.inr (by unfold Iv; rw[hk]; exact⟨rfl,rfl⟩)⟩
    ·rename_i g _ _ size hk;subst hd;exact⟨_,run _ _ (bnd hr),rfl,p,hp,.inr (by unfold Iv; rw[hk]; simp)⟩
    ·exact hd.elim
   ·simp only[zD] at hq; rw[hq] at hl; simp at hl
  ·rename_i cs;by_cases hq:1<len
   ·simp only[hq,decide_true,Aa,Ae] at hl; subst hl;simp only[Bz] at ha ⊢;obtain⟨b,o,vs,rfl,hok,hls,hread⟩:=ha;exact⟨_,run _ _ (bnd hr),b,o+i.toNat*ei.size,vs.drop (i.toNat*ei.size),rfl,hok,hls.drop _,Fp.drop hread _⟩
   ·simp[hq] at hl
  ·cases hl
 ·cases hl
theorem AeF(hty:∀t ti,E.ty t=xM ti->CJ P t ti){c:Ctx}{a:DV}{va:Value}{k:IntKind}{i:Int}{r:R}(ha:Bz c w a va)(hl:XM E t a i=xM r)(hr:r.OE=wg):
 ∃v,(Instr.index t va (.int k i)).run P w=.ok v w/\Bz c w r.v v:=by
 unfold XM at hl;split at hl
 ·rename_i len e _ hT;have hu:=(hty _ _ hT).desc;simp only[Da] at hu;split at hl
  ·rename_i cs;cases hE:E.ty e with
   | none=>simp[hE] at hl
   | some ei =>
   simp only[hE,Aj] at hl;by_cases hq:(decide (len*ei.size<=cs.length)&&decide (0<ei.size))=wg
   ·simp only[hq,Aa,Ae] at hl; subst hl;obtain⟨h0,h1⟩:=bnd hr;simp only[Am,Ai] at hq;simp only[Bz] at ha;obtain⟨vs,rfl,hls⟩:=ha;have hin:i.toNat<len:=by omega
    have hbig:i.toNat*ei.size+ei.size<=len*ei.size:=by have:=An ei.size (show i.toNat+1<=len by omega);rw[yd] at this; exact this
    have hpd:VT ei cs (i.toNat*ei.size)=xM (cond ei.agg (.agg ((cs.drop (i.toNat*ei.size)).take ei.size)) (cs.getD (i.toNat*ei.size) .undef)):=by
     unfold VT;cases hag:ei.agg with
     | true=>simp only[Aa]; rw[show decide (i.toNat*ei.size+ei.size<=cs.length)=wg by simp; omega]; rfl
     | false=>simp only[Af]; rw[show decide (i.toNat*ei.size<cs.length)=wg by simp; omega]; rfl
    obtain⟨v,h2,h3⟩:=YQ (P:=P) (w:=w) (hty _ _ hE) hls hpd;refine⟨v,?_,h3⟩;simp[Instr.index,asIntOf,run_underlying hu,h0,h1,(hty _ _ hE).H0 w,h2]
   ·simp only[zD] at hq; rw[hq] at hl; simp at hl
  ·cases hl
 ·cases hl
end
def GU:Option Int->Option Value->Prop
 | none,v=>v=xN
 | some x,v=>∃k,v=xM (.int k x)
theorem SO{α:Type}(lo hi:Option Int)(l:List α):Ql lo hi l=(l.take (hi.getD l.length).toNat).drop (lo.getD 0).toNat:=by cases lo<;>cases hi<;>simp[Ql]
theorem NW{lo hi mx:Option Int}{len:Nat}(h:okB lo hi mx len=wg):
 0<=lo.getD 0/\lo.getD 0<=hi.getD len/\0<=hi.getD len/\hi.getD len<=mx.getD len/\(∀m,mx=xM m->0<=m/\m<=len/\hi.isSome=wg):=by
 unfold okB at h;cases lo<;>cases hi<;>cases mx<;>simp at h ⊢<;>omega
theorem K8{α:Type}{sz:Nat}:∀{rows:List (List α)},(∀r∈rows,r.length=sz)->∀(n:Nat),(rows.take n).flatten=rows.flatten.take (n*sz)
 | [],_,n=>by simp
 | r0::rows,hl,n=>by
   have h0:r0.length=sz:=hl r0 (by simp);cases n with
   | zero=>simp
   | succ n =>simp only[List.take_succ_cons,yH];rw[K8 (rows:=rows) (fun r hr=>hl r (by simp[hr])) n,yd,List.take_append,List.take_of_length_le (l:=r0) (by omega),h0,yC]
theorem Nb{α:Type}{sz:Nat}:∀{rows:List (List α)},(∀r∈rows,r.length=sz)->∀(n:Nat),(rows.drop n).flatten=rows.flatten.drop (n*sz)
 | [],_,n=>by simp
 | r0::rows,hl,n=>by
   have h0:r0.length=sz:=hl r0 (by simp);cases n with
   | zero=>simp
   | succ n =>simp only[List.drop_succ_cons,yH];rw[Nb (rows:=rows) (fun r hr=>hl r (by simp[hr])) n,yd,List.drop_append,List.drop_eq_nil_of_le (as:=r0) (by omega),h0,yC,List.nil_append]
theorem ER{w:World}{base:Nat}{e:TypeId}{size n:Nat}{v:Value}{xs:List Value}(h:w.ownsRow base e size v n xs):Lt v size 0 n v:=by
 rcases FG h with ⟨rfl,rfl⟩ | ⟨g,cap,rfl,hc⟩
 ·simp[Lt]
 ·simp only[Lt]; exact⟨by omega,_,_,rfl,hc,.inr (by simp)⟩
section
variable{P:Program}{w:World}
theorem KI(k:IntKind){x:Int}{y:Nat}(h0:0<=x)(h1:x<=y)(code:BoundsCode):(Instr.sliceBound (.int k x) y code).run P w=.ok x.toNat w:=by simp[Instr.sliceBound,asIntOf,h0,h1]
theorem AaE{lo hi mx:Option Int}{vlo vhi vmx:Option Value}{len cap:Nat}(h:okB lo hi mx len=wg)(hc:len<=cap)(h1:GU lo vlo)(h2:GU hi vhi)(h3:GU mx vmx):
 (Instr.sliceBounds wg len cap vlo vhi vmx).run P w=.ok ((lo.getD 0).toNat,(hi.getD len).toNat,(mx.getD cap).toNat) w:=by
 obtain⟨a1,a2,a3,a4,a5⟩:=NW h;cases mx with
 | none =>
   simp only[GU] at h3; subst h3;simp only[xD] at a4;cases hi with
   | none =>
     simp only[GU] at h2; subst h2;cases lo with
     | none=>simp only[GU] at h1; subst h1; simp[Instr.sliceBounds]
     | some x =>obtain⟨k,rfl⟩:=h1;simp only[Ba,xD] at a1 a2;simp[Instr.sliceBounds,KI k a1 a2]
   | some y =>
     obtain⟨k',rfl⟩:=h2;simp only[Ba] at a2 a3 a4;have hy:=KI (P:=P) (w:=w) k' a3 (show y<=(cap:Int) by omega) .sliceAcap;cases lo with
     | none=>simp only[GU] at h1; subst h1; simp[Instr.sliceBounds,hy]
     | some x =>obtain⟨k,rfl⟩:=h1;simp only[Ba] at a1 a2;have hx:=KI (P:=P) (w:=w) k a1 (show x<=(y.toNat:Int) by omega) .sliceB;simp[Instr.sliceBounds,hy,hx]
 | some m =>
   obtain⟨k'',rfl⟩:=h3;obtain⟨b1,b2,b3⟩:=a5 m rfl;have hm:=KI (P:=P) (w:=w) k'' b1 (show m<=(cap:Int) by omega) .slice3Acap;cases hi with
   | none=>cases b3
   | some y =>
     obtain⟨k',rfl⟩:=h2;simp only[Ba] at a2 a3 a4;have hy:=KI (P:=P) (w:=w) k' a3 (show y<=(m.toNat:Int) by omega) .slice3B;cases lo with
     | none=>simp only[GU] at h1; subst h1; simp[Instr.sliceBounds,hm,hy]
     | some x =>obtain⟨k,rfl⟩:=h1;simp only[Ba] at a1 a2;have hx:=KI (P:=P) (w:=w) k a1 (show x<=(y.toNat:Int) by omega) .slice3C;simp[Instr.sliceBounds,hm,hy,hx]
theorem JJ{t e:TypeId}{es:Nat}(hu:P.underlying t=xM (.slice e))(hes:(sizeOf e).run P w=.ok es w){lo hi mx:Option Int}{vlo vhi vmx:Option Value}{a:Option Addr}{len cap:Nat}(h:okB lo hi mx len=wg)(hc:len<=cap)(h1:GU lo vlo)(h2:GU hi vhi)(h3:GU mx vmx):
 (Instr.sliceAt t (.slice a len cap) vlo vhi vmx).run P w=.ok (.slice (if (mx.getD cap).toNat=(lo.getD 0).toNat then a else a.map (·.add ((lo.getD 0).toNat*es))) ((hi.getD len).toNat-(lo.getD 0).toNat) ((mx.getD cap).toNat-(lo.getD 0).toNat)) w:=by
 have hb:=AaE (P:=P) (w:=w) h hc h1 h2 h3;simp[Instr.sliceAt,Instr.slice,run_underlying hu,hb,hes]
variable{E:Env}{I0:Nat->Prop}{B:Nat}{A:Nat->Option Place}{h:DB}{t:TypeId}
theorem Q4{lo hi mx:Option Int}{len cap:Nat}(h:okB lo hi mx len=wg)(hc:len<=cap):(lo.getD 0).toNat<=(hi.getD len).toNat/\(hi.getD len).toNat<=len/\(hi.getD len).toNat<=(mx.getD cap).toNat:=by
 obtain⟨a1,a2,a3,a4,a5⟩:=NW h;cases mx with
 | none=>simp only[xD] at *; omega
 | some m=>obtain⟨b1,b2,b3⟩:=a5 m rfl; simp only[Ba] at *; omega
theorem SN{n:Nat}{p:Place}(hp:A n=xM p){sv:Value}{sz:Nat}(hk:p.kind=.row sv sz){e:TypeId}{es:Nat}(hu:P.underlying t=xM (.slice e))(hes:(sizeOf e).run P w=.ok es w)(h1:es=sz)
 {off len:Nat} {va:Value} (hs:Lt sv sz off len va) {lo hi mx:Option Int} {vlo vhi vmx:Option Value} (hq:okB lo hi mx len=wg) (hlo:GU lo vlo) (hhi:GU hi vhi) (hmx:GU mx vmx):
 ∃v,(Instr.sliceAt t va vlo vhi vmx).run P w=.ok v w/\Bz (Cd I0 B A w) w (.Ky n (off+(lo.getD 0).toNat) ((hi.getD len)-(lo.getD 0)).toNat) v:=by
 obtain⟨a1,a2,a3,a4,a5⟩:=NW hq;have hsub:((hi.getD len)-(lo.getD 0)).toNat=(hi.getD len).toNat-(lo.getD 0).toNat:=by omega
 unfold Lt at hs;split at hs
 ·rename_i g nn cc;obtain⟨hle,a',cap,rfl,hcap,ha'⟩:=hs;obtain⟨c1,c2,c3⟩:=Q4 hq hcap;refine⟨_,JJ hu hes hq hcap hlo hhi hmx,?_⟩;simp only[Bz];refine⟨rfl,p,hp,.inr ⟨_,sz,hk,?_⟩⟩;unfold Lt;rw[hsub];refine⟨by omega,?_⟩;by_cases hm:(mx.getD ↑cap).toNat=(lo.getD 0).toNat
  ·rw[Az hm];exact⟨a',_,rfl,by omega,.inl (by omega)⟩
  ·rw[Ay hm];refine⟨_,_,rfl,by omega,?_⟩;by_cases h0:len=0
   ·exact .inl (by omega)
   ·have ha':=ha'.resolve_left h0;subst ha';refine .inr ?_;show(⟨g,off*sz,xN⟩:Addr).add _=_;rw[Addr.add_lit,h1,AI]
 ·obtain⟨rfl,rfl,rfl⟩:=hs;obtain⟨c1,c2,c3⟩:=Q4 hq (A7 0);refine⟨_,JJ hu hes hq (A7 0) hlo hhi hmx,?_⟩;simp only[Bz];refine⟨rfl,p,hp,.inr ⟨_,sz,hk,?_⟩⟩;unfold Lt;rw[hsub]
  have hmz:(mx.getD ((0:Nat):Int)).toNat=0:=by
   cases mx with
   | none=>rfl
   | some m=>have:=a5 m rfl; simp only[Ba]; omega
  refine⟨by omega,by omega,?_⟩;have e1:(lo.getD 0).toNat=0:=by omega
  have e2:(hi.getD ((0:Nat):Int)).toNat=0:=by omega
  rw[hmz,e1,e2];rfl
 ·exact hs.elim
theorem AdN(hty:∀t ti,E.ty t=xM ti->CJ P t ti)(hm:Mem I0 B A h w){a:DV}{va:Value}{lo hi mx:Option Int}{vlo vhi vmx:Option Value}{r:R}(ha:Bz (Cd I0 B A w) w a va)(hlo:GU lo vlo)(hhi:GU hi vhi)(hmx:GU mx vmx)(hl:Xa E h t a lo hi mx=xM r)(hr:r.OE=wg):
 ∃v,(Instr.sliceAt t va vlo vhi vmx).run P w=.ok v w/\Bz (Cd I0 B A w) w r.v v:=by
 unfold Xa at hl;split at hl
 ·rename_i e _ hT;have hu:=(hty _ _ hT).desc;simp only[Da] at hu;cases hE:E.ty e with
  | none=>simp[hE] at hl
  | some ei =>
  simp only[hE,Aj] at hl;have hes:=(hty _ _ hE).H0 w;split at hl
  ·cases lo<;>cases hi<;>cases mx<;>simp at hl;subst hl;simp only[GU] at hlo hhi hmx;subst hlo; subst hhi; subst hmx;simp only[Bz] at ha; subst ha;have:=JJ (P:=P) (w:=w) (lo:=xN) (hi:=xN) (mx:=xN) (vlo:=xN) (vhi:=xN) (vmx:=xN) (a:=xN) (len:=0) (cap:=0) hu hes rfl (A7 0) rfl rfl rfl;exact⟨_,this,by simp[Bz]⟩
  ·cases hl
  ·rename_i g kk l hg;by_cases h1:ei.size=1
   ·simp only[h1,AE,Aa,Ae] at hl; subst hl;rw[h1] at hes
    have hmain:∃ad cap,va=.slice ad l.length cap/\l.length<=cap/\(l=[]\/∃b o,ad=xM ⟨b,o,xN⟩/\(Cd I0 B A w).FK g b/\∀(i:Nat) n,l[i]?=xM n->w.cell? ⟨b,o+i,xN⟩=xM (.int kk n)):=by
     cases g with
     | own i e=>exact absurd rfl (hg i e)
     | arg=>simpa only[Bz] using ha
     | BF=>simpa only[Bz] using ha
    obtain⟨ad,cap,rfl,hcap,hh⟩:=hmain;obtain⟨c1,c2,c3⟩:=Q4 hr hcap;obtain⟨a1,a2,a3,a4,a5⟩:=NW hr;refine⟨_,JJ hu hes hr hcap hlo hhi hmx,?_⟩
    have hlen:(Ql lo hi l).length=(hi.getD l.length).toNat-(lo.getD 0).toNat:=by rw[SO]; simp; omega
    have goal:∃a' cap',(Value.slice (if (mx.getD cap).toNat=(lo.getD 0).toNat then ad else ad.map (·.add ((lo.getD 0).toNat*1))) ((hi.getD l.length).toNat-(lo.getD 0).toNat) ((mx.getD cap).toNat-(lo.getD 0).toNat))=.slice a' (Ql lo hi l).length cap'/\(Ql lo hi l).length<=cap'/\((Ql lo hi l)=[]\/∃b o,a'=xM ⟨b,o,xN⟩/\(Cd I0 B A w).FK g b/\∀(i:Nat) n,(Ql lo hi l)[i]?=xM n->w.cell? ⟨b,o+i,xN⟩=xM (.int kk n)):=by
     rw[hlen];refine⟨_,_,rfl,by omega,?_⟩;by_cases h0:(hi.getD l.length).toNat-(lo.getD 0).toNat=0
     ·exact .inl (AF (by omega))
     ·rcases hh with rfl | ⟨b,o,rfl,hb,hrd⟩
      ·simp only[xO] at *; omega
      ·refine .inr ⟨b,o+(lo.getD 0).toNat,?_,hb,fun i n hi'=>?_⟩
       ·rw[Ay (by omega)];simp only[z5,AN];rw[Addr.add_lit]
       ·rw[SO,yB] at hi'
        have hlt:(lo.getD 0).toNat+i<(hi.getD l.length).toNat:=by
         rcases AA ((lo.getD 0).toNat+i) (hi.getD l.length).toNat with h' | h'
         ·exact h'
         ·rw[yW h'] at hi'; cases hi'
        rw[yG hlt] at hi';rw[yf];exact hrd _ _ hi'
    cases g with
    | own i e=>exact absurd rfl (hg i e)
    | arg=>simpa only[Bz] using goal
    | BF=>simpa only[Bz] using goal
   ·rw[show(ei.size==1)=wy by simpa using h1] at hl; simp at hl
  ·cases hl
  ·rename_i g sz l hg;by_cases h1:ei.size=sz
   ·simp only[h1,AE,Aa,Ae] at hl; subst hl;rw[h1] at hes
    have hmain:∃ad cap,va=.slice ad l.length cap/\l.length<=cap/\(l=[]\/∃b o rows,ad=xM ⟨b,o,xN⟩/\(Cd I0 B A w).FK g b/\Dp (Cd I0 B A w).bare w l rows/\(∀r∈rows,r.length=sz/\∀u∈r,u.oneCell'=wg)/\∀(i:Nat) u,rows.flatten[i]?=xM u->w.cell? ⟨b,o+i,xN⟩=xM u):=by
     cases g with
     | own i e=>exact absurd rfl (hg i e)
     | arg=>simpa only[Bz] using ha
     | BF=>simpa only[Bz] using ha
    obtain⟨ad,cap,rfl,hcap,hh⟩:=hmain;obtain⟨c1,c2,c3⟩:=Q4 hr hcap;obtain⟨a1,a2,a3,a4,a5⟩:=NW hr;refine⟨_,JJ hu hes hr hcap hlo hhi hmx,?_⟩
    have hlen:(Ql lo hi l).length=(hi.getD l.length).toNat-(lo.getD 0).toNat:=by rw[SO]; simp; omega
    have goal:∃a' cap',(Value.slice (if (mx.getD cap).toNat=(lo.getD 0).toNat then ad else ad.map (·.add ((lo.getD 0).toNat*sz))) ((hi.getD l.length).toNat-(lo.getD 0).toNat) ((mx.getD cap).toNat-(lo.getD 0).toNat))=.slice a' (Ql lo hi l).length cap'/\(Ql lo hi l).length<=cap'/\((Ql lo hi l)=[]\/∃b o rows,a'=xM ⟨b,o,xN⟩/\(Cd I0 B A w).FK g b/\Dp (Cd I0 B A w).bare w (Ql lo hi l) rows/\(∀r∈rows,r.length=sz/\∀u∈r,u.oneCell'=wg)/\∀(i:Nat) u,rows.flatten[i]?=xM u->w.cell? ⟨b,o+i,xN⟩=xM u):=by
     rw[hlen];refine⟨_,_,rfl,by omega,?_⟩;by_cases h0:(hi.getD l.length).toNat-(lo.getD 0).toNat=0
     ·exact .inl (AF (by omega))
     ·rcases hh with rfl | ⟨b,o,rows,rfl,hb,hrr,hlr,hrd⟩
      ·simp only[xO] at *; omega
      ·refine .inr ⟨b,o+(lo.getD 0).toNat*sz,(rows.take (hi.getD l.length).toNat).drop (lo.getD 0).toNat,?_,hb,?_,?_,?_⟩
       ·rw[Ay (by omega)];simp only[z5];rw[Addr.add_lit]
       ·rw[SO]; exact(hrr.take _).drop _
       ·exact fun r hr'=>hlr r (yZ (List.mem_of_mem_drop hr'))
       ·intro i u hi';rw[yf];refine hrd _ _ ?_;rw[Nb (fun r hr'=>(hlr r (yZ hr')).1),yB,K8 (fun r hr'=>(hlr r hr').1)] at hi';rcases AA ((lo.getD 0).toNat*sz+i) ((hi.getD l.length).toNat*sz) with h' | h'
        ·rwa[yG h'] at hi'
        ·rw[yW h'] at hi'; cases hi'
    cases g with
    | own i e=>exact absurd rfl (hg i e)
    | arg=>simpa only[Bz] using goal
    | BF=>simpa only[Bz] using goal
   ·rw[show(ei.size==sz)=wy by simpa using h1] at hl; simp at hl
  ·rename_i n;simp only[Bz] at ha;obtain⟨_,p,hp,hd⟩:=ha;split at hl
   ·rename_i e' kk l hlk;obtain⟨hst,sv,hk,ho⟩:=Ej hm hp hlk;obtain⟨size,hk'⟩:=hd.resolve_left (Cn hst);rw[hk] at hk'; cases hk';by_cases h1:ei.size=1
    ·simp only[h1,AE,Aa,Ae] at hl; subst hl;have:=SN (I0:=I0) (B:=B) (A:=A) (off:=0) (len:=l.length) hp hk hu hes h1 (va:=va) (ER ho) hr hlo hhi hmx;simpa using this
    ·rw[show(ei.size==1)=wy by simpa using h1] at hl; simp at hl
   ·rename_i e' sz l hlk;obtain⟨hst,_,sv,rows,hk,hrr,hlen,ho⟩:=E9 hm hp hlk;obtain⟨size,hk'⟩:=hd.resolve_left (Cn hst);rw[hk] at hk'; cases hk';by_cases h1:ei.size=sz
    ·simp only[h1,AE,Aa,Ae] at hl; subst hl;have:=SN (I0:=I0) (B:=B) (A:=A) (off:=0) (len:=l.length) hp hk hu hes h1 (va:=va) (ER ho) hr hlo hhi hmx;simpa using this
    ·rw[show(ei.size==sz)=wy by simpa using h1] at hl; simp at hl
   ·cases hl
  ·rename_i n off len;simp only[Bz] at ha;obtain⟨_,p,hp,hd⟩:=ha;split at hl
   ·rename_i e' kk l hlk;obtain⟨hst,sv,hk,ho⟩:=Ej hm hp hlk;obtain⟨sv',size,hk',hs⟩:=hd.resolve_left (Cn hst);rw[hk] at hk'; cases hk';by_cases h1:ei.size=1
    ·simp only[h1,AE,Aa,Ae] at hl; subst hl;exact SN hp hk hu hes h1 hs hr hlo hhi hmx
    ·rw[show(ei.size==1)=wy by simpa using h1] at hl; simp at hl
   ·rename_i e' sz l hlk;obtain⟨hst,_,sv,rows,hk,hrr,hlen,ho⟩:=E9 hm hp hlk;obtain⟨sv',size,hk',hs⟩:=hd.resolve_left (Cn hst);rw[hk] at hk'; cases hk';by_cases h1:ei.size=sz
    ·simp only[h1,AE,Aa,Ae] at hl; subst hl;exact SN hp hk hu hes h1 hs hr hlo hhi hmx
    ·rw[show(ei.size==sz)=wy by simpa using h1] at hl; simp at hl
   ·cases hl
  ·cases hl
 ·cases hl
end
end Go.Den
end
