/- A verified evaluator of the program's form and its use for this seat: Den0, Den1, Den2, Den3, Den4, Den5, Den6, Den7, Den8, Den9. -/
import Derived.Below
import Derived.Orders
import Derived.Laws.MakeOwn
import Derived.Laws.Entries
import Derived.Laws.Cells
import Derived.Laws.StructEq
set_option linter.unusedVariables false
set_option linter.unusedSimpArgs false
open Option renaming some->xQ,none->xY
open Bool renaming true->xZ,false->x5
open List renaming getD->wt
open List renaming getD_eq_getElem?_getD->wZ,drop_of_length_le->w8,getElem?_eq_getElem->vd,length_append->vg,eq_nil_of_length_eq_zero->vi,mem_cons_of_mem->vk,getElem?_append_right->vn,mem_cons_self->vo,getElem?_eq_none->vq,range->zf,replicate->zp,cons_append->xH,getElem?_drop->yL,getElem?_take_eq_none->yU,getElem?_take_of_lt->yV,getElem?_set->wo,flatten_cons->yB,mem_of_getElem?->yW,length_nil->xw,mem_of_mem_take->yX
open Nat renaming mul_le_mul_right->w7,pow_le_pow_right->w9,eq_of_beq_eq_true->ve,div_div_eq_div_mul->vh,lt_of_le_of_lt->vj,lt_of_lt_of_le->vm,blt->yK,beq->zg,succ_mul->z8,mod_lt->zu,add_assoc->yg,add_sub_cancel->yE
open Array renaming getElem?_eq_getElem->vf
open BitVec renaming ofInt->zq
open Option renaming map_some->yn,getD_none->xc
open Bool renaming and_true->xI,not_eq_true->zE
noncomputable section
theorem Go.Aa : type_of% @cond_true := @cond_true
theorem Go.Ac : type_of% @decide_eq_true := @decide_eq_true
theorem Go.Ad : type_of% @Int.toNat_natCast := @Int.toNat_natCast
theorem Go.Ae : type_of% @Option.some.injEq := @Option.some.injEq
theorem Go.Af : type_of% @cond_false := @cond_false
theorem Go.Ag : type_of% @decide_eq_false := @decide_eq_false
theorem Go.Ah : type_of% @Bool.and_self := @Bool.and_self
theorem Go.Ai : type_of% @decide_eq_true_eq := @decide_eq_true_eq
theorem Go.Aj : type_of% @Option.bind_some := @Option.bind_some
theorem Go.Ak : type_of% @Prod.mk.injEq := @Prod.mk.injEq
theorem Go.Al : type_of% @wZ := @wZ
theorem Go.Am : type_of% @Bool.and_eq_true := @Bool.and_eq_true
theorem Go.An : type_of% @w7 := @w7
theorem Go.Ao : type_of% @Nat.mod_eq_of_lt := @Nat.mod_eq_of_lt
theorem Go.Ap : type_of% @w8 := @w8
theorem Go.Aq : type_of% @w9 := @w9
theorem Go.Ar : type_of% @Bool.eq_iff_iff := @Bool.eq_iff_iff
theorem Go.As : type_of% @vd := @vd
theorem Go.Au : type_of% @ve := @ve
theorem Go.Av : type_of% @decide_eq_false_iff_not := @decide_eq_false_iff_not
theorem Go.Aw : type_of% @vf := @vf
theorem Go.Ax : type_of% @Int.natCast_mul := @Int.natCast_mul
theorem Go.Ay : type_of% @if_neg := @if_neg
theorem Go.Az : type_of% @if_pos := @if_pos
theorem Go.A0 : type_of% @Nat.mul_comm := @Nat.mul_comm
theorem Go.A5 : type_of% @Nat.pow_add := @Nat.pow_add
theorem Go.A6 : type_of% @of_decide_eq_true := @of_decide_eq_true
theorem Go.A7 : type_of% @Nat.mul_assoc := @Nat.mul_assoc
theorem Go.A8 : type_of% @vg := @vg
theorem Go.A9 : type_of% @vh := @vh
theorem Go.AB : type_of% @Nat.le_refl := @Nat.le_refl
theorem Go.AD : type_of% @beq_eq_false_iff_ne := @beq_eq_false_iff_ne
theorem Go.AE : type_of% @Nat.mul_le_mul := @Nat.mul_le_mul
theorem Go.AF : type_of% @Nat.lt_or_ge := @Nat.lt_or_ge
theorem Go.AG : type_of% @Nat.pow_zero := @Nat.pow_zero
theorem Go.AH : type_of% @Bool.not_true := @Bool.not_true
theorem Go.AI : type_of% @beq_self_eq_true := @beq_self_eq_true
theorem Go.AJ : type_of% @vi := @vi
theorem Go.AK : type_of% @vj := @vj
theorem Go.AL : type_of% @List.length_range := @List.length_range
theorem Go.AM : type_of% @Nat.add_mul := @Nat.add_mul
theorem Go.AN : type_of% @vk := @vk
theorem Go.AO : type_of% @List.length_map := @List.length_map
theorem Go.AP : type_of% @Nat.le_trans := @Nat.le_trans
theorem Go.AQ : type_of% @Nat.add_zero := @Nat.add_zero
theorem Go.AR : type_of% @Nat.mul_one := @Nat.mul_one
theorem Go.AS : type_of% @Nat.zero_add := @Nat.zero_add
theorem Go.AU : type_of% @vm := @vm
theorem Go.AV : type_of% @Bool.or_true := @Bool.or_true
theorem Go.AW : type_of% @Bool.true_and := @Bool.true_and
theorem Go.AX : type_of% @vn := @vn
theorem Go.AY : type_of% @vo := @vo
theorem Go.AZ : type_of% @Nat.log2_lt := @Nat.log2_lt
theorem Go.Ba : type_of% @List.getElem?_map := @List.getElem?_map
theorem Go.Bb : type_of% @vq := @vq
theorem Go.Bc : type_of% @Bool.not_false := @Bool.not_false
theorem Go.Be : type_of% @Option.getD_some := @Option.getD_some
abbrev Go.Bf:=List Int
namespace Go.Den
inductive R0 where
 | arg
 | BE
 | own (i:Nat) (e:TypeId)
 deriving DecidableEq
inductive DV where
 | undef
 | nil
 | bool (b:Bool)
 | int (k:IntKind) (n:Int)
 | fl (n:Nat)
 | nb (n:Nat)
 | agg (l:List DV)
 | CR (l:List DV)
 | Bj (g:R0) (k:IntKind) (l:Bf)
 | Cu (g:R0) (sz:Nat) (l:List (List DV))
 | Dh (n:Nat)
 | JX (n off len:Nat)
 | ptr (n i j:Nat)
 | CS (cs:List DV)
 | fn (f:FuncId) (first captured:List DV)
 | gd (c:Bool) (d:DV)
inductive PSt where
 | live | frozen | dead
 deriving DecidableEq
inductive AmE where
 | box (b:Nat)
 | row (sv:Value) (size:Nat)
structure Place where
 st:PSt
 kind:AmE
def Place.FP(p:Place):Option Nat:=
 match p.kind with
 | .box b=>xQ b
 | .row sv _=>sv.ownBlock
structure Ctx where
 ok:Nat->Prop
 B:Nat
 fr:Bool
 own:Nat->Option Nat
 at_:Nat->Option Place
def Ic(n:Nat):Bool:=(Ieee.double.read n).isNaN
def MY(n m:Nat):Prop:=n=m\/(Ic n=xZ/\Ic m=xZ)
def KN(sv:Value)(size off len:Nat)(v:Value):Prop:=
 match sv with
 | .slice (some ⟨g,0,none⟩) n _=>off+len<=n/\∃a cap,v=.slice (xQ a) len cap/\len<=cap/\(len=0\/a=⟨g,off*size,xY⟩)
 | .slice none 0 0=>off=0/\len=0/\v=.slice xY 0 0
 | _=>False
def HX(p:Place)(i j:Nat)(v:Value):Prop:=
 match p.kind with
 | .box b=>i=0/\v=.pointer (xQ ⟨b,j,xY⟩)
 | .row (.slice (some ⟨g,0,none⟩) _ _) size=>v=.pointer (xQ ⟨g,i*size+j,xY⟩)
 | _=>False
def Ctx.bare(c:Ctx):Ctx:={ ok:=c.ok,B:=0,fr:=x5,own:=fun _=>xY,at_:=fun _=>xY }
def Ctx.FP(c:Ctx):R0->Nat->Prop
 | .arg,b=>c.ok b
 | .BE,b=>c.ok b/\c.fr=xZ/\c.B<=b
 | .own i _,b=>c.own i=xQ b
mutual
def B0(c:Ctx)(w:World):DV->Value->Prop
 | .undef,_=>True
 | .nil,v=>v=.slice xY 0 0
 | .bool b,v=>v=.bool b
 | .int k n,v=>v=.int k n
 | .fl n,v=>∃m,v=.float .f64 m/\MY n m
 | .nb n,v=>∃m:Nat,v=.int .u64 m/\MY n m
 | .agg l,v=>∃vs,v=.agg vs/\BM c w l vs.toList
 | .CR l,v=>∃vs,v=.tuple vs/\BM c w l vs.toList
 | .Bj (.own i e) k l,v=>w.ownsRow c.B e 1 v l.length (l.map (Value.int k))/\∀b,v.ownBlock=xQ b->c.own i=xQ b
 | .Bj g k l,v=>∃a cap,v=.slice a l.length cap/\l.length<=cap/\(l=[]\/∃b o,a=xQ ⟨b,o,xY⟩/\c.FP g b/\∀i n,l[i]?=xQ n->w.cell? ⟨b,o+i,xY⟩=xQ (.int k n))
 | .Cu (.own i e) sz l,v=>∃rows:List (List Value),Dx c.bare w l rows/\(∀r∈rows,r.length=sz/\∀u∈r,u.oneCell'=xZ)/\w.ownsRow c.B e sz v l.length rows.flatten/\∀b,v.ownBlock=xQ b->c.own i=xQ b
 | .Cu g sz l,v=>∃a cap,v=.slice a l.length cap/\l.length<=cap/\(l=[]\/∃b o rows,a=xQ ⟨b,o,xY⟩/\c.FP g b/\Dx c.bare w l rows/\(∀r∈rows,r.length=sz/\∀u∈r,u.oneCell'=xZ)/\∀i u,rows.flatten[i]?=xQ u->w.cell? ⟨b,o+i,xY⟩=xQ u)
 | .Dh n,v=>v.oneCell'=xZ/\∃p,c.at_ n=xQ p/\(p.st=.dead\/∃size,p.kind=.row v size)
 | .JX n off len,v=>v.oneCell'=xZ/\∃p,c.at_ n=xQ p/\(p.st=.dead\/∃sv size,p.kind=.row sv size/\KN sv size off len v)
 | .ptr n i j,v=>v.oneCell'=xZ/\∃p,c.at_ n=xQ p/\(p.st=.dead\/HX p i j v)
 | .CS cs,v=>∃b o vs,v=.pointer (xQ ⟨b,o,xY⟩)/\c.ok b/\BM c.bare w cs vs/\∀(i:Nat) u,vs[i]?=xQ u->w.cell? ⟨b,o+i,xY⟩=xQ u
 | .fn f fs cs,v=>∃fs' cs',v=.func (.func f) fs' cs'/\BM c w fs fs'.toList/\BM c w cs cs'.toList
 | .gd g d,v=>(g=xZ->B0 c w d v)/\(g=x5->v=Go.undef)
def BM(c:Ctx)(w:World):List DV->List Value->Prop
 | [],vs=>vs=[]
 | d::ds,vs=>∃u us,vs=u::us/\B0 c w d u/\BM c w ds us
def Dx(c:Ctx)(w:World):List (List DV)->List (List Value)->Prop
 | [],rs=>rs=[]
 | d::ds,rs=>∃r rest,rs=r::rest/\BM c w d r/\Dx c w ds rest
end
structure JF(c:Ctx)(w:World)(c':Ctx)(w':World):Prop where
 ok:∀b,c.ok b->c'.ok b
 B:c'.B=c.B
 fr:c'.fr=c.fr
 own:∀i b,c.own i=xQ b->c'.own i=xQ b
 at_:∀n p,c.at_ n=xQ p->∃q,c'.at_ n=xQ q/\(q.st=.dead\/(p.st≠.dead/\q.kind=p.kind))
 cell:∀b o,c.ok b->w'.cell? ⟨b,o,xY⟩=w.cell? ⟨b,o,xY⟩
 Ain:∀i b,c.own i=xQ b->w'.heap[b]?=w.heap[b]?
theorem JF.FP{c c':Ctx}{w w':World}(h:JF c w c' w'){g:R0}{b:Nat}(hb:c.FP g b):c'.FP g b:=by
 cases g with
 | arg=>exact h.ok _ hb
 | BE=>exact⟨h.ok _ hb.1,by rw[h.fr]; exact hb.2.1,by rw[h.B]; exact hb.2.2⟩
 | own i e=>exact h.own _ _ hb
theorem Hv{w w':World}{base:Nat}{e:TypeId}{size n:Nat}{v:Value}{xs:List Value}(h:w.ownsRow base e size v n xs)
 (hb:∀b,v.ownBlock=xQ b->w'.heap[b]?=w.heap[b]?):w'.ownsRow base e size v n xs:=by
 obtain⟨h1,h2⟩:=h;refine⟨h1,?_⟩;rcases h2 with h2 | ⟨g,cap,cur,hv,hg,hh,r⟩
 ·exact Or.inl h2
 ·exact Or.inr ⟨g,cap,cur,hv,hg,by rw[hb g (by rw[hv]; rfl)]; exact hh,r⟩
theorem JF.bare{c c':Ctx}{w w':World}(h:JF c w c' w'):JF c.bare w c'.bare w' :=⟨h.ok,rfl,rfl,fun _ _ h=>(by cases h),fun _ _ h=>(by cases h),h.cell,fun _ _ h=>(by cases h)⟩
mutual
theorem B0.DD{c c':Ctx}{w w':World}(h:JF c w c' w'):∀(d:DV) (v:Value),B0 c w d v->B0 c' w' d v
 | .undef,_,_=>by simp[B0]
 | .nil,v,hv=>by simp only[B0] at hv ⊢; exact hv
 | .bool b,v,hv=>by simp only[B0] at hv ⊢; exact hv
 | .int k n,v,hv=>by simp only[B0] at hv ⊢; exact hv
 | .fl n,v,hv=>by simp only[B0] at hv ⊢; exact hv
 | .nb n,v,hv=>by simp only[B0] at hv ⊢; exact hv
 | .agg l,v,hv=>by simp only[B0] at hv ⊢;obtain⟨vs,e,hl⟩:=hv;exact⟨vs,e,BM.DD h l _ hl⟩
 | .CR l,v,hv=>by simp only[B0] at hv ⊢;obtain⟨vs,e,hl⟩:=hv;exact⟨vs,e,BM.DD h l _ hl⟩
 | .Bj (.own i e) k l,v,hv=>by simp only[B0] at hv ⊢;obtain⟨hr,ho⟩:=hv;refine⟨?_,fun b hb=>h.own _ _ (ho b hb)⟩;rw[h.B];exact Hv hr fun b hb=>h.Ain _ _ (ho b hb)
 | .Bj .arg k l,v,hv=>by
   simp only[B0] at hv ⊢;obtain⟨a,cap,e,hc,hl⟩:=hv;refine⟨a,cap,e,hc,hl.imp id ?_⟩
   rintro ⟨b,o,ha,hb,hr⟩
   exact⟨b,o,ha,h.FP hb,fun i n hi=>by rw[h.cell b _ hb]; exact hr i n hi⟩
 | .Bj .BE k l,v,hv=>by
   simp only[B0] at hv ⊢;obtain⟨a,cap,e,hc,hl⟩:=hv;refine⟨a,cap,e,hc,hl.imp id ?_⟩
   rintro ⟨b,o,ha,hb,hr⟩
   exact⟨b,o,ha,h.FP hb,fun i n hi=>by rw[h.cell b _ hb.1]; exact hr i n hi⟩
 | .Cu (.own i e) sz l,v,hv=>by simp only[B0] at hv ⊢;obtain⟨rows,hrr,hsz,hr,ho⟩:=hv;refine⟨rows,Dx.DD h.bare l rows hrr,hsz,?_,fun b hb=>h.own _ _ (ho b hb)⟩;rw[h.B];exact Hv hr fun b hb=>h.Ain _ _ (ho b hb)
 | .Cu .arg sz l,v,hv=>by
   simp only[B0] at hv ⊢;obtain⟨a,cap,e,hc,hl⟩:=hv;refine⟨a,cap,e,hc,hl.imp id ?_⟩
   rintro ⟨b,o,rows,ha,hb,hrr,hsz,hr⟩
   exact⟨b,o,rows,ha,h.FP hb,Dx.DD h.bare l rows hrr,hsz,fun i n hi=>by rw[h.cell b _ hb]; exact hr i n hi⟩
 | .Cu .BE sz l,v,hv=>by
   simp only[B0] at hv ⊢;obtain⟨a,cap,e,hc,hl⟩:=hv;refine⟨a,cap,e,hc,hl.imp id ?_⟩
   rintro ⟨b,o,rows,ha,hb,hrr,hsz,hr⟩
   exact⟨b,o,rows,ha,h.FP hb,Dx.DD h.bare l rows hrr,hsz,fun i n hi=>by rw[h.cell b _ hb.1]; exact hr i n hi⟩
 | .Dh n,v,hv=>by
   simp only[B0] at hv ⊢;obtain⟨h1,p,hp,hd⟩:=hv;obtain⟨q,hq,hk⟩:=h.at_ n p hp;refine⟨h1,q,hq,?_⟩;rcases hk with hk | ⟨hnd,hk⟩
   ·exact .inl hk
   ·rw[hk]; exact .inr (hd.resolve_left hnd)
 | .JX n off len,v,hv=>by
   simp only[B0] at hv ⊢;obtain⟨h1,p,hp,hd⟩:=hv;obtain⟨q,hq,hk⟩:=h.at_ n p hp;refine⟨h1,q,hq,?_⟩;rcases hk with hk | ⟨hnd,hk⟩
   ·exact .inl hk
   ·rw[hk]; exact .inr (hd.resolve_left hnd)
 | .ptr n i j,v,hv=>by
   simp only[B0] at hv ⊢;obtain⟨h1,p,hp,hd⟩:=hv;obtain⟨q,hq,hk⟩:=h.at_ n p hp;refine⟨h1,q,hq,?_⟩;rcases hk with hk | ⟨hnd,hk⟩
   ·exact .inl hk
   ·have:=hd.resolve_left hnd;refine .inr ?_;unfold HX at this ⊢;rw[hk]; exact this
 | .CS cs,v,hv=>by simp only[B0] at hv ⊢;obtain⟨b,o,vs,e,hb,hl,hr⟩:=hv;exact⟨b,o,vs,e,h.ok _ hb,BM.DD h.bare cs vs hl,fun i u hi=>by rw[h.cell b _ hb]; exact hr i u hi⟩
 | .fn f fs cs,v,hv=>by simp only[B0] at hv ⊢;obtain⟨fs',cs',e,h1,h2⟩:=hv;exact⟨fs',cs',e,BM.DD h fs _ h1,BM.DD h cs _ h2⟩
 | .gd g d,v,hv=>by simp only[B0] at hv ⊢;exact⟨fun hg=>B0.DD h d v (hv.1 hg),hv.2⟩
theorem BM.DD{c c':Ctx}{w w':World}(h:JF c w c' w'):∀(l:List DV) (vs:List Value),BM c w l vs->BM c' w' l vs
 | [],vs,hv=>by simp only[BM] at hv ⊢; exact hv
 | d::ds,vs,hv=>by simp only[BM] at hv ⊢;obtain⟨u,us,e,h1,h2⟩:=hv;exact⟨u,us,e,B0.DD h d u h1,BM.DD h ds us h2⟩
theorem Dx.DD{c c':Ctx}{w w':World}(h:JF c w c' w'):∀(l:List (List DV)) (rs:List (List Value)),Dx c w l rs->Dx c' w' l rs
 | [],vs,hv=>by simp only[Dx] at hv ⊢; exact hv
 | d::ds,vs,hv=>by simp only[Dx] at hv ⊢;obtain⟨u,us,e,h1,h2⟩:=hv;exact⟨u,us,e,BM.DD h d u h1,Dx.DD h ds us h2⟩
end
structure I6(c c':Ctx):Prop where
 ok:∀b,c.ok b->c'.ok b
 fr:c.fr=x5
 own:∀i,c.own i=xY
 at_:∀n,c.at_ n=xY
theorem I6.bare{c c':Ctx}(h:I6 c c'):I6 c.bare c'.bare:=⟨h.ok,rfl,fun _=>rfl,fun _=>rfl⟩
theorem I6.WQ(c:Ctx):I6 c.bare c:=⟨fun _ h=>h,rfl,fun _=>rfl,fun _=>rfl⟩
theorem PZ{w:World}{base base':Nat}{e:TypeId}{size n:Nat}{v:Value}{xs:List Value}(h:w.ownsRow base e size v n xs)(hb:v.ownBlock=xY):w.ownsRow base' e size v n xs:=by
 obtain⟨h1,h2⟩:=h;refine⟨h1,?_⟩;rcases h2 with h2 | ⟨g,cap,cur,hv,_⟩
 ·exact Or.inl h2
 ·rw[hv] at hb; cases hb
mutual
theorem B0.Fg{c c':Ctx}{w:World}(h:I6 c c'):∀(d:DV) (v:Value),B0 c w d v->B0 c' w d v
 | .undef,_,_=>by simp[B0]
 | .nil,v,hv=>by simp only[B0] at hv ⊢; exact hv
 | .bool b,v,hv=>by simp only[B0] at hv ⊢; exact hv
 | .int k n,v,hv=>by simp only[B0] at hv ⊢; exact hv
 | .fl n,v,hv=>by simp only[B0] at hv ⊢; exact hv
 | .nb n,v,hv=>by simp only[B0] at hv ⊢; exact hv
 | .agg l,v,hv=>by simp only[B0] at hv ⊢;obtain⟨vs,e,hl⟩:=hv;exact⟨vs,e,BM.Fg h l _ hl⟩
 | .CR l,v,hv=>by simp only[B0] at hv ⊢;obtain⟨vs,e,hl⟩:=hv;exact⟨vs,e,BM.Fg h l _ hl⟩
 | .Bj (.own i e) k l,v,hv=>by
   simp only[B0] at hv ⊢;obtain⟨hr,ho⟩:=hv
   have hn:v.ownBlock=xY:=by
    cases hvb:v.ownBlock with
    | none=>rfl
    | some b=>have:=ho b hvb; rw[h.own] at this; cases this
   exact⟨PZ hr hn,fun b hb=>by rw[hn] at hb; cases hb⟩
 | .Bj .arg k l,v,hv=>by
   simp only[B0] at hv ⊢;obtain⟨a,cap,e,hc,hl⟩:=hv;refine⟨a,cap,e,hc,hl.imp id ?_⟩
   rintro ⟨b,o,ha,hb,hr⟩
   exact⟨b,o,ha,h.ok _ hb,hr⟩
 | .Bj .BE k l,v,hv=>by
   simp only[B0] at hv ⊢;obtain⟨a,cap,e,hc,hl⟩:=hv;refine⟨a,cap,e,hc,hl.imp id ?_⟩
   rintro ⟨b,o,ha,hb,hr⟩
   have:=hb.2.1; rw[h.fr] at this; cases this
 | .Cu (.own i e) sz l,v,hv=>by
   simp only[B0] at hv ⊢;obtain⟨rows,hrr,hsz,hr,ho⟩:=hv
   have hn:v.ownBlock=xY:=by
    cases hvb:v.ownBlock with
    | none=>rfl
    | some b=>have:=ho b hvb; rw[h.own] at this; cases this
   exact⟨rows,Dx.Fg h.bare l rows hrr,hsz,PZ hr hn,fun b hb=>by rw[hn] at hb; cases hb⟩
 | .Cu .arg sz l,v,hv=>by
   simp only[B0] at hv ⊢;obtain⟨a,cap,e,hc,hl⟩:=hv;refine⟨a,cap,e,hc,hl.imp id ?_⟩
   rintro ⟨b,o,rows,ha,hb,hrr,hsz,hr⟩
   exact⟨b,o,rows,ha,h.ok _ hb,Dx.Fg h.bare l rows hrr,hsz,hr⟩
 | .Cu .BE sz l,v,hv=>by
   simp only[B0] at hv ⊢;obtain⟨a,cap,e,hc,hl⟩:=hv;refine⟨a,cap,e,hc,hl.imp id ?_⟩
   rintro ⟨b,o,rows,ha,hb,hrr,hsz,hr⟩
   have:=hb.2.1; rw[h.fr] at this; cases this
 | .Dh n,v,hv=>by simp only[B0] at hv;obtain⟨_,p,hp,hd⟩:=hv;rw[h.at_] at hp; cases hp
 | .JX n off len,v,hv=>by simp only[B0] at hv;obtain⟨_,p,hp,hd⟩:=hv;rw[h.at_] at hp; cases hp
 | .ptr n i j,v,hv=>by simp only[B0] at hv;obtain⟨_,p,hp,hd⟩:=hv;rw[h.at_] at hp; cases hp
 | .CS cs,v,hv=>by simp only[B0] at hv ⊢;obtain⟨b,o,vs,e,hb,hl,hr⟩:=hv;exact⟨b,o,vs,e,h.ok _ hb,BM.Fg h.bare cs vs hl,hr⟩
 | .fn f fs cs,v,hv=>by simp only[B0] at hv ⊢;obtain⟨fs',cs',e,h1,h2⟩:=hv;exact⟨fs',cs',e,BM.Fg h fs _ h1,BM.Fg h cs _ h2⟩
 | .gd g d,v,hv=>by simp only[B0] at hv ⊢;exact⟨fun hg=>B0.Fg h d v (hv.1 hg),hv.2⟩
theorem BM.Fg{c c':Ctx}{w:World}(h:I6 c c'):∀(l:List DV) (vs:List Value),BM c w l vs->BM c' w l vs
 | [],vs,hv=>by simp only[BM] at hv ⊢; exact hv
 | d::ds,vs,hv=>by simp only[BM] at hv ⊢;obtain⟨u,us,e,h1,h2⟩:=hv;exact⟨u,us,e,B0.Fg h d u h1,BM.Fg h ds us h2⟩
theorem Dx.Fg{c c':Ctx}{w:World}(h:I6 c c'):∀(l:List (List DV)) (rs:List (List Value)),Dx c w l rs->Dx c' w l rs
 | [],vs,hv=>by simp only[Dx] at hv ⊢; exact hv
 | d::ds,vs,hv=>by simp only[Dx] at hv ⊢;obtain⟨u,us,e,h1,h2⟩:=hv;exact⟨u,us,e,BM.Fg h d u h1,Dx.Fg h ds us h2⟩
end
inductive TK where
 | bool | int (k:IntKind) | fl | ptr | slice (e:TypeId) | array (n:Nat) (e:TypeId) | struct (fs:List (Nat × TypeId)) | func | other
structure TI where
 size:Nat
 bytes:Nat
 kind:TK
 zero:List DV
def TI.agg(t:TI):Bool:=match t.kind with | .array .. | .struct _=>xZ | _=>x5
inductive OB where
 | box (cs:List DV)
 | Bj (e:TypeId) (k:IntKind) (l:Bf)
 | Cu (e:TypeId) (sz:Nat) (l:List (List DV))
 | dead
abbrev DG:=List (Nat × Bool × OB)
def look:DG->Nat->Option (Bool × OB)
 | [],_=>xY
 | (m,x)::h,n=>bif m==n then xQ x else look h n
def UR:DG->Nat->(Bool × OB)->DG
 | [],_,_=>[]
 | (m,x)::h,n,y=>bif m==n then (m,y)::h else (m,x)::UR h n y
structure Ez where
 pre:List DV->Bool
 out:List DV->DV
inductive Ext where
 | bits | LX | sqrt | Ahg | XV
inductive CK where
 | i (k:IntKind) | s (k:IntKind) | b | any
structure BN where
 Df:List Nat
 Cg:List (Nat × Nat × Nat × OB)
 Cr:List Nat
structure Writer where
 elem:TypeId
 kind:IntKind
 pre:Bf->List DV->Bool
 out:Bf->List DV->Bf
structure Env where
 ty:TypeId->Option TI
 GM:FuncId->Option Ez
 ext:FuncId->Option Ext
 eqs:TypeId->Bool
 IP:Nat->Bool
 live:Nat->Option (List Nat)
 hint:Nat->Option BN
 LH:FuncId->Option TypeId:=fun _=>xY
 adv:TypeId->List CK:=fun _=>[]
 wr:FuncId->Option Writer:=fun _=>xY
 np:Nat:=0
def G2:Nat:=17592186044416
def RZ:Nat:=1099511627776
def KF(b:Nat):Nat:=bif Nat.ble b 8 then G2 else RZ
theorem TN{b n:Nat}(h:n<=KF b):n<=17592186044416:=by unfold KF G2 RZ at h;cases hb:Nat.ble b 8<;>rw[hb] at h<;>simp at h<;>omega
theorem RJ{b n:Nat}(h:n<=KF b)(hb:b<=128):n*b<=140737488355328:=by
 unfold KF G2 RZ at h;cases h8:Nat.ble b 8 with
 | true =>rw[h8] at h; simp at h;have:b<=8:=Nat.le_of_ble_eq_true h8;have:=AE h this;omega
 | false =>rw[h8] at h; simp at h;have:=AE h hb;omega
structure R where
 Om:Bool
 v:DV
 Cg:List OB:=[]
 GJ:List Nat:=[]
def cells:DV->List DV
 | .agg cs=>cs
 | d=>[d]
def shaped(ti:TI)(cs:List DV):Option DV :=bif ti.agg then (bif decide (ti.size<=cs.length) then xQ (.agg (cs.take ti.size)) else xY) else (match cs with | c::_=>xQ c | []=>xY)
def OT:DV->Bool
 | .undef | .agg _ | .CR _ | .gd ..=>x5
 | _=>xZ
def Lx:DV->Bool
 | .agg _=>xZ
 | d=>OT d
def Gw(g:Bool):DV->DV × Bool
 | .gd c d=>(d,!g||c)
 | d=>(d,xZ)
def scalar:DV->Bool
 | .bool _ | .int ..=>xZ
 | _=>x5
def Zf:DV->DV->Bool
 | .bool a,.bool b=>a==b
 | .int _ a,.int _ b=>a==b
 | _,_=>x5
def sameShape:List DV->List DV->Bool
 | [],[]=>xZ
 | .bool _::l,.bool _::m=>sameShape l m
 | .int k _::l,.int k' _::m=>decide (k=k')&&sameShape l m
 | _,_=>x5
def Zg:List DV->List DV->Bool
 | a::as,b::bs=>Zf a b&&Zg as bs
 | _,_=>xZ
def nanBits:Nat:=0x7ff8000000000000
def BI(x y:Int):Bool:=
 match x,y with
 | .ofNat a,.ofNat b=>yK a b
 | .ofNat _,.negSucc _=>x5
 | .negSucc _,.ofNat _=>xZ
 | .negSucc a,.negSucc b=>yK b a
def Eg(x y:Int):Bool:=
 match x,y with
 | .ofNat a,.ofNat b=>Nat.ble a b
 | .ofNat _,.negSucc _=>x5
 | .negSucc _,.ofNat _=>xZ
 | .negSucc a,.negSucc b=>Nat.ble b a
theorem B9(x y:Int):BI x y=decide (x<y):=by rw[Ar];unfold BI;cases x<;>cases y<;>simp[Nat.blt_eq]<;>omega
theorem E1(x y:Int):Eg x y=decide (x<=y):=by rw[Ar];unfold Eg;cases x<;>cases y<;>simp[Nat.ble_eq]<;>omega
def M7(op:BinOp)(k:IntKind)(x y:Int):Option R:=
 match op with
 | .add=>xQ ⟨xZ,.int k (k.wrap (x+y)),[],[]⟩
 | .sub=>xQ ⟨xZ,.int k (k.wrap (x-y)),[],[]⟩
 | .mul=>xQ ⟨xZ,.int k (k.wrap (x*y)),[],[]⟩
 | .quo=>xQ ⟨y !=0,.int k (k.wrap (x.tdiv y)),[],[]⟩
 | .rem=>xQ ⟨y !=0,.int k (x.tmod y),[],[]⟩
 | .and=>xQ ⟨xZ,.int k (k.wrap (zq k.bits x &&& zq k.bits y).toNat),[],[]⟩
 | .or=>xQ ⟨xZ,.int k (k.wrap (zq k.bits x ||| zq k.bits y).toNat),[],[]⟩
 | .xor=>xQ ⟨xZ,.int k (k.wrap (zq k.bits x ^^^ zq k.bits y).toNat),[],[]⟩
 | .andNot=>xQ ⟨xZ,.int k (k.wrap (zq k.bits x &&& ~~~(zq k.bits y)).toNat),[],[]⟩
 | .eql=>xQ ⟨xZ,.bool (x==y),[],[]⟩
 | .neq=>xQ ⟨xZ,.bool (x !=y),[],[]⟩
 | .lss=>xQ ⟨xZ,.bool (BI x y),[],[]⟩
 | .leq=>xQ ⟨xZ,.bool (Eg x y),[],[]⟩
 | .gtr=>xQ ⟨xZ,.bool (BI y x),[],[]⟩
 | .geq=>xQ ⟨xZ,.bool (Eg y x),[],[]⟩
 | _=>xY
def YW(r:Option Nat):DV:=.fl (r.getD nanBits)
def Q2(op:BinOp)(x y:Nat):Option R:=
 match op with
 | .add=>xQ ⟨xZ,YW (Ieee.double.add x y),[],[]⟩
 | .sub=>xQ ⟨xZ,YW (Ieee.double.sub x y),[],[]⟩
 | .mul=>xQ ⟨xZ,YW (Ieee.double.mul x y),[],[]⟩
 | .quo=>xQ ⟨xZ,YW (Ieee.double.div x y),[],[]⟩
 | .eql=>xQ ⟨xZ,.bool (Ieee.double.order x y==xQ .eq),[],[]⟩
 | .neq=>xQ ⟨xZ,.bool (Ieee.double.order x y !=xQ .eq),[],[]⟩
 | .lss=>xQ ⟨xZ,.bool (Ieee.double.order x y==xQ .lt),[],[]⟩
 | .leq=>xQ ⟨xZ,.bool (Ieee.double.order x y==xQ .lt||Ieee.double.order x y==xQ .eq),[],[]⟩
 | .gtr=>xQ ⟨xZ,.bool (Ieee.double.order x y==xQ .gt),[],[]⟩
 | .geq=>xQ ⟨xZ,.bool (Ieee.double.order x y==xQ .gt||Ieee.double.order x y==xQ .eq),[],[]⟩
 | _=>xY
def Ajf(E:Env)(op:BinOp)(t:TypeId)(a b:DV):Option R:=
 match a,b with
 | .int k x,.int k' y =>
   match op with
   | .shl=>xQ ⟨decide (0<=y),.int k (k.wrap (x*2^(min y.toNat k.bits))),[],[]⟩
   | .shr=>xQ ⟨decide (0<=y),.int k (x.fdiv (2^(min y.toNat k.bits))),[],[]⟩
   | _=>bif decide (k=k') then M7 op k x y else xY
 | .fl x,.fl y=>Q2 op x y
 | .nb x,.int k y=>match op with
   | .andNot=>bif decide (k=.u64)&&decide (y=9223372036854775808) then xQ ⟨xZ,.nb (x%9223372036854775808),[],[]⟩ else xY
   | _=>xY
 | .bool x,.bool y=>match E.ty t with
   | some ⟨_,_,.bool,_⟩ =>
     match op with
     | .eql=>xQ ⟨xZ,.bool (x==y),[],[]⟩
     | .neq=>xQ ⟨xZ,.bool (!(x==y)),[],[]⟩
     | _=>xY
   | _=>xY
 | .agg x,.agg y =>
   bif E.eqs t&&(match E.ty t with | some ti=>sameShape ti.zero x&&sameShape ti.zero y | none=>x5) then
   match op with
   | .eql=>xQ ⟨xZ,.bool (Zg x y),[],[]⟩
   | .neq=>xQ ⟨xZ,.bool (!(Zg x y)),[],[]⟩
   | _=>xY
   else xY
 | _,_=>xY
def unD(op:UnOp)(a:DV):Option R:=
 match op,a with
 | .not,.bool b=>xQ ⟨xZ,.bool (!b),[],[]⟩
 | .neg,.int k x=>xQ ⟨xZ,.int k (k.wrap (0-x)),[],[]⟩
 | .xor,.int k x=>xQ ⟨xZ,.int k (k.wrap (zq k.bits (if k.signed then -1 else k.max) ^^^ zq k.bits x).toNat),[],[]⟩
 | _,_=>xY
def Ac0(E:Env)(dst:TypeId)(src:TypeId)(a:DV):Option R:=
 match E.ty dst,E.ty src,a with
 | some ⟨_,_,.int k,_⟩,some ⟨_,_,.int _,_⟩,.int _ n=>xQ ⟨xZ,.int k (k.wrap n),[],[]⟩
 | some ⟨_,_,.fl,_⟩,some ⟨_,_,.int _,_⟩,.int _ n=>xQ ⟨xZ,.fl (Ieee.double.write (.number (decide (n<0)) n.natAbs 0)),[],[]⟩
 | some ⟨_,_,.fl,_⟩,some ⟨_,_,.fl,_⟩,.fl n=>xQ ⟨xZ,.fl n,[],[]⟩
 | _,_,_=>xY
def V8(h:DG)(ti:TI)(a:DV):Option R:=
 match a with
 | .CS cs=>(shaped ti cs).map fun v=>⟨xZ,v,[],[]⟩
 | .ptr n i j =>
   match look h n with
   | some (_,.box cs)=>bif i==0&&decide (j<cs.length) then (shaped ti (cs.drop j)).map fun v=>⟨xZ,v,[],[]⟩ else xY
   | some (_,.Bj _ k l)=>bif j==0&&!ti.agg then xQ ⟨decide (i<l.length),.int k (l.getD i 0),[],[]⟩ else xY
   | some (_,.Cu _ sz l) =>
     bif ti.agg then (cond (decide (j+ti.size<=sz)) (xQ ⟨decide (i<l.length),.agg (((l.getD i []).drop j).take ti.size),[],[]⟩) xY)
     else (cond (decide (j<sz)) (xQ ⟨decide (i<l.length),(l.getD i []).getD j .undef,[],[]⟩) xY)
   | _=>xY
 | _=>xY
def LB(h:DG)(n:Nat):Bool:=
 match look h n with
 | xQ (_,.dead) | none=>x5
 | _=>xZ
def Mu(E:Env)(h:DG)(t:TypeId)(f:Nat)(a:DV):Option R:=
 match E.ty t with
 | some ⟨_,_,.struct fs,_⟩ =>
   match fs[f]? with
   | some (off,ft)=>(E.ty ft).bind fun fi =>
     bif decide (0<fi.size) then
     match a with
     | .ptr n i j=>bif LB h n then xQ ⟨xZ,.ptr n i (j+off),[],[]⟩ else xY
     | .CS cs=>xQ ⟨xZ,.CS (cs.drop off),[],[]⟩
     | _=>xY
     else xY
   | none=>xY
 | _=>xY
def V0(ti:TI)(cs:List DV)(off:Nat):Option DV:=
 bif ti.agg then (cond (decide (off+ti.size<=cs.length)) (xQ (.agg ((cs.drop off).take ti.size))) xY)
 else (cond (decide (off<cs.length)) (xQ (cs.getD off .undef)) xY)
def Xi(E:Env)(t:TypeId)(f:Nat)(a:DV):Option R:=
 match E.ty t with
 | some ⟨_,_,.struct fs,_⟩ =>
   match fs[f]?,a with
   | some (off,ft),.agg cs=>(E.ty ft).bind fun ti=>(V0 ti cs off).map fun v=>⟨xZ,v,[],[]⟩
   | _,_=>xY
 | _=>xY
def AiA(h:DG):DV->Option Int
 | .nil=>xQ 0
 | .Bj (.own _ _) _ _=>xY
 | .Cu (.own _ _) _ _=>xY
 | .Bj _ _ l=>xQ l.length
 | .Cu _ _ l=>xQ l.length
 | .Dh n=>match look h n with
   | some (_,.Bj _ _ l)=>xQ l.length
   | some (_,.Cu _ _ l)=>xQ l.length
   | _=>xY
 | .JX n _ len=>bif LB h n then xQ len else xY
 | _=>xY
def rowOf(sz:Nat)(row:List DV):List DV:=(zf sz).map fun j=>row.getD j .undef
theorem Aan{sz:Nat}{row:List DV}(h:row.length=sz):rowOf sz row=row:=by
 unfold rowOf;refine List.ext_getElem? fun j=>?_
 rw[Ba];by_cases hj:j<sz
 ·rw[List.getElem?_range hj,As (by omega)];simp[Al,As (show j<row.length by omega)]
 ·rw[Bb (by rw[AL]; omega),Bb (by omega)]; rfl
def Ms(E:Env)(h:DG)(t:TypeId)(a:DV)(i:Int):Option R:=
 match E.ty t with
 | some ⟨_,_,.slice e,_⟩=>(E.ty e).bind fun ei =>
   match a with
   | .Bj (.own _ _) _ _=>xY
   | .Bj _ k l=>bif ei.size==1 then xQ ⟨decide (0<=i)&&decide (i<l.length),.CS [.int k (l.getD i.toNat 0)],[],[]⟩ else xY
   | .Cu (.own _ _) _ _=>xY
   | .Cu _ sz l=>bif ei.size==sz then xQ ⟨decide (0<=i)&&decide (i<l.length),.CS (rowOf sz (l.getD i.toNat [])),[],[]⟩ else xY
   | .Dh n=>match look h n with
     | some (_,.Bj _ _ l)=>bif ei.size==1 then xQ ⟨decide (0<=i)&&decide (i<l.length),.ptr n i.toNat 0,[],[]⟩ else xY
     | some (_,.Cu _ sz l)=>bif ei.size==sz then xQ ⟨decide (0<=i)&&decide (i<l.length),.ptr n i.toNat 0,[],[]⟩ else xY
     | _=>xY
   | .JX n off len=>match look h n with
     | some (_,.Bj _ _ _)=>bif ei.size==1 then xQ ⟨decide (0<=i)&&decide (i<len),.ptr n (off+i.toNat) 0,[],[]⟩ else xY
     | some (_,.Cu _ sz _)=>bif ei.size==sz then xQ ⟨decide (0<=i)&&decide (i<len),.ptr n (off+i.toNat) 0,[],[]⟩ else xY
     | _=>xY
   | _=>xY
 | some ⟨_,_,.array len e,_⟩ =>
   (E.ty e).bind fun ei =>
   match a with
   | .ptr n 0 j=>bif decide (1<len)&&LB h n then xQ ⟨decide (0<=i)&&decide (i<len),.ptr n 0 (j+i.toNat*ei.size),[],[]⟩ else xY
   | .CS cs=>bif decide (1<len) then xQ ⟨decide (0<=i)&&decide (i<len),.CS (cs.drop (i.toNat*ei.size)),[],[]⟩ else xY
   | _=>xY
 | _=>xY
def Xe(E:Env)(t:TypeId)(a:DV)(i:Int):Option R:=
 match E.ty t with
 | some ⟨_,_,.array len e,_⟩ =>
   match a with
   | .agg cs=>(E.ty e).bind fun ei =>
     bif decide (len*ei.size<=cs.length)&&decide (0<ei.size) then
      xQ ⟨decide (0<=i)&&decide (i<len),cond ei.agg (.agg ((cs.drop (i.toNat*ei.size)).take ei.size)) (cs.getD (i.toNat*ei.size) .undef),[],[]⟩
     else xY
   | _=>xY
 | _=>xY
def PH{α:Type}(lo hi:Option Int)(l:List α):List α:=
 match lo,hi with
 | none,none=>l
 | some x,none=>l.drop x.toNat
 | none,some y=>l.take y.toNat
 | some x,some y=>(l.take y.toNat).drop x.toNat
def okB(lo hi mx:Option Int)(len:Nat):Bool:=
 (match lo with | some x=>decide (0<=x)&&decide (x<=hi.getD len) | none=>xZ) &&
 (match hi with | some x=>decide (0<=x)&&decide (x<=mx.getD len) | none=>xZ) &&
 (match mx with | some x=>decide (0<=x)&&decide (x<=len)&&hi.isSome | none=>xZ)
def W6(E:Env)(h:DG)(t:TypeId)(a:DV)(lo:Option Int)(hi:Option Int)(mx:Option Int):Option R:=
 match E.ty t with
 | some ⟨_,_,.slice e,_⟩=>(E.ty e).bind fun ei =>
   match a with
   | .nil=>bif lo.isNone&&hi.isNone&&mx.isNone then xQ ⟨xZ,.nil,[],[]⟩ else xY
   | .Bj (.own _ _) _ _=>xY
   | .Bj g k l=>bif ei.size==1 then xQ ⟨okB lo hi mx l.length,.Bj g k (PH lo hi l),[],[]⟩ else xY
   | .Cu (.own _ _) _ _=>xY
   | .Cu g sz l=>bif ei.size==sz then xQ ⟨okB lo hi mx l.length,.Cu g sz (PH lo hi l),[],[]⟩ else xY
   | .Dh n=>match look h n with
     | some (_,.Bj _ _ l)=>bif ei.size==1 then xQ ⟨okB lo hi mx l.length,.JX n (lo.getD 0).toNat ((hi.getD l.length)-(lo.getD 0)).toNat,[],[]⟩ else xY
     | some (_,.Cu _ sz l)=>bif ei.size==sz then xQ ⟨okB lo hi mx l.length,.JX n (lo.getD 0).toNat ((hi.getD l.length)-(lo.getD 0)).toNat,[],[]⟩ else xY
     | _=>xY
   | .JX n off len=>match look h n with
     | some (_,.Bj _ _ _)=>bif ei.size==1 then xQ ⟨okB lo hi mx len,.JX n (off+(lo.getD 0).toNat) ((hi.getD len)-(lo.getD 0)).toNat,[],[]⟩ else xY
     | some (_,.Cu _ sz _)=>bif ei.size==sz then xQ ⟨okB lo hi mx len,.JX n (off+(lo.getD 0).toNat) ((hi.getD len)-(lo.getD 0)).toNat,[],[]⟩ else xY
     | _=>xY
   | _=>xY
 | _=>xY
def lower(h:DG):Nat->DV->Option (DV × List Nat)
 | 0,_=>xY
 | f+1,d =>
   let all (l:List DV):Option (List DV × List Nat):=l.foldr (fun d acc=>(lower h f d).bind fun(x,ns)=>acc.bind fun(xs,ms)=>xQ (x::xs,ns++ms)) (xQ ([],[]))
   match d with
   | .undef=>xQ (.undef,[])
   | .nil=>xQ (.nil,[])
   | .bool b=>xQ (.bool b,[])
   | .int k n=>xQ (.int k n,[])
   | .fl n=>xQ (.fl n,[])
   | .nb n=>xQ (.nb n,[])
   | .agg l=>(all l).bind fun(l,ns)=>xQ (.agg l,ns)
   | .CR _=>xY
   | .Bj (.own _ _) _ _=>xY
   | .Bj _ k l=>xQ (.Bj .arg k l,[])
   | .Cu (.own _ _) _ _=>xY
   | .Cu _ sz l=>xQ (.Cu .arg sz l,[])
   | .Dh n=>match look h n with
     | some (_,.Bj _ k l)=>xQ (.Bj .arg k l,[n])
     | some (_,.Cu _ sz l)=>xQ (.Cu .arg sz l,[n])
     | _=>xY
   | .JX n off len=>match look h n with
     | some (_,.Bj _ k l)=>xQ (.Bj .arg k ((l.drop off).take len),[n])
     | some (_,.Cu _ sz l)=>xQ (.Cu .arg sz ((l.drop off).take len),[n])
     | _=>xY
   | .ptr n 0 j=>match look h n with
     | some (_,.box cs)=>(all (cs.drop j)).bind fun(l,ns)=>xQ (.CS l,n::ns)
     | _=>xY
   | .ptr ..=>xY
   | .CS cs=>xQ (.CS cs,[])
   | .fn g a c=>(all a).bind fun(a,ns)=>(all c).bind fun(c,ms)=>xQ (.fn g a c,ns++ms)
   | .gd ..=>xY
def Hp(h:DG)(l:List DV):Option (List DV × List Nat) :=l.foldr (fun d acc=>(lower h 8 d).bind fun(x,ns)=>acc.bind fun(xs,ms)=>xQ (x::xs,ns++ms)) (xQ ([],[]))
structure St where
 tmps:List DV
 heap:DG
def Jr(h:DG)(k:IntKind):DV->Option (Bf)
 | .nil=>xQ []
 | .Bj (.own _ _) _ _=>xY
 | .Bj _ k' l=>bif decide (k=k') then xQ l else xY
 | .Dh n=>match look h n with
   | some (_,.Bj _ k' l)=>bif decide (k=k') then xQ l else xY
   | _=>xY
 | .JX n off len=>match look h n with
   | some (_,.Bj _ k' l)=>bif decide (k=k') then xQ ((l.drop off).take len) else xY
   | _=>xY
 | _=>xY
def L9(h:DG)(sz:Nat):DV->Option (List (List DV))
 | .nil=>xQ []
 | .Cu (.own _ _) _ _=>xY
 | .Cu _ sz' l=>bif sz==sz' then xQ l else xY
 | .Dh n=>match look h n with
   | some (_,.Cu _ sz' l)=>bif sz==sz' then xQ l else xY
   | _=>xY
 | .JX n off len=>match look h n with
   | some (_,.Cu _ sz' l)=>bif sz==sz' then xQ ((l.drop off).take len) else xY
   | _=>xY
 | _=>xY
def I3(h:DG)(ns:List Nat):DG :=ns.foldl (fun h n=>match look h n with | some (_,o)=>UR h n (xZ,o) | none=>h) h
def FB:Nat->DV->Bool
 | 0,_=>xZ
 | f+1,d=>match d with
   | .Bj .arg _ _=>xZ
   | .Cu ..=>xZ
   | .agg l=>l.any (FB f)
   | .CR l=>l.any (FB f)
   | .undef | .CS _ | .fn .. | .gd ..=>xZ
   | _=>x5
def IN(g:Nat->DV->Option (DV × List (Nat × OB) × List Nat)):Nat->List DV->Option (List DV × List (Nat × OB) × List Nat)
 | _,[]=>xQ ([],[],[])
 | nm,d::l=>match g nm d with
   | some (x,os,is)=>match IN g (nm+os.length) l with
     | some (xs,os',is')=>xQ (x::xs,os++os',is++is')
     | none=>xY
   | none=>xY
def Fm(ad:Bool):Nat->Nat->DV->Option (DV × List (Nat × OB) × List Nat)
 | 0,_,_=>xY
 | f+1,nm,d =>
   match d with
   | .Bj (.own i e) k l=>bif ad then xQ (.Dh nm,[(nm,.Bj e k l)],[i]) else xQ (.Bj .BE k l,[],[])
   | .Cu (.own i e) sz l=>bif ad&&decide (0<sz) then xQ (.Dh nm,[(nm,.Cu e sz l)],[i]) else bif ad then xY else xQ (.Cu .BE sz l,[],[])
   | .agg l=>match IN (Fm ad f) nm l with
     | some (l,os,is)=>xQ (.agg l,os,is)
     | none=>xY
   | .CR l=>match IN (Fm ad f) nm l with
     | some (l,os,is)=>xQ (.CR l,os,is)
     | none=>xY
   | .Dh _ | .JX .. | .ptr .. | .gd .. | .fn ..=>xY
   | d=>xQ (d,[],[])
def JI:List Nat->Bool
 | []=>xZ
 | a::l=>!(l.contains a)&&JI l
structure R2 where
 Om:Bool
 v:DV
 Cg:List (Nat × OB)
 GJ:List Nat
def R.up(r:R):R2:=⟨r.Om,r.v,[],[]⟩
def Dl:DV->Int
 | .int _ x=>x
 | _=>0
def CA:DV->Bf
 | .Bj _ _ l=>l
 | _=>[]
def CH:DV->Bool
 | .bool b=>b
 | _=>x5
def OC:CK->DV->Bool
 | .i k,.int k' _=>decide (k=k')
 | .s k,.Bj .arg k' _=>decide (k=k')
 | .s _,.nil=>xZ
 | .b,.bool _=>xZ
 | .any,_=>xZ
 | _,_=>x5
def asC:CK->DV->DV
 | .i k,d=>.int k (Dl d)
 | .s k,d=>.Bj .arg k (CA d)
 | .b,d=>.bool (CH d)
 | .any,d=>d
def isL:List CK->Nat->List DV->Bool
 | [],_,_=>xZ
 | c::cs,i,row=>OC c (row.getD i .undef)&&isL cs (i+1) row
def asL:List CK->Nat->List DV->List DV
 | [],_,_=>[]
 | c::cs,i,row=>asC c (row.getD i .undef)::asL cs (i+1) row
def AiJ(h:DG):DV->Bool
 | .CS _=>xZ
 | .ptr n _ _=>match look h n with
   | some (_,.Cu ..)=>xZ
   | _=>x5
 | _=>x5
def RO(agg:Bool)(adv:List CK)(r:R):R2:=
 match adv with
 | []=>r.up
 | c::cs=>bif agg then (match r.v with
  | .agg l=>⟨r.Om&&(decide (l.length=(c::cs).length)&&isL (c::cs) 0 l),.agg (asL (c::cs) 0 l),[],[]⟩
  | _=>r.up)
   else ⟨r.Om&&OC c r.v,asC c r.v,[],[]⟩
def Ac2(E:Env)(h:DG)(nm:Nat)(ad:Bool)(g:FuncId)(args:List DV):Option R2:=
 (Hp h args).bind fun(as,ns)=>(E.GM g).bind fun e =>
  (Fm ad 6 nm (e.out as)).bind fun(v,os,is) =>
   bif JI is then xQ ⟨e.pre as,v,os,cond (FB 6 (e.out as)) ns ([])⟩ else xY
def KY(x y b:Int):Int:=((x.toNat+18446744073709551616-y.toNat-b.toNat)%18446744073709551616:Nat)
def Gv(x y b:Int):Int:=(if x.toNat<y.toNat+b.toNat then 1 else 0:Nat)
def AkD(x:Ext)(args:List DV):Option R2:=
 match x,args with
 | .bits,[.fl n]=>xQ ⟨xZ,.nb n,[],[]⟩
 | .Ahg,[.fl n]=>xQ ⟨!(Ic n),.int .u64 n,[],[]⟩
 | .LX,[.int .u64 n]=>xQ ⟨decide (0<=n),.fl n.toNat,[],[]⟩
 | .LX,[.nb n]=>xQ ⟨xZ,.fl n,[],[]⟩
 | .sqrt,[.fl n]=>xQ ⟨xZ,YW (Ieee.double.sqrt n),[],[]⟩
 | .XV,[.int .u64 x,.int .u64 y,.int .u64 b]=>xQ ⟨decide (b<=1),.CR [.int .u64 (KY x y b),.int .u64 (Gv x y b)],[],[]⟩
 | _,_=>xY
def Qy(place:Nat->Option (Nat × Nat))(cs:List DV):List (Nat × DV)->Option (List DV)
 | []=>xQ cs
 | (i,v)::rest =>
   match place i with
   | none=>xY
   | some (off,size)=>bif Lx v&&(cells v).length==size&&decide (off+(cells v).length<=cs.length) then
    Qy place ((cells v).zipIdx.foldl (fun cs (c,j)=>cs.set (off+j) c) cs) rest else xY
def PW(E:Env):List (Nat × TypeId)->Option (List (Nat × Nat))
 | []=>xQ []
 | (off,ft)::fs=>match E.ty ft with
   | some ti=>match PW E fs with
     | some l=>xQ ((off,ti.size)::l)
     | none=>xY
   | none=>xY
def S2(E:Env)(t:TypeId):Option (Nat->Option (Nat × Nat)):=
 match E.ty t with
 | some ⟨_,_,.struct fs,_⟩=>match PW E fs with
   | some l=>xQ fun i=>l[i]?
   | none=>xY
 | some ⟨_,_,.array _ e,_⟩=>match E.ty e with
   | some ti=>xQ fun i=>xQ (i*ti.size,ti.size)
   | none=>xY
 | _=>xY
def intOf:DV->Option Int
 | .int _ n=>xQ n
 | _=>xY
def Akz:List DV->Option (Bf)
 | []=>xQ []
 | .int _ n::l=>(Akz l).bind fun l=>xQ (n::l)
 | _=>xY
def Oy(k:IntKind):List DV->Option (Bf)
 | []=>xQ []
 | .int k' n::l=>if decide (k=k') then (match Oy k l with | some l=>xQ (n::l) | none=>xY) else xY
 | _=>xY
def chunk(sz:Nat):Nat->List DV->List (List DV)
 | 0,_=>[]
 | n+1,l=>l.take sz::chunk sz n (l.drop sz)
def NN(E:Env)(h:DG)(nm:Nat)(t:TypeId)(len:Nat)(parts:List (Nat × DV)):Option R2:=
 match E.ty t with
 | some ⟨_,_,.slice e,_⟩ =>
   (E.ty e).bind fun ei =>
    bif decide (len*ei.size<=4096)&&decide (0<ei.size) then
    (Qy (fun i=>xQ (i*ei.size,ei.size)) (zp len ei.zero).flatten parts).bind fun cs =>
     match ei.kind with
     | .int k=>bif ei.size==1 then (Oy k cs).bind fun l=>xQ ⟨xZ,.Dh nm,[(nm,.Bj e k l)],[]⟩ else xY
     | _=>bif cs.all OT then (Hp h cs).bind fun(cs,ns)=>xQ ⟨xZ,.Dh nm,[(nm,.Cu e ei.size (chunk ei.size len cs))],ns⟩ else xY
    else xY
 | _=>xY
def Pv(E:Env)(nm:Nat)(t:TypeId)(a c:DV):Option R2:=
 match E.ty t,a,c with
 | some ⟨_,_,.slice e,_⟩,.int _ x,.int _ y =>
   (E.ty e).bind fun ei =>
    bif decide (ei.bytes<=128)&&decide (0<ei.size) then
     let Om:=decide (0<=x)&&decide (x<=y)&&decide (y<=KF ei.bytes)
     match ei.kind with
     | .int k=>match ei.zero with
       | [.int k' z]=>bif ei.size==1&&decide (k=k') then xQ ⟨Om,.Dh nm,[(nm,.Bj e k (zp x.toNat z))],[]⟩ else xY
       | _=>xY
     | _=>xQ ⟨Om,.Dh nm,[(nm,.Cu e ei.size (zp x.toNat ei.zero))],[]⟩
    else xY
 | _,_,_=>xY
def maxD(gt:Bool):DV->DV->Option DV
 | .int k x,.int _ y=>xQ (.int k (cond gt (max x y) (min x y)))
 | _,_=>xY
def RK(gt:Bool):DV->List DV->Option DV
 | a,[]=>xQ a
 | a,b::l=>(maxD gt a b).bind fun c=>RK gt c l
def AaX:Value->DV
 | .bool b=>.bool b
 | .int k n=>.int k n
 | .float .f64 n=>.fl n
 | .slice none 0 0=>.nil
 | _=>.undef
def Gn(l:List DV):Operand->DV
 | .tmp t=>l.getD t .undef
 | .const v=>AaX v
 | .global _=>.undef
 | .func f=>.fn f [] []
def Mn(ρ:Operand->DV):Option Operand->Option (Option Int)
 | none=>xQ xY
 | some y=>(intOf (ρ y)).bind fun i=>xQ (xQ i)
def E7(E:Env)(h:DG)(nm:Nat)(ρ:Operand->DV)(op:Op):Option R2:=
 match op with
 | .move x | .assign x=>xQ ⟨xZ,ρ x,[],[]⟩
 | .alloc t=>(E.ty t).bind fun ti=>xQ ⟨xZ,.ptr nm 0 0,[(nm,.box ti.zero)],[]⟩
 | .box t x=>(E.ty t).bind fun ti=>bif Lx (ρ x)&&(cells (ρ x)).length==ti.size then xQ ⟨xZ,.ptr nm 0 0,[(nm,.box (cells (ρ x)))],[]⟩ else xY
 | .build t parts=>(E.ty t).bind fun ti=>(S2 E t).bind fun pl=>(Qy pl ti.zero (parts.toList.map fun(i,x)=>(i,ρ x))).bind fun cs=>xQ ⟨xZ,.agg cs,[],[]⟩
 | .buildSlice t len parts=>NN E h nm t len (parts.toList.map fun(i,x)=>(i,ρ x))
 | .load t a=>(E.ty t).bind fun ti=>(V8 h ti (ρ a)).bind fun r=>xQ (RO ti.agg (cond (AiJ h (ρ a)) (E.adv t) ([])) r)
 | .nilCheck x=>match ρ x with
   | .ptr n i j=>bif LB h n then xQ ⟨xZ,.ptr n i j,[],[]⟩ else xY
   | .CS cs=>xQ ⟨xZ,.CS cs,[],[]⟩
   | .fn f a c=>xQ ⟨xZ,.fn f a c,[],[]⟩
   | _=>xY
 | .binOp op t x y _=>(Ajf E op t (ρ x) (ρ y)).bind fun r=>xQ r.up
 | .unOp op _ x=>(unD op (ρ x)).bind fun r=>xQ r.up
 | .convert src dst x=>(Ac0 E dst src (ρ x)).bind fun r=>xQ r.up
 | .makeFunc (.func f) first captured=>xQ ⟨xZ,.fn f (first.toList.map ρ) (captured.toList.map ρ),[],[]⟩
 | .makeSlice t l c=>Pv E nm t (ρ l) (ρ c)
 | .slice t x lo hi mx =>
   (Mn ρ lo).bind fun lo=>(Mn ρ hi).bind fun hi=>(Mn ρ mx).bind fun mx=>(W6 E h t (ρ x) lo hi mx).bind fun r=>xQ r.up
 | .fieldAddr t x f=>(Mu E h t f (ρ x)).bind fun r=>xQ r.up
 | .field t x f=>(Xi E t f (ρ x)).bind fun r=>xQ r.up
 | .indexAddr t x i=>(intOf (ρ i)).bind fun i=>(Ms E h t (ρ x) i).bind fun r=>xQ r.up
 | .index t x i=>(intOf (ρ i)).bind fun i=>(Xe E t (ρ x) i).bind fun r=>xQ r.up
 | .extract t i=>match ρ t with
   | .CR l=>(l[i]?).bind fun d=>xQ ⟨xZ,d,[],[]⟩
   | _=>xY
 | .call ⟨.builtin .len,args,ts⟩=>match args.toList,ts.toList with
   | [x],[t]=>match E.ty t with
     | some ⟨_,_,.slice _,_⟩=>(AiA h (ρ x)).bind fun n=>xQ ⟨xZ,.int .i64 n,[],[]⟩
     | _=>xY
   | _,_=>xY
 | .call ⟨.builtin .max,args,_⟩=>match args.toList with
   | x::l=>(RK xZ (ρ x) (l.map ρ)).bind fun v=>xQ ⟨xZ,v,[],[]⟩
   | _=>xY
 | .call ⟨.builtin .min,args,_⟩=>match args.toList with
   | x::l=>(RK x5 (ρ x) (l.map ρ)).bind fun v=>xQ ⟨xZ,v,[],[]⟩
   | _=>xY
 | .call ⟨.value f,args,_⟩=>match ρ f with
   | .fn g first captured=>match E.ext g with
     | some x=>match first,captured with
       | [],[]=>AkD x (args.toList.map ρ)
       | _,_=>xY
     | none=>Ac2 E h (1000+8*nm) (E.IP nm) g (first++args.toList.map ρ++captured)
   | _=>xY
 | _=>xY
def AbS(c:Bool)(a b:DV):Option (Bool × DV):=
 match (Gw c a).1,(Gw (!c) b).1 with
 | .bool x,.bool y=>xQ ((Gw c a).2&&(Gw (!c) b).2,.bool (cond c x y))
 | .int k x,.int k' y=>bif decide (k=k') then xQ ((Gw c a).2&&(Gw (!c) b).2,.int k (cond c x y)) else xY
 | _,_=>xY
def setCells:List DV->Nat->List DV->List DV
 | cs,_,[]=>cs
 | cs,j,v::vs=>setCells (cs.set j v) (j+1) vs
def QI(E:Env)(h:DG)(t:TypeId)(a v:DV):Option (Bool × DG):=
 (E.ty t).bind fun ti =>
 bif Lx v&&(cells v).length==ti.size&&(cells v).all OT then
 match a with
 | .ptr n i j=>match look h n with
   | some (false,.box cs)=>bif i==0&&decide (j+ti.size<=cs.length) then xQ (xZ,UR h n (x5,.box (setCells cs j (cells v)))) else xY
   | some (false,.Bj e k l)=>match v with
     | .int k' x=>bif j==0&&decide (k=k') then xQ (decide (i<l.length),UR h n (x5,.Bj e k (l.set i x))) else xY
     | _=>xY
   | some (false,.Cu e sz l)=>(Hp h (cells v)).bind fun(vs,ns)=>bif decide (j+ti.size<=sz)&&ns.isEmpty then
    xQ (decide (i<l.length),UR h n (x5,.Cu e sz (l.set i (setCells (l.getD i []) j vs)))) else xY
   | _=>xY
 | _=>xY
 else xY
def Lv(E:Env)(h:DG)(nm:Nat)(t:TypeId)(s x:DV):Option (Bool × DV × DG):=
 match E.ty t with
 | some ⟨_,_,.slice e,_⟩ =>
   (E.ty e).bind fun ei =>
   bif decide (ei.bytes<=128)&&decide (0<ei.size)&&(look h nm).isNone then
   match s with
   | .nil=>match ei.kind with
     | .int k=>bif ei.size==1 then (Jr h k x).bind fun l=>xQ (decide (l.length<=KF ei.bytes),.Dh nm,(nm,x5,.Bj e k l)::h) else xY
     | _=>(L9 h ei.size x).bind fun l=>xQ (decide (l.length<=KF ei.bytes),.Dh nm,(nm,x5,.Cu e ei.size l)::h)
   | .Dh n=>match look h n with
     | some (false,.Bj e' k l')=>(Jr h k x).bind fun l=>bif e==e'&&ei.size==1 then xQ (decide (l'.length+l.length<=KF ei.bytes),.Dh nm,(nm,x5,.Bj e k (l'++l))::UR h n (x5,.dead)) else xY
     | some (false,.Cu e' sz l')=>(L9 h sz x).bind fun l=>bif e==e'&&sz==ei.size then xQ (decide (l'.length+l.length<=KF ei.bytes),.Dh nm,(nm,x5,.Cu e sz (l'++l))::UR h n (x5,.dead)) else xY
     | _=>xY
   | _=>xY
   else xY
 | _=>xY
def Pe(l:List DV)(o:Option Nat)(v:DV):List DV:=
 match o with
 | some d=>l.set d v
 | none=>l
def LY(ops:Array Oper)(l:List DV)(o:Oper):Option (Option Bool):=
 match o.guard with
 | none=>xQ xY
 | some (j,want)=>match (ops[j]?).bind (·.dst) with
   | some d=>match l.getD d .undef with
     | .bool b=>xQ (xQ (b==want))
     | .gd c (.bool b)=>xQ (xQ (c&&(b==want)))
     | _=>xY
   | none=>xY
def Pk(g:Bool)(ρ:Operand->DV)(xs:List Operand):Bool:=xs.all fun x=>(Gw g (ρ x)).2
def MP(l x:Bf):Bf:=x.take l.length++l.drop x.length
def Ld(E:Env)(h:DG)(ρ:Operand->DV)(g?:Option Bool):Op->Option (Nat × Bool × DV × OB)
 | .call ⟨.value f,args,_⟩=>match g?,ρ f,args.toList with
   | none,.fn g [] [],x::xs=>match E.wr g with
     | some W=>(match ρ x with
       | .Dh n=>match look h n with
         | some (false,.Bj e k l)=>(Hp h (xs.map ρ)).bind fun(ds,ns)=>bif e==W.elem&&decide (k=W.kind)&&!(ns.contains n) then xQ (n,W.pre l ds,.undef,.Bj e k (W.out l ds)) else xY
         | _=>xY
       | _=>xY)
     | none=>match E.LH g,ρ x,xs with
       | some e,.agg [.int .i64 _,.int .i64 _,.Dh n],[]=>(match look h n with
         | some (false,.Bj e' .u64 _)=>bif e==e' then xQ (n,xZ,.undef,.dead) else xY
         | _=>xY)
       | _,_,_=>xY
   | _,_,_=>xY
 | .call ⟨.builtin .copy,args,ts⟩=>match g?,args.toList,ts.toList with
   | none,[x,y],[t,_]=>match ρ x,E.ty t with
     | .Dh n,some ⟨_,_,.slice e,_⟩=>(match look h n,E.ty e with
       | some (false,.Bj e' k l),some ei=>(Jr h k (ρ y)).bind fun z=>bif e==e'&&ei.size==1 then xQ (n,xZ,.int .i64 (min z.length l.length:Nat),.Bj e' k (MP l z)) else xY
       | _,_=>xY)
     | _,_=>xY
   | _,_,_=>xY
 | _=>xY
def JG(E:Env)(ops:Array Oper)(draw:Bool)(st:St)(o:Oper):Option (Bool × St):=
 (LY ops st.tmps o).bind fun g? =>
 let g:=g?.getD xZ
 let nm:=o.dst.getD 0
 let ρ:=Gn st.tmps
 let wrap (v:DV):DV:=match g? with | some c=>.gd c v | none=>v
 match o.op with
 | .pick c a b =>
   (match (Gw g (ρ c)).1 with
   | .bool c'=>(AbS c' (ρ a) (ρ b)).bind fun(r,v)=>xQ (!g||((Gw g (ρ c)).2&&r),{ st with tmps:=Pe st.tmps o.dst (wrap v) })
   | _=>xY)
 | .store t a x=>match g? with
   | none=>(QI E st.heap t (ρ a) (ρ x)).bind fun(r,h)=>xQ (r,{ tmps:=Pe st.tmps o.dst .undef,heap:=h })
   | some _=>xY
 | .call ⟨.builtin .append,args,ts⟩=>match g?,args.toList,ts.toList with
   | none,[s,x],[t,t']=>bif t==t'&&o.dst.isSome then (Lv E st.heap nm t (ρ s) (ρ x)).bind fun(r,v,h)=>xQ (r,{ tmps:=Pe st.tmps o.dst v,heap:=h }) else xY
   | _,_,_=>xY
 | op=>match bif draw then xY else Ld E st.heap ρ g? op with
  | some (n,r,v,ob)=>xQ (r,{ tmps:=Pe st.tmps o.dst v,heap:=UR st.heap n (x5,ob) })
  | none =>
   (E7 E st.heap nm (fun x=>(Gw g (ρ x)).1) op).bind fun r =>
    bif (r.Cg.all fun(n,_)=>(look st.heap n).isNone)&&JI (r.Cg.map (·.1))&&(r.Cg.isEmpty||o.dst.isSome)&&(r.GJ.isEmpty||r.GJ.all fun n=>(look st.heap n).isSome) then
     xQ (cond r.GJ.isEmpty (!g||(Pk g ρ op.operands.toList&&r.Om)) (g&&(Pk g ρ op.operands.toList&&r.Om)),
      { tmps:=Pe st.tmps o.dst (wrap r.v),heap:=(r.Cg.map fun(n,ob)=>(n,x5,ob))++I3 st.heap r.GJ })
    else xY
def Aki(E:Env)(o:Oper):Bool:=match o.dst with
 | some t=>yK t E.np
 | none=>x5
def R8(E:Env)(ops:Array Oper)(draw:Bool)(st:St)(o:Oper):Option (Bool × St):=bif Aki E o then xY else JG E ops draw st o
def Aio{β:Type}(E:Env)(ops:Array Oper)(draw:Bool):List Oper->St->(St->Option β)->Option β
 | [],st,K=>K st
 | o::os,st,K=>match R8 E ops draw st o with
   | some (r,st')=>bif r then Aio E ops draw os st' K else xY
   | none=>xY
def forget(Df:Option (List Nat))(st:St):St:=
 match Df with
 | none=>st
 | some ks=>{ st with tmps:=st.tmps.zipIdx.map fun(d,i)=>cond (ks.contains i) d .undef }
def JK(n:Nat):List Nat->Bool
 | []=>x5
 | m::l=>bif zg n m then xZ else JK n l
def Hr(o:Oper):List Nat:=o.after.toList.filterMap fun e=>bif Region.binds .any e then xQ e.on else xY
def Se(D:List (List Nat))(i j:Nat):Bool:=JK i (D.getD j [])||(D.getD j []).any fun m=>JK i (D.getD m [])
def KK(D:List (List Nat))(i j:Nat):Bool:=!(zg i j)&&(!(Se D i j)&&!(Se D j i))
def Y7(ms:List Nat)(h:DG):DG:=h.filter fun x=>!(JK x.1 ms)
def AiF(ms:List Nat)(h:DG):DG:=h.filter fun x=>JK x.1 ms
def AfR:DV->List Nat
 | .ptr n _ _=>[n]
 | _=>[]
def WV:DV->List Nat
 | .Dh n=>[n]
 | _=>[]
def Amt(st:St)(o:Oper):List Nat:=
 match o.op with
 | .store _ a _=>AfR (Gn st.tmps a)
 | .call ⟨.builtin .append,args,_⟩=>match args.toList with
   | [s,_]=>WV (Gn st.tmps s)
   | _=>[]
 | _=>[]
def OP:Op->Bool
 | .store ..=>xZ
 | .call ⟨.builtin .append,_,_⟩=>xZ
 | _=>x5
def F6(E:Env)(ops:Array Oper)(st:St)(o:Oper):List Nat:=
 bif OP o.op then Amt st o else match LY ops st.tmps o with
 | none=>[]
 | some g?=>match E7 E st.heap (o.dst.getD 0) (fun x=>(Gw (g?.getD xZ) (Gn st.tmps x)).1) o.op with
   | some r=>r.GJ
   | none=>[]
def Y6:Op->Bool
 | .store ..=>xZ
 | .buildSlice ..=>xZ
 | .call ⟨.builtin .append,_,_⟩=>xZ
 | .call ⟨.value _,_,_⟩=>xZ
 | _=>x5
def L7(ms:List Nat)(st:St):St:=
 match ms with
 | []=>st
 | n::ms=>⟨st.tmps,Y7 (n::ms) st.heap⟩
def XY(E:Env)(ops:Array Oper)(ms:List Nat)(st:St)(o:Oper):Option (Bool × St):=
 match ms with
 | []=>R8 E ops xZ st o
 | n::ms=>match R8 E ops xZ ⟨st.tmps,Y7 (n::ms) st.heap⟩ o with
   | some (r,st')=>bif st'.heap.all fun x=>!(JK x.1 (n::ms)) then xQ (r,⟨st'.tmps,st'.heap++AiF (n::ms) st.heap⟩) else xY
   | none=>xY
def GD(D:List (List Nat))(k:Nat):List (Nat × List Nat)->List Nat
 | []=>[]
 | (s,ns)::M=>bif KK D s k then ns++GD D k M else GD D k M
def Kf(k:Nat):List (Nat × List Nat)->List Nat
 | []=>[]
 | (s,ns)::M=>bif zg s k then ns++Kf k M else Kf k M
def N9(D:List (List Nat))(k:Nat):Bool:=(zf D.length).any fun j=>KK D k j
def AbT{β:Type}(E:Env)(ops:Array Oper)(D:List (List Nat))(M:List (Nat × List Nat)):Nat->List Oper->St->(St->Option β)->Option β
 | _,[],st,K=>K st
 | k,o::os,st,K=>match XY E ops (GD D k M) st o with
   | some (r,st')=>bif r&&(!(N9 D k)||(F6 E ops (L7 (GD D k M) st) o).all fun n=>JK n (Kf k M)) then AbT E ops D M (k+1) os st' K else xY
   | none=>xY
def Xf(E:Env)(ops:Array Oper):Nat->List Oper->St->List (Nat × List Nat)
 | _,[],_=>[]
 | k,o::os,st=>match R8 E ops xZ st o with
   | some (_,st')=>bif Y6 o.op then (k,F6 E ops st o)::Xf E ops (k+1) os st' else Xf E ops (k+1) os st'
   | none=>[]
def Xo(ops:Array Oper)(D:List (List Nat)):Bool:=
 (zf D.length).all fun k =>
  (D.getD k []).all (fun i=>yK i k) &&
  match ops[k]? with
  | none=>x5
  | some o=>(zf D.length).all fun j=>match ops[j]? with
    | none=>x5
    | some p=>match p.dst with
      | none=>xZ
      | some t=>(zg j k||!(o.dst==xQ t))&&(!(JK t (o.looksAt ops))||(Se D j k||Se D k j))
def AaD(ops:Array Oper)(D:List (List Nat)):Nat->List Oper->Bool
 | _,[]=>x5
 | k,o::os=>(Y6 o.op&&N9 D k)||AaD ops D (k+1) os
def AgL{β:Type}(E:Env)(ops:Array Oper)(st:St)(K:St->Option β):Option β:=
 bif Xo ops (ops.toList.map Hr) then
  AbT E ops (ops.toList.map Hr) (cond (AaD ops (ops.toList.map Hr) 0 ops.toList) (Xf E ops 0 ops.toList st) ([])) 0 ops.toList st K
 else xY
def EK:Nat->List Nat->DV->Bool
 | 0,_,_=>x5
 | f+1,ns,d=>match d with
   | .Dh n | .JX n _ _ | .ptr n _ _=>ns.contains n
   | .agg l | .CR l=>l.all (EK f ns)
   | .fn _ a c=>a.all (EK f ns)&&c.all (EK f ns)
   | .gd _ d=>EK f ns d
   | _=>xZ
def PJ(st:St):Nat × Nat × Nat × OB->DV
 | (0,s,_,_)=>st.tmps.getD s .undef
 | (b+1,j,_,_)=>match look st.heap b with
   | some (_,.box cs)=>cs.getD j .undef
   | _=>.undef
def WS(st:St)(x:Nat × Nat × Nat × OB):Option (Option Nat × OB):=
 match PJ st x with
 | .nil=>match x.2.2.2 with
   | .Bj e k []=>xQ (xY,.Bj e k [])
   | .Cu e sz []=>bif yK 0 sz then xQ (xY,.Cu e sz []) else xY
   | _=>xY
 | .Dh n=>match look st.heap n with
   | some (false,.Bj e k l)=>xQ (xQ n,.Bj e k l)
   | some (false,.Cu e sz l)=>xQ (xQ n,.Cu e sz l)
   | _=>xY
 | _=>xY
def T4(st:St):List (Nat × Nat × Nat × OB)->Option (DG × List Nat)
 | []=>xQ ([],[])
 | x::xs=>match WS st x with
   | some (s,ob)=>match T4 st xs with
     | some (h,ns)=>xQ ((x.2.2.1,x5,ob)::h,s.toList++ns)
     | none=>xY
   | none=>xY
def Jm(b j:Nat):List (Nat × Nat × Nat × OB)->Option Nat
 | []=>xY
 | (b',j',nm,_)::xs=>bif zg b b'&&zg j j' then xQ nm else Jm b j xs
def P1(Cg:List (Nat × Nat × Nat × OB))(b:Nat):Nat->List DV->List DV
 | _,[]=>[]
 | j,d::l=>(match Jm b j Cg with | some nm=>.Dh nm | none=>d)::P1 Cg b (j+1) l
def Oo(Cg:List (Nat × Nat × Nat × OB))(Cr:List Nat)(b:Nat):Nat->List DV->Bool
 | _,[]=>xZ
 | j,d::l=>((Jm b j Cg).isSome||EK 8 Cr d)&&Oo Cg Cr b (j+1) l
def SV(H:BN):Nat->List DV->List DV
 | _,[]=>[]
 | i,d::l=>(match Jm 0 i H.Cg with | some nm=>.Dh nm | none=>bif JK i H.Df then d else .undef)::SV H (i+1) l
def T1(H:BN):Nat->List DV->Bool
 | _,[]=>xZ
 | i,d::l=>((Jm 0 i H.Cg).isSome||(!(JK i H.Df)||EK 8 H.Cr d))&&T1 H (i+1) l
def P2(st:St)(H:BN):List Nat->Option DG
 | []=>xQ []
 | b::bs=>match look st.heap b with
   | some (f,.box cs)=>bif Oo H.Cg H.Cr (b+1) 0 cs then (match P2 st H bs with
     | some h=>xQ ((b,f,.box (P1 H.Cg (b+1) 0 cs))::h)
     | none=>xY) else xY
   | _=>xY
def Abf(H:Option BN)(st:St):Option St:=
 match H with
 | none=>xQ st
 | some H=>match P2 st H H.Cr,T4 st H.Cg with
   | some hb,some (ho,ns)=>bif JI (H.Cr++H.Cg.map (·.2.2.1))&&JI ns&&T1 H 0 st.tmps then xQ ⟨SV H 0 st.tmps,hb++ho⟩ else xY
   | _,_=>xY
def Akh:DV->Bool
 | .Bj .arg _ _ | .Bj .BE _ _ | .Cu .arg _ _ | .Cu .BE _ _=>xZ
 | _=>x5
def Aj2(st:St)(H:BN):BN:={ Df:=H.Df,Cg:=H.Cg.filter fun x=>!(Akh (PJ st x)),Cr:=H.Cr }
def Afa(h:DG):DV->DV
 | .Dh n=>match look h n with
   | some (true,.Bj _ k l)=>.Bj .BE k l
   | some (true,.Cu _ sz l)=>.Cu .BE sz l
   | _=>.Dh n
 | d=>d
def ZV(st:St):St:=⟨st.tmps.map (Afa st.heap),st.heap⟩
def canon(H:Option BN)(st:St):Option St:=
 match H with
 | none=>xQ st
 | some H=>Abf (xQ (Aj2 (ZV st) H)) (ZV st)
def Qr{β:Type}(H:Option BN)(body:St->(St->Option β)->(Nat->St->Option β)->(St->Option β)->Option β):Nat->St->(Nat->St->Option β)->(St->Option β)->Option β
 | 0,_,_,_=>xY
 | n+1,st,Kx,Kr=>body st (fun st2=>match canon H st2 with | some st3=>Qr H body n st3 Kx Kr | none=>xY) Kx Kr
def iter{β:Type}(H:Option BN)(body:St->(St->Option β)->(Nat->St->Option β)->(St->Option β)->Option β)(n:Nat)(st:St)(Kx:Nat->St->Option β)(Kr:St->Option β):Option β:=
 match canon H st with
 | some st1=>Qr H body n st1 Kx Kr
 | none=>xY
def Ww{α β:Type}(f:α->β)(x:α):β:=(Classical.choice (⟨⟨f x,rfl⟩⟩:Nonempty { y:β // y=f x })).1
theorem Vc{α β:Type}(f:α->β)(x:α):Ww f x=f x:=(Classical.choice (⟨⟨f x,rfl⟩⟩:Nonempty { y:β // y=f x })).2
def Yp{β:Type}(E:Env)(ops:Array Oper)(draw:Bool)(Kn:St->Option β)(st:St):Option β :=bif draw then AgL E ops st Kn else Aio E ops x5 ops.toList st Kn
def den{β:Type}(E:Env)(fuel:Nat):Nat->Code->St->(St->Option β)->(Nat->St->Option β)->(St->Option β)->Option β
 | _,.skip,st,Kn,_,_=>Kn st
 | _,.label _,st,Kn,_,_=>Kn st
 | _,.region id ops draw,st,Kn,_,_=>match E.live id with
   | none=>Yp E ops draw Kn st
   | some ks=>Ww (Yp E ops draw Kn) (forget (xQ ks) st)
 | b,.seq x y,st,Kn,Kx,Kr=>den E fuel b x st (fun st'=>den E fuel b y st' Kn Kx Kr) Kx Kr
 | b,.cond c x y,st,Kn,Kx,Kr=>match Gn st.tmps c with
   | .bool t=>bif t then den E fuel b x st Kn Kx Kr else den E fuel b y st Kn Kx Kr
   | _=>xY
 | _,.block id c,st,Kn,Kx,Kr=>den E fuel id c st Kn (fun id' st'=>cond (id'==id) (Kn st') (Kx id' st')) Kr
 | b,.loop c,st,_,Kx,Kr=>iter (E.hint b) (den E fuel b c) fuel st Kx Kr
 | b,.scope c,st,Kn,Kx,Kr=>den E fuel b c st Kn Kx Kr
 | _,.exit id,st,_,Kx,_=>Kx id st
 | _,.ret,st,_,_,Kr=>Kr st
 | _,_,_,_,_,_=>xY
def FR(h:DG):Nat->DV->Option (DV × List Nat × List Nat)
 | 0,_=>xY
 | f+1,d =>
   let all (l:List DV):Option (List DV × List Nat × List Nat):=l.foldr (fun d acc=>(FR h f d).bind fun(x,ns,os)=>acc.bind fun(xs,ms,ps)=>xQ (x::xs,ns++ms,os++ps)) (xQ ([],[],[]))
   match d with
   | .agg l=>(all l).bind fun(l,ns,os)=>xQ (.agg l,ns,os)
   | .CR l=>(all l).bind fun(l,ns,os)=>xQ (.CR l,ns,os)
   | .Dh n=>match look h n with
     | some (false,.Bj e k l)=>xQ (.Bj (.own n e) k l,[],[n])
     | some (false,.Cu e sz l)=>xQ (.Cu (.own n e) sz l,[],[n])
     | some (true,.Bj _ k l)=>xQ (.Bj .BE k l,[],[])
     | some (true,.Cu _ sz l)=>xQ (.Cu .BE sz l,[],[])
     | _=>xY
   | .JX n off len=>match look h n with
     | some (_,.Bj _ k l)=>xQ (.Bj .BE k ((l.drop off).take len),[n],[])
     | some (_,.Cu _ sz l)=>xQ (.Cu .BE sz ((l.drop off).take len),[n],[])
     | _=>xY
   | .ptr .. | .fn .. | .gd .. | .undef | .CS _=>xY
   | d=>xQ (d,[],[])
def Tu(E:Env)(st:St):ResultVar->Option DV
 | .tmp t=>xQ (st.tmps.getD t .undef)
 | .cell a t=>(E.ty t).bind fun ti=>(V8 st.heap ti (st.tmps.getD a .undef)).bind fun r=>bif r.Om then xQ r.v else xY
def Pj(E:Env)(st:St):List ResultVar->Option (List DV)
 | []=>xQ []
 | r::rs=>(Tu E st r).bind fun d=>(Pj E st rs).bind fun ds=>xQ (d::ds)
def AfF:List DV->DV
 | [d]=>d
 | ds=>.CR ds
def UC(E:Env)(fn:Func)(st:St):Option DV:=
 (Pj E st fn.results.toList).bind fun ds =>
  (FR st.heap 6 (AfF ds)).bind fun(d,ns,os) =>
   bif ns.all fun n=>!(os.contains n) then xQ d else xY
def Cz(E:Env)(fuel:Nat)(fn:Func)(body:Code)(args:List DV):Option DV :=den E fuel 0 body ⟨args++zp (fn.ntmps-args.length) .undef,[]⟩ (fun st=>UC E fn st) (fun _ _=>xY) (fun st=>UC E fn st)
def Cc(I0:Nat->Prop)(B:Nat)(A:Nat->Option Place)(w:World):Ctx where
 ok:=fun b=>b<w.heap.size/\(I0 b\/B<=b)/\∀n p,A n=xQ p->p.st=.live->p.FP≠xQ b
 B:=B
 fr:=xZ
 own:=fun _=>xY
 at_:=A
structure Hd(A:Nat->Option Place)(w:World)(A':Nat->Option Place)(w':World):Prop where
 size:w.heap.size<=w'.heap.size
 names:∀n p,A n=xQ p->∃q,A' n=xQ q/\(q.st=.dead\/(p.st≠.dead/\q.kind=p.kind))
 live:∀n p b,A' n=xQ p->p.st=.live->p.FP=xQ b->b<w.heap.size->∃m q,A m=xQ q/\q.st=.live/\q.FP=xQ b
 kept:∀b,b<w.heap.size->(∀n p,A n=xQ p->p.st=.live->p.FP≠xQ b)->w'.heap[b]?=w.heap[b]?
theorem Hd.DD{I0:Nat->Prop}{B:Nat}{A A':Nat->Option Place}{w w':World}(h:Hd A w A' w'):
 JF (Cc I0 B A w) w (Cc I0 B A' w') w' where
 ok:=fun b ⟨h1,h2,h3⟩=>⟨AU h1 h.size,h2,fun n p hp hl hb=>by obtain⟨m,q,hm,hql,hqb⟩:=h.live n p b hp hl hb h1;exact h3 m q hm hql hqb⟩
 B:=rfl
 fr:=rfl
 own:=fun _ _ h=>by cases h
 at_:=h.names
 cell:=fun b o ⟨h1,_,h3⟩=>World.cell?_of_block (h.kept b h1 h3)
 Ain:=fun _ _ h=>by cases h
theorem Hd.refl(A:Nat->Option Place)(w:World):Hd A w A w :=⟨AB _,fun n p h=>⟨p,h,by by_cases hp:p.st=.dead; exact .inl hp; exact .inr ⟨hp,rfl⟩⟩,fun n p b h hl hb _=>⟨n,p,h,hl,hb⟩,fun _ _ _=>rfl⟩
def Dy(c:Ctx)(w:World)(p:Place):Bool × OB->Prop
 | (_,.dead)=>p.st=.dead
 | (fz,.box cs)=>p.st=(if fz then .frozen else .live)/\∃b e cells,p.kind=.box b/\w.heap[b]?=xQ (.cells cells e (0,0))/\BM c w cs cells.toList
 | (fz,.Bj e k l)=>p.st=(if fz then .frozen else .live)/\∃sv,p.kind=.row sv 1/\w.ownsRow c.B e 1 sv l.length (l.map (Value.int k))
 | (fz,.Cu e sz l)=>p.st=(if fz then .frozen else .live)/\0<sz/\∃sv rows,p.kind=.row sv sz/\Dx c.bare w l rows/\(∀r∈rows,r.length=sz/\∀u∈r,u.oneCell'=xZ)/\w.ownsRow c.B e sz sv l.length rows.flatten
structure Mem(I0:Nat->Prop)(B:Nat)(A:Nat->Option Place)(h:DG)(w:World):Prop where
 hB:B<=w.heap.size
 QF:∀b,I0 b->b<B
 obj:∀n p fo,A n=xQ p->look h n=xQ fo->Dy (Cc I0 B A w) w p fo
 Gz:∀n p b,A n=xQ p->p.st≠.dead->p.FP=xQ b->B<=b/\b<w.heap.size
 inj:∀n m p q b,A n=xQ p->A m=xQ q->p.st≠.dead->q.st≠.dead->p.FP=xQ b->q.FP=xQ b->n=m
theorem Dy.DD{c c':Ctx}{w w':World}(h:JF c w c' w'){p q:Place}(hst:q.st=p.st)(hk:q.kind=p.kind)(hb:∀b,p.FP=xQ b->w'.heap[b]?=w.heap[b]?):
 ∀(fo:Bool × OB),Dy c w p fo->Dy c' w' q fo
 | (fz,.dead),hr=>by unfold Dy at *; rw[hst]; exact hr
 | (fz,.box cs),hr=>by
   unfold Dy at *
   obtain⟨h1,b,e,cells,hk',hh,hl⟩:=hr;refine⟨by rw[hst]; exact h1,b,e,cells,hk.trans hk',?_,BM.DD h _ _ hl⟩;rw[hb b (by unfold Place.FP; rw[hk'])];exact hh
 | (fz,.Bj e k l),hr=>by
   unfold Dy at *
   obtain⟨h1,sv,hk',ho⟩:=hr;refine⟨by rw[hst]; exact h1,sv,hk.trans hk',?_⟩;rw[h.B];exact Hv ho fun b hb'=>hb b (by unfold Place.FP; rw[hk']; exact hb')
 | (fz,.Cu e sz l),hr=>by
   unfold Dy at *
   obtain⟨h1,hsz,sv,rows,hk',hrr,hlen,ho⟩:=hr;refine⟨by rw[hst]; exact h1,hsz,sv,rows,hk.trans hk',Dx.DD h.bare _ _ hrr,hlen,?_⟩;rw[h.B];exact Hv ho fun b hb'=>hb b (by unfold Place.FP; rw[hk']; exact hb')
theorem BM.Gj{c:Ctx}{w:World}{vs:List Value}:BM c w [] vs↔vs=[]:=by simp[BM]
theorem BM.CW{c:Ctx}{w:World}{d:DV}{ds:List DV}{vs:List Value}:BM c w (d::ds) vs↔∃u us,vs=u::us/\B0 c w d u/\BM c w ds us:=by simp[BM]
theorem BM.length{c:Ctx}{w:World}:∀{ds:List DV} {vs:List Value},BM c w ds vs->ds.length=vs.length
 | [],vs,h=>by rw[BM.Gj] at h; subst h; rfl
 | d::ds,vs,h=>by rw[BM.CW] at h;obtain⟨u,us,rfl,_,h2⟩:=h;simp[BM.length h2]
theorem BM.get{c:Ctx}{w:World}:∀{ds:List DV} {vs:List Value},BM c w ds vs->∀(i:Nat) d,ds[i]?=xQ d->∃v,vs[i]?=xQ v/\B0 c w d v
 | [],vs,h,i,d,hd=>by simp at hd
 | d::ds,vs,h,i,d',hd=>by
   rw[BM.CW] at h;obtain⟨u,us,rfl,h1,h2⟩:=h;cases i with
   | zero=>simp at hd; subst hd; exact⟨u,by simp,h1⟩
   | succ i=>simp at hd; obtain⟨v,hv,hr⟩:=BM.get h2 i d' hd; exact⟨v,by simpa using hv,hr⟩
theorem BM.JH{c:Ctx}{w:World}:∀{ds:List DV} {vs:List Value},ds.length=vs.length->(∀(i:Nat) d v,ds[i]?=xQ d->vs[i]?=xQ v->B0 c w d v)->BM c w ds vs
 | [],vs,hl,_=>by rw[BM.Gj]; exact AJ (by simpa using hl.symm)
 | d::ds,[],hl,_=>by simp at hl
 | d::ds,v::vs,hl,h=>by rw[BM.CW];exact⟨v,vs,rfl,h 0 d v (by simp) (by simp),BM.JH (by simpa using hl) fun i d' v' h1 h2=>h (i+1) d' v' (by simpa using h1) (by simpa using h2)⟩
theorem BM.append{c:Ctx}{w:World}:∀{ds ds':List DV} {vs vs':List Value},BM c w ds vs->BM c w ds' vs'->BM c w (ds++ds') (vs++vs')
 | [],ds',vs,vs',h,h'=>by rw[BM.Gj] at h; subst h; simpa using h'
 | d::ds,ds',vs,vs',h,h'=>by rw[BM.CW] at h;obtain⟨u,us,rfl,h1,h2⟩:=h;simp only[xH];rw[BM.CW];exact⟨u,us++vs',rfl,h1,BM.append h2 h'⟩
theorem BM.drop{c:Ctx}{w:World}{ds:List DV}{vs:List Value}(h:BM c w ds vs)(n:Nat):BM c w (ds.drop n) (vs.drop n):=by
 refine BM.JH (by simp[h.length]) fun i d v h1 h2=>?_
 rw[yL] at h1 h2;obtain⟨v',hv',hr⟩:=h.get _ _ h1;rw[hv'] at h2; cases h2; exact hr
theorem BM.take{c:Ctx}{w:World}{ds:List DV}{vs:List Value}(h:BM c w ds vs)(n:Nat):BM c w (ds.take n) (vs.take n):=by
 refine BM.JH (by simp[h.length]) fun i d v h1 h2=>?_
 have hi:i<n:=by
  rcases AF i n with h' | h'
  ·exact h'
  ·rw[yU h'] at h1; cases h1
 rw[yV hi] at h1 h2;obtain⟨v',hv',hr⟩:=h.get _ _ h1;rw[hv'] at h2; cases h2; exact hr
theorem BM.set{c:Ctx}{w:World}{ds:List DV}{vs:List Value}(h:BM c w ds vs)(n:Nat){d:DV}{v:Value}(hd:B0 c w d v):BM c w (ds.set n d) (vs.set n v):=by
 refine BM.JH (by simp[h.length]) fun i d' v' h1 h2=>?_
 rw[wo] at h1 h2;rw[h.length] at h1;split at h1
 ·rename_i hi;subst hi;split at h1
  ·rename_i hlt;simp only[if_true,hlt] at h2;cases h1; cases h2; exact hd
  ·cases h1
 ·rename_i hi;simp only[hi,if_false] at h2;obtain⟨v'',hv',hr⟩:=h.get _ _ h1;rw[hv'] at h2; cases h2; exact hr
theorem BM.getD{c:Ctx}{w:World}{ds:List DV}{vs:List Value}(h:BM c w ds vs)(i:Nat)(hi:i<ds.length):∃v,vs[i]?=xQ v/\B0 c w (ds.getD i .undef) v:=by have:ds[i]?=xQ ds[i]:=As hi;obtain⟨v,hv,hr⟩:=h.get i _ this;exact⟨v,hv,by simpa[wt,this] using hr⟩
theorem Dx.length{c:Ctx}{w:World}:∀{ds:List (List DV)} {rs:List (List Value)},Dx c w ds rs->ds.length=rs.length
 | [],rs,h=>by simp only[Dx] at h; subst h; rfl
 | d::ds,rs,h=>by simp only[Dx] at h;obtain⟨u,us,rfl,_,h2⟩:=h;simp[Dx.length h2]
theorem Dx.get{c:Ctx}{w:World}:∀{ds:List (List DV)} {rs:List (List Value)},Dx c w ds rs->∀(i:Nat) d,ds[i]?=xQ d->∃r,rs[i]?=xQ r/\BM c w d r
 | [],vs,h,i,d,hd=>by simp at hd
 | d::ds,vs,h,i,d',hd=>by
   simp only[Dx] at h;obtain⟨u,us,rfl,h1,h2⟩:=h;cases i with
   | zero=>simp at hd; subst hd; exact⟨u,by simp,h1⟩
   | succ i=>simp at hd; obtain⟨v,hv,hr⟩:=Dx.get h2 i d' hd; exact⟨v,by simpa using hv,hr⟩
theorem Dx.JH{c:Ctx}{w:World}:∀{ds:List (List DV)} {rs:List (List Value)},ds.length=rs.length->(∀(i:Nat) d r,ds[i]?=xQ d->rs[i]?=xQ r->BM c w d r)->Dx c w ds rs
 | [],vs,hl,_=>by simp only[Dx]; exact AJ (by simpa using hl.symm)
 | d::ds,[],hl,_=>by simp at hl
 | d::ds,v::vs,hl,h=>by simp only[Dx];exact⟨v,vs,rfl,h 0 d v (by simp) (by simp),Dx.JH (by simpa using hl) fun i d' v' h1 h2=>h (i+1) d' v' (by simpa using h1) (by simpa using h2)⟩
theorem Dx.append{c:Ctx}{w:World}:∀{ds ds':List (List DV)} {rs rs':List (List Value)},Dx c w ds rs->Dx c w ds' rs'->Dx c w (ds++ds') (rs++rs')
 | [],ds',vs,vs',h,h'=>by simp only[Dx] at h; subst h; simpa using h'
 | d::ds,ds',vs,vs',h,h'=>by simp only[Dx] at h;obtain⟨u,us,rfl,h1,h2⟩:=h;simp only[xH,Dx];exact⟨u,us++vs',rfl,h1,Dx.append h2 h'⟩
theorem Dx.drop{c:Ctx}{w:World}{ds:List (List DV)}{vs:List (List Value)}(h:Dx c w ds vs)(n:Nat):Dx c w (ds.drop n) (vs.drop n):=by
 refine Dx.JH (by simp[h.length]) fun i d v h1 h2=>?_
 rw[yL] at h1 h2;obtain⟨v',hv',hr⟩:=h.get _ _ h1;rw[hv'] at h2; cases h2; exact hr
theorem Dx.take{c:Ctx}{w:World}{ds:List (List DV)}{vs:List (List Value)}(h:Dx c w ds vs)(n:Nat):Dx c w (ds.take n) (vs.take n):=by
 refine Dx.JH (by simp[h.length]) fun i d v h1 h2=>?_
 have hi:i<n:=by
  rcases AF i n with h' | h'
  ·exact h'
  ·rw[yU h'] at h1; cases h1
 rw[yV hi] at h1 h2;obtain⟨v',hv',hr⟩:=h.get _ _ h1;rw[hv'] at h2; cases h2; exact hr
theorem Dx.set{c:Ctx}{w:World}{ds:List (List DV)}{vs:List (List Value)}(h:Dx c w ds vs)(n:Nat){d:List DV}{v:List Value}(hd:BM c w d v):Dx c w (ds.set n d) (vs.set n v):=by
 refine Dx.JH (by simp[h.length]) fun i d' v' h1 h2=>?_
 rw[wo] at h1 h2;rw[h.length] at h1;split at h1
 ·rename_i hi;subst hi;split at h1
  ·rename_i hlt;simp only[if_true,hlt] at h2;cases h1; cases h2; exact hd
  ·cases h1
 ·rename_i hi;simp only[hi,if_false] at h2;obtain⟨v'',hv',hr⟩:=h.get _ _ h1;rw[hv'] at h2; cases h2; exact hr
theorem Lm{α:Type}{sz:Nat}:∀{rows:List (List α)},(∀r∈rows,r.length=sz)->∀(i:Nat) r,rows[i]?=xQ r->∀(j:Nat) u,r[j]?=xQ u->rows.flatten[i*sz+j]?=xQ u
 | [],_,i,r,h,_,_,_=>by simp at h
 | r0::rows,hl,i,r,h,j,u,hu=>by
   have h0:r0.length=sz:=hl r0 (by simp);cases i with
   | zero =>simp at h; subst h;have hj:j<r0.length:=(List.getElem?_eq_some_iff.1 hu).1;simp only[yB,Nat.zero_mul,AS];rw[List.getElem?_append_left hj]; exact hu
   | succ i =>simp at h;have:=Lm (rows:=rows) (fun r hr=>hl r (by simp[hr])) i r h j u hu;simp only[yB];rw[AX (by rw[h0,z8]; omega)];rw[<- this]; congr 1; rw[h0,z8]; omega
theorem IK{α:Type}{sz:Nat}:∀{rows:List (List α)},(∀r∈rows,r.length=sz)->rows.flatten.length=rows.length*sz
 | [],_=>by simp
 | r0::rows,hl=>by simp only[yB,A8,List.length_cons];rw[IK (rows:=rows) (fun r hr=>hl r (by simp[hr])),hl r0 (by simp),z8]; omega
def XA(zs:List DV)(vs:List Value):Prop:=∀(c:Ctx) (w:World),BM c w zs vs
def CV(P:Program)(t:TypeId):TK->Prop
 | .slice e=>P.underlying t=xQ (.slice e)
 | .array n e=>P.underlying t=xQ (.array n e)
 | .struct fs=>∃gs:Array Field,P.underlying t=xQ (.struct gs)/\(gs.toList.map fun f=>(f.offset,f.type))=fs
 | .int k=>P.underlying t=xQ (.int k)
 | .fl=>P.underlying t=xQ (.float .f64)
 | .bool=>P.underlying t=xQ .bool
 | _=>∃d,P.underlying t=xQ d/\(∀gs,d≠.struct gs)/\∀n e,d≠.array n e
structure CI(P:Program)(t:TypeId)(ti:TI):Prop where
 info:∃i z,P.info? t=xQ i/\i.size=ti.size/\i.bytes=ti.bytes/\i.zero=xQ z/\XA ti.zero z.cells.toList/\z.cells.size=ti.size/\(∀u∈z.cells.toList,u.oneCell'=xZ)
 desc:CV P t ti.kind
section
variable{P:Program}{t:TypeId}{ti:TI}(w:World)
theorem CI.Hn(h:CI P t ti):(sizeOf t).run P w=.ok ti.size w:=by obtain⟨i,z,hi,hs,_⟩:=h.info;simp[sizeOf,typeInfo,hi,hs]
theorem CI.Tq(h:CI P t ti):∃z,(zeroValue t).run P w=.ok z w/\XA ti.zero z.cells.toList/\z.cells.size=ti.size/\(∀u∈z.cells.toList,u.oneCell'=xZ):=by obtain⟨i,z,hi,hs,_,hz,h1,h2,h3⟩:=h.info;exact⟨z,by simp[zeroValue,typeInfo,hi,hz],h1,h2,h3⟩
theorem CI.PT(h:CI P t ti):(isAgg t).run P w=.ok ti.agg w:=by
 have hd:=h.desc;unfold TI.agg;cases hk:ti.kind with
 | slice e=>rw[hk] at hd; simp only[CV] at hd; simp[isAgg,run_underlying hd]
 | array n e=>rw[hk] at hd; simp only[CV] at hd; simp[isAgg,run_underlying hd]
 | struct fs=>rw[hk] at hd; simp only[CV] at hd; obtain⟨gs,hg,_⟩:=hd; simp[isAgg,run_underlying hg]
 | int k=>rw[hk] at hd; simp only[CV] at hd; simp[isAgg,run_underlying hd]
 | fl=>rw[hk] at hd; simp only[CV] at hd; simp[isAgg,run_underlying hd]
 | bool=>rw[hk] at hd; simp only[CV] at hd; simp[isAgg,run_underlying hd]
 | ptr=>rw[hk] at hd; simp only[CV] at hd; obtain⟨d,hu,h1,h2⟩:=hd; cases d<;>first | (simp[isAgg,run_underlying hu]; done) | (exact absurd rfl (h1 _)) | (exact absurd rfl (h2 _ _))
 | func=>rw[hk] at hd; simp only[CV] at hd; obtain⟨d,hu,h1,h2⟩:=hd; cases d<;>first | (simp[isAgg,run_underlying hu]; done) | (exact absurd rfl (h1 _)) | (exact absurd rfl (h2 _ _))
 | other=>rw[hk] at hd; simp only[CV] at hd; obtain⟨d,hu,h1,h2⟩:=hd; cases d<;>first | (simp[isAgg,run_underlying hu]; done) | (exact absurd rfl (h1 _)) | (exact absurd rfl (h2 _ _))
end
theorem MY.refl(n:Nat):MY n n:=.inl rfl
theorem Ex{n:Nat}(h:Ic n=xZ):∃s f,Ieee.double.read n=.nan s f:=by
 unfold Ic Ieee.Datum.isNaN at h;cases hr:Ieee.double.read n with
 | nan s f=>exact⟨s,f,rfl⟩
 | number=>rw[hr] at h; cases h
 | infinity=>rw[hr] at h; cases h
theorem MY.add{a b x y:Nat}(h1:MY a x)(h2:MY b y):Ieee.double.add x y=Ieee.double.add a b:=by
 rcases h1 with rfl | ⟨h1,h1'⟩
 ·rcases h2 with rfl | ⟨h2,h2'⟩
  ·rfl
  ·obtain⟨s,f,e⟩:=Ex h2; obtain⟨s',f',e'⟩:=Ex h2';unfold Ieee.Format.add; rw[e,e']; cases Ieee.double.read a<;>rfl
 ·obtain⟨s,f,e⟩:=Ex h1; obtain⟨s',f',e'⟩:=Ex h1';unfold Ieee.Format.add; rw[e,e']; rfl
theorem MY.sub{a b x y:Nat}(h1:MY a x)(h2:MY b y):Ieee.double.sub x y=Ieee.double.sub a b:=by
 rcases h1 with rfl | ⟨h1,h1'⟩
 ·rcases h2 with rfl | ⟨h2,h2'⟩
  ·rfl
  ·obtain⟨s,f,e⟩:=Ex h2; obtain⟨s',f',e'⟩:=Ex h2';unfold Ieee.Format.sub; rw[e,e']; cases Ieee.double.read a<;>rfl
 ·obtain⟨s,f,e⟩:=Ex h1; obtain⟨s',f',e'⟩:=Ex h1';unfold Ieee.Format.sub; rw[e,e']; rfl
theorem MY.mul{a b x y:Nat}(h1:MY a x)(h2:MY b y):Ieee.double.mul x y=Ieee.double.mul a b:=by
 rcases h1 with rfl | ⟨h1,h1'⟩
 ·rcases h2 with rfl | ⟨h2,h2'⟩
  ·rfl
  ·obtain⟨s,f,e⟩:=Ex h2; obtain⟨s',f',e'⟩:=Ex h2';unfold Ieee.Format.mul; rw[e,e']; cases Ieee.double.read a<;>rfl
 ·obtain⟨s,f,e⟩:=Ex h1; obtain⟨s',f',e'⟩:=Ex h1';unfold Ieee.Format.mul; rw[e,e']; rfl
theorem MY.div{a b x y:Nat}(h1:MY a x)(h2:MY b y):Ieee.double.div x y=Ieee.double.div a b:=by
 rcases h1 with rfl | ⟨h1,h1'⟩
 ·rcases h2 with rfl | ⟨h2,h2'⟩
  ·rfl
  ·obtain⟨s,f,e⟩:=Ex h2; obtain⟨s',f',e'⟩:=Ex h2';unfold Ieee.Format.div; rw[e,e']; cases Ieee.double.read a<;>rfl
 ·obtain⟨s,f,e⟩:=Ex h1; obtain⟨s',f',e'⟩:=Ex h1';unfold Ieee.Format.div; rw[e,e']; rfl
theorem MY.sqrt{a x:Nat}(h1:MY a x):Ieee.double.sqrt x=Ieee.double.sqrt a:=by
 rcases h1 with rfl | ⟨h1,h1'⟩
 ·rfl
 ·obtain⟨s,f,e⟩:=Ex h1; obtain⟨s',f',e'⟩:=Ex h1';unfold Ieee.Format.sqrt; rw[e,e']; rfl
theorem MY.order{a b x y:Nat}(h1:MY a x)(h2:MY b y):Ieee.double.order x y=Ieee.double.order a b:=by
 rcases h1 with rfl | ⟨h1,h1'⟩
 ·rcases h2 with rfl | ⟨h2,h2'⟩
  ·rfl
  ·obtain⟨s,f,e⟩:=Ex h2; obtain⟨s',f',e'⟩:=Ex h2';unfold Ieee.Format.order; rw[e,e']; cases Ieee.double.read a<;>rfl
 ·obtain⟨s,f,e⟩:=Ex h1; obtain⟨s',f',e'⟩:=Ex h1';unfold Ieee.Format.order; rw[e,e']; rfl
theorem AfP(r q:Nat)(hr:r<4503599627370495)(_hq:q<2):Ic (q*9223372036854775808+9218868437227405312+1+r)=xZ:=by
 have hsw:Ieee.double.signWeight=9223372036854775808:=by decide +kernel
 have hb:Ieee.double.binade=4503599627370496:=by decide +kernel
 have hi:Ieee.double.infRung=9218868437227405312:=by decide +kernel
 unfold Ic Ieee.Format.read;rw[hsw,hb,hi];have hm:(q*9223372036854775808+9218868437227405312+1+r)%9223372036854775808=9218868437227405313+r:=by omega
 simp only[hm];rw[Ay (by omega),Ay (by omega),Ay (by omega)];rfl
theorem Aca(x y t:Nat):Ic ((Question.nanBits .f64 x y).cut t)=xZ:=by
 have e63:(2:Nat)^63=9223372036854775808:=by decide +kernel
 have e52:(2:Nat)^52-1=4503599627370495:=by decide +kernel
 have h:(Question.nanBits .f64 x y).cut t=(t%2)*9223372036854775808+9218868437227405312+1+(t / 2)%4503599627370495:=by unfold Question.cut;rw[e63,e52]
 rw[h];exact AfP _ _ (zu _ (by omega)) (zu _ (by omega))
theorem OO:Ic nanBits=xZ:=by decide +kernel
def Wd(w w':World):Prop:=w'=w\/w'=w.drew
theorem Tr{P:Program}(w:World)(op:BinOp)(x y a b:Nat)(r:R)(hx:MY a x)(hy:MY b y)(hop:op=.add\/op=.sub\/op=.mul\/op=.quo)(h:Q2 op a b=xQ r):
 ∃m w',(Op.floatArith op .f64 x y).run P w=.ok (.float .f64 m) w'/\Wd w w'/\∃n,r.v=.fl n/\MY n m:=by
 have key:∀(res:Option Nat) (nm:Nat),res=xY\/(∃k,res=xQ k)->∃m w',((match res with
  | some r=>pure (.float .f64 r)
  | none=>do pure (.float .f64 (<- choose (.nanBits .f64 x y))):Sem Value)).run P w=.ok (.float .f64 m) w'/\Wd w w'/\MY (res.getD nanBits) m:=by
  intro res nm hres;rcases hres with rfl | ⟨k,rfl⟩
  ·refine⟨(Question.nanBits .f64 x y).cut (w.tape w.drawn (.nanBits .f64 x y)),w.drew,?_,.inr rfl,.inr ⟨OO,Aca x y _⟩⟩;simp only[Sem.run_bind,run_choose,Question.forced,Result.andThen_ok,Sem.run_pure,Bool.false_eq_true,if_false];rfl
  ·exact⟨k,w,rfl,.inl rfl,.inl rfl⟩
 have hcase:∀res:Option Nat,res=xY\/∃k,res=xQ k:=fun res=>by cases res; exact .inl rfl; exact .inr ⟨_,rfl⟩
 rcases hop with rfl | rfl | rfl | rfl
 ·simp only[Q2,Ae] at h; subst h;obtain⟨m,w',h1,h2,h3⟩:=key (Ieee.double.add a b) 0 (hcase _);refine⟨m,w',?_,h2,_,rfl,h3⟩;have e:FloatKind.f64.format.add x y=Ieee.double.add a b:=MY.add hx hy;simp only[Op.floatArith,e,Sem.run_bind,Sem.run_pure,Result.andThen_ok]; exact h1
 ·simp only[Q2,Ae] at h; subst h;obtain⟨m,w',h1,h2,h3⟩:=key (Ieee.double.sub a b) 0 (hcase _);refine⟨m,w',?_,h2,_,rfl,h3⟩;have e:FloatKind.f64.format.sub x y=Ieee.double.sub a b:=MY.sub hx hy;simp only[Op.floatArith,e,Sem.run_bind,Sem.run_pure,Result.andThen_ok]; exact h1
 ·simp only[Q2,Ae] at h; subst h;obtain⟨m,w',h1,h2,h3⟩:=key (Ieee.double.mul a b) 0 (hcase _);refine⟨m,w',?_,h2,_,rfl,h3⟩;have e:FloatKind.f64.format.mul x y=Ieee.double.mul a b:=MY.mul hx hy;simp only[Op.floatArith,e,Sem.run_bind,Sem.run_pure,Result.andThen_ok]; exact h1
 ·simp only[Q2,Ae] at h; subst h;obtain⟨m,w',h1,h2,h3⟩:=key (Ieee.double.div a b) 0 (hcase _);refine⟨m,w',?_,h2,_,rfl,h3⟩;have e:FloatKind.f64.format.div x y=Ieee.double.div a b:=MY.div hx hy;simp only[Op.floatArith,e,Sem.run_bind,Sem.run_pure,Result.andThen_ok]; exact h1
set_option linter.unusedSimpArgs false
def Any(d:DV)(v:Value):Prop:=∀(c:Ctx) (w:World),B0 c w d v
theorem Any.bool(b:Bool):Any (.bool b) (.bool b):=fun _ _=>by simp[B0]
theorem Any.int(k:IntKind)(n:Int):Any (.int k n) (.int k n):=fun _ _=>by simp[B0]
theorem Any.fl{n m:Nat}(h:MY n m):Any (.fl n) (.float .f64 m):=fun _ _=>by simp only[B0]; exact⟨m,rfl,h⟩
theorem VU{P:Program}(w:World){op:BinOp}{t:TypeId}{k:IntKind}{x y:Int}{r:R}(hop:op≠.shl/\op≠.shr)(h:M7 op k x y=xQ r)(hr:r.Om=xZ):
 ∃v,(binOp op t (.int k x) (.int k y)).run P w=.ok v w/\Any r.v v:=by
 obtain⟨h1,h2⟩:=hop;cases op
 case add | sub | mul =>simp only[M7,Ae] at h; subst h;refine⟨_,?_,Any.int _ _⟩;simp[binOp,Op.intArith]
 case quo | rem =>simp only[M7,Ae] at h; subst h;simp only[bne_iff_ne,ne_eq] at hr;refine⟨_,?_,Any.int _ _⟩;simp only[binOp,Op.intDiv,ne_eq,not_true_eq_false,if_false,Ay hr,Sem.run_pure]
 case and | or | xor | andNot =>simp only[M7,Ae] at h; subst h;refine⟨_,?_,Any.int _ _⟩;simp only[binOp,Op.intBits,ne_eq,not_true_eq_false,if_false,Sem.run_pure]
 case eql | neq =>simp only[M7,Ae] at h; subst h;refine⟨_,?_,Any.bool _⟩;simp only[binOp,Op.intCmp,ne_eq,not_true_eq_false,if_false,Sem.run_pure]
 case lss | gtr =>simp only[M7,Ae] at h; subst h;refine⟨_,?_,Any.bool _⟩;simp only[binOp,Op.intCmp,ne_eq,not_true_eq_false,if_false,Sem.run_pure];rw[B9]
 case leq | geq =>simp only[M7,Ae] at h; subst h;refine⟨_,?_,Any.bool _⟩;simp only[binOp,Op.intCmp,ne_eq,not_true_eq_false,if_false,Sem.run_pure];rw[E1]
 case shl=>exact absurd rfl h1
 case shr=>exact absurd rfl h2
theorem Ahh{P:Program}(w:World){op:BinOp}{t:TypeId}{a b x y:Nat}{r:R}(hx:MY a x)(hy:MY b y)(h:Q2 op a b=xQ r):
 ∃v w',(binOp op t (.float .f64 x) (.float .f64 y)).run P w=.ok v w'/\Wd w w'/\Any r.v v:=by
 have ho:FloatKind.f64.format.order x y=Ieee.double.order a b:=MY.order hx hy;cases op
 case add | sub | mul | quo =>obtain⟨m,w',h1,h2,n,h3,h4⟩:=Tr (P:=P) w _ x y a b r hx hy (by simp) h;exact⟨_,w',by simpa[binOp] using h1,h2,by rw[h3]; exact Any.fl h4⟩
 case eql | neq | lss | leq | gtr | geq =>simp only[Q2,Ae] at h; subst h;exact⟨_,w,by simp[binOp,Op.floatCmp,ho],.inl rfl,Any.bool _⟩
 all_goals simp[Q2] at h
structure Abu(P:Program)(t:TypeId)(ti:TI):Prop where
 guard:P.eqGuardType P.depth t=x5
 eq:∀(w:World) (c:Ctx) (x y:List DV) (xs ys:Array Value),sameShape ti.zero x=xZ->sameShape ti.zero y=xZ->BM c w x xs.toList->BM c w y ys.toList ->
  (Op.equal t (.agg xs) (.agg ys)).run P w=.ok (Zg x y) w
theorem VD(n:Nat):Ic (n%9223372036854775808)=Ic n:=by unfold Ic Ieee.Format.read;have e0:Ieee.double.signWeight=9223372036854775808:=rfl;dsimp only;rw[e0,Nat.mod_mod];split<;>(try split)<;>(try split)<;>rfl
theorem Amf(m:Nat):(zq 64 (m:Int) &&& ~~~(zq 64 9223372036854775808)).toNat=m%9223372036854775808:=by
 have e1 : ~~~(zq 64 9223372036854775808)=BitVec.ofNat 64 (2^63-1):=by decide
 rw[e1,BitVec.toNat_and,BitVec.toNat_ofNat,BitVec.toNat_ofInt];have e2:(((m:Int)%((2^64:Nat):Int)).toNat)=m%2^64:=by omega
 rw[e2,show(2^63-1)%2^64=2^63-1 from rfl,Nat.and_two_pow_sub_one_eq_mod];omega
theorem ME(m:Nat):IntKind.u64.wrap ((zq IntKind.u64.bits (m:Int) &&& ~~~(zq IntKind.u64.bits 9223372036854775808)).toNat:Int)=((m%9223372036854775808:Nat):Int):=by have e:(zq IntKind.u64.bits (m:Int) &&& ~~~(zq IntKind.u64.bits 9223372036854775808)).toNat=m%9223372036854775808:=Amf m;rw[e];unfold IntKind.wrap;simp[IntKind.bits,IntKind.signed];omega
theorem Aje{P:Program}{E:Env}(hty:∀t ti,E.ty t=xQ ti->CI P t ti)(heq:∀t ti,E.eqs t=xZ->E.ty t=xQ ti->Abu P t ti)
 (w:World) {c:Ctx} {op:BinOp} {t:TypeId} {x y:Operand} {a b:DV} {va vb:Value} {r:R} (ha:B0 c w a va) (hb:B0 c w b vb)
 (h:Ajf E op t a b=xQ r) (hr:r.Om=xZ):
 ∃v w',((do eqGuard op t x y va vb; binOp op t va vb:Sem Value)).run P w=.ok v w'/\Wd w w'/\Any r.v v:=by
 have pre:∀(va vb:Value),(∀xs,va≠.agg xs)->(va≠.nilIface)->(eqGuard op t x y va vb).run P w=.ok () w:=by intro va vb h1 h2;cases op<;>(simp only[eqGuard]; first | rfl | (cases va<;>first | rfl | exact absurd rfl (h1 _) | exact absurd rfl h2))
 cases a<;>cases b<;>simp only[Ajf,reduceCtorEq] at h
 case int.int k x' k' y' =>
  simp only[B0] at ha hb;subst ha; subst hb;have hp:=pre (.int k x') (.int k' y') (by simp) (by simp);by_cases h1:op=.shl
  ·subst h1;simp only[Ae] at h; subst h;simp only[Ai] at hr;exact⟨_,w,by simp only[Sem.run_bind,hp,Result.andThen_ok,binOp,Op.shift,Sem.run_ite]; rw[Ay (by omega)]; rfl,.inl rfl,Any.int _ _⟩
  ·by_cases h2:op=.shr
   ·subst h2;simp only[Ae] at h; subst h;simp only[Ai] at hr;exact⟨_,w,by simp only[Sem.run_bind,hp,Result.andThen_ok,binOp,Op.shift,Sem.run_ite]; rw[Ay (by omega)]; rfl,.inl rfl,Any.int _ _⟩
   ·have h':(cond (decide (k=k')) (M7 op k x' y') xY)=xQ r:=by cases op<;>first | exact h | exact absurd rfl h1 | exact absurd rfl h2
    by_cases hk:k=k'
    ·subst hk;simp only[decide_true,Aa] at h';obtain⟨v,hv,ho⟩:=VU (P:=P) w (t:=t) ⟨h1,h2⟩ h' hr;exact⟨v,w,by simp only[Sem.run_bind,hp,Result.andThen_ok]; exact hv,.inl rfl,ho⟩
    ·simp[hk] at h'
 case fl.fl x' y' =>simp only[B0] at ha hb;obtain⟨m1,rfl,f1⟩:=ha;obtain⟨m2,rfl,f2⟩:=hb;have hp:=pre (.float .f64 m1) (.float .f64 m2) (by simp) (by simp);obtain⟨v,w',hv,hd,ho⟩:=Ahh (P:=P) w (t:=t) f1 f2 h;exact⟨v,w',by simp only[Sem.run_bind,hp,Result.andThen_ok]; exact hv,hd,ho⟩
 case nb.int x' k' y' =>
  cases op<;>simp only[reduceCtorEq] at h;by_cases hk:k'=.u64/\y'=9223372036854775808
  ·obtain⟨rfl,rfl⟩:=hk;simp only[decide_true,Ah,Aa,Ae] at h; subst h;simp only[B0] at ha hb;obtain⟨m,rfl,f⟩:=ha;subst hb;have hp:=pre (.int .u64 (m:Int)) (.int .u64 9223372036854775808) (by simp) (by simp);obtain⟨v,hv,ho⟩:=VU (P:=P) w (op:=.andNot) (t:=t) (k:=.u64) (x:=(m:Int)) (y:=9223372036854775808) ⟨by simp,by simp⟩ rfl rfl;refine⟨v,w,by simp only[Sem.run_bind,hp,Result.andThen_ok]; exact hv,.inl rfl,fun c w=>?_⟩;have ho:=ho c w;simp only[B0] at ho ⊢;refine⟨m%9223372036854775808,?_,?_⟩
   ·rw[ho,ME m]
   ·rcases f with rfl | ⟨f1,f2⟩
    ·exact .inl rfl
    ·exact .inr ⟨by rw[VD]; exact f1,by rw[VD]; exact f2⟩
  ·have:(decide (k'=IntKind.u64)&&decide (y'=9223372036854775808))=x5:=by rw[Bool.eq_false_iff]; intro hh; rw[Am,Ai,Ai] at hh; exact hk hh
   rw[this] at h; cases h
 case bool.bool x' y' =>
  simp only[B0] at ha hb;subst ha; subst hb;have hp:=pre (.bool x') (.bool y') (by simp) (by simp);split at h
  ·rename_i hT;have hd:=(hty _ _ hT).desc;simp only[CV] at hd
   have he:(Op.equal t (.bool x') (.bool y')).run P w=.ok (x'==y') w:=by show(Op.equalIn (9999+1) t (.bool x') (.bool y')).run P w=_;exact run_equalIn_bool' w 9999 t x' y' hd
   cases op<;>simp only[Ae,reduceCtorEq] at h
   all_goals subst h
   all_goals
    refine⟨_,w,?_,.inl rfl,Any.bool _⟩;simp only[Sem.run_bind,hp,Result.andThen_ok,binOp,he,Sem.run_pure]
  ·cases h
 case agg.agg x' y' =>
  simp only[B0] at ha hb;obtain⟨xs,rfl,hx⟩:=ha;obtain⟨ys,rfl,hy⟩:=hb;cases hE:E.eqs t with
  | false=>simp[hE] at h
  | true =>
    cases hT:E.ty t with
    | none=>simp[hE,hT] at h
    | some ti =>
      have hf:=heq t ti hE hT;simp only[hE,hT,AW] at h;cases h1:sameShape ti.zero x' with
      | false=>simp[h1] at h
      | true =>
        cases h2:sameShape ti.zero y' with
        | false=>simp[h1,h2] at h
        | true =>
          simp only[h1,h2,Ah,Aa] at h;have he:=hf.eq w c x' y' xs ys h1 h2 hx hy
          have hg:(eqGuard op t x y (.agg xs) (.agg ys)).run P w=.ok () w:=by
           cases op<;>simp only[Ae,reduceCtorEq] at h
           all_goals
            unfold eqGuard;simp[hf.guard]
          cases op<;>simp only[Ae,reduceCtorEq] at h
          all_goals subst h
          all_goals
           refine⟨_,w,?_,.inl rfl,Any.bool _⟩;simp only[Sem.run_bind,hg,Result.andThen_ok,binOp,he,Sem.run_pure]
theorem AjG{P:Program}(w:World){c:Ctx}{op:UnOp}{a:DV}{va:Value}{r:R}(ha:B0 c w a va)(h:unD op a=xQ r):
 ∃v,(Op.unary op va).run P w=.ok v w/\Any r.v v:=by
 cases op<;>cases a<;>simp only[unD,Ae,reduceCtorEq] at h
 all_goals subst h
 all_goals simp only[B0] at ha
 all_goals subst ha
 case neg.int k x=>exact⟨_,by simp only[Op.unary,Op.intArith,Sem.run_pure],Any.int _ _⟩
 case xor.int k x=>exact⟨_,by simp only[Op.unary,Op.intBits,Sem.run_pure],Any.int _ _⟩
 case not.bool b=>exact⟨_,by simp only[Op.unary,Sem.run_pure],Any.bool _⟩
theorem AgX{P:Program}{E:Env}(hty:∀t ti,E.ty t=xQ ti->CI P t ti)(w:World){c:Ctx}{src dst:TypeId}{a:DV}{va:Value}{r:R}(ha:B0 c w a va)(h:Ac0 E dst src a=xQ r):
 ∃v,(convert src dst va).run P w=.ok v w/\Any r.v v:=by
 unfold Ac0 at h;split at h
 ·rename_i hd hs;simp only[Ae] at h; subst h;have h1:=(hty _ _ hd).desc;have h2:=(hty _ _ hs).desc;simp only[CV] at h1 h2;simp only[B0] at ha; subst ha;refine⟨_,?_,Any.int _ _⟩;simp[convert,run_underlying h1,run_underlying h2,Conv.intToInt]
 ·rename_i hd hs;simp only[Ae] at h; subst h;have h1:=(hty _ _ hd).desc;have h2:=(hty _ _ hs).desc;simp only[CV] at h1 h2;simp only[B0] at ha; subst ha;refine⟨_,?_,Any.fl (MY.refl _)⟩;simp only[convert,run_underlying h1,run_underlying h2,Sem.run_bind,Result.andThen_ok,Conv.intToFloat,Sem.run_pure];rfl
 ·rename_i hd hs;simp only[Ae] at h; subst h;have h1:=(hty _ _ hd).desc;have h2:=(hty _ _ hs).desc;simp only[CV] at h1 h2;simp only[B0] at ha;obtain⟨m,rfl,f⟩:=ha;refine⟨_,?_,Any.fl f⟩;simp only[convert,run_underlying h1,run_underlying h2,Sem.run_bind,Result.andThen_ok,Conv.floatToFloat,if_true,Sem.run_pure]
 ·cases h
def Fu(w:World)(b o:Nat)(vs:List Value):Prop:=∀(i:Nat) u,vs[i]?=xQ u->w.cell? ⟨b,o+i,xY⟩=xQ u
theorem Fu.drop{w:World}{b o:Nat}{vs:List Value}(h:Fu w b o vs)(n:Nat):Fu w b (o+n) (vs.drop n):=fun i u hi=>by rw[yL] at hi;have:=h _ _ hi;rwa[<- yg] at this
theorem Fu.take{w:World}{b o:Nat}{vs:List Value}(h:Fu w b o vs)(n:Nat):Fu w b o (vs.take n):=fun i u hi=>by
 refine h i u ?_;rcases AF i n with h' | h'
 ·rwa[yV h'] at hi
 ·rw[yU h'] at hi; cases hi
section
variable{P:Program}{t:TypeId}{ti:TI}(w:World)
theorem Nu(hf:CI P t ti)(ha:ti.agg=xZ){b o:Nat}{vs:List Value}(hr:Fu w b o vs)(hl:ti.size<=vs.length):
 (Instr.loadAt t (.pointer (xQ ⟨b,o,xY⟩))).run P w=.ok (.agg (vs.take ti.size).toArray) w:=by
 have h1:=run_loadCells_list (P:=P) w ⟨b,o,xY⟩ (vs.take ti.size) (fun j v hj=>by rw[Addr.add_lit]; exact hr.take _ j v hj);rw[List.length_take,Nat.min_eq_left hl] at h1;simp[Instr.loadAt,Instr.sureAddr,loadVar,hf.PT w,ha,hf.Hn w,h1]
theorem K4(hf:CI P t ti)(ha:ti.agg=x5){b o:Nat}{v:Value}(hr:w.cell? ⟨b,o,xY⟩=xQ v):
 (Instr.loadAt t (.pointer (xQ ⟨b,o,xY⟩))).run P w=.ok v w:=by
 simp[Instr.loadAt,Instr.sureAddr,loadVar,hf.PT w,ha,hr]
theorem Acd(hf:CI P t ti){c:Ctx}{b o:Nat}{cs:List DV}{vs:List Value}{d:DV}(hr:Fu w b o vs)(hl:BM c w cs vs)(h:shaped ti cs=xQ d):
 ∃v,(Instr.loadAt t (.pointer (xQ ⟨b,o,xY⟩))).run P w=.ok v w/\B0 c w d v:=by
 unfold shaped at h;cases ha:ti.agg with
 | true =>
   simp only[ha,Aa] at h;by_cases hs:ti.size<=cs.length
   ·simp only[hs,decide_true,Aa,Ae] at h; subst h;refine⟨_,Nu w hf ha hr (by rw[<- hl.length]; exact hs),?_⟩;simp only[B0];exact⟨_,rfl,by simpa using hl.take _⟩
   ·simp[hs] at h
 | false =>
   simp only[ha,Af] at h;cases cs with
   | nil=>cases h
   | cons d' ds =>simp only[Ae] at h; subst h;rw[BM.CW] at hl;obtain⟨u,us,rfl,h1,_⟩:=hl;exact⟨u,K4 w hf ha (by have:=hr 0 u (by simp); simpa using this),h1⟩
end
theorem Em{I0:Nat->Prop}{B:Nat}{A:Nat->Option Place}{h:DG}{w:World}(hm:Mem I0 B A h w){n:Nat}{p:Place}(hp:A n=xQ p){fz:Bool}{e:TypeId}{k:IntKind}{l:Bf}(hl:look h n=xQ (fz,.Bj e k l)):
 p.st=(if fz then .frozen else .live)/\∃sv,p.kind=.row sv 1/\w.ownsRow B e 1 sv l.length (l.map (Value.int k)):=by
 have:=hm.obj n p _ hp hl;unfold Dy at this;exact this
theorem EE{I0:Nat->Prop}{B:Nat}{A:Nat->Option Place}{h:DG}{w:World}(hm:Mem I0 B A h w){n:Nat}{p:Place}(hp:A n=xQ p){fz:Bool}{e:TypeId}{sz:Nat}{l:List (List DV)}(hl:look h n=xQ (fz,.Cu e sz l)):
 p.st=(if fz then .frozen else .live)/\0<sz/\∃sv rows,p.kind=.row sv sz/\Dx (Cc I0 B A w).bare w l rows/\(∀r∈rows,r.length=sz/\∀u∈r,u.oneCell'=xZ)/\w.ownsRow B e sz sv l.length rows.flatten:=by
 have:=hm.obj n p _ hp hl;unfold Dy at this;exact this
theorem Mm{I0:Nat->Prop}{B:Nat}{A:Nat->Option Place}{h:DG}{w:World}(hm:Mem I0 B A h w){n:Nat}{p:Place}(hp:A n=xQ p){fz:Bool}{cs:List DV}(hl:look h n=xQ (fz,.box cs)):
 p.st=(if fz then .frozen else .live)/\∃b e cells,p.kind=.box b/\w.heap[b]?=xQ (.cells cells e (0,0))/\BM (Cc I0 B A w) w cs cells.toList:=by
 have:=hm.obj n p _ hp hl;unfold Dy at this;exact this
theorem Cm{p:Place}{fz:Bool}(h:p.st=(if fz then PSt.frozen else PSt.live)):p.st≠.dead:=by cases fz<;>simp at h<;>simp[h]
theorem FH{w:World}{base:Nat}{e:TypeId}{size n:Nat}{v:Value}{xs:List Value}(h:w.ownsRow base e size v n xs)(hn:0<n):
 ∃g cap,v=.slice (xQ ⟨g,0,xY⟩) n cap/\n<=cap/\Fu w g 0 xs:=by
 rcases h.2 with ⟨_,rfl⟩ | ⟨g,cap,cur,rfl,_,_,hc,_⟩
 ·omega
 ·refine⟨g,cap,rfl,hc,fun i u hi=>?_⟩;have:=h.cells (g:=g) rfl i u hi;rw[Addr.add_lit] at this;exact this
theorem FG{w:World}{base:Nat}{e:TypeId}{size n:Nat}{v:Value}{xs:List Value}(h:w.ownsRow base e size v n xs):
 (v=.slice xY 0 0/\n=0)\/∃g cap,v=.slice (xQ ⟨g,0,xY⟩) n cap/\n<=cap:=by
 rcases h.2 with ⟨h1,h2⟩ | ⟨g,cap,cur,rfl,_,_,hc,_⟩
 ·exact .inl ⟨h1,h2⟩
 ·exact .inr ⟨g,cap,rfl,hc⟩
theorem VT{w:World}{b:Nat}{cells:Array Value}{e:TypeId}(h:w.heap[b]?=xQ (.cells cells e (0,0))):Fu w b 0 cells.toList:=fun i u hi=>by simp only[World.cell?,h,AS];simpa using hi
section
variable{P:Program}{I0:Nat->Prop}{B:Nat}{A:Nat->Option Place}{h:DG}{w:World}{t:TypeId}{ti:TI}
theorem YC(hm:Mem I0 B A h w)(hf:CI P t ti){a:DV}{va:Value}{r:R}(ha:B0 (Cc I0 B A w) w a va)(hl:V8 h ti a=xQ r)(hr:r.Om=xZ):
 ∃v,(Instr.loadAt t va).run P w=.ok v w/\B0 (Cc I0 B A w) w r.v v:=by
 unfold V8 at hl;split at hl
 ·rename_i cs;simp only[B0] at ha;obtain⟨b,o,vs,rfl,_,hls,hread⟩:=ha;cases hs:shaped ti cs with
  | none=>simp[hs] at hl
  | some d =>simp only[hs,yn,Ae] at hl; subst hl;obtain⟨v,h1,h2⟩:=Acd (P:=P) (t:=t) w hf (vs:=vs) hread hls hs;exact⟨v,h1,B0.Fg (I6.WQ _) _ _ h2⟩
 ·rename_i n i j;simp only[B0] at ha;obtain⟨_,p,hp,hd⟩:=ha;split at hl
  ·rename_i fz cs hlk;obtain⟨hst,b,e,cells,hk,hh,hls⟩:=Mm hm hp hlk;have hd:=hd.resolve_left (Cm hst);unfold HX at hd; rw[hk] at hd;obtain⟨rfl,rfl⟩:=hd;by_cases hj:j<cs.length
   ·simp only[hj,decide_true,xI,AI,Aa] at hl;cases hs:shaped ti (cs.drop j) with
    | none=>simp[hs] at hl
    | some d =>simp only[hs,yn,Ae] at hl; subst hl;have:=(VT hh).drop j;rw[AS] at this;exact Acd (P:=P) (t:=t) w hf this (hls.drop j) hs
   ·simp[hj] at hl
  ·rename_i fz e k l hlk;obtain⟨hst,sv,hk,ho⟩:=Em hm hp hlk;have hd:=hd.resolve_left (Cm hst);cases hag:ti.agg with
   | true=>simp[hag] at hl
   | false =>
     by_cases hj:j=0
     ·subst hj;simp only[hag,Bc,xI,AI,Aa,Ae] at hl; subst hl;simp only[Ai] at hr;obtain⟨g,cap,rfl,_,hread⟩:=FH ho (by omega);unfold HX at hd; rw[hk] at hd;simp only[AR,AQ] at hd; subst hd;have hi:(l.map (Value.int k))[i]?=xQ (.int k (l.getD i 0)):=by simp[wt,hr]
      have:=hread i _ hi;rw[AS] at this;exact⟨_,K4 w hf hag this,by simp[B0]⟩
     ·rw[show(j==0)=x5 by simpa using hj] at hl; simp at hl
  ·rename_i fz e sz l hlk;obtain⟨hst,hsz,sv,rows,hk,hrr,hlen,ho⟩:=EE hm hp hlk;have hd:=hd.resolve_left (Cm hst)
   have key:i<l.length->∃g,va=.pointer (xQ ⟨g,i*sz+j,xY⟩)/\∃row,rows[i]?=xQ row/\row.length=sz/\Fu w g (i*sz) row/\BM (Cc I0 B A w).bare w (l.getD i []) row:=by
    intro hi;obtain⟨g,cap,rfl,_,hread⟩:=FH ho (by omega);unfold HX at hd; rw[hk] at hd;have hli:l[i]?=xQ (l.getD i []):=by simp[wt,hi]
    obtain⟨row,hrow,hlr⟩:=hrr.get i _ hli;refine⟨g,hd,row,hrow,(hlen row (yW hrow)).1,fun x u hu=>?_,hlr⟩;have:=hread _ _ (Lm (fun r hr=>(hlen r hr).1) i row hrow x u hu);rwa[AS] at this
   cases hag:ti.agg with
   | true =>
     simp only[hag,Aa] at hl;by_cases hjs:j+ti.size<=sz
     ·simp only[hjs,decide_true,Aa,Ae] at hl; subst hl;simp only[Ai] at hr;obtain⟨g,rfl,row,hrow,hrl,hread,hlr⟩:=key hr;have h1:=Nu (P:=P) (t:=t) w hf hag (hread.drop j) (by rw[List.length_drop]; omega);refine⟨_,h1,?_⟩;simp only[B0];exact⟨_,rfl,by simpa using BM.Fg (I6.WQ _) _ _ ((hlr.drop j).take ti.size)⟩
     ·simp[hjs] at hl
   | false =>
     simp only[hag,Af] at hl;by_cases hjs:j<sz
     ·simp only[hjs,decide_true,Aa,Ae] at hl; subst hl;simp only[Ai] at hr;obtain⟨g,rfl,row,hrow,hrl,hread,hlr⟩:=key hr;obtain⟨v,hv,hvr⟩:=hlr.getD j (by rw[hlr.length]; omega);exact⟨v,K4 w hf hag (hread j v hv),B0.Fg (I6.WQ _) _ _ hvr⟩
     ·simp[hjs] at hl
  ·cases hl
 ·cases hl
end
section
variable{P:Program}{E:Env}{I0:Nat->Prop}{B:Nat}{A:Nat->Option Place}{h:DG}{w:World}{t:TypeId}
theorem Ug{gs:Array Field}{fs:List (Nat × TypeId)}(hg:(gs.toList.map fun f=>(f.offset,f.type))=fs){i off:Nat}{ft:TypeId}(hi:fs[i]?=xQ (off,ft)):
 ∃f,gs[i]?=xQ f/\f.offset=off/\f.type=ft:=by
 subst hg;rw[Ba] at hi;cases hq:gs.toList[i]? with
 | none=>simp[hq] at hi
 | some f =>simp only[hq,yn,Ae,Ak] at hi;exact⟨f,by simpa using hq,hi.1,hi.2⟩
theorem Q9(hm:Mem I0 B A h w){n:Nat}{p:Place}(hp:A n=xQ p)(ha:LB h n=xZ):p.st≠.dead:=by
 unfold LB at ha;split at ha
 ·cases ha
 ·cases ha
 ·rename_i x hx1 hx2;cases hq:look h n with
  | none=>exact absurd hq hx2
  | some fo =>
    obtain⟨fz,ob⟩:=fo;cases ob with
    | box cs=>exact Cm (Mm hm hp hq).1
    | Bj e k l=>exact Cm (Em hm hp hq).1
    | Cu e sz l=>exact Cm (EE hm hp hq).1
    | dead=>exact absurd hq (hx1 fz)
theorem UI(hty:∀t ti,E.ty t=xQ ti->CI P t ti)(hm:Mem I0 B A h w){a:DV}{va:Value}{f:Nat}{r:R}(ha:B0 (Cc I0 B A w) w a va)(hl:Mu E h t f a=xQ r):
 ∃v,(Instr.fieldAt t va f).run P w=.ok v w/\B0 (Cc I0 B A w) w r.v v:=by
 unfold Mu at hl;split at hl
 ·rename_i fs _ hT;have hd:=(hty _ _ hT).desc;simp only[CV] at hd;obtain⟨gs,hu,hg⟩:=hd;split at hl
  ·rename_i off ft hoff;obtain⟨fl,hfl,ho,hft⟩:=Ug hg hoff;cases hF:E.ty ft with
   | none=>simp[hF] at hl
   | some fi =>
     simp only[hF,Aj] at hl;by_cases hpos:0<fi.size
     ·simp only[hpos,decide_true,Aa] at hl;have hsz:(sizeOf fl.type).run P w=.ok fi.size w:=by rw[hft]; exact(hty _ _ hF).Hn w
      have hne:¬fi.size=0:=by omega
      have run:∀b o,(Instr.fieldAt t (.pointer (xQ ⟨b,o,xY⟩)) f).run P w=.ok (.pointer (xQ ⟨b,o+off,xY⟩)) w:=by intro b o;simp[Instr.fieldAt,run_underlying hu,hfl,Instr.sureAddr,fieldPlace,hsz,hne,ho,Addr.add_lit]
      split at hl
      ·rename_i n i j;cases hal:LB h n with
       | false=>simp[hal] at hl
       | true =>
       simp only[hal,Aa,Ae] at hl; subst hl;simp only[B0] at ha ⊢;obtain⟨_,p,hp,hd⟩:=ha;have hd:=hd.resolve_left (Q9 hm hp hal);unfold HX at hd;split at hd
       ·rename_i b hk;obtain⟨rfl,rfl⟩:=hd;exact⟨_,run _ _,rfl,p,hp,.inr (by unfold HX; rw[hk]; exact⟨rfl,rfl⟩)⟩
       ·rename_i g _ _ size hk;subst hd;exact⟨_,run _ _,rfl,p,hp,.inr (by unfold HX; rw[hk]; simp[yg])⟩
       ·exact hd.elim
      ·rename_i cs;simp only[Ae] at hl; subst hl;simp only[B0] at ha ⊢;obtain⟨b,o,vs,rfl,hok,hls,hread⟩:=ha;exact⟨_,run _ _,b,o+off,vs.drop off,rfl,hok,hls.drop off,Fu.drop hread off⟩
      ·cases hl
     ·simp[hpos] at hl
  ·cases hl
 ·cases hl
theorem Yl{P:Program}{w:World}{t:TypeId}{ti:TI}(hf:CI P t ti){c:Ctx}{cs:List DV}{vs:Array Value}{off:Nat}{d:DV}(hl:BM c w cs vs.toList)(h:V0 ti cs off=xQ d):
 ∃v,(part t vs off).run P w=.ok v w/\B0 c w d v:=by
 unfold V0 at h;cases ha:ti.agg with
 | true =>
   simp only[ha,Aa] at h;by_cases hs:off+ti.size<=cs.length
   ·simp only[hs,decide_true,Aa,Ae] at h; subst h;refine⟨.agg (vs.extract off (off+ti.size)),by simp[part,hf.PT w,ha,hf.Hn w],?_⟩;simp only[B0];refine⟨_,rfl,?_⟩
    have:(vs.extract off (off+ti.size)).toList=(vs.toList.drop off).take ti.size:=by simp[List.take_drop]
    rw[this];exact(hl.drop off).take _
   ·simp[hs] at h
 | false =>
   simp only[ha,Af] at h;by_cases hs:off<cs.length
   ·simp only[hs,decide_true,Aa,Ae] at h; subst h;obtain⟨v,hv,hr⟩:=hl.getD off hs;refine⟨v,?_,hr⟩;have hv':vs[off]?=xQ v:=by simpa using hv
    simp[part,hf.PT w,ha,hv']
   ·simp[hs] at h
theorem AdW(hty:∀t ti,E.ty t=xQ ti->CI P t ti){c:Ctx}{a:DV}{va:Value}{f:Nat}{r:R}(ha:B0 c w a va)(hl:Xi E t f a=xQ r):
 ∃v,(Instr.field t va f).run P w=.ok v w/\B0 c w r.v v:=by
 unfold Xi at hl;split at hl
 ·rename_i fs _ hT;have hd:=(hty _ _ hT).desc;simp only[CV] at hd;obtain⟨gs,hu,hg⟩:=hd;split at hl
  ·rename_i off ft cs hoff;obtain⟨fl,hfl,ho,hft⟩:=Ug hg hoff;cases hF:E.ty ft with
   | none=>simp[hF] at hl
   | some fi =>
     cases hp:V0 fi cs off with
     | none=>simp[hF,hp] at hl
     | some d =>simp only[hF,hp,Aj,yn,Ae] at hl; subst hl;simp only[B0] at ha;obtain⟨vs,rfl,hls⟩:=ha;obtain⟨v,h1,h2⟩:=Yl (P:=P) (hty _ _ hF) hls hp;refine⟨v,?_,h2⟩;simp[Instr.field,run_underlying hu,hfl,asAgg,ho,hft,h1]
  ·cases hl
 ·cases hl
theorem Ai9(hm:Mem I0 B A h w){a:DV}{va:Value}{n:Int}(ha:B0 (Cc I0 B A w) w a va)(hl:AiA h a=xQ n):
 ∃(ad:Option Addr) (l cap:Nat),va=.slice ad l cap/\(l:Int)=n:=by
 unfold AiA at hl;split at hl
 ·simp only[Ae] at hl; simp only[B0] at ha; exact⟨xY,0,0,ha,by simpa using hl⟩
 ·cases hl
 ·cases hl
 ·rename_i g k l hg;simp only[Ae] at hl;cases g with
  | own i e=>exact absurd rfl (hg i e)
  | arg=>simp only[B0] at ha; obtain⟨ad,cap,rfl,_⟩:=ha; exact⟨ad,_,cap,rfl,hl⟩
  | BE=>simp only[B0] at ha; obtain⟨ad,cap,rfl,_⟩:=ha; exact⟨ad,_,cap,rfl,hl⟩
 ·rename_i g sz l hg;simp only[Ae] at hl;cases g with
  | own i e=>exact absurd rfl (hg i e)
  | arg=>simp only[B0] at ha; obtain⟨ad,cap,rfl,_⟩:=ha; exact⟨ad,_,cap,rfl,hl⟩
  | BE=>simp only[B0] at ha; obtain⟨ad,cap,rfl,_⟩:=ha; exact⟨ad,_,cap,rfl,hl⟩
 ·rename_i n';simp only[B0] at ha;obtain⟨_,p,hp,hd⟩:=ha;split at hl
  ·rename_i e k l hlk;obtain⟨hst,sv,hk,ho⟩:=Em hm hp hlk;obtain⟨size,hk'⟩:=hd.resolve_left (Cm hst);rw[hk] at hk'; cases hk';simp only[Ae] at hl;rcases FG ho with ⟨rfl,h0⟩ | ⟨g,cap,rfl,_⟩
   ·exact⟨xY,0,0,rfl,by rw[<- hl,h0]⟩
   ·exact⟨_,_,_,rfl,hl⟩
  ·rename_i e sz l hlk;obtain⟨hst,_,sv,rows,hk,_,_,ho⟩:=EE hm hp hlk;obtain⟨size,hk'⟩:=hd.resolve_left (Cm hst);rw[hk] at hk'; cases hk';simp only[Ae] at hl;rcases FG ho with ⟨rfl,h0⟩ | ⟨g,cap,rfl,_⟩
   ·exact⟨xY,0,0,rfl,by rw[<- hl,h0]⟩
   ·exact⟨_,_,_,rfl,hl⟩
  ·cases hl
 ·rename_i n' off len;cases hal:LB h n' with
  | false=>simp[hal] at hl
  | true =>
    simp only[hal,Aa,Ae] at hl;simp only[B0] at ha;obtain⟨_,p,hp,hd⟩:=ha;obtain⟨sv,size,hk,hs⟩:=hd.resolve_left (Q9 hm hp hal);unfold KN at hs;split at hs
    ·obtain⟨_,a',cap,rfl,_⟩:=hs; exact⟨_,_,_,rfl,hl⟩
    ·obtain⟨_,rfl,rfl⟩:=hs; exact⟨_,_,_,rfl,hl⟩
    ·exact hs.elim
 ·cases hl
end
section
variable{P:Program}{E:Env}{I0:Nat->Prop}{B:Nat}{A:Nat->Option Place}{h:DG}{w:World}{t:TypeId}
theorem bnd{i:Int}{n:Nat}(h:(decide (0<=i)&&decide (i<n))=xZ):0<=i/\i<n:=by simpa using h
theorem run_indexAt_slice{e:TypeId}(hu:P.underlying t=xQ (.slice e)){es:Nat}(hes:(sizeOf e).run P w=.ok es w){b o len cap:Nat}{k:IntKind}{i:Int}(hi:0<=i/\i<len):
 (Instr.indexAt t (.slice (xQ ⟨b,o,xY⟩) len cap) (.int k i)).run P w=.ok (.pointer (xQ ⟨b,o+i.toNat*es,xY⟩)) w:=by
 obtain⟨h0,h1⟩:=hi;have:(⟨b,o,xY⟩:Addr).add (i.toNat*es)=⟨b,o+i.toNat*es,xY⟩:=Addr.add_lit _ _ _;simp[Instr.indexAt,asIntOf,run_underlying hu,h0,h1,hes,this]
theorem UF(hty:∀t ti,E.ty t=xQ ti->CI P t ti)(hm:Mem I0 B A h w){a:DV}{va:Value}{k:IntKind}{i:Int}{r:R}(ha:B0 (Cc I0 B A w) w a va)(hl:Ms E h t a i=xQ r)(hr:r.Om=xZ):
 ∃v,(Instr.indexAt t va (.int k i)).run P w=.ok v w/\B0 (Cc I0 B A w) w r.v v:=by
 unfold Ms at hl;split at hl
 ·rename_i e _ hT;have hu:=(hty _ _ hT).desc;simp only[CV] at hu;cases hE:E.ty e with
  | none=>simp[hE] at hl
  | some ei =>
  simp only[hE,Aj] at hl;have hes:=(hty _ _ hE).Hn w;split at hl
  ·cases hl
  ·rename_i g kk l hg;by_cases h1:ei.size=1
   ·simp only[h1,AI,Aa,Ae] at hl; subst hl;obtain⟨h0,hlt⟩:=bnd hr
    have hmain:∃cap b o,va=.slice (xQ ⟨b,o,xY⟩) l.length cap/\(Cc I0 B A w).ok b/\∀(i:Nat) n,l[i]?=xQ n->w.cell? ⟨b,o+i,xY⟩=xQ (.int kk n):=by
     cases g with
     | own i e=>exact absurd rfl (hg i e)
     | arg=>simp only[B0] at ha; obtain⟨ad,cap,rfl,_,hh⟩:=ha; rcases hh with rfl | ⟨b,o,rfl,hb,hrd⟩; (simp at hlt; omega); exact⟨cap,b,o,rfl,hb,hrd⟩
     | BE=>simp only[B0] at ha; obtain⟨ad,cap,rfl,_,hh⟩:=ha; rcases hh with rfl | ⟨b,o,rfl,hb,hrd⟩; (simp at hlt; omega); exact⟨cap,b,o,rfl,hb.1,hrd⟩
    obtain⟨cap,b,o,rfl,hok,hrd⟩:=hmain;have hrun:=run_indexAt_slice (P:=P) (w:=w) (cap:=cap) (b:=b) (o:=o) (k:=k) hu (by rw[h1] at hes; exact hes) ⟨h0,hlt⟩;rw[AR] at hrun;refine⟨_,hrun,?_⟩;simp only[B0]
    have hn:l[i.toNat]?=xQ (l.getD i.toNat 0):=by
     have:i.toNat<l.length:=by omega
     simp[wt,this]
    refine⟨b,o+i.toNat,[.int kk (l.getD i.toNat 0)],rfl,hok,?_,?_⟩
    ·simp[BM,B0]
    ·intro j u hj;cases j with
     | zero=>simp at hj; subst hj; simpa using hrd _ _ hn
     | succ j=>simp at hj
   ·rw[show(ei.size==1)=x5 by simpa using h1] at hl; simp at hl
  ·cases hl
  ·rename_i g sz l hg;by_cases h1:ei.size=sz
   ·simp only[h1,AI,Aa,Ae] at hl; subst hl;obtain⟨h0,hlt⟩:=bnd hr
    have hmain:∃cap b o rows,va=.slice (xQ ⟨b,o,xY⟩) l.length cap/\(Cc I0 B A w).ok b/\Dx (Cc I0 B A w).bare w l rows/\(∀r∈rows,r.length=sz/\∀u∈r,u.oneCell'=xZ)/\Fu w b o rows.flatten:=by
     cases g with
     | own i e=>exact absurd rfl (hg i e)
     | arg=>simp only[B0] at ha; obtain⟨ad,cap,rfl,_,hh⟩:=ha; rcases hh with rfl | ⟨b,o,rows,rfl,hb,hrr,hlen,hrd⟩; (simp at hlt; omega); exact⟨cap,b,o,rows,rfl,hb,hrr,hlen,hrd⟩
     | BE=>simp only[B0] at ha; obtain⟨ad,cap,rfl,_,hh⟩:=ha; rcases hh with rfl | ⟨b,o,rows,rfl,hb,hrr,hlen,hrd⟩; (simp at hlt; omega); exact⟨cap,b,o,rows,rfl,hb.1,hrr,hlen,hrd⟩
    obtain⟨cap,b,o,rows,rfl,hok,hrr,hlen,hrd⟩:=hmain;have hrun:=run_indexAt_slice (P:=P) (w:=w) (cap:=cap) (b:=b) (o:=o) (k:=k) hu (by rw[h1] at hes; exact hes) ⟨h0,hlt⟩;refine⟨_,hrun,?_⟩;simp only[B0]
    have hn:l[i.toNat]?=xQ (l.getD i.toNat []):=by
     have:i.toNat<l.length:=by omega
     simp[wt,this]
    obtain⟨row,hrow,hlr⟩:=hrr.get _ _ hn;refine⟨b,o+i.toNat*sz,row,rfl,hok,by rw[Aan (hlr.length.trans (hlen row (yW hrow)).1)]; exact hlr,fun j u hj=>?_⟩;rw[yg];exact hrd _ _ (Lm (fun r hr=>(hlen r hr).1) _ _ hrow j u hj)
   ·rw[show(ei.size==sz)=x5 by simpa using h1] at hl; simp at hl
  ·rename_i n;simp only[B0] at ha;obtain⟨_,p,hp,hd⟩:=ha;split at hl
   ·rename_i e' kk l hlk;obtain⟨hst,sv,hk,ho⟩:=Em hm hp hlk;obtain⟨size,hk'⟩:=hd.resolve_left (Cm hst);rw[hk] at hk'; cases hk';by_cases h1:ei.size=1
    ·simp only[h1,AI,Aa,Ae] at hl; subst hl;obtain⟨h0,hlt⟩:=bnd hr;obtain⟨g,cap,rfl,_,_⟩:=FH ho (by omega);have hrun:=run_indexAt_slice (P:=P) (w:=w) (cap:=cap) (b:=g) (o:=0) (k:=k) hu (by rw[h1] at hes; exact hes) ⟨h0,hlt⟩;refine⟨_,hrun,?_⟩;simp only[B0];exact⟨rfl,p,hp,.inr (by unfold HX; rw[hk]; simp)⟩
    ·rw[show(ei.size==1)=x5 by simpa using h1] at hl; simp at hl
   ·rename_i e' sz l hlk;obtain⟨hst,_,sv,rows,hk,hrr,hlen,ho⟩:=EE hm hp hlk;obtain⟨size,hk'⟩:=hd.resolve_left (Cm hst);rw[hk] at hk'; cases hk';by_cases h1:ei.size=sz
    ·simp only[h1,AI,Aa,Ae] at hl; subst hl;obtain⟨h0,hlt⟩:=bnd hr;obtain⟨g,cap,rfl,_,_⟩:=FH ho (by omega);have hrun:=run_indexAt_slice (P:=P) (w:=w) (cap:=cap) (b:=g) (o:=0) (k:=k) hu (by rw[h1] at hes; exact hes) ⟨h0,hlt⟩;refine⟨_,hrun,?_⟩;simp only[B0];exact⟨rfl,p,hp,.inr (by unfold HX; rw[hk]; simp)⟩
    ·rw[show(ei.size==sz)=x5 by simpa using h1] at hl; simp at hl
   ·cases hl
  ·rename_i n off len;simp only[B0] at ha;obtain⟨_,p,hp,hd⟩:=ha
   have key:∀(sz:Nat) sv,p.kind=.row sv sz->KN sv sz off len va->ei.size=sz->(0<=i/\i<len)->∃v,(Instr.indexAt t va (.int k i)).run P w=.ok v w/\B0 (Cc I0 B A w) w (.ptr n (off+i.toNat) 0) v:=by
    intro sz sv hk hs h1 hb;unfold KN at hs;split at hs
    ·rename_i g nn cc;obtain⟨_,a',cap,rfl,_,ha'⟩:=hs;have ha':=ha'.resolve_left (by omega);subst ha';have hrun:=run_indexAt_slice (P:=P) (w:=w) (cap:=cap) (b:=g) (o:=off*sz) (k:=k) hu (by rw[h1] at hes; exact hes) hb;refine⟨_,hrun,?_⟩;simp only[B0];exact⟨rfl,p,hp,.inr (by unfold HX; rw[hk]; simp[AM])⟩
    ·omega
    ·exact hs.elim
   split at hl
   ·rename_i e' kk l hlk;obtain⟨hst,sv,hk,ho⟩:=Em hm hp hlk;obtain⟨sv',size,hk',hs⟩:=hd.resolve_left (Cm hst);rw[hk] at hk'; cases hk';by_cases h1:ei.size=1
    ·simp only[h1,AI,Aa,Ae] at hl; subst hl;exact key 1 _ hk hs h1 (bnd hr)
    ·rw[show(ei.size==1)=x5 by simpa using h1] at hl; simp at hl
   ·rename_i e' sz l hlk;obtain⟨hst,_,sv,rows,hk,hrr,hlen,ho⟩:=EE hm hp hlk;obtain⟨sv',size,hk',hs⟩:=hd.resolve_left (Cm hst);rw[hk] at hk'; cases hk';by_cases h1:ei.size=sz
    ·simp only[h1,AI,Aa,Ae] at hl; subst hl;exact key sz _ hk hs h1 (bnd hr)
    ·rw[show(ei.size==sz)=x5 by simpa using h1] at hl; simp at hl
   ·cases hl
  ·cases hl
 ·rename_i len e _ hT;have hu:=(hty _ _ hT).desc;simp only[CV] at hu;cases hE:E.ty e with
  | none=>simp[hE] at hl
  | some ei =>
  simp only[hE,Aj] at hl;have hes:=(hty _ _ hE).Hn w
  have run:∀b o,(0<=i/\i<len)->(Instr.indexAt t (.pointer (xQ ⟨b,o,xY⟩)) (.int k i)).run P w=.ok (.pointer (xQ ⟨b,o+i.toNat*ei.size,xY⟩)) w:=by intro b o hb;obtain⟨h0,h1⟩:=hb;have:(⟨b,o,xY⟩:Addr).add (i.toNat*ei.size)=⟨b,o+i.toNat*ei.size,xY⟩:=Addr.add_lit _ _ _;simp[Instr.indexAt,asIntOf,run_underlying hu,Instr.sureAddr,h0,h1,hes,this]
  split at hl
  ·rename_i n j;by_cases hq:(decide (1<len)&&LB h n)=xZ
   ·simp only[hq,Aa,Ae] at hl; subst hl;simp only[B0] at ha ⊢;obtain⟨_,p,hp,hd⟩:=ha;have hd:=hd.resolve_left (Q9 hm hp (by simp at hq; exact hq.2));unfold HX at hd;split at hd
    ·rename_i b hk;obtain⟨_,rfl⟩:=hd;exact⟨_,run _ _ (bnd hr),rfl,p,hp,.inr (by unfold HX; rw[hk]; exact⟨rfl,rfl⟩)⟩
    ·rename_i g _ _ size hk;subst hd;exact⟨_,run _ _ (bnd hr),rfl,p,hp,.inr (by unfold HX; rw[hk]; simp)⟩
    ·exact hd.elim
   ·simp only[zE] at hq; rw[hq] at hl; simp at hl
  ·rename_i cs;by_cases hq:1<len
   ·simp only[hq,decide_true,Aa,Ae] at hl; subst hl;simp only[B0] at ha ⊢;obtain⟨b,o,vs,rfl,hok,hls,hread⟩:=ha;exact⟨_,run _ _ (bnd hr),b,o+i.toNat*ei.size,vs.drop (i.toNat*ei.size),rfl,hok,hls.drop _,Fu.drop hread _⟩
   ·simp[hq] at hl
  ·cases hl
 ·cases hl
theorem AdM(hty:∀t ti,E.ty t=xQ ti->CI P t ti){c:Ctx}{a:DV}{va:Value}{k:IntKind}{i:Int}{r:R}(ha:B0 c w a va)(hl:Xe E t a i=xQ r)(hr:r.Om=xZ):
 ∃v,(Instr.index t va (.int k i)).run P w=.ok v w/\B0 c w r.v v:=by
 unfold Xe at hl;split at hl
 ·rename_i len e _ hT;have hu:=(hty _ _ hT).desc;simp only[CV] at hu;split at hl
  ·rename_i cs;cases hE:E.ty e with
   | none=>simp[hE] at hl
   | some ei =>
   simp only[hE,Aj] at hl;by_cases hq:(decide (len*ei.size<=cs.length)&&decide (0<ei.size))=xZ
   ·simp only[hq,Aa,Ae] at hl; subst hl;obtain⟨h0,h1⟩:=bnd hr;simp only[Am,Ai] at hq;simp only[B0] at ha;obtain⟨vs,rfl,hls⟩:=ha;have hin:i.toNat<len:=by omega
    have hbig:i.toNat*ei.size+ei.size<=len*ei.size:=by have:=An ei.size (show i.toNat+1<=len by omega);rw[z8] at this; exact this
    have hpd:V0 ei cs (i.toNat*ei.size)=xQ (cond ei.agg (.agg ((cs.drop (i.toNat*ei.size)).take ei.size)) (cs.getD (i.toNat*ei.size) .undef)):=by
     unfold V0;cases hag:ei.agg with
     | true=>simp only[Aa]; rw[show decide (i.toNat*ei.size+ei.size<=cs.length)=xZ by simp; omega]; rfl
     | false=>simp only[Af]; rw[show decide (i.toNat*ei.size<cs.length)=xZ by simp; omega]; rfl
    obtain⟨v,h2,h3⟩:=Yl (P:=P) (w:=w) (hty _ _ hE) hls hpd;refine⟨v,?_,h3⟩;simp[Instr.index,asIntOf,run_underlying hu,h0,h1,(hty _ _ hE).Hn w,h2]
   ·simp only[zE] at hq; rw[hq] at hl; simp at hl
  ·cases hl
 ·cases hl
end
def GH:Option Int->Option Value->Prop
 | none,v=>v=xY
 | some x,v=>∃k,v=xQ (.int k x)
theorem Sr{α:Type}(lo hi:Option Int)(l:List α):PH lo hi l=(l.take (hi.getD l.length).toNat).drop (lo.getD 0).toNat:=by cases lo<;>cases hi<;>simp[PH]
theorem Ny{lo hi mx:Option Int}{len:Nat}(h:okB lo hi mx len=xZ):
 0<=lo.getD 0/\lo.getD 0<=hi.getD len/\0<=hi.getD len/\hi.getD len<=mx.getD len/\(∀m,mx=xQ m->0<=m/\m<=len/\hi.isSome=xZ):=by
 unfold okB at h;cases lo<;>cases hi<;>cases mx<;>simp at h ⊢<;>omega
theorem Kg{α:Type}{sz:Nat}:∀{rows:List (List α)},(∀r∈rows,r.length=sz)->∀(n:Nat),(rows.take n).flatten=rows.flatten.take (n*sz)
 | [],_,n=>by simp
 | r0::rows,hl,n=>by
   have h0:r0.length=sz:=hl r0 (by simp);cases n with
   | zero=>simp
   | succ n =>simp only[List.take_succ_cons,yB];rw[Kg (rows:=rows) (fun r hr=>hl r (by simp[hr])) n,z8,List.take_append,List.take_of_length_le (l:=r0) (by omega),h0,yE]
theorem Mt{α:Type}{sz:Nat}:∀{rows:List (List α)},(∀r∈rows,r.length=sz)->∀(n:Nat),(rows.drop n).flatten=rows.flatten.drop (n*sz)
 | [],_,n=>by simp
 | r0::rows,hl,n=>by
   have h0:r0.length=sz:=hl r0 (by simp);cases n with
   | zero=>simp
   | succ n =>simp only[List.drop_succ_cons,yB];rw[Mt (rows:=rows) (fun r hr=>hl r (by simp[hr])) n,z8,List.drop_append,List.drop_eq_nil_of_le (as:=r0) (by omega),h0,yE,List.nil_append]
theorem ER{w:World}{base:Nat}{e:TypeId}{size n:Nat}{v:Value}{xs:List Value}(h:w.ownsRow base e size v n xs):KN v size 0 n v:=by
 rcases FG h with ⟨rfl,rfl⟩ | ⟨g,cap,rfl,hc⟩
 ·simp[KN]
 ·simp only[KN]; exact⟨by omega,_,_,rfl,hc,.inr (by simp)⟩
section
variable{P:Program}{w:World}
theorem Km(k:IntKind){x:Int}{y:Nat}(h0:0<=x)(h1:x<=y)(code:BoundsCode):(Instr.sliceBound (.int k x) y code).run P w=.ok x.toNat w:=by simp[Instr.sliceBound,asIntOf,h0,h1]
theorem Aal{lo hi mx:Option Int}{vlo vhi vmx:Option Value}{len cap:Nat}(h:okB lo hi mx len=xZ)(hc:len<=cap)(h1:GH lo vlo)(h2:GH hi vhi)(h3:GH mx vmx):
 (Instr.sliceBounds xZ len cap vlo vhi vmx).run P w=.ok ((lo.getD 0).toNat,(hi.getD len).toNat,(mx.getD cap).toNat) w:=by
 obtain⟨a1,a2,a3,a4,a5⟩:=Ny h;cases mx with
 | none =>
   simp only[GH] at h3; subst h3;simp only[xc] at a4;cases hi with
   | none =>
     simp only[GH] at h2; subst h2;cases lo with
     | none=>simp only[GH] at h1; subst h1; simp[Instr.sliceBounds]
     | some x =>obtain⟨k,rfl⟩:=h1;simp only[Be,xc] at a1 a2;simp[Instr.sliceBounds,Km k a1 a2]
   | some y =>
     obtain⟨k',rfl⟩:=h2;simp only[Be] at a2 a3 a4;have hy:=Km (P:=P) (w:=w) k' a3 (show y<=(cap:Int) by omega) .sliceAcap;cases lo with
     | none=>simp only[GH] at h1; subst h1; simp[Instr.sliceBounds,hy]
     | some x =>obtain⟨k,rfl⟩:=h1;simp only[Be] at a1 a2;have hx:=Km (P:=P) (w:=w) k a1 (show x<=(y.toNat:Int) by omega) .sliceB;simp[Instr.sliceBounds,hy,hx]
 | some m =>
   obtain⟨k'',rfl⟩:=h3;obtain⟨b1,b2,b3⟩:=a5 m rfl;have hm:=Km (P:=P) (w:=w) k'' b1 (show m<=(cap:Int) by omega) .slice3Acap;cases hi with
   | none=>cases b3
   | some y =>
     obtain⟨k',rfl⟩:=h2;simp only[Be] at a2 a3 a4;have hy:=Km (P:=P) (w:=w) k' a3 (show y<=(m.toNat:Int) by omega) .slice3B;cases lo with
     | none=>simp only[GH] at h1; subst h1; simp[Instr.sliceBounds,hm,hy]
     | some x =>obtain⟨k,rfl⟩:=h1;simp only[Be] at a1 a2;have hx:=Km (P:=P) (w:=w) k a1 (show x<=(y.toNat:Int) by omega) .slice3C;simp[Instr.sliceBounds,hm,hy,hx]
theorem J2{t e:TypeId}{es:Nat}(hu:P.underlying t=xQ (.slice e))(hes:(sizeOf e).run P w=.ok es w){lo hi mx:Option Int}{vlo vhi vmx:Option Value}{a:Option Addr}{len cap:Nat}(h:okB lo hi mx len=xZ)(hc:len<=cap)(h1:GH lo vlo)(h2:GH hi vhi)(h3:GH mx vmx):
 (Instr.sliceAt t (.slice a len cap) vlo vhi vmx).run P w=.ok (.slice (if (mx.getD cap).toNat=(lo.getD 0).toNat then a else a.map (·.add ((lo.getD 0).toNat*es))) ((hi.getD len).toNat-(lo.getD 0).toNat) ((mx.getD cap).toNat-(lo.getD 0).toNat)) w:=by
 have hb:=Aal (P:=P) (w:=w) h hc h1 h2 h3;simp[Instr.sliceAt,Instr.slice,run_underlying hu,hb,hes]
variable{E:Env}{I0:Nat->Prop}{B:Nat}{A:Nat->Option Place}{h:DG}{t:TypeId}
theorem Qc{lo hi mx:Option Int}{len cap:Nat}(h:okB lo hi mx len=xZ)(hc:len<=cap):(lo.getD 0).toNat<=(hi.getD len).toNat/\(hi.getD len).toNat<=len/\(hi.getD len).toNat<=(mx.getD cap).toNat:=by
 obtain⟨a1,a2,a3,a4,a5⟩:=Ny h;cases mx with
 | none=>simp only[xc] at *; omega
 | some m=>obtain⟨b1,b2,b3⟩:=a5 m rfl; simp only[Be] at *; omega
theorem So{n:Nat}{p:Place}(hp:A n=xQ p){sv:Value}{sz:Nat}(hk:p.kind=.row sv sz){e:TypeId}{es:Nat}(hu:P.underlying t=xQ (.slice e))(hes:(sizeOf e).run P w=.ok es w)(h1:es=sz)
 {off len:Nat} {va:Value} (hs:KN sv sz off len va) {lo hi mx:Option Int} {vlo vhi vmx:Option Value} (hq:okB lo hi mx len=xZ) (hlo:GH lo vlo) (hhi:GH hi vhi) (hmx:GH mx vmx):
 ∃v,(Instr.sliceAt t va vlo vhi vmx).run P w=.ok v w/\B0 (Cc I0 B A w) w (.JX n (off+(lo.getD 0).toNat) ((hi.getD len)-(lo.getD 0)).toNat) v:=by
 obtain⟨a1,a2,a3,a4,a5⟩:=Ny hq;have hsub:((hi.getD len)-(lo.getD 0)).toNat=(hi.getD len).toNat-(lo.getD 0).toNat:=by omega
 unfold KN at hs;split at hs
 ·rename_i g nn cc;obtain⟨hle,a',cap,rfl,hcap,ha'⟩:=hs;obtain⟨c1,c2,c3⟩:=Qc hq hcap;refine⟨_,J2 hu hes hq hcap hlo hhi hmx,?_⟩;simp only[B0];refine⟨rfl,p,hp,.inr ⟨_,sz,hk,?_⟩⟩;unfold KN;rw[hsub];refine⟨by omega,?_⟩;by_cases hm:(mx.getD ↑cap).toNat=(lo.getD 0).toNat
  ·rw[Az hm];exact⟨a',_,rfl,by omega,.inl (by omega)⟩
  ·rw[Ay hm];refine⟨_,_,rfl,by omega,?_⟩;by_cases h0:len=0
   ·exact .inl (by omega)
   ·have ha':=ha'.resolve_left h0;subst ha';refine .inr ?_;show(⟨g,off*sz,xY⟩:Addr).add _=_;rw[Addr.add_lit,h1,AM]
 ·obtain⟨rfl,rfl,rfl⟩:=hs;obtain⟨c1,c2,c3⟩:=Qc hq (AB 0);refine⟨_,J2 hu hes hq (AB 0) hlo hhi hmx,?_⟩;simp only[B0];refine⟨rfl,p,hp,.inr ⟨_,sz,hk,?_⟩⟩;unfold KN;rw[hsub]
  have hmz:(mx.getD ((0:Nat):Int)).toNat=0:=by
   cases mx with
   | none=>rfl
   | some m=>have:=a5 m rfl; simp only[Be]; omega
  refine⟨by omega,by omega,?_⟩;have e1:(lo.getD 0).toNat=0:=by omega
  have e2:(hi.getD ((0:Nat):Int)).toNat=0:=by omega
  rw[hmz,e1,e2];rfl
 ·exact hs.elim
theorem AcU(hty:∀t ti,E.ty t=xQ ti->CI P t ti)(hm:Mem I0 B A h w){a:DV}{va:Value}{lo hi mx:Option Int}{vlo vhi vmx:Option Value}{r:R}(ha:B0 (Cc I0 B A w) w a va)(hlo:GH lo vlo)(hhi:GH hi vhi)(hmx:GH mx vmx)(hl:W6 E h t a lo hi mx=xQ r)(hr:r.Om=xZ):
 ∃v,(Instr.sliceAt t va vlo vhi vmx).run P w=.ok v w/\B0 (Cc I0 B A w) w r.v v:=by
 unfold W6 at hl;split at hl
 ·rename_i e _ hT;have hu:=(hty _ _ hT).desc;simp only[CV] at hu;cases hE:E.ty e with
  | none=>simp[hE] at hl
  | some ei =>
  simp only[hE,Aj] at hl;have hes:=(hty _ _ hE).Hn w;split at hl
  ·cases lo<;>cases hi<;>cases mx<;>simp at hl;subst hl;simp only[GH] at hlo hhi hmx;subst hlo; subst hhi; subst hmx;simp only[B0] at ha; subst ha;have:=J2 (P:=P) (w:=w) (lo:=xY) (hi:=xY) (mx:=xY) (vlo:=xY) (vhi:=xY) (vmx:=xY) (a:=xY) (len:=0) (cap:=0) hu hes rfl (AB 0) rfl rfl rfl;exact⟨_,this,by simp[B0]⟩
  ·cases hl
  ·rename_i g kk l hg;by_cases h1:ei.size=1
   ·simp only[h1,AI,Aa,Ae] at hl; subst hl;rw[h1] at hes
    have hmain:∃ad cap,va=.slice ad l.length cap/\l.length<=cap/\(l=[]\/∃b o,ad=xQ ⟨b,o,xY⟩/\(Cc I0 B A w).FP g b/\∀(i:Nat) n,l[i]?=xQ n->w.cell? ⟨b,o+i,xY⟩=xQ (.int kk n)):=by
     cases g with
     | own i e=>exact absurd rfl (hg i e)
     | arg=>simpa only[B0] using ha
     | BE=>simpa only[B0] using ha
    obtain⟨ad,cap,rfl,hcap,hh⟩:=hmain;obtain⟨c1,c2,c3⟩:=Qc hr hcap;obtain⟨a1,a2,a3,a4,a5⟩:=Ny hr;refine⟨_,J2 hu hes hr hcap hlo hhi hmx,?_⟩
    have hlen:(PH lo hi l).length=(hi.getD l.length).toNat-(lo.getD 0).toNat:=by rw[Sr]; simp; omega
    have goal:∃a' cap',(Value.slice (if (mx.getD cap).toNat=(lo.getD 0).toNat then ad else ad.map (·.add ((lo.getD 0).toNat*1))) ((hi.getD l.length).toNat-(lo.getD 0).toNat) ((mx.getD cap).toNat-(lo.getD 0).toNat))=.slice a' (PH lo hi l).length cap'/\(PH lo hi l).length<=cap'/\((PH lo hi l)=[]\/∃b o,a'=xQ ⟨b,o,xY⟩/\(Cc I0 B A w).FP g b/\∀(i:Nat) n,(PH lo hi l)[i]?=xQ n->w.cell? ⟨b,o+i,xY⟩=xQ (.int kk n)):=by
     rw[hlen];refine⟨_,_,rfl,by omega,?_⟩;by_cases h0:(hi.getD l.length).toNat-(lo.getD 0).toNat=0
     ·exact .inl (AJ (by omega))
     ·rcases hh with rfl | ⟨b,o,rfl,hb,hrd⟩
      ·simp only[xw] at *; omega
      ·refine .inr ⟨b,o+(lo.getD 0).toNat,?_,hb,fun i n hi'=>?_⟩
       ·rw[Ay (by omega)];simp only[yn,AR];rw[Addr.add_lit]
       ·rw[Sr,yL] at hi'
        have hlt:(lo.getD 0).toNat+i<(hi.getD l.length).toNat:=by
         rcases AF ((lo.getD 0).toNat+i) (hi.getD l.length).toNat with h' | h'
         ·exact h'
         ·rw[yU h'] at hi'; cases hi'
        rw[yV hlt] at hi';rw[yg];exact hrd _ _ hi'
    cases g with
    | own i e=>exact absurd rfl (hg i e)
    | arg=>simpa only[B0] using goal
    | BE=>simpa only[B0] using goal
   ·rw[show(ei.size==1)=x5 by simpa using h1] at hl; simp at hl
  ·cases hl
  ·rename_i g sz l hg;by_cases h1:ei.size=sz
   ·simp only[h1,AI,Aa,Ae] at hl; subst hl;rw[h1] at hes
    have hmain:∃ad cap,va=.slice ad l.length cap/\l.length<=cap/\(l=[]\/∃b o rows,ad=xQ ⟨b,o,xY⟩/\(Cc I0 B A w).FP g b/\Dx (Cc I0 B A w).bare w l rows/\(∀r∈rows,r.length=sz/\∀u∈r,u.oneCell'=xZ)/\∀(i:Nat) u,rows.flatten[i]?=xQ u->w.cell? ⟨b,o+i,xY⟩=xQ u):=by
     cases g with
     | own i e=>exact absurd rfl (hg i e)
     | arg=>simpa only[B0] using ha
     | BE=>simpa only[B0] using ha
    obtain⟨ad,cap,rfl,hcap,hh⟩:=hmain;obtain⟨c1,c2,c3⟩:=Qc hr hcap;obtain⟨a1,a2,a3,a4,a5⟩:=Ny hr;refine⟨_,J2 hu hes hr hcap hlo hhi hmx,?_⟩
    have hlen:(PH lo hi l).length=(hi.getD l.length).toNat-(lo.getD 0).toNat:=by rw[Sr]; simp; omega
    have goal:∃a' cap',(Value.slice (if (mx.getD cap).toNat=(lo.getD 0).toNat then ad else ad.map (·.add ((lo.getD 0).toNat*sz))) ((hi.getD l.length).toNat-(lo.getD 0).toNat) ((mx.getD cap).toNat-(lo.getD 0).toNat))=.slice a' (PH lo hi l).length cap'/\(PH lo hi l).length<=cap'/\((PH lo hi l)=[]\/∃b o rows,a'=xQ ⟨b,o,xY⟩/\(Cc I0 B A w).FP g b/\Dx (Cc I0 B A w).bare w (PH lo hi l) rows/\(∀r∈rows,r.length=sz/\∀u∈r,u.oneCell'=xZ)/\∀(i:Nat) u,rows.flatten[i]?=xQ u->w.cell? ⟨b,o+i,xY⟩=xQ u):=by
     rw[hlen];refine⟨_,_,rfl,by omega,?_⟩;by_cases h0:(hi.getD l.length).toNat-(lo.getD 0).toNat=0
     ·exact .inl (AJ (by omega))
     ·rcases hh with rfl | ⟨b,o,rows,rfl,hb,hrr,hlr,hrd⟩
      ·simp only[xw] at *; omega
      ·refine .inr ⟨b,o+(lo.getD 0).toNat*sz,(rows.take (hi.getD l.length).toNat).drop (lo.getD 0).toNat,?_,hb,?_,?_,?_⟩
       ·rw[Ay (by omega)];simp only[yn];rw[Addr.add_lit]
       ·rw[Sr]; exact(hrr.take _).drop _
       ·exact fun r hr'=>hlr r (yX (List.mem_of_mem_drop hr'))
       ·intro i u hi';rw[yg];refine hrd _ _ ?_;rw[Mt (fun r hr'=>(hlr r (yX hr')).1),yL,Kg (fun r hr'=>(hlr r hr').1)] at hi';rcases AF ((lo.getD 0).toNat*sz+i) ((hi.getD l.length).toNat*sz) with h' | h'
        ·rwa[yV h'] at hi'
        ·rw[yU h'] at hi'; cases hi'
    cases g with
    | own i e=>exact absurd rfl (hg i e)
    | arg=>simpa only[B0] using goal
    | BE=>simpa only[B0] using goal
   ·rw[show(ei.size==sz)=x5 by simpa using h1] at hl; simp at hl
  ·rename_i n;simp only[B0] at ha;obtain⟨_,p,hp,hd⟩:=ha;split at hl
   ·rename_i e' kk l hlk;obtain⟨hst,sv,hk,ho⟩:=Em hm hp hlk;obtain⟨size,hk'⟩:=hd.resolve_left (Cm hst);rw[hk] at hk'; cases hk';by_cases h1:ei.size=1
    ·simp only[h1,AI,Aa,Ae] at hl; subst hl;have:=So (I0:=I0) (B:=B) (A:=A) (off:=0) (len:=l.length) hp hk hu hes h1 (va:=va) (ER ho) hr hlo hhi hmx;simpa using this
    ·rw[show(ei.size==1)=x5 by simpa using h1] at hl; simp at hl
   ·rename_i e' sz l hlk;obtain⟨hst,_,sv,rows,hk,hrr,hlen,ho⟩:=EE hm hp hlk;obtain⟨size,hk'⟩:=hd.resolve_left (Cm hst);rw[hk] at hk'; cases hk';by_cases h1:ei.size=sz
    ·simp only[h1,AI,Aa,Ae] at hl; subst hl;have:=So (I0:=I0) (B:=B) (A:=A) (off:=0) (len:=l.length) hp hk hu hes h1 (va:=va) (ER ho) hr hlo hhi hmx;simpa using this
    ·rw[show(ei.size==sz)=x5 by simpa using h1] at hl; simp at hl
   ·cases hl
  ·rename_i n off len;simp only[B0] at ha;obtain⟨_,p,hp,hd⟩:=ha;split at hl
   ·rename_i e' kk l hlk;obtain⟨hst,sv,hk,ho⟩:=Em hm hp hlk;obtain⟨sv',size,hk',hs⟩:=hd.resolve_left (Cm hst);rw[hk] at hk'; cases hk';by_cases h1:ei.size=1
    ·simp only[h1,AI,Aa,Ae] at hl; subst hl;exact So hp hk hu hes h1 hs hr hlo hhi hmx
    ·rw[show(ei.size==1)=x5 by simpa using h1] at hl; simp at hl
   ·rename_i e' sz l hlk;obtain⟨hst,_,sv,rows,hk,hrr,hlen,ho⟩:=EE hm hp hlk;obtain⟨sv',size,hk',hs⟩:=hd.resolve_left (Cm hst);rw[hk] at hk'; cases hk';by_cases h1:ei.size=sz
    ·simp only[h1,AI,Aa,Ae] at hl; subst hl;exact So hp hk hu hes h1 hs hr hlo hhi hmx
    ·rw[show(ei.size==sz)=x5 by simpa using h1] at hl; simp at hl
   ·cases hl
  ·cases hl
 ·cases hl
end
end Go.Den
end
