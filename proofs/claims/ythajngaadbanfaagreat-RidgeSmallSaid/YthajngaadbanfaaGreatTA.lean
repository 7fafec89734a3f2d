/- A verified evaluator of the program's form and its use for this seat: Den0, Den1, Den2, Den3, Den4, Den5, Den6, Den7, Den8, Den9. -/
import Derived.Below
import Derived.Orders
import Derived.Laws.MakeOwn
import Derived.Laws.Entries
import Derived.Laws.Cells
import Derived.Laws.StructEq
set_option linter.unusedVariables false
set_option linter.unusedSimpArgs false
open List renaming getD_eq_getElem?_getD->vm,drop_of_length_le->vo,getElem?_eq_getElem->vr,length_append->vw,eq_nil_of_length_eq_zero->vB,mem_cons_of_mem->vD,getElem?_append_right->vF,mem_cons_self->vG,getElem?_eq_none->vI,range->zh,replicate->zp,cons_append->xF,getElem?_drop->yM,getElem?_take_eq_none->y9,getElem?_take_of_lt->yW,getElem?_set->wI,flatten_cons->yN,mem_of_getElem?->xm,length_nil->xJ,mem_of_mem_take->yY
open Nat renaming mul_le_mul_right->vn,pow_le_pow_right->vq,eq_of_beq_eq_true->vt,div_div_eq_div_mul->vA,lt_of_le_of_lt->vC,lt_of_lt_of_le->vE,blt->yV,beq->zg,succ_mul->yj,mod_lt->zv,add_assoc->yk,add_sub_cancel->yE
open Array renaming getElem?_eq_getElem->vu
open BitVec renaming ofInt->zj
open Option renaming map_some->zU,getD_none->xn
open Bool renaming and_true->xI,not_eq_true->zF
noncomputable section
open Int (toNat)
open List (length getD)
theorem Go.Bep : type_of% @cond_true := @cond_true
theorem Go.Beq : type_of% @decide_eq_true := @decide_eq_true
theorem Go.Ber : type_of% @Int.toNat_natCast := @Int.toNat_natCast
theorem Go.Bes : type_of% @Option.some.injEq := @Option.some.injEq
theorem Go.Bet : type_of% @cond_false := @cond_false
theorem Go.Beu : type_of% @decide_eq_false := @decide_eq_false
theorem Go.Bev : type_of% @Bool.and_self := @Bool.and_self
theorem Go.Bew : type_of% @decide_eq_true_eq := @decide_eq_true_eq
theorem Go.Bex : type_of% @Option.bind_some := @Option.bind_some
theorem Go.Bey : type_of% @Prod.mk.injEq := @Prod.mk.injEq
theorem Go.Bez : type_of% @vm := @vm
theorem Go.Be0 : type_of% @Bool.and_eq_true := @Bool.and_eq_true
theorem Go.Be1 : type_of% @vn := @vn
theorem Go.Be2 : type_of% @Nat.mod_eq_of_lt := @Nat.mod_eq_of_lt
theorem Go.Be3 : type_of% @vo := @vo
theorem Go.Be4 : type_of% @vq := @vq
theorem Go.Be5 : type_of% @Bool.eq_iff_iff := @Bool.eq_iff_iff
theorem Go.Be6 : type_of% @vr := @vr
theorem Go.Be7 : type_of% @vt := @vt
theorem Go.Be8 : type_of% @decide_eq_false_iff_not := @decide_eq_false_iff_not
theorem Go.Be9 : type_of% @vu := @vu
theorem Go.Bfa : type_of% @Int.natCast_mul := @Int.natCast_mul
theorem Go.Bfb : type_of% @if_neg := @if_neg
theorem Go.Bfc : type_of% @if_pos := @if_pos
theorem Go.Bfd : type_of% @Nat.mul_comm := @Nat.mul_comm
theorem Go.Bfe : type_of% @Nat.pow_add := @Nat.pow_add
theorem Go.Bff : type_of% @of_decide_eq_true := @of_decide_eq_true
theorem Go.Bfg : type_of% @Nat.mul_assoc := @Nat.mul_assoc
theorem Go.Bfh : type_of% @vw := @vw
theorem Go.Bfi : type_of% @vA := @vA
theorem Go.Bfj : type_of% @Nat.le_refl := @Nat.le_refl
theorem Go.Bfk : type_of% @beq_eq_false_iff_ne := @beq_eq_false_iff_ne
theorem Go.Bfl : type_of% @Nat.mul_le_mul := @Nat.mul_le_mul
theorem Go.Bfm : type_of% @Nat.lt_or_ge := @Nat.lt_or_ge
theorem Go.Bfn : type_of% @Nat.pow_zero := @Nat.pow_zero
theorem Go.Bfo : type_of% @Bool.not_true := @Bool.not_true
theorem Go.Bfp : type_of% @beq_self_eq_true := @beq_self_eq_true
theorem Go.Bfq : type_of% @vB := @vB
theorem Go.Bfr : type_of% @vC := @vC
theorem Go.Bfs : type_of% @List.length_range := @List.length_range
theorem Go.Bft : type_of% @Nat.add_mul := @Nat.add_mul
theorem Go.Bfu : type_of% @vD := @vD
theorem Go.Bfv : type_of% @List.length_map := @List.length_map
theorem Go.Bfw : type_of% @Nat.le_trans := @Nat.le_trans
theorem Go.Bfx : type_of% @Nat.add_zero := @Nat.add_zero
theorem Go.Bfy : type_of% @Nat.mul_one := @Nat.mul_one
theorem Go.Bfz : type_of% @Nat.zero_add := @Nat.zero_add
theorem Go.Bf0 : type_of% @vE := @vE
theorem Go.Bf1 : type_of% @Bool.or_true := @Bool.or_true
theorem Go.Bf2 : type_of% @Bool.true_and := @Bool.true_and
theorem Go.Bf3 : type_of% @vF := @vF
theorem Go.Bf4 : type_of% @vG := @vG
theorem Go.Bf5 : type_of% @Nat.log2_lt := @Nat.log2_lt
theorem Go.Bf6 : type_of% @List.getElem?_map := @List.getElem?_map
theorem Go.Bf7 : type_of% @vI := @vI
theorem Go.Bf8 : type_of% @Bool.not_false := @Bool.not_false
theorem Go.Bf9 : type_of% @Option.getD_some := @Option.getD_some
namespace Go.Den
inductive Aoz where
 | arg
 | fresh
 | own (i:Nat) (e:TypeId)
 deriving DecidableEq
inductive DV where
 | undef
 | nil
 | bool (b:Bool)
 | int (k:IntKind) (n:Int)
 | fl (n:Nat)
 | nb (n:Nat)
 | agg (l:List DV)
 | tup (l:List DV)
 | ints (g:Aoz) (k:IntKind) (l:List Int)
 | recs (g:Aoz) (sz:Nat) (l:List (List DV))
 | oref (n:Nat)
 | sref (n off len:Nat)
 | ptr (n i j:Nat)
 | cellp (cs:List DV)
 | fn (f:FuncId) (first captured:List DV)
 | gd (c:Bool) (d:DV)
inductive PSt where
 | live | frozen | dead
 deriving DecidableEq
inductive Bb2 where
 | box (b:Nat)
 | row (sv:Value) (size:Nat)
structure Place where
 st:PSt
 kind:Bb2
def Place.H8(p:Place):Option Nat :=
 match p.kind with
 | .box b=>some b
 | .row sv _=>sv.ownBlock
structure Ctx where
 ok:Nat->Prop
 B:Nat
 fr:Bool
 own:Nat->Option Nat
 at_:Nat->Option Place
def Hl(n:Nat):Bool:=(Ieee.double.read n).isNaN
def Ur(n m:Nat):Prop:=n=m\/(Hl n=true/\Hl m=true)
def Ri(sv:Value)(size off len:Nat)(v:Value):Prop :=
 match sv with
 | .slice (some ⟨g,0,none⟩) n _=>off+len<=n/\∃a cap,v=.slice (some a) len cap/\len<=cap/\(len=0\/a=⟨g,off*size,none⟩)
 | .slice none 0 0=>off=0/\len=0/\v=.slice none 0 0
 | _=>False
def Mb(p:Place)(i j:Nat)(v:Value):Prop :=
 match p.kind with
 | .box b=>i=0/\v=.pointer (some ⟨b,j,none⟩)
 | .row (.slice (some ⟨g,0,none⟩) _ _) size=>v=.pointer (some ⟨g,i*size+j,none⟩)
 | _=>False
def Ctx.bare(c:Ctx):Ctx:={ ok:=c.ok,B:=0,fr:=false,own:=fun _=>none,at_:=fun _=>none }
def Ctx.H8(c:Ctx):Aoz->Nat->Prop
 | .arg,b=>c.ok b
 | .fresh,b=>c.ok b/\c.fr=true/\c.B<=b
 | .own i _,b=>c.own i=some b
mutual
def Au(c:Ctx)(w:World):DV->Value->Prop
 | .undef,_=>True
 | .nil,v=>v=.slice none 0 0
 | .bool b,v=>v=.bool b
 | .int k n,v=>v=.int k n
 | .fl n,v=>∃m,v=.float .f64 m/\Ur n m
 | .nb n,v=>∃m:Nat,v=.int .u64 m/\Ur n m
 | .agg l,v=>∃vs,v=.agg vs/\Bh c w l vs.toList
 | .tup l,v=>∃vs,v=.tuple vs/\Bh c w l vs.toList
 | .ints (.own i e) k l,v=>w.ownsRow c.B e 1 v l.length (l.map (Value.int k))/\∀b,v.ownBlock=some b->c.own i=some b
 | .ints g k l,v=>∃a cap,v=.slice a l.length cap/\l.length<=cap/\(l=[]\/∃b o,a=some ⟨b,o,none⟩/\c.H8 g b/\∀i n,l[i]?=some n->w.cell? ⟨b,o+i,none⟩=some (.int k n))
 | .recs (.own i e) sz l,v=>∃rows:List (List Value),D5 c.bare w l rows/\(∀r∈rows,r.length=sz/\∀u∈r,u.oneCell'=true)/\w.ownsRow c.B e sz v l.length rows.flatten/\∀b,v.ownBlock=some b->c.own i=some b
 | .recs g sz l,v=>∃a cap,v=.slice a l.length cap/\l.length<=cap/\(l=[]\/∃b o rows,a=some ⟨b,o,none⟩/\c.H8 g b/\D5 c.bare w l rows/\(∀r∈rows,r.length=sz/\∀u∈r,u.oneCell'=true)/\∀i u,rows.flatten[i]?=some u->w.cell? ⟨b,o+i,none⟩=some u)
 | .oref n,v=>v.oneCell'=true/\∃p,c.at_ n=some p/\(p.st=.dead\/∃size,p.kind=.row v size)
 | .sref n off len,v=>v.oneCell'=true/\∃p,c.at_ n=some p/\(p.st=.dead\/∃sv size,p.kind=.row sv size/\Ri sv size off len v)
 | .ptr n i j,v=>v.oneCell'=true/\∃p,c.at_ n=some p/\(p.st=.dead\/Mb p i j v)
 | .cellp cs,v=>∃b o vs,v=.pointer (some ⟨b,o,none⟩)/\c.ok b/\Bh c.bare w cs vs/\∀(i:Nat) u,vs[i]?=some u->w.cell? ⟨b,o+i,none⟩=some u
 | .fn f fs cs,v=>∃fs' cs',v=.func (.func f) fs' cs'/\Bh c w fs fs'.toList/\Bh c w cs cs'.toList
 | .gd g d,v=>(g=true->Au c w d v)/\(g=false->v=Go.undef)
def Bh(c:Ctx)(w:World):List DV->List Value->Prop
 | [],vs=>vs=[]
 | d::ds,vs=>∃u us,vs=u::us/\Au c w d u/\Bh c w ds us
def D5(c:Ctx)(w:World):List (List DV)->List (List Value)->Prop
 | [],rs=>rs=[]
 | d::ds,rs=>∃r rest,rs=r::rest/\Bh c w d r/\D5 c w ds rest
end
structure Pg(c:Ctx)(w:World)(c':Ctx)(w':World):Prop where
 ok:∀b,c.ok b->c'.ok b
 B:c'.B=c.B
 fr:c'.fr=c.fr
 own:∀i b,c.own i=some b->c'.own i=some b
 at_:∀n p,c.at_ n=some p->∃q,c'.at_ n=some q/\(q.st=.dead\/(p.st≠.dead/\q.kind=p.kind))
 cell:∀b o,c.ok b->w'.cell? ⟨b,o,none⟩=w.cell? ⟨b,o,none⟩
 ownc:∀i b,c.own i=some b->w'.heap[b]?=w.heap[b]?
theorem Pg.H8{c c':Ctx}{w w':World}(h:Pg c w c' w'){g:Aoz}{b:Nat}(hb:c.H8 g b):c'.H8 g b:=by
 cases g with
 | arg=>exact h.ok _ hb
 | fresh=>exact⟨h.ok _ hb.1,by rw[h.fr]; exact hb.2.1,by rw[h.B]; exact hb.2.2⟩
 | own i e=>exact h.own _ _ hb
theorem Lb{w w':World}{base:Nat}{e:TypeId}{size n:Nat}{v:Value}{xs:List Value}(h:w.ownsRow base e size v n xs)
 (hb:∀b,v.ownBlock=some b->w'.heap[b]?=w.heap[b]?):w'.ownsRow base e size v n xs:=by
 obtain⟨h1,h2⟩:=h;refine⟨h1,?_⟩;rcases h2 with h2 | ⟨g,cap,cur,hv,hg,hh,r⟩
 ·exact Or.inl h2
 ·exact Or.inr ⟨g,cap,cur,hv,hg,by rw[hb g (by rw[hv]; rfl)]; exact hh,r⟩
theorem Pg.bare{c c':Ctx}{w w':World}(h:Pg c w c' w'):Pg c.bare w c'.bare w' :=⟨h.ok,rfl,rfl,fun _ _ h=>(by cases h),fun _ _ h=>(by cases h),h.cell,fun _ _ h=>(by cases h)⟩
mutual
theorem Au.Em{c c':Ctx}{w w':World}(h:Pg c w c' w'):∀(d:DV) (v:Value),Au c w d v->Au c' w' d v
 | .undef,_,_=>by simp[Au]
 | .nil,v,hv=>by simp only[Au] at hv ⊢; exact hv
 | .bool b,v,hv=>by simp only[Au] at hv ⊢; exact hv
 | .int k n,v,hv=>by simp only[Au] at hv ⊢; exact hv
 | .fl n,v,hv=>by simp only[Au] at hv ⊢; exact hv
 | .nb n,v,hv=>by simp only[Au] at hv ⊢; exact hv
 | .agg l,v,hv=>by simp only[Au] at hv ⊢;obtain⟨vs,e,hl⟩:=hv;exact⟨vs,e,Bh.Em h l _ hl⟩
 | .tup l,v,hv=>by simp only[Au] at hv ⊢;obtain⟨vs,e,hl⟩:=hv;exact⟨vs,e,Bh.Em h l _ hl⟩
 | .ints (.own i e) k l,v,hv=>by simp only[Au] at hv ⊢;obtain⟨hr,ho⟩:=hv;refine⟨?_,fun b hb=>h.own _ _ (ho b hb)⟩;rw[h.B];exact Lb hr fun b hb=>h.ownc _ _ (ho b hb)
 | .ints .arg k l,v,hv=>by
   simp only[Au] at hv ⊢;obtain⟨a,cap,e,hc,hl⟩:=hv;refine⟨a,cap,e,hc,hl.imp id ?_⟩
   rintro ⟨b,o,ha,hb,hr⟩
   exact⟨b,o,ha,h.H8 hb,fun i n hi=>by rw[h.cell b _ hb]; exact hr i n hi⟩
 | .ints .fresh k l,v,hv=>by
   simp only[Au] at hv ⊢;obtain⟨a,cap,e,hc,hl⟩:=hv;refine⟨a,cap,e,hc,hl.imp id ?_⟩
   rintro ⟨b,o,ha,hb,hr⟩
   exact⟨b,o,ha,h.H8 hb,fun i n hi=>by rw[h.cell b _ hb.1]; exact hr i n hi⟩
 | .recs (.own i e) sz l,v,hv=>by simp only[Au] at hv ⊢;obtain⟨rows,hrr,hsz,hr,ho⟩:=hv;refine⟨rows,D5.Em h.bare l rows hrr,hsz,?_,fun b hb=>h.own _ _ (ho b hb)⟩;rw[h.B];exact Lb hr fun b hb=>h.ownc _ _ (ho b hb)
 | .recs .arg sz l,v,hv=>by
   simp only[Au] at hv ⊢;obtain⟨a,cap,e,hc,hl⟩:=hv;refine⟨a,cap,e,hc,hl.imp id ?_⟩
   rintro ⟨b,o,rows,ha,hb,hrr,hsz,hr⟩
   exact⟨b,o,rows,ha,h.H8 hb,D5.Em h.bare l rows hrr,hsz,fun i n hi=>by rw[h.cell b _ hb]; exact hr i n hi⟩
 | .recs .fresh sz l,v,hv=>by
   simp only[Au] at hv ⊢;obtain⟨a,cap,e,hc,hl⟩:=hv;refine⟨a,cap,e,hc,hl.imp id ?_⟩
   rintro ⟨b,o,rows,ha,hb,hrr,hsz,hr⟩
   exact⟨b,o,rows,ha,h.H8 hb,D5.Em h.bare l rows hrr,hsz,fun i n hi=>by rw[h.cell b _ hb.1]; exact hr i n hi⟩
 | .oref n,v,hv=>by
   simp only[Au] at hv ⊢;obtain⟨h1,p,hp,hd⟩:=hv;obtain⟨q,hq,hk⟩:=h.at_ n p hp;refine⟨h1,q,hq,?_⟩;rcases hk with hk | ⟨hnd,hk⟩
   ·exact .inl hk
   ·rw[hk]; exact .inr (hd.resolve_left hnd)
 | .sref n off len,v,hv=>by
   simp only[Au] at hv ⊢;obtain⟨h1,p,hp,hd⟩:=hv;obtain⟨q,hq,hk⟩:=h.at_ n p hp;refine⟨h1,q,hq,?_⟩;rcases hk with hk | ⟨hnd,hk⟩
   ·exact .inl hk
   ·rw[hk]; exact .inr (hd.resolve_left hnd)
 | .ptr n i j,v,hv=>by
   simp only[Au] at hv ⊢;obtain⟨h1,p,hp,hd⟩:=hv;obtain⟨q,hq,hk⟩:=h.at_ n p hp;refine⟨h1,q,hq,?_⟩;rcases hk with hk | ⟨hnd,hk⟩
   ·exact .inl hk
   ·have:=hd.resolve_left hnd;refine .inr ?_;unfold Mb at this ⊢;rw[hk]; exact this
 | .cellp cs,v,hv=>by simp only[Au] at hv ⊢;obtain⟨b,o,vs,e,hb,hl,hr⟩:=hv;exact⟨b,o,vs,e,h.ok _ hb,Bh.Em h.bare cs vs hl,fun i u hi=>by rw[h.cell b _ hb]; exact hr i u hi⟩
 | .fn f fs cs,v,hv=>by simp only[Au] at hv ⊢;obtain⟨fs',cs',e,h1,h2⟩:=hv;exact⟨fs',cs',e,Bh.Em h fs _ h1,Bh.Em h cs _ h2⟩
 | .gd g d,v,hv=>by simp only[Au] at hv ⊢;exact⟨fun hg=>Au.Em h d v (hv.1 hg),hv.2⟩
theorem Bh.Em{c c':Ctx}{w w':World}(h:Pg c w c' w'):∀(l:List DV) (vs:List Value),Bh c w l vs->Bh c' w' l vs
 | [],vs,hv=>by simp only[Bh] at hv ⊢; exact hv
 | d::ds,vs,hv=>by simp only[Bh] at hv ⊢;obtain⟨u,us,e,h1,h2⟩:=hv;exact⟨u,us,e,Au.Em h d u h1,Bh.Em h ds us h2⟩
theorem D5.Em{c c':Ctx}{w w':World}(h:Pg c w c' w'):∀(l:List (List DV)) (rs:List (List Value)),D5 c w l rs->D5 c' w' l rs
 | [],vs,hv=>by simp only[D5] at hv ⊢; exact hv
 | d::ds,vs,hv=>by simp only[D5] at hv ⊢;obtain⟨u,us,e,h1,h2⟩:=hv;exact⟨u,us,e,Bh.Em h d u h1,D5.Em h ds us h2⟩
end
structure M8(c c':Ctx):Prop where
 ok:∀b,c.ok b->c'.ok b
 fr:c.fr=false
 own:∀i,c.own i=none
 at_:∀n,c.at_ n=none
theorem M8.bare{c c':Ctx}(h:M8 c c'):M8 c.bare c'.bare:=⟨h.ok,rfl,fun _=>rfl,fun _=>rfl⟩
theorem M8.Akg(c:Ctx):M8 c.bare c:=⟨fun _ h=>h,rfl,fun _=>rfl,fun _=>rfl⟩
theorem Zh{w:World}{base base':Nat}{e:TypeId}{size n:Nat}{v:Value}{xs:List Value}(h:w.ownsRow base e size v n xs)(hb:v.ownBlock=none):w.ownsRow base' e size v n xs:=by
 obtain⟨h1,h2⟩:=h;refine⟨h1,?_⟩;rcases h2 with h2 | ⟨g,cap,cur,hv,_⟩
 ·exact Or.inl h2
 ·rw[hv] at hb; cases hb
mutual
theorem Au.G8{c c':Ctx}{w:World}(h:M8 c c'):∀(d:DV) (v:Value),Au c w d v->Au c' w d v
 | .undef,_,_=>by simp[Au]
 | .nil,v,hv=>by simp only[Au] at hv ⊢; exact hv
 | .bool b,v,hv=>by simp only[Au] at hv ⊢; exact hv
 | .int k n,v,hv=>by simp only[Au] at hv ⊢; exact hv
 | .fl n,v,hv=>by simp only[Au] at hv ⊢; exact hv
 | .nb n,v,hv=>by simp only[Au] at hv ⊢; exact hv
 | .agg l,v,hv=>by simp only[Au] at hv ⊢;obtain⟨vs,e,hl⟩:=hv;exact⟨vs,e,Bh.G8 h l _ hl⟩
 | .tup l,v,hv=>by simp only[Au] at hv ⊢;obtain⟨vs,e,hl⟩:=hv;exact⟨vs,e,Bh.G8 h l _ hl⟩
 | .ints (.own i e) k l,v,hv=>by
   simp only[Au] at hv ⊢;obtain⟨hr,ho⟩:=hv
   have hn:v.ownBlock=none:=by
    cases hvb:v.ownBlock with
    | none=>rfl
    | some b=>have:=ho b hvb; rw[h.own] at this; cases this
   exact⟨Zh hr hn,fun b hb=>by rw[hn] at hb; cases hb⟩
 | .ints .arg k l,v,hv=>by
   simp only[Au] at hv ⊢;obtain⟨a,cap,e,hc,hl⟩:=hv;refine⟨a,cap,e,hc,hl.imp id ?_⟩
   rintro ⟨b,o,ha,hb,hr⟩
   exact⟨b,o,ha,h.ok _ hb,hr⟩
 | .ints .fresh k l,v,hv=>by
   simp only[Au] at hv ⊢;obtain⟨a,cap,e,hc,hl⟩:=hv;refine⟨a,cap,e,hc,hl.imp id ?_⟩
   rintro ⟨b,o,ha,hb,hr⟩
   have:=hb.2.1; rw[h.fr] at this; cases this
 | .recs (.own i e) sz l,v,hv=>by
   simp only[Au] at hv ⊢;obtain⟨rows,hrr,hsz,hr,ho⟩:=hv
   have hn:v.ownBlock=none:=by
    cases hvb:v.ownBlock with
    | none=>rfl
    | some b=>have:=ho b hvb; rw[h.own] at this; cases this
   exact⟨rows,D5.G8 h.bare l rows hrr,hsz,Zh hr hn,fun b hb=>by rw[hn] at hb; cases hb⟩
 | .recs .arg sz l,v,hv=>by
   simp only[Au] at hv ⊢;obtain⟨a,cap,e,hc,hl⟩:=hv;refine⟨a,cap,e,hc,hl.imp id ?_⟩
   rintro ⟨b,o,rows,ha,hb,hrr,hsz,hr⟩
   exact⟨b,o,rows,ha,h.ok _ hb,D5.G8 h.bare l rows hrr,hsz,hr⟩
 | .recs .fresh sz l,v,hv=>by
   simp only[Au] at hv ⊢;obtain⟨a,cap,e,hc,hl⟩:=hv;refine⟨a,cap,e,hc,hl.imp id ?_⟩
   rintro ⟨b,o,rows,ha,hb,hrr,hsz,hr⟩
   have:=hb.2.1; rw[h.fr] at this; cases this
 | .oref n,v,hv=>by simp only[Au] at hv;obtain⟨_,p,hp,hd⟩:=hv;rw[h.at_] at hp; cases hp
 | .sref n off len,v,hv=>by simp only[Au] at hv;obtain⟨_,p,hp,hd⟩:=hv;rw[h.at_] at hp; cases hp
 | .ptr n i j,v,hv=>by simp only[Au] at hv;obtain⟨_,p,hp,hd⟩:=hv;rw[h.at_] at hp; cases hp
 | .cellp cs,v,hv=>by simp only[Au] at hv ⊢;obtain⟨b,o,vs,e,hb,hl,hr⟩:=hv;exact⟨b,o,vs,e,h.ok _ hb,Bh.G8 h.bare cs vs hl,hr⟩
 | .fn f fs cs,v,hv=>by simp only[Au] at hv ⊢;obtain⟨fs',cs',e,h1,h2⟩:=hv;exact⟨fs',cs',e,Bh.G8 h fs _ h1,Bh.G8 h cs _ h2⟩
 | .gd g d,v,hv=>by simp only[Au] at hv ⊢;exact⟨fun hg=>Au.G8 h d v (hv.1 hg),hv.2⟩
theorem Bh.G8{c c':Ctx}{w:World}(h:M8 c c'):∀(l:List DV) (vs:List Value),Bh c w l vs->Bh c' w l vs
 | [],vs,hv=>by simp only[Bh] at hv ⊢; exact hv
 | d::ds,vs,hv=>by simp only[Bh] at hv ⊢;obtain⟨u,us,e,h1,h2⟩:=hv;exact⟨u,us,e,Au.G8 h d u h1,Bh.G8 h ds us h2⟩
theorem D5.G8{c c':Ctx}{w:World}(h:M8 c c'):∀(l:List (List DV)) (rs:List (List Value)),D5 c w l rs->D5 c' w l rs
 | [],vs,hv=>by simp only[D5] at hv ⊢; exact hv
 | d::ds,vs,hv=>by simp only[D5] at hv ⊢;obtain⟨u,us,e,h1,h2⟩:=hv;exact⟨u,us,e,Bh.G8 h d u h1,D5.G8 h ds us h2⟩
end
inductive TK where
 | bool | int (k:IntKind) | fl | ptr | slice (e:TypeId) | array (n:Nat) (e:TypeId) | struct (fs:List (Nat × TypeId)) | func | other
structure TI where
 size:Nat
 bytes:Nat
 kind:TK
 zero:List DV
def TI.agg(t:TI):Bool:=match t.kind with | .array .. | .struct _=>true | _=>false
inductive OB where
 | box (cs:List DV)
 | ints (e:TypeId) (k:IntKind) (l:List Int)
 | recs (e:TypeId) (sz:Nat) (l:List (List DV))
 | dead
abbrev Ev:=List (Nat × Bool × OB)
def look:Ev->Nat->Option (Bool × OB)
 | [],_=>none
 | (m,x)::h,n=>bif m==n then some x else look h n
def upd:Ev->Nat->(Bool × OB)->Ev
 | [],_,_=>[]
 | (m,x)::h,n,y=>bif m==n then (m,y)::h else (m,x)::upd h n y
structure Fy where
 pre:List DV->Bool
 out:List DV->DV
inductive Ext where
 | bits | frombits | sqrt | bitsN | sub64
inductive CK where
 | i (k:IntKind) | s (k:IntKind) | b | any
structure A9 where
 keep:List Nat
 objs:List (Nat × Nat × Nat × OB)
 boxes:List Nat
structure Writer where
 elem:TypeId
 kind:IntKind
 pre:List Int->List DV->Bool
 out:List Int->List DV->List Int
structure Env where
 ty:TypeId->Option TI
 J4:FuncId->Option Fy
 ext:FuncId->Option Ext
 eqs:TypeId->Bool
 adopt:Nat->Bool
 live:Nat->Option (List Nat)
 hint:Nat->Option A9
 spoil:FuncId->Option TypeId:=fun _=>none
 adv:TypeId->List CK:=fun _=>[]
 wr:FuncId->Option Writer:=fun _=>none
 np:Nat:=0
def G2:Nat:=17592186044416
def A0t:Nat:=1099511627776
def Q9(b:Nat):Nat:=bif Nat.ble b 8 then G2 else A0t
theorem Aff{b n:Nat}(h:n<=Q9 b):n<=17592186044416:=by unfold Q9 G2 A0t at h;cases hb:Nat.ble b 8<;>rw[hb] at h<;>simp at h<;>omega
theorem Ach{b n:Nat}(h:n<=Q9 b)(hb:b<=128):n*b<=140737488355328:=by
 unfold Q9 G2 A0t at h;cases h8:Nat.ble b 8 with
 | true =>rw[h8] at h; simp at h;have:b<=8:=Nat.le_of_ble_eq_true h8;have:=Bfl h this;omega
 | false =>rw[h8] at h; simp at h;have:=Bfl h hb;omega
structure R where
 req:Bool
 v:DV
 objs:List OB:=[]
 frz:List Nat:=[]
def cells:DV->List DV
 | .agg cs=>cs
 | d=>[d]
def shaped(ti:TI)(cs:List DV):Option DV :=bif ti.agg then (bif decide (ti.size<=cs.length) then some (.agg (cs.take ti.size)) else none) else (match cs with | c::_=>some c | []=>none)
def Xo:DV->Bool
 | .undef | .agg _ | .tup _ | .gd ..=>false
 | _=>true
def R6:DV->Bool
 | .agg _=>true
 | d=>Xo d
def Ja(g:Bool):DV->DV × Bool
 | .gd c d=>(d,!g||c)
 | d=>(d,true)
def scalar:DV->Bool
 | .bool _ | .int ..=>true
 | _=>false
def Aog:DV->DV->Bool
 | .bool a,.bool b=>a==b
 | .int _ a,.int _ b=>a==b
 | _,_=>false
def sameShape:List DV->List DV->Bool
 | [],[]=>true
 | .bool _::l,.bool _::m=>sameShape l m
 | .int k _::l,.int k' _::m=>decide (k=k')&&sameShape l m
 | _,_=>false
def Aoh:List DV->List DV->Bool
 | a::as,b::bs=>Aog a b&&Aoh as bs
 | _,_=>true
def nanBits:Nat:=0x7ff8000000000000
def Bc(x y:Int):Bool :=
 match x,y with
 | .ofNat a,.ofNat b=>yV a b
 | .ofNat _,.negSucc _=>false
 | .negSucc _,.ofNat _=>true
 | .negSucc a,.negSucc b=>yV b a
def Fb(x y:Int):Bool :=
 match x,y with
 | .ofNat a,.ofNat b=>Nat.ble a b
 | .ofNat _,.negSucc _=>false
 | .negSucc _,.ofNat _=>true
 | .negSucc a,.negSucc b=>Nat.ble b a
theorem As(x y:Int):Bc x y=decide (x<y):=by rw[Be5];unfold Bc;cases x<;>cases y<;>simp[Nat.blt_eq]<;>omega
theorem Fs(x y:Int):Fb x y=decide (x<=y):=by rw[Be5];unfold Fb;cases x<;>cases y<;>simp[Nat.ble_eq]<;>omega
def T4(op:BinOp)(k:IntKind)(x y:Int):Option R :=
 match op with
 | .add=>some ⟨true,.int k (k.wrap (x+y)),[],[]⟩
 | .sub=>some ⟨true,.int k (k.wrap (x-y)),[],[]⟩
 | .mul=>some ⟨true,.int k (k.wrap (x*y)),[],[]⟩
 | .quo=>some ⟨y !=0,.int k (k.wrap (x.tdiv y)),[],[]⟩
 | .rem=>some ⟨y !=0,.int k (x.tmod y),[],[]⟩
 | .and=>some ⟨true,.int k (k.wrap (zj k.bits x &&& zj k.bits y).toNat),[],[]⟩
 | .or=>some ⟨true,.int k (k.wrap (zj k.bits x ||| zj k.bits y).toNat),[],[]⟩
 | .xor=>some ⟨true,.int k (k.wrap (zj k.bits x ^^^ zj k.bits y).toNat),[],[]⟩
 | .andNot=>some ⟨true,.int k (k.wrap (zj k.bits x &&& ~~~(zj k.bits y)).toNat),[],[]⟩
 | .eql=>some ⟨true,.bool (x==y),[],[]⟩
 | .neq=>some ⟨true,.bool (x !=y),[],[]⟩
 | .lss=>some ⟨true,.bool (Bc x y),[],[]⟩
 | .leq=>some ⟨true,.bool (Fb x y),[],[]⟩
 | .gtr=>some ⟨true,.bool (Bc y x),[],[]⟩
 | .geq=>some ⟨true,.bool (Fb y x),[],[]⟩
 | _=>none
def An7(r:Option Nat):DV:=.fl (r.getD nanBits)
def Aaf(op:BinOp)(x y:Nat):Option R :=
 match op with
 | .add=>some ⟨true,An7 (Ieee.double.add x y),[],[]⟩
 | .sub=>some ⟨true,An7 (Ieee.double.sub x y),[],[]⟩
 | .mul=>some ⟨true,An7 (Ieee.double.mul x y),[],[]⟩
 | .quo=>some ⟨true,An7 (Ieee.double.div x y),[],[]⟩
 | .eql=>some ⟨true,.bool (Ieee.double.order x y==some .eq),[],[]⟩
 | .neq=>some ⟨true,.bool (Ieee.double.order x y !=some .eq),[],[]⟩
 | .lss=>some ⟨true,.bool (Ieee.double.order x y==some .lt),[],[]⟩
 | .leq=>some ⟨true,.bool (Ieee.double.order x y==some .lt||Ieee.double.order x y==some .eq),[],[]⟩
 | .gtr=>some ⟨true,.bool (Ieee.double.order x y==some .gt),[],[]⟩
 | .geq=>some ⟨true,.bool (Ieee.double.order x y==some .gt||Ieee.double.order x y==some .eq),[],[]⟩
 | _=>none
def A53(E:Env)(op:BinOp)(t:TypeId)(a b:DV):Option R :=
 match a,b with
 | .int k x,.int k' y =>
   match op with
   | .shl=>some ⟨decide (0<=y),.int k (k.wrap (x*2^(min y.toNat k.bits))),[],[]⟩
   | .shr=>some ⟨decide (0<=y),.int k (x.fdiv (2^(min y.toNat k.bits))),[],[]⟩
   | _=>bif decide (k=k') then T4 op k x y else none
 | .fl x,.fl y=>Aaf op x y
 | .nb x,.int k y=>match op with
   | .andNot=>bif decide (k=.u64)&&decide (y=9223372036854775808) then some ⟨true,.nb (x%9223372036854775808),[],[]⟩ else none
   | _=>none
 | .bool x,.bool y=>match E.ty t with
   | some ⟨_,_,.bool,_⟩ =>
     match op with
     | .eql=>some ⟨true,.bool (x==y),[],[]⟩
     | .neq=>some ⟨true,.bool (!(x==y)),[],[]⟩
     | _=>none
   | _=>none
 | .agg x,.agg y =>
   bif E.eqs t&&(match E.ty t with | some ti=>sameShape ti.zero x&&sameShape ti.zero y | none=>false) then
   match op with
   | .eql=>some ⟨true,.bool (Aoh x y),[],[]⟩
   | .neq=>some ⟨true,.bool (!(Aoh x y)),[],[]⟩
   | _=>none
   else none
 | _,_=>none
def unD(op:UnOp)(a:DV):Option R :=
 match op,a with
 | .not,.bool b=>some ⟨true,.bool (!b),[],[]⟩
 | .neg,.int k x=>some ⟨true,.int k (k.wrap (0-x)),[],[]⟩
 | .xor,.int k x=>some ⟨true,.int k (k.wrap (zj k.bits (if k.signed then -1 else k.max) ^^^ zj k.bits x).toNat),[],[]⟩
 | _,_=>none
def At4(E:Env)(dst:TypeId)(src:TypeId)(a:DV):Option R :=
 match E.ty dst,E.ty src,a with
 | some ⟨_,_,.int k,_⟩,some ⟨_,_,.int _,_⟩,.int _ n=>some ⟨true,.int k (k.wrap n),[],[]⟩
 | some ⟨_,_,.fl,_⟩,some ⟨_,_,.int _,_⟩,.int _ n=>some ⟨true,.fl (Ieee.double.write (.number (decide (n<0)) n.natAbs 0)),[],[]⟩
 | some ⟨_,_,.fl,_⟩,some ⟨_,_,.fl,_⟩,.fl n=>some ⟨true,.fl n,[],[]⟩
 | _,_,_=>none
def Aif(h:Ev)(ti:TI)(a:DV):Option R :=
 match a with
 | .cellp cs=>(shaped ti cs).map fun v=>⟨true,v,[],[]⟩
 | .ptr n i j =>
   match look h n with
   | some (_,.box cs)=>bif i==0&&decide (j<cs.length) then (shaped ti (cs.drop j)).map fun v=>⟨true,v,[],[]⟩ else none
   | some (_,.ints _ k l)=>bif j==0&&!ti.agg then some ⟨decide (i<l.length),.int k (l.getD i 0),[],[]⟩ else none
   | some (_,.recs _ sz l) =>
     bif ti.agg then (cond (decide (j+ti.size<=sz)) (some ⟨decide (i<l.length),.agg (((l.getD i []).drop j).take ti.size),[],[]⟩) none)
     else (cond (decide (j<sz)) (some ⟨decide (i<l.length),(l.getD i []).getD j .undef,[],[]⟩) none)
   | _=>none
 | _=>none
def Sf(h:Ev)(n:Nat):Bool :=
 match look h n with
 | some (_,.dead) | none=>false
 | _=>true
def Ty(E:Env)(h:Ev)(t:TypeId)(f:Nat)(a:DV):Option R :=
 match E.ty t with
 | some ⟨_,_,.struct fs,_⟩ =>
   match fs[f]? with
   | some (off,ft)=>(E.ty ft).bind fun fi =>
     bif decide (0<fi.size) then
     match a with
     | .ptr n i j=>bif Sf h n then some ⟨true,.ptr n i (j+off),[],[]⟩ else none
     | .cellp cs=>some ⟨true,.cellp (cs.drop off),[],[]⟩
     | _=>none
     else none
   | none=>none
 | _=>none
def Ah7(ti:TI)(cs:List DV)(off:Nat):Option DV :=
 bif ti.agg then (cond (decide (off+ti.size<=cs.length)) (some (.agg ((cs.drop off).take ti.size))) none)
 else (cond (decide (off<cs.length)) (some (cs.getD off .undef)) none)
def Akv(E:Env)(t:TypeId)(f:Nat)(a:DV):Option R :=
 match E.ty t with
 | some ⟨_,_,.struct fs,_⟩ =>
   match fs[f]?,a with
   | some (off,ft),.agg cs=>(E.ty ft).bind fun ti=>(Ah7 ti cs off).map fun v=>⟨true,v,[],[]⟩
   | _,_=>none
 | _=>none
def A46(h:Ev):DV->Option Int
 | .nil=>some 0
 | .ints (.own _ _) _ _=>none
 | .recs (.own _ _) _ _=>none
 | .ints _ _ l=>some l.length
 | .recs _ _ l=>some l.length
 | .oref n=>match look h n with
   | some (_,.ints _ _ l)=>some l.length
   | some (_,.recs _ _ l)=>some l.length
   | _=>none
 | .sref n _ len=>bif Sf h n then some len else none
 | _=>none
def rowOf(sz:Nat)(row:List DV):List DV:=(zh sz).map fun j=>row.getD j .undef
theorem Aqb{sz:Nat}{row:List DV}(h:row.length=sz):rowOf sz row=row:=by
 unfold rowOf;refine List.ext_getElem? fun j=>?_
 rw[Bf6];by_cases hj:j<sz
 ·rw[List.getElem?_range hj,Be6 (by omega)];simp[Bez,Be6 (show j<row.length by omega)]
 ·rw[Bf7 (by rw[Bfs]; omega),Bf7 (by omega)]; rfl
def Tv(E:Env)(h:Ev)(t:TypeId)(a:DV)(i:Int):Option R :=
 match E.ty t with
 | some ⟨_,_,.slice e,_⟩=>(E.ty e).bind fun ei =>
   match a with
   | .ints (.own _ _) _ _=>none
   | .ints _ k l=>bif ei.size==1 then some ⟨decide (0<=i)&&decide (i<l.length),.cellp [.int k (l.getD i.toNat 0)],[],[]⟩ else none
   | .recs (.own _ _) _ _=>none
   | .recs _ sz l=>bif ei.size==sz then some ⟨decide (0<=i)&&decide (i<l.length),.cellp (rowOf sz (l.getD i.toNat [])),[],[]⟩ else none
   | .oref n=>match look h n with
     | some (_,.ints _ _ l)=>bif ei.size==1 then some ⟨decide (0<=i)&&decide (i<l.length),.ptr n i.toNat 0,[],[]⟩ else none
     | some (_,.recs _ sz l)=>bif ei.size==sz then some ⟨decide (0<=i)&&decide (i<l.length),.ptr n i.toNat 0,[],[]⟩ else none
     | _=>none
   | .sref n off len=>match look h n with
     | some (_,.ints _ _ _)=>bif ei.size==1 then some ⟨decide (0<=i)&&decide (i<len),.ptr n (off+i.toNat) 0,[],[]⟩ else none
     | some (_,.recs _ sz _)=>bif ei.size==sz then some ⟨decide (0<=i)&&decide (i<len),.ptr n (off+i.toNat) 0,[],[]⟩ else none
     | _=>none
   | _=>none
 | some ⟨_,_,.array len e,_⟩ =>
   (E.ty e).bind fun ei =>
   match a with
   | .ptr n 0 j=>bif decide (1<len)&&Sf h n then some ⟨decide (0<=i)&&decide (i<len),.ptr n 0 (j+i.toNat*ei.size),[],[]⟩ else none
   | .cellp cs=>bif decide (1<len) then some ⟨decide (0<=i)&&decide (i<len),.cellp (cs.drop (i.toNat*ei.size)),[],[]⟩ else none
   | _=>none
 | _=>none
def Aks(E:Env)(t:TypeId)(a:DV)(i:Int):Option R :=
 match E.ty t with
 | some ⟨_,_,.array len e,_⟩ =>
   match a with
   | .agg cs=>(E.ty e).bind fun ei =>
     bif decide (len*ei.size<=cs.length)&&decide (0<ei.size) then
      some ⟨decide (0<=i)&&decide (i<len),cond ei.agg (.agg ((cs.drop (i.toNat*ei.size)).take ei.size)) (cs.getD (i.toNat*ei.size) .undef),[],[]⟩
     else none
   | _=>none
 | _=>none
def Yy{α:Type}(lo hi:Option Int)(l:List α):List α :=
 match lo,hi with
 | none,none=>l
 | some x,none=>l.drop x.toNat
 | none,some y=>l.take y.toNat
 | some x,some y=>(l.take y.toNat).drop x.toNat
def okB(lo hi mx:Option Int)(len:Nat):Bool :=
 (match lo with | some x=>decide (0<=x)&&decide (x<=hi.getD len) | none=>true) &&
 (match hi with | some x=>decide (0<=x)&&decide (x<=mx.getD len) | none=>true) &&
 (match mx with | some x=>decide (0<=x)&&decide (x<=len)&&hi.isSome | none=>true)
def Ajv(E:Env)(h:Ev)(t:TypeId)(a:DV)(lo:Option Int)(hi:Option Int)(mx:Option Int):Option R :=
 match E.ty t with
 | some ⟨_,_,.slice e,_⟩=>(E.ty e).bind fun ei =>
   match a with
   | .nil=>bif lo.isNone&&hi.isNone&&mx.isNone then some ⟨true,.nil,[],[]⟩ else none
   | .ints (.own _ _) _ _=>none
   | .ints g k l=>bif ei.size==1 then some ⟨okB lo hi mx l.length,.ints g k (Yy lo hi l),[],[]⟩ else none
   | .recs (.own _ _) _ _=>none
   | .recs g sz l=>bif ei.size==sz then some ⟨okB lo hi mx l.length,.recs g sz (Yy lo hi l),[],[]⟩ else none
   | .oref n=>match look h n with
     | some (_,.ints _ _ l)=>bif ei.size==1 then some ⟨okB lo hi mx l.length,.sref n (lo.getD 0).toNat ((hi.getD l.length)-(lo.getD 0)).toNat,[],[]⟩ else none
     | some (_,.recs _ sz l)=>bif ei.size==sz then some ⟨okB lo hi mx l.length,.sref n (lo.getD 0).toNat ((hi.getD l.length)-(lo.getD 0)).toNat,[],[]⟩ else none
     | _=>none
   | .sref n off len=>match look h n with
     | some (_,.ints _ _ _)=>bif ei.size==1 then some ⟨okB lo hi mx len,.sref n (off+(lo.getD 0).toNat) ((hi.getD len)-(lo.getD 0)).toNat,[],[]⟩ else none
     | some (_,.recs _ sz _)=>bif ei.size==sz then some ⟨okB lo hi mx len,.sref n (off+(lo.getD 0).toNat) ((hi.getD len)-(lo.getD 0)).toNat,[],[]⟩ else none
     | _=>none
   | _=>none
 | _=>none
def lower(h:Ev):Nat->DV->Option (DV × List Nat)
 | 0,_=>none
 | f+1,d =>
   let all (l:List DV):Option (List DV × List Nat):=l.foldr (fun d acc=>(lower h f d).bind fun(x,ns)=>acc.bind fun(xs,ms)=>some (x::xs,ns++ms)) (some ([],[]))
   match d with
   | .undef=>some (.undef,[])
   | .nil=>some (.nil,[])
   | .bool b=>some (.bool b,[])
   | .int k n=>some (.int k n,[])
   | .fl n=>some (.fl n,[])
   | .nb n=>some (.nb n,[])
   | .agg l=>(all l).bind fun(l,ns)=>some (.agg l,ns)
   | .tup _=>none
   | .ints (.own _ _) _ _=>none
   | .ints _ k l=>some (.ints .arg k l,[])
   | .recs (.own _ _) _ _=>none
   | .recs _ sz l=>some (.recs .arg sz l,[])
   | .oref n=>match look h n with
     | some (_,.ints _ k l)=>some (.ints .arg k l,[n])
     | some (_,.recs _ sz l)=>some (.recs .arg sz l,[n])
     | _=>none
   | .sref n off len=>match look h n with
     | some (_,.ints _ k l)=>some (.ints .arg k ((l.drop off).take len),[n])
     | some (_,.recs _ sz l)=>some (.recs .arg sz ((l.drop off).take len),[n])
     | _=>none
   | .ptr n 0 j=>match look h n with
     | some (_,.box cs)=>(all (cs.drop j)).bind fun(l,ns)=>some (.cellp l,n::ns)
     | _=>none
   | .ptr ..=>none
   | .cellp cs=>some (.cellp cs,[])
   | .fn g a c=>(all a).bind fun(a,ns)=>(all c).bind fun(c,ms)=>some (.fn g a c,ns++ms)
   | .gd ..=>none
def Ks(h:Ev)(l:List DV):Option (List DV × List Nat) :=l.foldr (fun d acc=>(lower h 8 d).bind fun(x,ns)=>acc.bind fun(xs,ms)=>some (x::xs,ns++ms)) (some ([],[]))
structure St where
 tmps:List DV
 heap:Ev
def Oj(h:Ev)(k:IntKind):DV->Option (List Int)
 | .nil=>some []
 | .ints (.own _ _) _ _=>none
 | .ints _ k' l=>bif decide (k=k') then some l else none
 | .oref n=>match look h n with
   | some (_,.ints _ k' l)=>bif decide (k=k') then some l else none
   | _=>none
 | .sref n off len=>match look h n with
   | some (_,.ints _ k' l)=>bif decide (k=k') then some ((l.drop off).take len) else none
   | _=>none
 | _=>none
def Sc(h:Ev)(sz:Nat):DV->Option (List (List DV))
 | .nil=>some []
 | .recs (.own _ _) _ _=>none
 | .recs _ sz' l=>bif sz==sz' then some l else none
 | .oref n=>match look h n with
   | some (_,.recs _ sz' l)=>bif sz==sz' then some l else none
   | _=>none
 | .sref n off len=>match look h n with
   | some (_,.recs _ sz' l)=>bif sz==sz' then some ((l.drop off).take len) else none
   | _=>none
 | _=>none
def M5(h:Ev)(ns:List Nat):Ev :=ns.foldl (fun h n=>match look h n with | some (_,o)=>upd h n (true,o) | none=>h) h
def H2:Nat->DV->Bool
 | 0,_=>true
 | f+1,d=>match d with
   | .ints .arg _ _=>true
   | .recs ..=>true
   | .agg l=>l.any (H2 f)
   | .tup l=>l.any (H2 f)
   | .undef | .cellp _ | .fn .. | .gd ..=>true
   | _=>false
def Nz(g:Nat->DV->Option (DV × List (Nat × OB) × List Nat)):Nat->List DV->Option (List DV × List (Nat × OB) × List Nat)
 | _,[]=>some ([],[],[])
 | nm,d::l=>match g nm d with
   | some (x,os,is)=>match Nz g (nm+os.length) l with
     | some (xs,os',is')=>some (x::xs,os++os',is++is')
     | none=>none
   | none=>none
def Hf(ad:Bool):Nat->Nat->DV->Option (DV × List (Nat × OB) × List Nat)
 | 0,_,_=>none
 | f+1,nm,d =>
   match d with
   | .ints (.own i e) k l=>bif ad then some (.oref nm,[(nm,.ints e k l)],[i]) else some (.ints .fresh k l,[],[])
   | .recs (.own i e) sz l=>bif ad&&decide (0<sz) then some (.oref nm,[(nm,.recs e sz l)],[i]) else bif ad then none else some (.recs .fresh sz l,[],[])
   | .agg l=>match Nz (Hf ad f) nm l with
     | some (l,os,is)=>some (.agg l,os,is)
     | none=>none
   | .tup l=>match Nz (Hf ad f) nm l with
     | some (l,os,is)=>some (.tup l,os,is)
     | none=>none
   | .oref _ | .sref .. | .ptr .. | .gd .. | .fn ..=>none
   | d=>some (d,[],[])
def Pm:List Nat->Bool
 | []=>true
 | a::l=>!(l.contains a)&&Pm l
structure R2 where
 req:Bool
 v:DV
 objs:List (Nat × OB)
 frz:List Nat
def R.up(r:R):R2:=⟨r.req,r.v,[],[]⟩
def A1o:DV->Int
 | .int _ x=>x
 | _=>0
def Af4:DV->List Int
 | .ints _ _ l=>l
 | _=>[]
def A8u:DV->Bool
 | .bool b=>b
 | _=>false
def isC:CK->DV->Bool
 | .i k,.int k' _=>decide (k=k')
 | .s k,.ints .arg k' _=>decide (k=k')
 | .s _,.nil=>true
 | .b,.bool _=>true
 | .any,_=>true
 | _,_=>false
def asC:CK->DV->DV
 | .i k,d=>.int k (A1o d)
 | .s k,d=>.ints .arg k (Af4 d)
 | .b,d=>.bool (A8u d)
 | .any,d=>d
def isL:List CK->Nat->List DV->Bool
 | [],_,_=>true
 | c::cs,i,row=>isC c (row.getD i .undef)&&isL cs (i+1) row
def asL:List CK->Nat->List DV->List DV
 | [],_,_=>[]
 | c::cs,i,row=>asC c (row.getD i .undef)::asL cs (i+1) row
def A5f(h:Ev):DV->Bool
 | .cellp _=>true
 | .ptr n _ _=>match look h n with
   | some (_,.recs ..)=>true
   | _=>false
 | _=>false
def Acr(agg:Bool)(adv:List CK)(r:R):R2 :=
 match adv with
 | []=>r.up
 | c::cs=>bif agg then (match r.v with
  | .agg l=>⟨r.req&&(decide (l.length=(c::cs).length)&&isL (c::cs) 0 l),.agg (asL (c::cs) 0 l),[],[]⟩
  | _=>r.up)
   else ⟨r.req&&isC c r.v,asC c r.v,[],[]⟩
def At7(E:Env)(h:Ev)(nm:Nat)(ad:Bool)(g:FuncId)(args:List DV):Option R2 :=
 (Ks h args).bind fun(as,ns)=>(E.J4 g).bind fun e =>
  (Hf ad 6 nm (e.out as)).bind fun(v,os,is) =>
   bif Pm is then some ⟨e.pre as,v,os,cond (H2 6 (e.out as)) ns ([])⟩ else none
def Rp(x y b:Int):Int:=((x.toNat+18446744073709551616-y.toNat-b.toNat)%18446744073709551616:Nat)
def I9(x y b:Int):Int:=(if x.toNat<y.toNat+b.toNat then 1 else 0:Nat)
def A8q(x:Ext)(args:List DV):Option R2 :=
 match x,args with
 | .bits,[.fl n]=>some ⟨true,.nb n,[],[]⟩
 | .bitsN,[.fl n]=>some ⟨!(Hl n),.int .u64 n,[],[]⟩
 | .frombits,[.int .u64 n]=>some ⟨decide (0<=n),.fl n.toNat,[],[]⟩
 | .frombits,[.nb n]=>some ⟨true,.fl n,[],[]⟩
 | .sqrt,[.fl n]=>some ⟨true,An7 (Ieee.double.sqrt n),[],[]⟩
 | .sub64,[.int .u64 x,.int .u64 y,.int .u64 b]=>some ⟨decide (b<=1),.tup [.int .u64 (Rp x y b),.int .u64 (I9 x y b)],[],[]⟩
 | _,_=>none
def Aaa(place:Nat->Option (Nat × Nat))(cs:List DV):List (Nat × DV)->Option (List DV)
 | []=>some cs
 | (i,v)::rest =>
   match place i with
   | none=>none
   | some (off,size)=>bif R6 v&&(cells v).length==size&&decide (off+(cells v).length<=cs.length) then
    Aaa place ((cells v).zipIdx.foldl (fun cs (c,j)=>cs.set (off+j) c) cs) rest else none
def Ze(E:Env):List (Nat × TypeId)->Option (List (Nat × Nat))
 | []=>some []
 | (off,ft)::fs=>match E.ty ft with
   | some ti=>match Ze E fs with
     | some l=>some ((off,ti.size)::l)
     | none=>none
   | none=>none
def Adh(E:Env)(t:TypeId):Option (Nat->Option (Nat × Nat)) :=
 match E.ty t with
 | some ⟨_,_,.struct fs,_⟩=>match Ze E fs with
   | some l=>some fun i=>l[i]?
   | none=>none
 | some ⟨_,_,.array _ e,_⟩=>match E.ty e with
   | some ti=>some fun i=>some (i*ti.size,ti.size)
   | none=>none
 | _=>none
def intOf:DV->Option Int
 | .int _ n=>some n
 | _=>none
def A8k:List DV->Option (List Int)
 | []=>some []
 | .int _ n::l=>(A8k l).bind fun l=>some (n::l)
 | _=>none
def Wu(k:IntKind):List DV->Option (List Int)
 | []=>some []
 | .int k' n::l=>if decide (k=k') then (match Wu k l with | some l=>some (n::l) | none=>none) else none
 | _=>none
def chunk(sz:Nat):Nat->List DV->List (List DV)
 | 0,_=>[]
 | n+1,l=>l.take sz::chunk sz n (l.drop sz)
def Vu(E:Env)(h:Ev)(nm:Nat)(t:TypeId)(len:Nat)(parts:List (Nat × DV)):Option R2 :=
 match E.ty t with
 | some ⟨_,_,.slice e,_⟩ =>
   (E.ty e).bind fun ei =>
    bif decide (len*ei.size<=4096)&&decide (0<ei.size) then
    (Aaa (fun i=>some (i*ei.size,ei.size)) (zp len ei.zero).flatten parts).bind fun cs =>
     match ei.kind with
     | .int k=>bif ei.size==1 then (Wu k cs).bind fun l=>some ⟨true,.oref nm,[(nm,.ints e k l)],[]⟩ else none
     | _=>bif cs.all Xo then (Ks h cs).bind fun(cs,ns)=>some ⟨true,.oref nm,[(nm,.recs e ei.size (chunk ei.size len cs))],ns⟩ else none
    else none
 | _=>none
def Yb(E:Env)(nm:Nat)(t:TypeId)(a c:DV):Option R2 :=
 match E.ty t,a,c with
 | some ⟨_,_,.slice e,_⟩,.int _ x,.int _ y =>
   (E.ty e).bind fun ei =>
    bif decide (ei.bytes<=128)&&decide (0<ei.size) then
     let req:=decide (0<=x)&&decide (x<=y)&&decide (y<=Q9 ei.bytes)
     match ei.kind with
     | .int k=>match ei.zero with
       | [.int k' z]=>bif ei.size==1&&decide (k=k') then some ⟨req,.oref nm,[(nm,.ints e k (zp x.toNat z))],[]⟩ else none
       | _=>none
     | _=>some ⟨req,.oref nm,[(nm,.recs e ei.size (zp x.toNat ei.zero))],[]⟩
    else none
 | _,_,_=>none
def maxD(gt:Bool):DV->DV->Option DV
 | .int k x,.int _ y=>some (.int k (cond gt (max x y) (min x y)))
 | _,_=>none
def Ack(gt:Bool):DV->List DV->Option DV
 | a,[]=>some a
 | a,b::l=>(maxD gt a b).bind fun c=>Ack gt c l
def Arr:Value->DV
 | .bool b=>.bool b
 | .int k n=>.int k n
 | .float .f64 n=>.fl n
 | .slice none 0 0=>.nil
 | _=>.undef
def Is(l:List DV):Operand->DV
 | .tmp t=>l.getD t .undef
 | .const v=>Arr v
 | .global _=>.undef
 | .func f=>.fn f [] []
def Tp(ρ:Operand->DV):Option Operand->Option (Option Int)
 | none=>some none
 | some y=>(intOf (ρ y)).bind fun i=>some (some i)
def F7(E:Env)(h:Ev)(nm:Nat)(ρ:Operand->DV)(op:Op):Option R2 :=
 match op with
 | .move x | .assign x=>some ⟨true,ρ x,[],[]⟩
 | .alloc t=>(E.ty t).bind fun ti=>some ⟨true,.ptr nm 0 0,[(nm,.box ti.zero)],[]⟩
 | .box t x=>(E.ty t).bind fun ti=>bif R6 (ρ x)&&(cells (ρ x)).length==ti.size then some ⟨true,.ptr nm 0 0,[(nm,.box (cells (ρ x)))],[]⟩ else none
 | .build t parts=>(E.ty t).bind fun ti=>(Adh E t).bind fun pl=>(Aaa pl ti.zero (parts.toList.map fun(i,x)=>(i,ρ x))).bind fun cs=>some ⟨true,.agg cs,[],[]⟩
 | .buildSlice t len parts=>Vu E h nm t len (parts.toList.map fun(i,x)=>(i,ρ x))
 | .load t a=>(E.ty t).bind fun ti=>(Aif h ti (ρ a)).bind fun r=>some (Acr ti.agg (cond (A5f h (ρ a)) (E.adv t) ([])) r)
 | .nilCheck x=>match ρ x with
   | .ptr n i j=>bif Sf h n then some ⟨true,.ptr n i j,[],[]⟩ else none
   | .cellp cs=>some ⟨true,.cellp cs,[],[]⟩
   | .fn f a c=>some ⟨true,.fn f a c,[],[]⟩
   | _=>none
 | .binOp op t x y _=>(A53 E op t (ρ x) (ρ y)).bind fun r=>some r.up
 | .unOp op _ x=>(unD op (ρ x)).bind fun r=>some r.up
 | .convert src dst x=>(At4 E dst src (ρ x)).bind fun r=>some r.up
 | .makeFunc (.func f) first captured=>some ⟨true,.fn f (first.toList.map ρ) (captured.toList.map ρ),[],[]⟩
 | .makeSlice t l c=>Yb E nm t (ρ l) (ρ c)
 | .slice t x lo hi mx =>
   (Tp ρ lo).bind fun lo=>(Tp ρ hi).bind fun hi=>(Tp ρ mx).bind fun mx=>(Ajv E h t (ρ x) lo hi mx).bind fun r=>some r.up
 | .fieldAddr t x f=>(Ty E h t f (ρ x)).bind fun r=>some r.up
 | .field t x f=>(Akv E t f (ρ x)).bind fun r=>some r.up
 | .indexAddr t x i=>(intOf (ρ i)).bind fun i=>(Tv E h t (ρ x) i).bind fun r=>some r.up
 | .index t x i=>(intOf (ρ i)).bind fun i=>(Aks E t (ρ x) i).bind fun r=>some r.up
 | .extract t i=>match ρ t with
   | .tup l=>(l[i]?).bind fun d=>some ⟨true,d,[],[]⟩
   | _=>none
 | .call ⟨.builtin .len,args,ts⟩=>match args.toList,ts.toList with
   | [x],[t]=>match E.ty t with
     | some ⟨_,_,.slice _,_⟩=>(A46 h (ρ x)).bind fun n=>some ⟨true,.int .i64 n,[],[]⟩
     | _=>none
   | _,_=>none
 | .call ⟨.builtin .max,args,_⟩=>match args.toList with
   | x::l=>(Ack true (ρ x) (l.map ρ)).bind fun v=>some ⟨true,v,[],[]⟩
   | _=>none
 | .call ⟨.builtin .min,args,_⟩=>match args.toList with
   | x::l=>(Ack false (ρ x) (l.map ρ)).bind fun v=>some ⟨true,v,[],[]⟩
   | _=>none
 | .call ⟨.value f,args,_⟩=>match ρ f with
   | .fn g first captured=>match E.ext g with
     | some x=>match first,captured with
       | [],[]=>A8q x (args.toList.map ρ)
       | _,_=>none
     | none=>At7 E h (1000+8*nm) (E.adopt nm) g (first++args.toList.map ρ++captured)
   | _=>none
 | _=>none
def Atc(c:Bool)(a b:DV):Option (Bool × DV) :=
 match (Ja c a).1,(Ja (!c) b).1 with
 | .bool x,.bool y=>some ((Ja c a).2&&(Ja (!c) b).2,.bool (cond c x y))
 | .int k x,.int k' y=>bif decide (k=k') then some ((Ja c a).2&&(Ja (!c) b).2,.int k (cond c x y)) else none
 | _,_=>none
def setCells:List DV->Nat->List DV->List DV
 | cs,_,[]=>cs
 | cs,j,v::vs=>setCells (cs.set j v) (j+1) vs
def Aax(E:Env)(h:Ev)(t:TypeId)(a v:DV):Option (Bool × Ev) :=
 (E.ty t).bind fun ti =>
 bif R6 v&&(cells v).length==ti.size&&(cells v).all Xo then
 match a with
 | .ptr n i j=>match look h n with
   | some (false,.box cs)=>bif i==0&&decide (j+ti.size<=cs.length) then some (true,upd h n (false,.box (setCells cs j (cells v)))) else none
   | some (false,.ints e k l)=>match v with
     | .int k' x=>bif j==0&&decide (k=k') then some (decide (i<l.length),upd h n (false,.ints e k (l.set i x))) else none
     | _=>none
   | some (false,.recs e sz l)=>(Ks h (cells v)).bind fun(vs,ns)=>bif decide (j+ti.size<=sz)&&ns.isEmpty then
    some (decide (i<l.length),upd h n (false,.recs e sz (l.set i (setCells (l.getD i []) j vs)))) else none
   | _=>none
 | _=>none
 else none
def R4(E:Env)(h:Ev)(nm:Nat)(t:TypeId)(s x:DV):Option (Bool × DV × Ev) :=
 match E.ty t with
 | some ⟨_,_,.slice e,_⟩ =>
   (E.ty e).bind fun ei =>
   bif decide (ei.bytes<=128)&&decide (0<ei.size)&&(look h nm).isNone then
   match s with
   | .nil=>match ei.kind with
     | .int k=>bif ei.size==1 then (Oj h k x).bind fun l=>some (decide (l.length<=Q9 ei.bytes),.oref nm,(nm,false,.ints e k l)::h) else none
     | _=>(Sc h ei.size x).bind fun l=>some (decide (l.length<=Q9 ei.bytes),.oref nm,(nm,false,.recs e ei.size l)::h)
   | .oref n=>match look h n with
     | some (false,.ints e' k l')=>(Oj h k x).bind fun l=>bif e==e'&&ei.size==1 then some (decide (l'.length+l.length<=Q9 ei.bytes),.oref nm,(nm,false,.ints e k (l'++l))::upd h n (false,.dead)) else none
     | some (false,.recs e' sz l')=>(Sc h sz x).bind fun l=>bif e==e'&&sz==ei.size then some (decide (l'.length+l.length<=Q9 ei.bytes),.oref nm,(nm,false,.recs e sz (l'++l))::upd h n (false,.dead)) else none
     | _=>none
   | _=>none
   else none
 | _=>none
def Xy(l:List DV)(o:Option Nat)(v:DV):List DV :=
 match o with
 | some d=>l.set d v
 | none=>l
def S6(ops:Array Oper)(l:List DV)(o:Oper):Option (Option Bool) :=
 match o.guard with
 | none=>some none
 | some (j,want)=>match (ops[j]?).bind (·.dst) with
   | some d=>match l.getD d .undef with
     | .bool b=>some (some (b==want))
     | .gd c (.bool b)=>some (some (c&&(b==want)))
     | _=>none
   | none=>none
def X3(g:Bool)(ρ:Operand->DV)(xs:List Operand):Bool:=xs.all fun x=>(Ja g (ρ x)).2
def Ul(l x:List Int):List Int:=x.take l.length++l.drop x.length
def Ru(E:Env)(h:Ev)(ρ:Operand->DV)(g?:Option Bool):Op->Option (Nat × Bool × DV × OB)
 | .call ⟨.value f,args,_⟩=>match g?,ρ f,args.toList with
   | none,.fn g [] [],x::xs=>match E.wr g with
     | some W=>(match ρ x with
       | .oref n=>match look h n with
         | some (false,.ints e k l)=>(Ks h (xs.map ρ)).bind fun(ds,ns)=>bif e==W.elem&&decide (k=W.kind)&&!(ns.contains n) then some (n,W.pre l ds,.undef,.ints e k (W.out l ds)) else none
         | _=>none
       | _=>none)
     | none=>match E.spoil g,ρ x,xs with
       | some e,.agg [.int .i64 _,.int .i64 _,.oref n],[]=>(match look h n with
         | some (false,.ints e' .u64 _)=>bif e==e' then some (n,true,.undef,.dead) else none
         | _=>none)
       | _,_,_=>none
   | _,_,_=>none
 | .call ⟨.builtin .copy,args,ts⟩=>match g?,args.toList,ts.toList with
   | none,[x,y],[t,_]=>match ρ x,E.ty t with
     | .oref n,some ⟨_,_,.slice e,_⟩=>(match look h n,E.ty e with
       | some (false,.ints e' k l),some ei=>(Oj h k (ρ y)).bind fun z=>bif e==e'&&ei.size==1 then some (n,true,.int .i64 (min z.length l.length:Nat),.ints e' k (Ul l z)) else none
       | _,_=>none)
     | _,_=>none
   | _,_,_=>none
 | _=>none
def Ph(E:Env)(ops:Array Oper)(draw:Bool)(st:St)(o:Oper):Option (Bool × St) :=
 (S6 ops st.tmps o).bind fun g? =>
 let g:=g?.getD true
 let nm:=o.dst.getD 0
 let ρ:=Is st.tmps
 let wrap (v:DV):DV:=match g? with | some c=>.gd c v | none=>v
 match o.op with
 | .pick c a b =>
   (match (Ja g (ρ c)).1 with
   | .bool c'=>(Atc c' (ρ a) (ρ b)).bind fun(r,v)=>some (!g||((Ja g (ρ c)).2&&r),{ st with tmps:=Xy st.tmps o.dst (wrap v) })
   | _=>none)
 | .store t a x=>match g? with
   | none=>(Aax E st.heap t (ρ a) (ρ x)).bind fun(r,h)=>some (r,{ tmps:=Xy st.tmps o.dst .undef,heap:=h })
   | some _=>none
 | .call ⟨.builtin .append,args,ts⟩=>match g?,args.toList,ts.toList with
   | none,[s,x],[t,t']=>bif t==t'&&o.dst.isSome then (R4 E st.heap nm t (ρ s) (ρ x)).bind fun(r,v,h)=>some (r,{ tmps:=Xy st.tmps o.dst v,heap:=h }) else none
   | _,_,_=>none
 | op=>match bif draw then none else Ru E st.heap ρ g? op with
  | some (n,r,v,ob)=>some (r,{ tmps:=Xy st.tmps o.dst v,heap:=upd st.heap n (false,ob) })
  | none =>
   (F7 E st.heap nm (fun x=>(Ja g (ρ x)).1) op).bind fun r =>
    bif (r.objs.all fun(n,_)=>(look st.heap n).isNone)&&Pm (r.objs.map (·.1))&&(r.objs.isEmpty||o.dst.isSome)&&(r.frz.isEmpty||r.frz.all fun n=>(look st.heap n).isSome) then
     some (cond r.frz.isEmpty (!g||(X3 g ρ op.operands.toList&&r.req)) (g&&(X3 g ρ op.operands.toList&&r.req)),
      { tmps:=Xy st.tmps o.dst (wrap r.v),heap:=(r.objs.map fun(n,ob)=>(n,false,ob))++M5 st.heap r.frz })
    else none
def A72(E:Env)(o:Oper):Bool:=match o.dst with
 | some t=>yV t E.np
 | none=>false
def Ab7(E:Env)(ops:Array Oper)(draw:Bool)(st:St)(o:Oper):Option (Bool × St):=bif A72 E o then none else Ph E ops draw st o
def A4l{β:Type}(E:Env)(ops:Array Oper)(draw:Bool):List Oper->St->(St->Option β)->Option β
 | [],st,K=>K st
 | o::os,st,K=>match Ab7 E ops draw st o with
   | some (r,st')=>bif r then A4l E ops draw os st' K else none
   | none=>none
def forget(keep:Option (List Nat))(st:St):St :=
 match keep with
 | none=>st
 | some ks=>{ st with tmps:=st.tmps.zipIdx.map fun(d,i)=>cond (ks.contains i) d .undef }
def Po(n:Nat):List Nat->Bool
 | []=>false
 | m::l=>bif zg n m then true else Po n l
def Ky(o:Oper):List Nat:=o.after.toList.filterMap fun e=>bif Region.binds .any e then some e.on else none
def Ac3(D:List (List Nat))(i j:Nat):Bool:=Po i (D.getD j [])||(D.getD j []).any fun m=>Po i (D.getD m [])
def Rg(D:List (List Nat))(i j:Nat):Bool:=!(zg i j)&&(!(Ac3 D i j)&&!(Ac3 D j i))
def Ani(ms:List Nat)(h:Ev):Ev:=h.filter fun x=>!(Po x.1 ms)
def A5d(ms:List Nat)(h:Ev):Ev:=h.filter fun x=>Po x.1 ms
def A0i:DV->List Nat
 | .ptr n _ _=>[n]
 | _=>[]
def Akk:DV->List Nat
 | .oref n=>[n]
 | _=>[]
def Bbk(st:St)(o:Oper):List Nat :=
 match o.op with
 | .store _ a _=>A0i (Is st.tmps a)
 | .call ⟨.builtin .append,args,_⟩=>match args.toList with
   | [s,_]=>Akk (Is st.tmps s)
   | _=>[]
 | _=>[]
def Xl:Op->Bool
 | .store ..=>true
 | .call ⟨.builtin .append,_,_⟩=>true
 | _=>false
def Hx(E:Env)(ops:Array Oper)(st:St)(o:Oper):List Nat :=
 bif Xl o.op then Bbk st o else match S6 ops st.tmps o with
 | none=>[]
 | some g?=>match F7 E st.heap (o.dst.getD 0) (fun x=>(Ja (g?.getD true) (Is st.tmps x)).1) o.op with
   | some r=>r.frz
   | none=>[]
def Anh:Op->Bool
 | .store ..=>true
 | .buildSlice ..=>true
 | .call ⟨.builtin .append,_,_⟩=>true
 | .call ⟨.value _,_,_⟩=>true
 | _=>false
def Sa(ms:List Nat)(st:St):St :=
 match ms with
 | []=>st
 | n::ms=>⟨st.tmps,Ani (n::ms) st.heap⟩
def Al6(E:Env)(ops:Array Oper)(ms:List Nat)(st:St)(o:Oper):Option (Bool × St) :=
 match ms with
 | []=>Ab7 E ops true st o
 | n::ms=>match Ab7 E ops true ⟨st.tmps,Ani (n::ms) st.heap⟩ o with
   | some (r,st')=>bif st'.heap.all fun x=>!(Po x.1 (n::ms)) then some (r,⟨st'.tmps,st'.heap++A5d (n::ms) st.heap⟩) else none
   | none=>none
def Js(D:List (List Nat))(k:Nat):List (Nat × List Nat)->List Nat
 | []=>[]
 | (s,ns)::M=>bif Rg D s k then ns++Js D k M else Js D k M
def Qf(k:Nat):List (Nat × List Nat)->List Nat
 | []=>[]
 | (s,ns)::M=>bif zg s k then ns++Qf k M else Qf k M
def Vg(D:List (List Nat))(k:Nat):Bool:=(zh D.length).any fun j=>Rg D k j
def Atd{β:Type}(E:Env)(ops:Array Oper)(D:List (List Nat))(M:List (Nat × List Nat)):Nat->List Oper->St->(St->Option β)->Option β
 | _,[],st,K=>K st
 | k,o::os,st,K=>match Al6 E ops (Js D k M) st o with
   | some (r,st')=>bif r&&(!(Vg D k)||(Hx E ops (Sa (Js D k M) st) o).all fun n=>Po n (Qf k M)) then Atd E ops D M (k+1) os st' K else none
   | none=>none
def Akt(E:Env)(ops:Array Oper):Nat->List Oper->St->List (Nat × List Nat)
 | _,[],_=>[]
 | k,o::os,st=>match Ab7 E ops true st o with
   | some (_,st')=>bif Anh o.op then (k,Hx E ops st o)::Akt E ops (k+1) os st' else Akt E ops (k+1) os st'
   | none=>[]
def Akz(ops:Array Oper)(D:List (List Nat)):Bool :=
 (zh D.length).all fun k =>
  (D.getD k []).all (fun i=>yV i k) &&
  match ops[k]? with
  | none=>false
  | some o=>(zh D.length).all fun j=>match ops[j]? with
    | none=>false
    | some p=>match p.dst with
      | none=>true
      | some t=>(zg j k||!(o.dst==some t))&&(!(Po t (o.looksAt ops))||(Ac3 D j k||Ac3 D k j))
def Ara(ops:Array Oper)(D:List (List Nat)):Nat->List Oper->Bool
 | _,[]=>false
 | k,o::os=>(Anh o.op&&Vg D k)||Ara ops D (k+1) os
def A1q{β:Type}(E:Env)(ops:Array Oper)(st:St)(K:St->Option β):Option β :=
 bif Akz ops (ops.toList.map Ky) then
  Atd E ops (ops.toList.map Ky) (cond (Ara ops (ops.toList.map Ky) 0 ops.toList) (Akt E ops 0 ops.toList st) ([])) 0 ops.toList st K
 else none
def Gp:Nat->List Nat->DV->Bool
 | 0,_,_=>false
 | f+1,ns,d=>match d with
   | .oref n | .sref n _ _ | .ptr n _ _=>ns.contains n
   | .agg l | .tup l=>l.all (Gp f ns)
   | .fn _ a c=>a.all (Gp f ns)&&c.all (Gp f ns)
   | .gd _ d=>Gp f ns d
   | _=>true
def Yz(st:St):Nat × Nat × Nat × OB->DV
 | (0,s,_,_)=>st.tmps.getD s .undef
 | (b+1,j,_,_)=>match look st.heap b with
   | some (_,.box cs)=>cs.getD j .undef
   | _=>.undef
def Akh(st:St)(x:Nat × Nat × Nat × OB):Option (Option Nat × OB) :=
 match Yz st x with
 | .nil=>match x.2.2.2 with
   | .ints e k []=>some (none,.ints e k [])
   | .recs e sz []=>bif yV 0 sz then some (none,.recs e sz []) else none
   | _=>none
 | .oref n=>match look st.heap n with
   | some (false,.ints e k l)=>some (some n,.ints e k l)
   | some (false,.recs e sz l)=>some (some n,.recs e sz l)
   | _=>none
 | _=>none
def Aez(st:St):List (Nat × Nat × Nat × OB)->Option (Ev × List Nat)
 | []=>some ([],[])
 | x::xs=>match Akh st x with
   | some (s,ob)=>match Aez st xs with
     | some (h,ns)=>some ((x.2.2.1,false,ob)::h,s.toList++ns)
     | none=>none
   | none=>none
def Oc(b j:Nat):List (Nat × Nat × Nat × OB)->Option Nat
 | []=>none
 | (b',j',nm,_)::xs=>bif zg b b'&&zg j j' then some nm else Oc b j xs
def Ym(objs:List (Nat × Nat × Nat × OB))(b:Nat):Nat->List DV->List DV
 | _,[]=>[]
 | j,d::l=>(match Oc b j objs with | some nm=>.oref nm | none=>d)::Ym objs b (j+1) l
def Wj(objs:List (Nat × Nat × Nat × OB))(boxes:List Nat)(b:Nat):Nat->List DV->Bool
 | _,[]=>true
 | j,d::l=>((Oc b j objs).isSome||Gp 8 boxes d)&&Wj objs boxes b (j+1) l
def Ad3(H:A9):Nat->List DV->List DV
 | _,[]=>[]
 | i,d::l=>(match Oc 0 i H.objs with | some nm=>.oref nm | none=>bif Po i H.keep then d else .undef)::Ad3 H (i+1) l
def Aex(H:A9):Nat->List DV->Bool
 | _,[]=>true
 | i,d::l=>((Oc 0 i H.objs).isSome||(!(Po i H.keep)||Gp 8 H.boxes d))&&Aex H (i+1) l
def Yo(st:St)(H:A9):List Nat->Option Ev
 | []=>some []
 | b::bs=>match look st.heap b with
   | some (f,.box cs)=>bif Wj H.objs H.boxes (b+1) 0 cs then (match Yo st H bs with
     | some h=>some ((b,f,.box (Ym H.objs (b+1) 0 cs))::h)
     | none=>none) else none
   | _=>none
def Ary(H:Option A9)(st:St):Option St :=
 match H with
 | none=>some st
 | some H=>match Yo st H H.boxes,Aez st H.objs with
   | some hb,some (ho,ns)=>bif Pm (H.boxes++H.objs.map (·.2.2.1))&&Pm ns&&Aex H 0 st.tmps then some ⟨Ad3 H 0 st.tmps,hb++ho⟩ else none
   | _,_=>none
def A71:DV->Bool
 | .ints .arg _ _ | .ints .fresh _ _ | .recs .arg _ _ | .recs .fresh _ _=>true
 | _=>false
def A6o(st:St)(H:A9):A9:={ keep:=H.keep,objs:=H.objs.filter fun x=>!(A71 (Yz st x)),boxes:=H.boxes }
def Ayt(h:Ev):DV->DV
 | .oref n=>match look h n with
   | some (true,.ints _ k l)=>.ints .fresh k l
   | some (true,.recs _ sz l)=>.recs .fresh sz l
   | _=>.oref n
 | d=>d
def Apo(st:St):St:=⟨st.tmps.map (Ayt st.heap),st.heap⟩
def canon(H:Option A9)(st:St):Option St :=
 match H with
 | none=>some st
 | some H=>Ary (some (A6o (Apo st) H)) (Apo st)
def Z4{β:Type}(H:Option A9)(body:St->(St->Option β)->(Nat->St->Option β)->(St->Option β)->Option β):Nat->St->(Nat->St->Option β)->(St->Option β)->Option β
 | 0,_,_,_=>none
 | n+1,st,Kx,Kr=>body st (fun st2=>match canon H st2 with | some st3=>Z4 H body n st3 Kx Kr | none=>none) Kx Kr
def iter{β:Type}(H:Option A9)(body:St->(St->Option β)->(Nat->St->Option β)->(St->Option β)->Option β)(n:Nat)(st:St)(Kx:Nat->St->Option β)(Kr:St->Option β):Option β :=
 match canon H st with
 | some st1=>Z4 H body n st1 Kx Kr
 | none=>none
def Ajp{α β:Type}(f:α->β)(x:α):β:=(Classical.choice (⟨⟨f x,rfl⟩⟩:Nonempty { y:β // y=f x })).1
theorem Ahr{α β:Type}(f:α->β)(x:α):Ajp f x=f x:=(Classical.choice (⟨⟨f x,rfl⟩⟩:Nonempty { y:β // y=f x })).2
def Amz{β:Type}(E:Env)(ops:Array Oper)(draw:Bool)(Kn:St->Option β)(st:St):Option β :=bif draw then A1q E ops st Kn else A4l E ops false ops.toList st Kn
def den{β:Type}(E:Env)(fuel:Nat):Nat->Code->St->(St->Option β)->(Nat->St->Option β)->(St->Option β)->Option β
 | _,.skip,st,Kn,_,_=>Kn st
 | _,.label _,st,Kn,_,_=>Kn st
 | _,.region id ops draw,st,Kn,_,_=>match E.live id with
   | none=>Amz E ops draw Kn st
   | some ks=>Ajp (Amz E ops draw Kn) (forget (some ks) st)
 | b,.seq x y,st,Kn,Kx,Kr=>den E fuel b x st (fun st'=>den E fuel b y st' Kn Kx Kr) Kx Kr
 | b,.cond c x y,st,Kn,Kx,Kr=>match Is st.tmps c with
   | .bool t=>bif t then den E fuel b x st Kn Kx Kr else den E fuel b y st Kn Kx Kr
   | _=>none
 | _,.block id c,st,Kn,Kx,Kr=>den E fuel id c st Kn (fun id' st'=>cond (id'==id) (Kn st') (Kx id' st')) Kr
 | b,.loop c,st,_,Kx,Kr=>iter (E.hint b) (den E fuel b c) fuel st Kx Kr
 | b,.scope c,st,Kn,Kx,Kr=>den E fuel b c st Kn Kx Kr
 | _,.exit id,st,_,Kx,_=>Kx id st
 | _,.ret,st,_,_,Kr=>Kr st
 | _,_,_,_,_,_=>none
def H9(h:Ev):Nat->DV->Option (DV × List Nat × List Nat)
 | 0,_=>none
 | f+1,d =>
   let all (l:List DV):Option (List DV × List Nat × List Nat):=l.foldr (fun d acc=>(H9 h f d).bind fun(x,ns,os)=>acc.bind fun(xs,ms,ps)=>some (x::xs,ns++ms,os++ps)) (some ([],[],[]))
   match d with
   | .agg l=>(all l).bind fun(l,ns,os)=>some (.agg l,ns,os)
   | .tup l=>(all l).bind fun(l,ns,os)=>some (.tup l,ns,os)
   | .oref n=>match look h n with
     | some (false,.ints e k l)=>some (.ints (.own n e) k l,[],[n])
     | some (false,.recs e sz l)=>some (.recs (.own n e) sz l,[],[n])
     | some (true,.ints _ k l)=>some (.ints .fresh k l,[],[])
     | some (true,.recs _ sz l)=>some (.recs .fresh sz l,[],[])
     | _=>none
   | .sref n off len=>match look h n with
     | some (_,.ints _ k l)=>some (.ints .fresh k ((l.drop off).take len),[n],[])
     | some (_,.recs _ sz l)=>some (.recs .fresh sz ((l.drop off).take len),[n],[])
     | _=>none
   | .ptr .. | .fn .. | .gd .. | .undef | .cellp _=>none
   | d=>some (d,[],[])
def Aeq(E:Env)(st:St):ResultVar->Option DV
 | .tmp t=>some (st.tmps.getD t .undef)
 | .cell a t=>(E.ty t).bind fun ti=>(Aif st.heap ti (st.tmps.getD a .undef)).bind fun r=>bif r.req then some r.v else none
def X2(E:Env)(st:St):List ResultVar->Option (List DV)
 | []=>some []
 | r::rs=>(Aeq E st r).bind fun d=>(X2 E st rs).bind fun ds=>some (d::ds)
def Az5:List DV->DV
 | [d]=>d
 | ds=>.tup ds
def Agz(E:Env)(fn:Func)(st:St):Option DV :=
 (X2 E st fn.results.toList).bind fun ds =>
  (H9 st.heap 6 (Az5 ds)).bind fun(d,ns,os) =>
   bif ns.all fun n=>!(os.contains n) then some d else none
def Bv(E:Env)(fuel:Nat)(fn:Func)(body:Code)(args:List DV):Option DV :=den E fuel 0 body ⟨args++zp (fn.ntmps-args.length) .undef,[]⟩ (fun st=>Agz E fn st) (fun _ _=>none) (fun st=>Agz E fn st)
def B1(I0:Nat->Prop)(B:Nat)(A:Nat->Option Place)(w:World):Ctx where
 ok:=fun b=>b<w.heap.size/\(I0 b\/B<=b)/\∀n p,A n=some p->p.st=.live->p.H8≠some b
 B:=B
 fr:=true
 own:=fun _=>none
 at_:=A
structure Kd(A:Nat->Option Place)(w:World)(A':Nat->Option Place)(w':World):Prop where
 size:w.heap.size<=w'.heap.size
 names:∀n p,A n=some p->∃q,A' n=some q/\(q.st=.dead\/(p.st≠.dead/\q.kind=p.kind))
 live:∀n p b,A' n=some p->p.st=.live->p.H8=some b->b<w.heap.size->∃m q,A m=some q/\q.st=.live/\q.H8=some b
 kept:∀b,b<w.heap.size->(∀n p,A n=some p->p.st=.live->p.H8≠some b)->w'.heap[b]?=w.heap[b]?
theorem Kd.Em{I0:Nat->Prop}{B:Nat}{A A':Nat->Option Place}{w w':World}(h:Kd A w A' w') :
 Pg (B1 I0 B A w) w (B1 I0 B A' w') w' where
 ok:=fun b ⟨h1,h2,h3⟩=>⟨Bf0 h1 h.size,h2,fun n p hp hl hb=>by obtain⟨m,q,hm,hql,hqb⟩:=h.live n p b hp hl hb h1;exact h3 m q hm hql hqb⟩
 B:=rfl
 fr:=rfl
 own:=fun _ _ h=>by cases h
 at_:=h.names
 cell:=fun b o ⟨h1,_,h3⟩=>World.cell?_of_block (h.kept b h1 h3)
 ownc:=fun _ _ h=>by cases h
theorem Kd.refl(A:Nat->Option Place)(w:World):Kd A w A w :=⟨Bfj _,fun n p h=>⟨p,h,by by_cases hp:p.st=.dead; exact .inl hp; exact .inr ⟨hp,rfl⟩⟩,fun n p b h hl hb _=>⟨n,p,h,hl,hb⟩,fun _ _ _=>rfl⟩
def D6(c:Ctx)(w:World)(p:Place):Bool × OB->Prop
 | (_,.dead)=>p.st=.dead
 | (fz,.box cs)=>p.st=(if fz then .frozen else .live)/\∃b e cells,p.kind=.box b/\w.heap[b]?=some (.cells cells e (0,0))/\Bh c w cs cells.toList
 | (fz,.ints e k l)=>p.st=(if fz then .frozen else .live)/\∃sv,p.kind=.row sv 1/\w.ownsRow c.B e 1 sv l.length (l.map (Value.int k))
 | (fz,.recs e sz l)=>p.st=(if fz then .frozen else .live)/\0<sz/\∃sv rows,p.kind=.row sv sz/\D5 c.bare w l rows/\(∀r∈rows,r.length=sz/\∀u∈r,u.oneCell'=true)/\w.ownsRow c.B e sz sv l.length rows.flatten
structure Mem(I0:Nat->Prop)(B:Nat)(A:Nat->Option Place)(h:Ev)(w:World):Prop where
 hB:B<=w.heap.size
 I0lt:∀b,I0 b->b<B
 obj:∀n p fo,A n=some p->look h n=some fo->D6 (B1 I0 B A w) w p fo
 blkB:∀n p b,A n=some p->p.st≠.dead->p.H8=some b->B<=b/\b<w.heap.size
 inj:∀n m p q b,A n=some p->A m=some q->p.st≠.dead->q.st≠.dead->p.H8=some b->q.H8=some b->n=m
theorem D6.Em{c c':Ctx}{w w':World}(h:Pg c w c' w'){p q:Place}(hst:q.st=p.st)(hk:q.kind=p.kind)(hb:∀b,p.H8=some b->w'.heap[b]?=w.heap[b]?) :
 ∀(fo:Bool × OB),D6 c w p fo->D6 c' w' q fo
 | (fz,.dead),hr=>by unfold D6 at *; rw[hst]; exact hr
 | (fz,.box cs),hr=>by
   unfold D6 at *
   obtain⟨h1,b,e,cells,hk',hh,hl⟩:=hr;refine⟨by rw[hst]; exact h1,b,e,cells,hk.trans hk',?_,Bh.Em h _ _ hl⟩;rw[hb b (by unfold Place.H8; rw[hk'])];exact hh
 | (fz,.ints e k l),hr=>by
   unfold D6 at *
   obtain⟨h1,sv,hk',ho⟩:=hr;refine⟨by rw[hst]; exact h1,sv,hk.trans hk',?_⟩;rw[h.B];exact Lb ho fun b hb'=>hb b (by unfold Place.H8; rw[hk']; exact hb')
 | (fz,.recs e sz l),hr=>by
   unfold D6 at *
   obtain⟨h1,hsz,sv,rows,hk',hrr,hlen,ho⟩:=hr;refine⟨by rw[hst]; exact h1,hsz,sv,rows,hk.trans hk',D5.Em h.bare _ _ hrr,hlen,?_⟩;rw[h.B];exact Lb ho fun b hb'=>hb b (by unfold Place.H8; rw[hk']; exact hb')
theorem Bh.Im{c:Ctx}{w:World}{vs:List Value}:Bh c w [] vs↔vs=[]:=by simp[Bh]
theorem Bh.Df{c:Ctx}{w:World}{d:DV}{ds:List DV}{vs:List Value}:Bh c w (d::ds) vs↔∃u us,vs=u::us/\Au c w d u/\Bh c w ds us:=by simp[Bh]
theorem Bh.length{c:Ctx}{w:World}:∀{ds:List DV} {vs:List Value},Bh c w ds vs->ds.length=vs.length
 | [],vs,h=>by rw[Bh.Im] at h; subst h; rfl
 | d::ds,vs,h=>by rw[Bh.Df] at h;obtain⟨u,us,rfl,_,h2⟩:=h;simp[Bh.length h2]
theorem Bh.get{c:Ctx}{w:World}:∀{ds:List DV} {vs:List Value},Bh c w ds vs->∀(i:Nat) d,ds[i]?=some d->∃v,vs[i]?=some v/\Au c w d v
 | [],vs,h,i,d,hd=>by simp at hd
 | d::ds,vs,h,i,d',hd=>by
   rw[Bh.Df] at h;obtain⟨u,us,rfl,h1,h2⟩:=h;cases i with
   | zero=>simp at hd; subst hd; exact⟨u,by simp,h1⟩
   | succ i=>simp at hd; obtain⟨v,hv,hr⟩:=Bh.get h2 i d' hd; exact⟨v,by simpa using hv,hr⟩
theorem Bh.Pl{c:Ctx}{w:World}:∀{ds:List DV} {vs:List Value},ds.length=vs.length->(∀(i:Nat) d v,ds[i]?=some d->vs[i]?=some v->Au c w d v)->Bh c w ds vs
 | [],vs,hl,_=>by rw[Bh.Im]; exact Bfq (by simpa using hl.symm)
 | d::ds,[],hl,_=>by simp at hl
 | d::ds,v::vs,hl,h=>by rw[Bh.Df];exact⟨v,vs,rfl,h 0 d v (by simp) (by simp),Bh.Pl (by simpa using hl) fun i d' v' h1 h2=>h (i+1) d' v' (by simpa using h1) (by simpa using h2)⟩
theorem Bh.append{c:Ctx}{w:World}:∀{ds ds':List DV} {vs vs':List Value},Bh c w ds vs->Bh c w ds' vs'->Bh c w (ds++ds') (vs++vs')
 | [],ds',vs,vs',h,h'=>by rw[Bh.Im] at h; subst h; simpa using h'
 | d::ds,ds',vs,vs',h,h'=>by rw[Bh.Df] at h;obtain⟨u,us,rfl,h1,h2⟩:=h;simp only[xF];rw[Bh.Df];exact⟨u,us++vs',rfl,h1,Bh.append h2 h'⟩
theorem Bh.drop{c:Ctx}{w:World}{ds:List DV}{vs:List Value}(h:Bh c w ds vs)(n:Nat):Bh c w (ds.drop n) (vs.drop n):=by
 refine Bh.Pl (by simp[h.length]) fun i d v h1 h2=>?_
 rw[yM] at h1 h2;obtain⟨v',hv',hr⟩:=h.get _ _ h1;rw[hv'] at h2; cases h2; exact hr
theorem Bh.take{c:Ctx}{w:World}{ds:List DV}{vs:List Value}(h:Bh c w ds vs)(n:Nat):Bh c w (ds.take n) (vs.take n):=by
 refine Bh.Pl (by simp[h.length]) fun i d v h1 h2=>?_
 have hi:i<n:=by
  rcases Bfm i n with h' | h'
  ·exact h'
  ·rw[y9 h'] at h1; cases h1
 rw[yW hi] at h1 h2;obtain⟨v',hv',hr⟩:=h.get _ _ h1;rw[hv'] at h2; cases h2; exact hr
theorem Bh.set{c:Ctx}{w:World}{ds:List DV}{vs:List Value}(h:Bh c w ds vs)(n:Nat){d:DV}{v:Value}(hd:Au c w d v):Bh c w (ds.set n d) (vs.set n v):=by
 refine Bh.Pl (by simp[h.length]) fun i d' v' h1 h2=>?_
 rw[wI] at h1 h2;rw[h.length] at h1;split at h1
 ·rename_i hi;subst hi;split at h1
  ·rename_i hlt;simp only[if_true,hlt] at h2;cases h1; cases h2; exact hd
  ·cases h1
 ·rename_i hi;simp only[hi,if_false] at h2;obtain⟨v'',hv',hr⟩:=h.get _ _ h1;rw[hv'] at h2; cases h2; exact hr
theorem Bh.getD{c:Ctx}{w:World}{ds:List DV}{vs:List Value}(h:Bh c w ds vs)(i:Nat)(hi:i<ds.length):∃v,vs[i]?=some v/\Au c w (ds.getD i .undef) v:=by have:ds[i]?=some ds[i]:=Be6 hi;obtain⟨v,hv,hr⟩:=h.get i _ this;exact⟨v,hv,by simpa[getD,this] using hr⟩
theorem D5.length{c:Ctx}{w:World}:∀{ds:List (List DV)} {rs:List (List Value)},D5 c w ds rs->ds.length=rs.length
 | [],rs,h=>by simp only[D5] at h; subst h; rfl
 | d::ds,rs,h=>by simp only[D5] at h;obtain⟨u,us,rfl,_,h2⟩:=h;simp[D5.length h2]
theorem D5.get{c:Ctx}{w:World}:∀{ds:List (List DV)} {rs:List (List Value)},D5 c w ds rs->∀(i:Nat) d,ds[i]?=some d->∃r,rs[i]?=some r/\Bh c w d r
 | [],vs,h,i,d,hd=>by simp at hd
 | d::ds,vs,h,i,d',hd=>by
   simp only[D5] at h;obtain⟨u,us,rfl,h1,h2⟩:=h;cases i with
   | zero=>simp at hd; subst hd; exact⟨u,by simp,h1⟩
   | succ i=>simp at hd; obtain⟨v,hv,hr⟩:=D5.get h2 i d' hd; exact⟨v,by simpa using hv,hr⟩
theorem D5.Pl{c:Ctx}{w:World}:∀{ds:List (List DV)} {rs:List (List Value)},ds.length=rs.length->(∀(i:Nat) d r,ds[i]?=some d->rs[i]?=some r->Bh c w d r)->D5 c w ds rs
 | [],vs,hl,_=>by simp only[D5]; exact Bfq (by simpa using hl.symm)
 | d::ds,[],hl,_=>by simp at hl
 | d::ds,v::vs,hl,h=>by simp only[D5];exact⟨v,vs,rfl,h 0 d v (by simp) (by simp),D5.Pl (by simpa using hl) fun i d' v' h1 h2=>h (i+1) d' v' (by simpa using h1) (by simpa using h2)⟩
theorem D5.append{c:Ctx}{w:World}:∀{ds ds':List (List DV)} {rs rs':List (List Value)},D5 c w ds rs->D5 c w ds' rs'->D5 c w (ds++ds') (rs++rs')
 | [],ds',vs,vs',h,h'=>by simp only[D5] at h; subst h; simpa using h'
 | d::ds,ds',vs,vs',h,h'=>by simp only[D5] at h;obtain⟨u,us,rfl,h1,h2⟩:=h;simp only[xF,D5];exact⟨u,us++vs',rfl,h1,D5.append h2 h'⟩
theorem D5.drop{c:Ctx}{w:World}{ds:List (List DV)}{vs:List (List Value)}(h:D5 c w ds vs)(n:Nat):D5 c w (ds.drop n) (vs.drop n):=by
 refine D5.Pl (by simp[h.length]) fun i d v h1 h2=>?_
 rw[yM] at h1 h2;obtain⟨v',hv',hr⟩:=h.get _ _ h1;rw[hv'] at h2; cases h2; exact hr
theorem D5.take{c:Ctx}{w:World}{ds:List (List DV)}{vs:List (List Value)}(h:D5 c w ds vs)(n:Nat):D5 c w (ds.take n) (vs.take n):=by
 refine D5.Pl (by simp[h.length]) fun i d v h1 h2=>?_
 have hi:i<n:=by
  rcases Bfm i n with h' | h'
  ·exact h'
  ·rw[y9 h'] at h1; cases h1
 rw[yW hi] at h1 h2;obtain⟨v',hv',hr⟩:=h.get _ _ h1;rw[hv'] at h2; cases h2; exact hr
theorem D5.set{c:Ctx}{w:World}{ds:List (List DV)}{vs:List (List Value)}(h:D5 c w ds vs)(n:Nat){d:List DV}{v:List Value}(hd:Bh c w d v):D5 c w (ds.set n d) (vs.set n v):=by
 refine D5.Pl (by simp[h.length]) fun i d' v' h1 h2=>?_
 rw[wI] at h1 h2;rw[h.length] at h1;split at h1
 ·rename_i hi;subst hi;split at h1
  ·rename_i hlt;simp only[if_true,hlt] at h2;cases h1; cases h2; exact hd
  ·cases h1
 ·rename_i hi;simp only[hi,if_false] at h2;obtain⟨v'',hv',hr⟩:=h.get _ _ h1;rw[hv'] at h2; cases h2; exact hr
theorem R1{α:Type}{sz:Nat}:∀{rows:List (List α)},(∀r∈rows,r.length=sz)->∀(i:Nat) r,rows[i]?=some r->∀(j:Nat) u,r[j]?=some u->rows.flatten[i*sz+j]?=some u
 | [],_,i,r,h,_,_,_=>by simp at h
 | r0::rows,hl,i,r,h,j,u,hu=>by
   have h0:r0.length=sz:=hl r0 (by simp);cases i with
   | zero =>simp at h; subst h;have hj:j<r0.length:=(List.getElem?_eq_some_iff.1 hu).1;simp only[yN,Nat.zero_mul,Bfz];rw[List.getElem?_append_left hj]; exact hu
   | succ i =>simp at h;have:=R1 (rows:=rows) (fun r hr=>hl r (by simp[hr])) i r h j u hu;simp only[yN];rw[Bf3 (by rw[h0,yj]; omega)];rw[<- this]; congr 1; rw[h0,yj]; omega
theorem Nw{α:Type}{sz:Nat}:∀{rows:List (List α)},(∀r∈rows,r.length=sz)->rows.flatten.length=rows.length*sz
 | [],_=>by simp
 | r0::rows,hl=>by simp only[yN,Bfh,List.length_cons];rw[Nw (rows:=rows) (fun r hr=>hl r (by simp[hr])),hl r0 (by simp),yj]; omega
def Alm(zs:List DV)(vs:List Value):Prop:=∀(c:Ctx) (w:World),Bh c w zs vs
def Dd(P:Program)(t:TypeId):TK->Prop
 | .slice e=>P.underlying t=some (.slice e)
 | .array n e=>P.underlying t=some (.array n e)
 | .struct fs=>∃gs:Array Field,P.underlying t=some (.struct gs)/\(gs.toList.map fun f=>(f.offset,f.type))=fs
 | .int k=>P.underlying t=some (.int k)
 | .fl=>P.underlying t=some (.float .f64)
 | .bool=>P.underlying t=some .bool
 | _=>∃d,P.underlying t=some d/\(∀gs,d≠.struct gs)/\∀n e,d≠.array n e
structure Cz(P:Program)(t:TypeId)(ti:TI):Prop where
 info:∃i z,P.info? t=some i/\i.size=ti.size/\i.bytes=ti.bytes/\i.zero=some z/\Alm ti.zero z.cells.toList/\z.cells.size=ti.size/\(∀u∈z.cells.toList,u.oneCell'=true)
 desc:Dd P t ti.kind
section
variable{P:Program}{t:TypeId}{ti:TI}(w:World)
theorem Cz.Kk(h:Cz P t ti):(sizeOf t).run P w=.ok ti.size w:=by obtain⟨i,z,hi,hs,_⟩:=h.info;simp[sizeOf,typeInfo,hi,hs]
theorem Cz.Aen(h:Cz P t ti):∃z,(zeroValue t).run P w=.ok z w/\Alm ti.zero z.cells.toList/\z.cells.size=ti.size/\(∀u∈z.cells.toList,u.oneCell'=true):=by obtain⟨i,z,hi,hs,_,hz,h1,h2,h3⟩:=h.info;exact⟨z,by simp[zeroValue,typeInfo,hi,hz],h1,h2,h3⟩
theorem Cz.Y9(h:Cz P t ti):(isAgg t).run P w=.ok ti.agg w:=by
 have hd:=h.desc;unfold TI.agg;cases hk:ti.kind with
 | slice e=>rw[hk] at hd; simp only[Dd] at hd; simp[isAgg,run_underlying hd]
 | array n e=>rw[hk] at hd; simp only[Dd] at hd; simp[isAgg,run_underlying hd]
 | struct fs=>rw[hk] at hd; simp only[Dd] at hd; obtain⟨gs,hg,_⟩:=hd; simp[isAgg,run_underlying hg]
 | int k=>rw[hk] at hd; simp only[Dd] at hd; simp[isAgg,run_underlying hd]
 | fl=>rw[hk] at hd; simp only[Dd] at hd; simp[isAgg,run_underlying hd]
 | bool=>rw[hk] at hd; simp only[Dd] at hd; simp[isAgg,run_underlying hd]
 | ptr=>rw[hk] at hd; simp only[Dd] at hd; obtain⟨d,hu,h1,h2⟩:=hd; cases d<;>first | (simp[isAgg,run_underlying hu]; done) | (exact absurd rfl (h1 _)) | (exact absurd rfl (h2 _ _))
 | func=>rw[hk] at hd; simp only[Dd] at hd; obtain⟨d,hu,h1,h2⟩:=hd; cases d<;>first | (simp[isAgg,run_underlying hu]; done) | (exact absurd rfl (h1 _)) | (exact absurd rfl (h2 _ _))
 | other=>rw[hk] at hd; simp only[Dd] at hd; obtain⟨d,hu,h1,h2⟩:=hd; cases d<;>first | (simp[isAgg,run_underlying hu]; done) | (exact absurd rfl (h1 _)) | (exact absurd rfl (h2 _ _))
end
theorem Ur.refl(n:Nat):Ur n n:=.inl rfl
theorem Fx{n:Nat}(h:Hl n=true):∃s f,Ieee.double.read n=.nan s f:=by
 unfold Hl Ieee.Datum.isNaN at h;cases hr:Ieee.double.read n with
 | nan s f=>exact⟨s,f,rfl⟩
 | number=>rw[hr] at h; cases h
 | infinity=>rw[hr] at h; cases h
theorem Ur.add{a b x y:Nat}(h1:Ur a x)(h2:Ur b y):Ieee.double.add x y=Ieee.double.add a b:=by
 rcases h1 with rfl | ⟨h1,h1'⟩
 ·rcases h2 with rfl | ⟨h2,h2'⟩
  ·rfl
  ·obtain⟨s,f,e⟩:=Fx h2; obtain⟨s',f',e'⟩:=Fx h2';unfold Ieee.Format.add; rw[e,e']; cases Ieee.double.read a<;>rfl
 ·obtain⟨s,f,e⟩:=Fx h1; obtain⟨s',f',e'⟩:=Fx h1';unfold Ieee.Format.add; rw[e,e']; rfl
theorem Ur.sub{a b x y:Nat}(h1:Ur a x)(h2:Ur b y):Ieee.double.sub x y=Ieee.double.sub a b:=by
 rcases h1 with rfl | ⟨h1,h1'⟩
 ·rcases h2 with rfl | ⟨h2,h2'⟩
  ·rfl
  ·obtain⟨s,f,e⟩:=Fx h2; obtain⟨s',f',e'⟩:=Fx h2';unfold Ieee.Format.sub; rw[e,e']; cases Ieee.double.read a<;>rfl
 ·obtain⟨s,f,e⟩:=Fx h1; obtain⟨s',f',e'⟩:=Fx h1';unfold Ieee.Format.sub; rw[e,e']; rfl
theorem Ur.mul{a b x y:Nat}(h1:Ur a x)(h2:Ur b y):Ieee.double.mul x y=Ieee.double.mul a b:=by
 rcases h1 with rfl | ⟨h1,h1'⟩
 ·rcases h2 with rfl | ⟨h2,h2'⟩
  ·rfl
  ·obtain⟨s,f,e⟩:=Fx h2; obtain⟨s',f',e'⟩:=Fx h2';unfold Ieee.Format.mul; rw[e,e']; cases Ieee.double.read a<;>rfl
 ·obtain⟨s,f,e⟩:=Fx h1; obtain⟨s',f',e'⟩:=Fx h1';unfold Ieee.Format.mul; rw[e,e']; rfl
theorem Ur.div{a b x y:Nat}(h1:Ur a x)(h2:Ur b y):Ieee.double.div x y=Ieee.double.div a b:=by
 rcases h1 with rfl | ⟨h1,h1'⟩
 ·rcases h2 with rfl | ⟨h2,h2'⟩
  ·rfl
  ·obtain⟨s,f,e⟩:=Fx h2; obtain⟨s',f',e'⟩:=Fx h2';unfold Ieee.Format.div; rw[e,e']; cases Ieee.double.read a<;>rfl
 ·obtain⟨s,f,e⟩:=Fx h1; obtain⟨s',f',e'⟩:=Fx h1';unfold Ieee.Format.div; rw[e,e']; rfl
theorem Ur.sqrt{a x:Nat}(h1:Ur a x):Ieee.double.sqrt x=Ieee.double.sqrt a:=by
 rcases h1 with rfl | ⟨h1,h1'⟩
 ·rfl
 ·obtain⟨s,f,e⟩:=Fx h1; obtain⟨s',f',e'⟩:=Fx h1';unfold Ieee.Format.sqrt; rw[e,e']; rfl
theorem Ur.order{a b x y:Nat}(h1:Ur a x)(h2:Ur b y):Ieee.double.order x y=Ieee.double.order a b:=by
 rcases h1 with rfl | ⟨h1,h1'⟩
 ·rcases h2 with rfl | ⟨h2,h2'⟩
  ·rfl
  ·obtain⟨s,f,e⟩:=Fx h2; obtain⟨s',f',e'⟩:=Fx h2';unfold Ieee.Format.order; rw[e,e']; cases Ieee.double.read a<;>rfl
 ·obtain⟨s,f,e⟩:=Fx h1; obtain⟨s',f',e'⟩:=Fx h1';unfold Ieee.Format.order; rw[e,e']; rfl
theorem A0g(r q:Nat)(hr:r<4503599627370495)(_hq:q<2):Hl (q*9223372036854775808+9218868437227405312+1+r)=true:=by
 have hsw:Ieee.double.signWeight=9223372036854775808:=by decide +kernel
 have hb:Ieee.double.binade=4503599627370496:=by decide +kernel
 have hi:Ieee.double.infRung=9218868437227405312:=by decide +kernel
 unfold Hl Ieee.Format.read;rw[hsw,hb,hi];have hm:(q*9223372036854775808+9218868437227405312+1+r)%9223372036854775808=9218868437227405313+r:=by omega
 simp only[hm];rw[Bfb (by omega),Bfb (by omega),Bfb (by omega)];rfl
theorem Atk(x y t:Nat):Hl ((Question.nanBits .f64 x y).cut t)=true:=by
 have e63:(2:Nat)^63=9223372036854775808:=by decide +kernel
 have e52:(2:Nat)^52-1=4503599627370495:=by decide +kernel
 have h:(Question.nanBits .f64 x y).cut t=(t%2)*9223372036854775808+9218868437227405312+1+(t / 2)%4503599627370495:=by unfold Question.cut;rw[e63,e52]
 rw[h];exact A0g _ _ (zv _ (by omega)) (zv _ (by omega))
theorem Xk:Hl nanBits=true:=by decide +kernel
def Ai8(w w':World):Prop:=w'=w\/w'=w.drew
theorem Aeo{P:Program}(w:World)(op:BinOp)(x y a b:Nat)(r:R)(hx:Ur a x)(hy:Ur b y)(hop:op=.add\/op=.sub\/op=.mul\/op=.quo)(h:Aaf op a b=some r) :
 ∃m w',(Op.floatArith op .f64 x y).run P w=.ok (.float .f64 m) w'/\Ai8 w w'/\∃n,r.v=.fl n/\Ur n m:=by
 have key:∀(res:Option Nat) (nm:Nat),res=none\/(∃k,res=some k)->∃m w',((match res with
  | some r=>pure (.float .f64 r)
  | none=>do pure (.float .f64 (<- choose (.nanBits .f64 x y))):Sem Value)).run P w=.ok (.float .f64 m) w'/\Ai8 w w'/\Ur (res.getD nanBits) m:=by
  intro res nm hres;rcases hres with rfl | ⟨k,rfl⟩
  ·refine⟨(Question.nanBits .f64 x y).cut (w.tape w.drawn (.nanBits .f64 x y)),w.drew,?_,.inr rfl,.inr ⟨Xk,Atk x y _⟩⟩;simp only[Sem.run_bind,run_choose,Question.forced,Result.andThen_ok,Sem.run_pure,Bool.false_eq_true,if_false];rfl
  ·exact⟨k,w,rfl,.inl rfl,.inl rfl⟩
 have hcase:∀res:Option Nat,res=none\/∃k,res=some k:=fun res=>by cases res; exact .inl rfl; exact .inr ⟨_,rfl⟩
 rcases hop with rfl | rfl | rfl | rfl
 ·simp only[Aaf,Bes] at h; subst h;obtain⟨m,w',h1,h2,h3⟩:=key (Ieee.double.add a b) 0 (hcase _);refine⟨m,w',?_,h2,_,rfl,h3⟩;have e:FloatKind.f64.format.add x y=Ieee.double.add a b:=Ur.add hx hy;simp only[Op.floatArith,e,Sem.run_bind,Sem.run_pure,Result.andThen_ok]; exact h1
 ·simp only[Aaf,Bes] at h; subst h;obtain⟨m,w',h1,h2,h3⟩:=key (Ieee.double.sub a b) 0 (hcase _);refine⟨m,w',?_,h2,_,rfl,h3⟩;have e:FloatKind.f64.format.sub x y=Ieee.double.sub a b:=Ur.sub hx hy;simp only[Op.floatArith,e,Sem.run_bind,Sem.run_pure,Result.andThen_ok]; exact h1
 ·simp only[Aaf,Bes] at h; subst h;obtain⟨m,w',h1,h2,h3⟩:=key (Ieee.double.mul a b) 0 (hcase _);refine⟨m,w',?_,h2,_,rfl,h3⟩;have e:FloatKind.f64.format.mul x y=Ieee.double.mul a b:=Ur.mul hx hy;simp only[Op.floatArith,e,Sem.run_bind,Sem.run_pure,Result.andThen_ok]; exact h1
 ·simp only[Aaf,Bes] at h; subst h;obtain⟨m,w',h1,h2,h3⟩:=key (Ieee.double.div a b) 0 (hcase _);refine⟨m,w',?_,h2,_,rfl,h3⟩;have e:FloatKind.f64.format.div x y=Ieee.double.div a b:=Ur.div hx hy;simp only[Op.floatArith,e,Sem.run_bind,Sem.run_pure,Result.andThen_ok]; exact h1
set_option linter.unusedSimpArgs false
def Any(d:DV)(v:Value):Prop:=∀(c:Ctx) (w:World),Au c w d v
theorem Any.bool(b:Bool):Any (.bool b) (.bool b):=fun _ _=>by simp[Au]
theorem Any.int(k:IntKind)(n:Int):Any (.int k n) (.int k n):=fun _ _=>by simp[Au]
theorem Any.fl{n m:Nat}(h:Ur n m):Any (.fl n) (.float .f64 m):=fun _ _=>by simp only[Au]; exact⟨m,rfl,h⟩
theorem Ai3{P:Program}(w:World){op:BinOp}{t:TypeId}{k:IntKind}{x y:Int}{r:R}(hop:op≠.shl/\op≠.shr)(h:T4 op k x y=some r)(hr:r.req=true) :
 ∃v,(binOp op t (.int k x) (.int k y)).run P w=.ok v w/\Any r.v v:=by
 obtain⟨h1,h2⟩:=hop;cases op
 case add | sub | mul =>simp only[T4,Bes] at h; subst h;refine⟨_,?_,Any.int _ _⟩;simp[binOp,Op.intArith]
 case quo | rem =>simp only[T4,Bes] at h; subst h;simp only[bne_iff_ne,ne_eq] at hr;refine⟨_,?_,Any.int _ _⟩;simp only[binOp,Op.intDiv,ne_eq,not_true_eq_false,if_false,Bfb hr,Sem.run_pure]
 case and | or | xor | andNot =>simp only[T4,Bes] at h; subst h;refine⟨_,?_,Any.int _ _⟩;simp only[binOp,Op.intBits,ne_eq,not_true_eq_false,if_false,Sem.run_pure]
 case eql | neq =>simp only[T4,Bes] at h; subst h;refine⟨_,?_,Any.bool _⟩;simp only[binOp,Op.intCmp,ne_eq,not_true_eq_false,if_false,Sem.run_pure]
 case lss | gtr =>simp only[T4,Bes] at h; subst h;refine⟨_,?_,Any.bool _⟩;simp only[binOp,Op.intCmp,ne_eq,not_true_eq_false,if_false,Sem.run_pure];rw[As]
 case leq | geq =>simp only[T4,Bes] at h; subst h;refine⟨_,?_,Any.bool _⟩;simp only[binOp,Op.intCmp,ne_eq,not_true_eq_false,if_false,Sem.run_pure];rw[Fs]
 case shl=>exact absurd rfl h1
 case shr=>exact absurd rfl h2
theorem A2a{P:Program}(w:World){op:BinOp}{t:TypeId}{a b x y:Nat}{r:R}(hx:Ur a x)(hy:Ur b y)(h:Aaf op a b=some r) :
 ∃v w',(binOp op t (.float .f64 x) (.float .f64 y)).run P w=.ok v w'/\Ai8 w w'/\Any r.v v:=by
 have ho:FloatKind.f64.format.order x y=Ieee.double.order a b:=Ur.order hx hy;cases op
 case add | sub | mul | quo =>obtain⟨m,w',h1,h2,n,h3,h4⟩:=Aeo (P:=P) w _ x y a b r hx hy (by simp) h;exact⟨_,w',by simpa[binOp] using h1,h2,by rw[h3]; exact Any.fl h4⟩
 case eql | neq | lss | leq | gtr | geq =>simp only[Aaf,Bes] at h; subst h;exact⟨_,w,by simp[binOp,Op.floatCmp,ho],.inl rfl,Any.bool _⟩
 all_goals simp[Aaf] at h
structure Asa(P:Program)(t:TypeId)(ti:TI):Prop where
 guard:P.eqGuardType P.depth t=false
 eq:∀(w:World) (c:Ctx) (x y:List DV) (xs ys:Array Value),sameShape ti.zero x=true->sameShape ti.zero y=true->Bh c w x xs.toList->Bh c w y ys.toList ->
  (Op.equal t (.agg xs) (.agg ys)).run P w=.ok (Aoh x y) w
theorem Ail(n:Nat):Hl (n%9223372036854775808)=Hl n:=by unfold Hl Ieee.Format.read;have e0:Ieee.double.signWeight=9223372036854775808:=rfl;dsimp only;rw[e0,Nat.mod_mod];split<;>(try split)<;>(try split)<;>rfl
theorem Bba(m:Nat):(zj 64 (m:Int) &&& ~~~(zj 64 9223372036854775808)).toNat=m%9223372036854775808:=by
 have e1 : ~~~(zj 64 9223372036854775808)=BitVec.ofNat 64 (2^63-1):=by decide
 rw[e1,BitVec.toNat_and,BitVec.toNat_ofNat,BitVec.toNat_ofInt];have e2:(((m:Int)%((2^64:Nat):Int)).toNat)=m%2^64:=by omega
 rw[e2,show(2^63-1)%2^64=2^63-1 from rfl,Nat.and_two_pow_sub_one_eq_mod];omega
theorem Ua(m:Nat):IntKind.u64.wrap ((zj IntKind.u64.bits (m:Int) &&& ~~~(zj IntKind.u64.bits 9223372036854775808)).toNat:Int)=((m%9223372036854775808:Nat):Int):=by have e:(zj IntKind.u64.bits (m:Int) &&& ~~~(zj IntKind.u64.bits 9223372036854775808)).toNat=m%9223372036854775808:=Bba m;rw[e];unfold IntKind.wrap;simp[IntKind.bits,IntKind.signed];omega
theorem A52{P:Program}{E:Env}(hty:∀t ti,E.ty t=some ti->Cz P t ti)(heq:∀t ti,E.eqs t=true->E.ty t=some ti->Asa P t ti)
 (w:World) {c:Ctx} {op:BinOp} {t:TypeId} {x y:Operand} {a b:DV} {va vb:Value} {r:R} (ha:Au c w a va) (hb:Au c w b vb)
 (h:A53 E op t a b=some r) (hr:r.req=true) :
 ∃v w',((do eqGuard op t x y va vb; binOp op t va vb:Sem Value)).run P w=.ok v w'/\Ai8 w w'/\Any r.v v:=by
 have pre:∀(va vb:Value),(∀xs,va≠.agg xs)->(va≠.nilIface)->(eqGuard op t x y va vb).run P w=.ok () w:=by intro va vb h1 h2;cases op<;>(simp only[eqGuard]; first | rfl | (cases va<;>first | rfl | exact absurd rfl (h1 _) | exact absurd rfl h2))
 cases a<;>cases b<;>simp only[A53,reduceCtorEq] at h
 case int.int k x' k' y' =>
  simp only[Au] at ha hb;subst ha; subst hb;have hp:=pre (.int k x') (.int k' y') (by simp) (by simp);by_cases h1:op=.shl
  ·subst h1;simp only[Bes] at h; subst h;simp only[Bew] at hr;exact⟨_,w,by simp only[Sem.run_bind,hp,Result.andThen_ok,binOp,Op.shift,Sem.run_ite]; rw[Bfb (by omega)]; rfl,.inl rfl,Any.int _ _⟩
  ·by_cases h2:op=.shr
   ·subst h2;simp only[Bes] at h; subst h;simp only[Bew] at hr;exact⟨_,w,by simp only[Sem.run_bind,hp,Result.andThen_ok,binOp,Op.shift,Sem.run_ite]; rw[Bfb (by omega)]; rfl,.inl rfl,Any.int _ _⟩
   ·have h':(cond (decide (k=k')) (T4 op k x' y') none)=some r:=by cases op<;>first | exact h | exact absurd rfl h1 | exact absurd rfl h2
    by_cases hk:k=k'
    ·subst hk;simp only[decide_true,Bep] at h';obtain⟨v,hv,ho⟩:=Ai3 (P:=P) w (t:=t) ⟨h1,h2⟩ h' hr;exact⟨v,w,by simp only[Sem.run_bind,hp,Result.andThen_ok]; exact hv,.inl rfl,ho⟩
    ·simp[hk] at h'
 case fl.fl x' y' =>simp only[Au] at ha hb;obtain⟨m1,rfl,f1⟩:=ha;obtain⟨m2,rfl,f2⟩:=hb;have hp:=pre (.float .f64 m1) (.float .f64 m2) (by simp) (by simp);obtain⟨v,w',hv,hd,ho⟩:=A2a (P:=P) w (t:=t) f1 f2 h;exact⟨v,w',by simp only[Sem.run_bind,hp,Result.andThen_ok]; exact hv,hd,ho⟩
 case nb.int x' k' y' =>
  cases op<;>simp only[reduceCtorEq] at h;by_cases hk:k'=.u64/\y'=9223372036854775808
  ·obtain⟨rfl,rfl⟩:=hk;simp only[decide_true,Bev,Bep,Bes] at h; subst h;simp only[Au] at ha hb;obtain⟨m,rfl,f⟩:=ha;subst hb;have hp:=pre (.int .u64 (m:Int)) (.int .u64 9223372036854775808) (by simp) (by simp);obtain⟨v,hv,ho⟩:=Ai3 (P:=P) w (op:=.andNot) (t:=t) (k:=.u64) (x:=(m:Int)) (y:=9223372036854775808) ⟨by simp,by simp⟩ rfl rfl;refine⟨v,w,by simp only[Sem.run_bind,hp,Result.andThen_ok]; exact hv,.inl rfl,fun c w=>?_⟩;have ho:=ho c w;simp only[Au] at ho ⊢;refine⟨m%9223372036854775808,?_,?_⟩
   ·rw[ho,Ua m]
   ·rcases f with rfl | ⟨f1,f2⟩
    ·exact .inl rfl
    ·exact .inr ⟨by rw[Ail]; exact f1,by rw[Ail]; exact f2⟩
  ·have:(decide (k'=IntKind.u64)&&decide (y'=9223372036854775808))=false:=by rw[Bool.eq_false_iff]; intro hh; rw[Be0,Bew,Bew] at hh; exact hk hh
   rw[this] at h; cases h
 case bool.bool x' y' =>
  simp only[Au] at ha hb;subst ha; subst hb;have hp:=pre (.bool x') (.bool y') (by simp) (by simp);split at h
  ·rename_i hT;have hd:=(hty _ _ hT).desc;simp only[Dd] at hd
   have he:(Op.equal t (.bool x') (.bool y')).run P w=.ok (x'==y') w:=by show(Op.equalIn (9999+1) t (.bool x') (.bool y')).run P w=_;exact run_equalIn_bool' w 9999 t x' y' hd
   cases op<;>simp only[Bes,reduceCtorEq] at h
   all_goals subst h
   all_goals
    refine⟨_,w,?_,.inl rfl,Any.bool _⟩;simp only[Sem.run_bind,hp,Result.andThen_ok,binOp,he,Sem.run_pure]
  ·cases h
 case agg.agg x' y' =>
  simp only[Au] at ha hb;obtain⟨xs,rfl,hx⟩:=ha;obtain⟨ys,rfl,hy⟩:=hb;cases hE:E.eqs t with
  | false=>simp[hE] at h
  | true =>
    cases hT:E.ty t with
    | none=>simp[hE,hT] at h
    | some ti =>
      have hf:=heq t ti hE hT;simp only[hE,hT,Bf2] at h;cases h1:sameShape ti.zero x' with
      | false=>simp[h1] at h
      | true =>
        cases h2:sameShape ti.zero y' with
        | false=>simp[h1,h2] at h
        | true =>
          simp only[h1,h2,Bev,Bep] at h;have he:=hf.eq w c x' y' xs ys h1 h2 hx hy
          have hg:(eqGuard op t x y (.agg xs) (.agg ys)).run P w=.ok () w:=by
           cases op<;>simp only[Bes,reduceCtorEq] at h
           all_goals
            unfold eqGuard;simp[hf.guard]
          cases op<;>simp only[Bes,reduceCtorEq] at h
          all_goals subst h
          all_goals
           refine⟨_,w,?_,.inl rfl,Any.bool _⟩;simp only[Sem.run_bind,hg,Result.andThen_ok,binOp,he,Sem.run_pure]
theorem A65{P:Program}(w:World){c:Ctx}{op:UnOp}{a:DV}{va:Value}{r:R}(ha:Au c w a va)(h:unD op a=some r) :
 ∃v,(Op.unary op va).run P w=.ok v w/\Any r.v v:=by
 cases op<;>cases a<;>simp only[unD,Bes,reduceCtorEq] at h
 all_goals subst h
 all_goals simp only[Au] at ha
 all_goals subst ha
 case neg.int k x=>exact⟨_,by simp only[Op.unary,Op.intArith,Sem.run_pure],Any.int _ _⟩
 case xor.int k x=>exact⟨_,by simp only[Op.unary,Op.intBits,Sem.run_pure],Any.int _ _⟩
 case not.bool b=>exact⟨_,by simp only[Op.unary,Sem.run_pure],Any.bool _⟩
theorem A10{P:Program}{E:Env}(hty:∀t ti,E.ty t=some ti->Cz P t ti)(w:World){c:Ctx}{src dst:TypeId}{a:DV}{va:Value}{r:R}(ha:Au c w a va)(h:At4 E dst src a=some r) :
 ∃v,(convert src dst va).run P w=.ok v w/\Any r.v v:=by
 unfold At4 at h;split at h
 ·rename_i hd hs;simp only[Bes] at h; subst h;have h1:=(hty _ _ hd).desc;have h2:=(hty _ _ hs).desc;simp only[Dd] at h1 h2;simp only[Au] at ha; subst ha;refine⟨_,?_,Any.int _ _⟩;simp[convert,run_underlying h1,run_underlying h2,Conv.intToInt]
 ·rename_i hd hs;simp only[Bes] at h; subst h;have h1:=(hty _ _ hd).desc;have h2:=(hty _ _ hs).desc;simp only[Dd] at h1 h2;simp only[Au] at ha; subst ha;refine⟨_,?_,Any.fl (Ur.refl _)⟩;simp only[convert,run_underlying h1,run_underlying h2,Sem.run_bind,Result.andThen_ok,Conv.intToFloat,Sem.run_pure];rfl
 ·rename_i hd hs;simp only[Bes] at h; subst h;have h1:=(hty _ _ hd).desc;have h2:=(hty _ _ hs).desc;simp only[Dd] at h1 h2;simp only[Au] at ha;obtain⟨m,rfl,f⟩:=ha;refine⟨_,?_,Any.fl f⟩;simp only[convert,run_underlying h1,run_underlying h2,Sem.run_bind,Result.andThen_ok,Conv.floatToFloat,if_true,Sem.run_pure]
 ·cases h
def Ho(w:World)(b o:Nat)(vs:List Value):Prop:=∀(i:Nat) u,vs[i]?=some u->w.cell? ⟨b,o+i,none⟩=some u
theorem Ho.drop{w:World}{b o:Nat}{vs:List Value}(h:Ho w b o vs)(n:Nat):Ho w b (o+n) (vs.drop n):=fun i u hi=>by rw[yM] at hi;have:=h _ _ hi;rwa[<- yk] at this
theorem Ho.take{w:World}{b o:Nat}{vs:List Value}(h:Ho w b o vs)(n:Nat):Ho w b o (vs.take n):=fun i u hi=>by
 refine h i u ?_;rcases Bfm i n with h' | h'
 ·rwa[yW h'] at hi
 ·rw[y9 h'] at hi; cases hi
section
variable{P:Program}{t:TypeId}{ti:TI}(w:World)
theorem U6(hf:Cz P t ti)(ha:ti.agg=true){b o:Nat}{vs:List Value}(hr:Ho w b o vs)(hl:ti.size<=vs.length) :
 (Instr.loadAt t (.pointer (some ⟨b,o,none⟩))).run P w=.ok (.agg (vs.take ti.size).toArray) w:=by
 have h1:=run_loadCells_list (P:=P) w ⟨b,o,none⟩ (vs.take ti.size) (fun j v hj=>by rw[Addr.add_lit]; exact hr.take _ j v hj);rw[List.length_take,Nat.min_eq_left hl] at h1;simp[Instr.loadAt,Instr.sureAddr,loadVar,hf.Y9 w,ha,hf.Kk w,h1]
theorem Q0(hf:Cz P t ti)(ha:ti.agg=false){b o:Nat}{v:Value}(hr:w.cell? ⟨b,o,none⟩=some v) :
 (Instr.loadAt t (.pointer (some ⟨b,o,none⟩))).run P w=.ok v w:=by
 simp[Instr.loadAt,Instr.sureAddr,loadVar,hf.Y9 w,ha,hr]
theorem Atm(hf:Cz P t ti){c:Ctx}{b o:Nat}{cs:List DV}{vs:List Value}{d:DV}(hr:Ho w b o vs)(hl:Bh c w cs vs)(h:shaped ti cs=some d) :
 ∃v,(Instr.loadAt t (.pointer (some ⟨b,o,none⟩))).run P w=.ok v w/\Au c w d v:=by
 unfold shaped at h;cases ha:ti.agg with
 | true =>
   simp only[ha,Bep] at h;by_cases hs:ti.size<=cs.length
   ·simp only[hs,decide_true,Bep,Bes] at h; subst h;refine⟨_,U6 w hf ha hr (by rw[<- hl.length]; exact hs),?_⟩;simp only[Au];exact⟨_,rfl,by simpa using hl.take _⟩
   ·simp[hs] at h
 | false =>
   simp only[ha,Bet] at h;cases cs with
   | nil=>cases h
   | cons d' ds =>simp only[Bes] at h; subst h;rw[Bh.Df] at hl;obtain⟨u,us,rfl,h1,_⟩:=hl;exact⟨u,Q0 w hf ha (by have:=hr 0 u (by simp); simpa using this),h1⟩
end
theorem Fk{I0:Nat->Prop}{B:Nat}{A:Nat->Option Place}{h:Ev}{w:World}(hm:Mem I0 B A h w){n:Nat}{p:Place}(hp:A n=some p){fz:Bool}{e:TypeId}{k:IntKind}{l:List Int}(hl:look h n=some (fz,.ints e k l)) :
 p.st=(if fz then .frozen else .live)/\∃sv,p.kind=.row sv 1/\w.ownsRow B e 1 sv l.length (l.map (Value.int k)):=by
 have:=hm.obj n p _ hp hl;unfold D6 at this;exact this
theorem Gh{I0:Nat->Prop}{B:Nat}{A:Nat->Option Place}{h:Ev}{w:World}(hm:Mem I0 B A h w){n:Nat}{p:Place}(hp:A n=some p){fz:Bool}{e:TypeId}{sz:Nat}{l:List (List DV)}(hl:look h n=some (fz,.recs e sz l)) :
 p.st=(if fz then .frozen else .live)/\0<sz/\∃sv rows,p.kind=.row sv sz/\D5 (B1 I0 B A w).bare w l rows/\(∀r∈rows,r.length=sz/\∀u∈r,u.oneCell'=true)/\w.ownsRow B e sz sv l.length rows.flatten:=by
 have:=hm.obj n p _ hp hl;unfold D6 at this;exact this
theorem Tn{I0:Nat->Prop}{B:Nat}{A:Nat->Option Place}{h:Ev}{w:World}(hm:Mem I0 B A h w){n:Nat}{p:Place}(hp:A n=some p){fz:Bool}{cs:List DV}(hl:look h n=some (fz,.box cs)) :
 p.st=(if fz then .frozen else .live)/\∃b e cells,p.kind=.box b/\w.heap[b]?=some (.cells cells e (0,0))/\Bh (B1 I0 B A w) w cs cells.toList:=by
 have:=hm.obj n p _ hp hl;unfold D6 at this;exact this
theorem Cf{p:Place}{fz:Bool}(h:p.st=(if fz then PSt.frozen else PSt.live)):p.st≠.dead:=by cases fz<;>simp at h<;>simp[h]
theorem H5{w:World}{base:Nat}{e:TypeId}{size n:Nat}{v:Value}{xs:List Value}(h:w.ownsRow base e size v n xs)(hn:0<n) :
 ∃g cap,v=.slice (some ⟨g,0,none⟩) n cap/\n<=cap/\Ho w g 0 xs:=by
 rcases h.2 with ⟨_,rfl⟩ | ⟨g,cap,cur,rfl,_,_,hc,_⟩
 ·omega
 ·refine⟨g,cap,rfl,hc,fun i u hi=>?_⟩;have:=h.cells (g:=g) rfl i u hi;rw[Addr.add_lit] at this;exact this
theorem H4{w:World}{base:Nat}{e:TypeId}{size n:Nat}{v:Value}{xs:List Value}(h:w.ownsRow base e size v n xs) :
 (v=.slice none 0 0/\n=0)\/∃g cap,v=.slice (some ⟨g,0,none⟩) n cap/\n<=cap:=by
 rcases h.2 with ⟨h1,h2⟩ | ⟨g,cap,cur,rfl,_,_,hc,_⟩
 ·exact .inl ⟨h1,h2⟩
 ·exact .inr ⟨g,cap,rfl,hc⟩
theorem Ai2{w:World}{b:Nat}{cells:Array Value}{e:TypeId}(h:w.heap[b]?=some (.cells cells e (0,0))):Ho w b 0 cells.toList:=fun i u hi=>by simp only[World.cell?,h,Bfz];simpa using hi
section
variable{P:Program}{I0:Nat->Prop}{B:Nat}{A:Nat->Option Place}{h:Ev}{w:World}{t:TypeId}{ti:TI}
theorem Anm(hm:Mem I0 B A h w)(hf:Cz P t ti){a:DV}{va:Value}{r:R}(ha:Au (B1 I0 B A w) w a va)(hl:Aif h ti a=some r)(hr:r.req=true) :
 ∃v,(Instr.loadAt t va).run P w=.ok v w/\Au (B1 I0 B A w) w r.v v:=by
 unfold Aif at hl;split at hl
 ·rename_i cs;simp only[Au] at ha;obtain⟨b,o,vs,rfl,_,hls,hread⟩:=ha;cases hs:shaped ti cs with
  | none=>simp[hs] at hl
  | some d =>simp only[hs,zU,Bes] at hl; subst hl;obtain⟨v,h1,h2⟩:=Atm (P:=P) (t:=t) w hf (vs:=vs) hread hls hs;exact⟨v,h1,Au.G8 (M8.Akg _) _ _ h2⟩
 ·rename_i n i j;simp only[Au] at ha;obtain⟨_,p,hp,hd⟩:=ha;split at hl
  ·rename_i fz cs hlk;obtain⟨hst,b,e,cells,hk,hh,hls⟩:=Tn hm hp hlk;have hd:=hd.resolve_left (Cf hst);unfold Mb at hd; rw[hk] at hd;obtain⟨rfl,rfl⟩:=hd;by_cases hj:j<cs.length
   ·simp only[hj,decide_true,xI,Bfp,Bep] at hl;cases hs:shaped ti (cs.drop j) with
    | none=>simp[hs] at hl
    | some d =>simp only[hs,zU,Bes] at hl; subst hl;have:=(Ai2 hh).drop j;rw[Bfz] at this;exact Atm (P:=P) (t:=t) w hf this (hls.drop j) hs
   ·simp[hj] at hl
  ·rename_i fz e k l hlk;obtain⟨hst,sv,hk,ho⟩:=Fk hm hp hlk;have hd:=hd.resolve_left (Cf hst);cases hag:ti.agg with
   | true=>simp[hag] at hl
   | false =>
     by_cases hj:j=0
     ·subst hj;simp only[hag,Bf8,xI,Bfp,Bep,Bes] at hl; subst hl;simp only[Bew] at hr;obtain⟨g,cap,rfl,_,hread⟩:=H5 ho (by omega);unfold Mb at hd; rw[hk] at hd;simp only[Bfy,Bfx] at hd; subst hd;have hi:(l.map (Value.int k))[i]?=some (.int k (l.getD i 0)):=by simp[getD,hr]
      have:=hread i _ hi;rw[Bfz] at this;exact⟨_,Q0 w hf hag this,by simp[Au]⟩
     ·rw[show(j==0)=false by simpa using hj] at hl; simp at hl
  ·rename_i fz e sz l hlk;obtain⟨hst,hsz,sv,rows,hk,hrr,hlen,ho⟩:=Gh hm hp hlk;have hd:=hd.resolve_left (Cf hst)
   have key:i<l.length->∃g,va=.pointer (some ⟨g,i*sz+j,none⟩)/\∃row,rows[i]?=some row/\row.length=sz/\Ho w g (i*sz) row/\Bh (B1 I0 B A w).bare w (l.getD i []) row:=by
    intro hi;obtain⟨g,cap,rfl,_,hread⟩:=H5 ho (by omega);unfold Mb at hd; rw[hk] at hd;have hli:l[i]?=some (l.getD i []):=by simp[getD,hi]
    obtain⟨row,hrow,hlr⟩:=hrr.get i _ hli;refine⟨g,hd,row,hrow,(hlen row (xm hrow)).1,fun x u hu=>?_,hlr⟩;have:=hread _ _ (R1 (fun r hr=>(hlen r hr).1) i row hrow x u hu);rwa[Bfz] at this
   cases hag:ti.agg with
   | true =>
     simp only[hag,Bep] at hl;by_cases hjs:j+ti.size<=sz
     ·simp only[hjs,decide_true,Bep,Bes] at hl; subst hl;simp only[Bew] at hr;obtain⟨g,rfl,row,hrow,hrl,hread,hlr⟩:=key hr;have h1:=U6 (P:=P) (t:=t) w hf hag (hread.drop j) (by rw[List.length_drop]; omega);refine⟨_,h1,?_⟩;simp only[Au];exact⟨_,rfl,by simpa using Bh.G8 (M8.Akg _) _ _ ((hlr.drop j).take ti.size)⟩
     ·simp[hjs] at hl
   | false =>
     simp only[hag,Bet] at hl;by_cases hjs:j<sz
     ·simp only[hjs,decide_true,Bep,Bes] at hl; subst hl;simp only[Bew] at hr;obtain⟨g,rfl,row,hrow,hrl,hread,hlr⟩:=key hr;obtain⟨v,hv,hvr⟩:=hlr.getD j (by rw[hlr.length]; omega);exact⟨v,Q0 w hf hag (hread j v hv),Au.G8 (M8.Akg _) _ _ hvr⟩
     ·simp[hjs] at hl
  ·cases hl
 ·cases hl
end
section
variable{P:Program}{E:Env}{I0:Nat->Prop}{B:Nat}{A:Nat->Option Place}{h:Ev}{w:World}{t:TypeId}
theorem Afz{gs:Array Field}{fs:List (Nat × TypeId)}(hg:(gs.toList.map fun f=>(f.offset,f.type))=fs){i off:Nat}{ft:TypeId}(hi:fs[i]?=some (off,ft)) :
 ∃f,gs[i]?=some f/\f.offset=off/\f.type=ft:=by
 subst hg;rw[Bf6] at hi;cases hq:gs.toList[i]? with
 | none=>simp[hq] at hi
 | some f =>simp only[hq,zU,Bes,Bey] at hi;exact⟨f,by simpa using hq,hi.1,hi.2⟩
theorem Aak(hm:Mem I0 B A h w){n:Nat}{p:Place}(hp:A n=some p)(ha:Sf h n=true):p.st≠.dead:=by
 unfold Sf at ha;split at ha
 ·cases ha
 ·cases ha
 ·rename_i x hx1 hx2;cases hq:look h n with
  | none=>exact absurd hq hx2
  | some fo =>
    obtain⟨fz,ob⟩:=fo;cases ob with
    | box cs=>exact Cf (Tn hm hp hq).1
    | ints e k l=>exact Cf (Fk hm hp hq).1
    | recs e sz l=>exact Cf (Gh hm hp hq).1
    | dead=>exact absurd hq (hx1 fz)
theorem Ag9(hty:∀t ti,E.ty t=some ti->Cz P t ti)(hm:Mem I0 B A h w){a:DV}{va:Value}{f:Nat}{r:R}(ha:Au (B1 I0 B A w) w a va)(hl:Ty E h t f a=some r) :
 ∃v,(Instr.fieldAt t va f).run P w=.ok v w/\Au (B1 I0 B A w) w r.v v:=by
 unfold Ty at hl;split at hl
 ·rename_i fs _ hT;have hd:=(hty _ _ hT).desc;simp only[Dd] at hd;obtain⟨gs,hu,hg⟩:=hd;split at hl
  ·rename_i off ft hoff;obtain⟨fl,hfl,ho,hft⟩:=Afz hg hoff;cases hF:E.ty ft with
   | none=>simp[hF] at hl
   | some fi =>
     simp only[hF,Bex] at hl;by_cases hpos:0<fi.size
     ·simp only[hpos,decide_true,Bep] at hl;have hsz:(sizeOf fl.type).run P w=.ok fi.size w:=by rw[hft]; exact(hty _ _ hF).Kk w
      have hne:¬fi.size=0:=by omega
      have run:∀b o,(Instr.fieldAt t (.pointer (some ⟨b,o,none⟩)) f).run P w=.ok (.pointer (some ⟨b,o+off,none⟩)) w:=by intro b o;simp[Instr.fieldAt,run_underlying hu,hfl,Instr.sureAddr,fieldPlace,hsz,hne,ho,Addr.add_lit]
      split at hl
      ·rename_i n i j;cases hal:Sf h n with
       | false=>simp[hal] at hl
       | true =>
       simp only[hal,Bep,Bes] at hl; subst hl;simp only[Au] at ha ⊢;obtain⟨_,p,hp,hd⟩:=ha;have hd:=hd.resolve_left (Aak hm hp hal);unfold Mb at hd;split at hd
       ·rename_i b hk;obtain⟨rfl,rfl⟩:=hd;exact⟨_,run _ _,rfl,p,hp,.inr (by unfold Mb; rw[hk]; exact⟨rfl,rfl⟩)⟩
       ·rename_i g _ _ size hk;subst hd;exact⟨_,run _ _,rfl,p,hp,.inr (by unfold Mb; rw[hk]; simp[yk])⟩
       ·exact hd.elim
      ·rename_i cs;simp only[Bes] at hl; subst hl;simp only[Au] at ha ⊢;obtain⟨b,o,vs,rfl,hok,hls,hread⟩:=ha;exact⟨_,run _ _,b,o+off,vs.drop off,rfl,hok,hls.drop off,Ho.drop hread off⟩
      ·cases hl
     ·simp[hpos] at hl
  ·cases hl
 ·cases hl
theorem Amo{P:Program}{w:World}{t:TypeId}{ti:TI}(hf:Cz P t ti){c:Ctx}{cs:List DV}{vs:Array Value}{off:Nat}{d:DV}(hl:Bh c w cs vs.toList)(h:Ah7 ti cs off=some d) :
 ∃v,(part t vs off).run P w=.ok v w/\Au c w d v:=by
 unfold Ah7 at h;cases ha:ti.agg with
 | true =>
   simp only[ha,Bep] at h;by_cases hs:off+ti.size<=cs.length
   ·simp only[hs,decide_true,Bep,Bes] at h; subst h;refine⟨.agg (vs.extract off (off+ti.size)),by simp[part,hf.Y9 w,ha,hf.Kk w],?_⟩;simp only[Au];refine⟨_,rfl,?_⟩
    have:(vs.extract off (off+ti.size)).toList=(vs.toList.drop off).take ti.size:=by simp[List.take_drop]
    rw[this];exact(hl.drop off).take _
   ·simp[hs] at h
 | false =>
   simp only[ha,Bet] at h;by_cases hs:off<cs.length
   ·simp only[hs,decide_true,Bep,Bes] at h; subst h;obtain⟨v,hv,hr⟩:=hl.getD off hs;refine⟨v,?_,hr⟩;have hv':vs[off]?=some v:=by simpa using hv
    simp[part,hf.Y9 w,ha,hv']
   ·simp[hs] at h
theorem Aw2(hty:∀t ti,E.ty t=some ti->Cz P t ti){c:Ctx}{a:DV}{va:Value}{f:Nat}{r:R}(ha:Au c w a va)(hl:Akv E t f a=some r) :
 ∃v,(Instr.field t va f).run P w=.ok v w/\Au c w r.v v:=by
 unfold Akv at hl;split at hl
 ·rename_i fs _ hT;have hd:=(hty _ _ hT).desc;simp only[Dd] at hd;obtain⟨gs,hu,hg⟩:=hd;split at hl
  ·rename_i off ft cs hoff;obtain⟨fl,hfl,ho,hft⟩:=Afz hg hoff;cases hF:E.ty ft with
   | none=>simp[hF] at hl
   | some fi =>
     cases hp:Ah7 fi cs off with
     | none=>simp[hF,hp] at hl
     | some d =>simp only[hF,hp,Bex,zU,Bes] at hl; subst hl;simp only[Au] at ha;obtain⟨vs,rfl,hls⟩:=ha;obtain⟨v,h1,h2⟩:=Amo (P:=P) (hty _ _ hF) hls hp;refine⟨v,?_,h2⟩;simp[Instr.field,run_underlying hu,hfl,asAgg,ho,hft,h1]
  ·cases hl
 ·cases hl
theorem A45(hm:Mem I0 B A h w){a:DV}{va:Value}{n:Int}(ha:Au (B1 I0 B A w) w a va)(hl:A46 h a=some n) :
 ∃(ad:Option Addr) (l cap:Nat),va=.slice ad l cap/\(l:Int)=n:=by
 unfold A46 at hl;split at hl
 ·simp only[Bes] at hl; simp only[Au] at ha; exact⟨none,0,0,ha,by simpa using hl⟩
 ·cases hl
 ·cases hl
 ·rename_i g k l hg;simp only[Bes] at hl;cases g with
  | own i e=>exact absurd rfl (hg i e)
  | arg=>simp only[Au] at ha; obtain⟨ad,cap,rfl,_⟩:=ha; exact⟨ad,_,cap,rfl,hl⟩
  | fresh=>simp only[Au] at ha; obtain⟨ad,cap,rfl,_⟩:=ha; exact⟨ad,_,cap,rfl,hl⟩
 ·rename_i g sz l hg;simp only[Bes] at hl;cases g with
  | own i e=>exact absurd rfl (hg i e)
  | arg=>simp only[Au] at ha; obtain⟨ad,cap,rfl,_⟩:=ha; exact⟨ad,_,cap,rfl,hl⟩
  | fresh=>simp only[Au] at ha; obtain⟨ad,cap,rfl,_⟩:=ha; exact⟨ad,_,cap,rfl,hl⟩
 ·rename_i n';simp only[Au] at ha;obtain⟨_,p,hp,hd⟩:=ha;split at hl
  ·rename_i e k l hlk;obtain⟨hst,sv,hk,ho⟩:=Fk hm hp hlk;obtain⟨size,hk'⟩:=hd.resolve_left (Cf hst);rw[hk] at hk'; cases hk';simp only[Bes] at hl;rcases H4 ho with ⟨rfl,h0⟩ | ⟨g,cap,rfl,_⟩
   ·exact⟨none,0,0,rfl,by rw[<- hl,h0]⟩
   ·exact⟨_,_,_,rfl,hl⟩
  ·rename_i e sz l hlk;obtain⟨hst,_,sv,rows,hk,_,_,ho⟩:=Gh hm hp hlk;obtain⟨size,hk'⟩:=hd.resolve_left (Cf hst);rw[hk] at hk'; cases hk';simp only[Bes] at hl;rcases H4 ho with ⟨rfl,h0⟩ | ⟨g,cap,rfl,_⟩
   ·exact⟨none,0,0,rfl,by rw[<- hl,h0]⟩
   ·exact⟨_,_,_,rfl,hl⟩
  ·cases hl
 ·rename_i n' off len;cases hal:Sf h n' with
  | false=>simp[hal] at hl
  | true =>
    simp only[hal,Bep,Bes] at hl;simp only[Au] at ha;obtain⟨_,p,hp,hd⟩:=ha;obtain⟨sv,size,hk,hs⟩:=hd.resolve_left (Aak hm hp hal);unfold Ri at hs;split at hs
    ·obtain⟨_,a',cap,rfl,_⟩:=hs; exact⟨_,_,_,rfl,hl⟩
    ·obtain⟨_,rfl,rfl⟩:=hs; exact⟨_,_,_,rfl,hl⟩
    ·exact hs.elim
 ·cases hl
end
section
variable{P:Program}{E:Env}{I0:Nat->Prop}{B:Nat}{A:Nat->Option Place}{h:Ev}{w:World}{t:TypeId}
theorem bnd{i:Int}{n:Nat}(h:(decide (0<=i)&&decide (i<n))=true):0<=i/\i<n:=by simpa using h
theorem run_indexAt_slice{e:TypeId}(hu:P.underlying t=some (.slice e)){es:Nat}(hes:(sizeOf e).run P w=.ok es w){b o len cap:Nat}{k:IntKind}{i:Int}(hi:0<=i/\i<len) :
 (Instr.indexAt t (.slice (some ⟨b,o,none⟩) len cap) (.int k i)).run P w=.ok (.pointer (some ⟨b,o+i.toNat*es,none⟩)) w:=by
 obtain⟨h0,h1⟩:=hi;have:(⟨b,o,none⟩:Addr).add (i.toNat*es)=⟨b,o+i.toNat*es,none⟩:=Addr.add_lit _ _ _;simp[Instr.indexAt,asIntOf,run_underlying hu,h0,h1,hes,this]
theorem Ag6(hty:∀t ti,E.ty t=some ti->Cz P t ti)(hm:Mem I0 B A h w){a:DV}{va:Value}{k:IntKind}{i:Int}{r:R}(ha:Au (B1 I0 B A w) w a va)(hl:Tv E h t a i=some r)(hr:r.req=true) :
 ∃v,(Instr.indexAt t va (.int k i)).run P w=.ok v w/\Au (B1 I0 B A w) w r.v v:=by
 unfold Tv at hl;split at hl
 ·rename_i e _ hT;have hu:=(hty _ _ hT).desc;simp only[Dd] at hu;cases hE:E.ty e with
  | none=>simp[hE] at hl
  | some ei =>
  simp only[hE,Bex] at hl;have hes:=(hty _ _ hE).Kk w;split at hl
  ·cases hl
  ·rename_i g kk l hg;by_cases h1:ei.size=1
   ·simp only[h1,Bfp,Bep,Bes] at hl; subst hl;obtain⟨h0,hlt⟩:=bnd hr
    have hmain:∃cap b o,va=.slice (some ⟨b,o,none⟩) l.length cap/\(B1 I0 B A w).ok b/\∀(i:Nat) n,l[i]?=some n->w.cell? ⟨b,o+i,none⟩=some (.int kk n):=by
     cases g with
     | own i e=>exact absurd rfl (hg i e)
     | arg=>simp only[Au] at ha; obtain⟨ad,cap,rfl,_,hh⟩:=ha; rcases hh with rfl | ⟨b,o,rfl,hb,hrd⟩; (simp at hlt; omega); exact⟨cap,b,o,rfl,hb,hrd⟩
     | fresh=>simp only[Au] at ha; obtain⟨ad,cap,rfl,_,hh⟩:=ha; rcases hh with rfl | ⟨b,o,rfl,hb,hrd⟩; (simp at hlt; omega); exact⟨cap,b,o,rfl,hb.1,hrd⟩
    obtain⟨cap,b,o,rfl,hok,hrd⟩:=hmain;have hrun:=run_indexAt_slice (P:=P) (w:=w) (cap:=cap) (b:=b) (o:=o) (k:=k) hu (by rw[h1] at hes; exact hes) ⟨h0,hlt⟩;rw[Bfy] at hrun;refine⟨_,hrun,?_⟩;simp only[Au]
    have hn:l[i.toNat]?=some (l.getD i.toNat 0):=by
     have:i.toNat<l.length:=by omega
     simp[getD,this]
    refine⟨b,o+i.toNat,[.int kk (l.getD i.toNat 0)],rfl,hok,?_,?_⟩
    ·simp[Bh,Au]
    ·intro j u hj;cases j with
     | zero=>simp at hj; subst hj; simpa using hrd _ _ hn
     | succ j=>simp at hj
   ·rw[show(ei.size==1)=false by simpa using h1] at hl; simp at hl
  ·cases hl
  ·rename_i g sz l hg;by_cases h1:ei.size=sz
   ·simp only[h1,Bfp,Bep,Bes] at hl; subst hl;obtain⟨h0,hlt⟩:=bnd hr
    have hmain:∃cap b o rows,va=.slice (some ⟨b,o,none⟩) l.length cap/\(B1 I0 B A w).ok b/\D5 (B1 I0 B A w).bare w l rows/\(∀r∈rows,r.length=sz/\∀u∈r,u.oneCell'=true)/\Ho w b o rows.flatten:=by
     cases g with
     | own i e=>exact absurd rfl (hg i e)
     | arg=>simp only[Au] at ha; obtain⟨ad,cap,rfl,_,hh⟩:=ha; rcases hh with rfl | ⟨b,o,rows,rfl,hb,hrr,hlen,hrd⟩; (simp at hlt; omega); exact⟨cap,b,o,rows,rfl,hb,hrr,hlen,hrd⟩
     | fresh=>simp only[Au] at ha; obtain⟨ad,cap,rfl,_,hh⟩:=ha; rcases hh with rfl | ⟨b,o,rows,rfl,hb,hrr,hlen,hrd⟩; (simp at hlt; omega); exact⟨cap,b,o,rows,rfl,hb.1,hrr,hlen,hrd⟩
    obtain⟨cap,b,o,rows,rfl,hok,hrr,hlen,hrd⟩:=hmain;have hrun:=run_indexAt_slice (P:=P) (w:=w) (cap:=cap) (b:=b) (o:=o) (k:=k) hu (by rw[h1] at hes; exact hes) ⟨h0,hlt⟩;refine⟨_,hrun,?_⟩;simp only[Au]
    have hn:l[i.toNat]?=some (l.getD i.toNat []):=by
     have:i.toNat<l.length:=by omega
     simp[getD,this]
    obtain⟨row,hrow,hlr⟩:=hrr.get _ _ hn;refine⟨b,o+i.toNat*sz,row,rfl,hok,by rw[Aqb (hlr.length.trans (hlen row (xm hrow)).1)]; exact hlr,fun j u hj=>?_⟩;rw[yk];exact hrd _ _ (R1 (fun r hr=>(hlen r hr).1) _ _ hrow j u hj)
   ·rw[show(ei.size==sz)=false by simpa using h1] at hl; simp at hl
  ·rename_i n;simp only[Au] at ha;obtain⟨_,p,hp,hd⟩:=ha;split at hl
   ·rename_i e' kk l hlk;obtain⟨hst,sv,hk,ho⟩:=Fk hm hp hlk;obtain⟨size,hk'⟩:=hd.resolve_left (Cf hst);rw[hk] at hk'; cases hk';by_cases h1:ei.size=1
    ·simp only[h1,Bfp,Bep,Bes] at hl; subst hl;obtain⟨h0,hlt⟩:=bnd hr;obtain⟨g,cap,rfl,_,_⟩:=H5 ho (by omega);have hrun:=run_indexAt_slice (P:=P) (w:=w) (cap:=cap) (b:=g) (o:=0) (k:=k) hu (by rw[h1] at hes; exact hes) ⟨h0,hlt⟩;refine⟨_,hrun,?_⟩;simp only[Au];exact⟨rfl,p,hp,.inr (by unfold Mb; rw[hk]; simp)⟩
    ·rw[show(ei.size==1)=false by simpa using h1] at hl; simp at hl
   ·rename_i e' sz l hlk;obtain⟨hst,_,sv,rows,hk,hrr,hlen,ho⟩:=Gh hm hp hlk;obtain⟨size,hk'⟩:=hd.resolve_left (Cf hst);rw[hk] at hk'; cases hk';by_cases h1:ei.size=sz
    ·simp only[h1,Bfp,Bep,Bes] at hl; subst hl;obtain⟨h0,hlt⟩:=bnd hr;obtain⟨g,cap,rfl,_,_⟩:=H5 ho (by omega);have hrun:=run_indexAt_slice (P:=P) (w:=w) (cap:=cap) (b:=g) (o:=0) (k:=k) hu (by rw[h1] at hes; exact hes) ⟨h0,hlt⟩;refine⟨_,hrun,?_⟩;simp only[Au];exact⟨rfl,p,hp,.inr (by unfold Mb; rw[hk]; simp)⟩
    ·rw[show(ei.size==sz)=false by simpa using h1] at hl; simp at hl
   ·cases hl
  ·rename_i n off len;simp only[Au] at ha;obtain⟨_,p,hp,hd⟩:=ha
   have key:∀(sz:Nat) sv,p.kind=.row sv sz->Ri sv sz off len va->ei.size=sz->(0<=i/\i<len)->∃v,(Instr.indexAt t va (.int k i)).run P w=.ok v w/\Au (B1 I0 B A w) w (.ptr n (off+i.toNat) 0) v:=by
    intro sz sv hk hs h1 hb;unfold Ri at hs;split at hs
    ·rename_i g nn cc;obtain⟨_,a',cap,rfl,_,ha'⟩:=hs;have ha':=ha'.resolve_left (by omega);subst ha';have hrun:=run_indexAt_slice (P:=P) (w:=w) (cap:=cap) (b:=g) (o:=off*sz) (k:=k) hu (by rw[h1] at hes; exact hes) hb;refine⟨_,hrun,?_⟩;simp only[Au];exact⟨rfl,p,hp,.inr (by unfold Mb; rw[hk]; simp[Bft])⟩
    ·omega
    ·exact hs.elim
   split at hl
   ·rename_i e' kk l hlk;obtain⟨hst,sv,hk,ho⟩:=Fk hm hp hlk;obtain⟨sv',size,hk',hs⟩:=hd.resolve_left (Cf hst);rw[hk] at hk'; cases hk';by_cases h1:ei.size=1
    ·simp only[h1,Bfp,Bep,Bes] at hl; subst hl;exact key 1 _ hk hs h1 (bnd hr)
    ·rw[show(ei.size==1)=false by simpa using h1] at hl; simp at hl
   ·rename_i e' sz l hlk;obtain⟨hst,_,sv,rows,hk,hrr,hlen,ho⟩:=Gh hm hp hlk;obtain⟨sv',size,hk',hs⟩:=hd.resolve_left (Cf hst);rw[hk] at hk'; cases hk';by_cases h1:ei.size=sz
    ·simp only[h1,Bfp,Bep,Bes] at hl; subst hl;exact key sz _ hk hs h1 (bnd hr)
    ·rw[show(ei.size==sz)=false by simpa using h1] at hl; simp at hl
   ·cases hl
  ·cases hl
 ·rename_i len e _ hT;have hu:=(hty _ _ hT).desc;simp only[Dd] at hu;cases hE:E.ty e with
  | none=>simp[hE] at hl
  | some ei =>
  simp only[hE,Bex] at hl;have hes:=(hty _ _ hE).Kk w
  have run:∀b o,(0<=i/\i<len)->(Instr.indexAt t (.pointer (some ⟨b,o,none⟩)) (.int k i)).run P w=.ok (.pointer (some ⟨b,o+i.toNat*ei.size,none⟩)) w:=by intro b o hb;obtain⟨h0,h1⟩:=hb;have:(⟨b,o,none⟩:Addr).add (i.toNat*ei.size)=⟨b,o+i.toNat*ei.size,none⟩:=Addr.add_lit _ _ _;simp[Instr.indexAt,asIntOf,run_underlying hu,Instr.sureAddr,h0,h1,hes,this]
  split at hl
  ·rename_i n j;by_cases hq:(decide (1<len)&&Sf h n)=true
   ·simp only[hq,Bep,Bes] at hl; subst hl;simp only[Au] at ha ⊢;obtain⟨_,p,hp,hd⟩:=ha;have hd:=hd.resolve_left (Aak hm hp (by simp at hq; exact hq.2));unfold Mb at hd;split at hd
    ·rename_i b hk;obtain⟨_,rfl⟩:=hd;exact⟨_,run _ _ (bnd hr),rfl,p,hp,.inr (by unfold Mb; rw[hk]; exact⟨rfl,rfl⟩)⟩
    ·rename_i g _ _ size hk;subst hd;exact⟨_,run _ _ (bnd hr),rfl,p,hp,.inr (by unfold Mb; rw[hk]; simp)⟩
    ·exact hd.elim
   ·simp only[zF] at hq; rw[hq] at hl; simp at hl
  ·rename_i cs;by_cases hq:1<len
   ·simp only[hq,decide_true,Bep,Bes] at hl; subst hl;simp only[Au] at ha ⊢;obtain⟨b,o,vs,rfl,hok,hls,hread⟩:=ha;exact⟨_,run _ _ (bnd hr),b,o+i.toNat*ei.size,vs.drop (i.toNat*ei.size),rfl,hok,hls.drop _,Ho.drop hread _⟩
   ·simp[hq] at hl
  ·cases hl
 ·cases hl
theorem Awr(hty:∀t ti,E.ty t=some ti->Cz P t ti){c:Ctx}{a:DV}{va:Value}{k:IntKind}{i:Int}{r:R}(ha:Au c w a va)(hl:Aks E t a i=some r)(hr:r.req=true) :
 ∃v,(Instr.index t va (.int k i)).run P w=.ok v w/\Au c w r.v v:=by
 unfold Aks at hl;split at hl
 ·rename_i len e _ hT;have hu:=(hty _ _ hT).desc;simp only[Dd] at hu;split at hl
  ·rename_i cs;cases hE:E.ty e with
   | none=>simp[hE] at hl
   | some ei =>
   simp only[hE,Bex] at hl;by_cases hq:(decide (len*ei.size<=cs.length)&&decide (0<ei.size))=true
   ·simp only[hq,Bep,Bes] at hl; subst hl;obtain⟨h0,h1⟩:=bnd hr;simp only[Be0,Bew] at hq;simp only[Au] at ha;obtain⟨vs,rfl,hls⟩:=ha;have hin:i.toNat<len:=by omega
    have hbig:i.toNat*ei.size+ei.size<=len*ei.size:=by have:=Be1 ei.size (show i.toNat+1<=len by omega);rw[yj] at this; exact this
    have hpd:Ah7 ei cs (i.toNat*ei.size)=some (cond ei.agg (.agg ((cs.drop (i.toNat*ei.size)).take ei.size)) (cs.getD (i.toNat*ei.size) .undef)):=by
     unfold Ah7;cases hag:ei.agg with
     | true=>simp only[Bep]; rw[show decide (i.toNat*ei.size+ei.size<=cs.length)=true by simp; omega]; rfl
     | false=>simp only[Bet]; rw[show decide (i.toNat*ei.size<cs.length)=true by simp; omega]; rfl
    obtain⟨v,h2,h3⟩:=Amo (P:=P) (w:=w) (hty _ _ hE) hls hpd;refine⟨v,?_,h3⟩;simp[Instr.index,asIntOf,run_underlying hu,h0,h1,(hty _ _ hE).Kk w,h2]
   ·simp only[zF] at hq; rw[hq] at hl; simp at hl
  ·cases hl
 ·cases hl
end
def Jv:Option Int->Option Value->Prop
 | none,v=>v=none
 | some x,v=>∃k,v=some (.int k x)
theorem Ada{α:Type}(lo hi:Option Int)(l:List α):Yy lo hi l=(l.take (hi.getD l.length).toNat).drop (lo.getD 0).toNat:=by cases lo<;>cases hi<;>simp[Yy]
theorem Vb{lo hi mx:Option Int}{len:Nat}(h:okB lo hi mx len=true) :
 0<=lo.getD 0/\lo.getD 0<=hi.getD len/\0<=hi.getD len/\hi.getD len<=mx.getD len/\(∀m,mx=some m->0<=m/\m<=len/\hi.isSome=true):=by
 unfold okB at h;cases lo<;>cases hi<;>cases mx<;>simp at h ⊢<;>omega
theorem Qh{α:Type}{sz:Nat}:∀{rows:List (List α)},(∀r∈rows,r.length=sz)->∀(n:Nat),(rows.take n).flatten=rows.flatten.take (n*sz)
 | [],_,n=>by simp
 | r0::rows,hl,n=>by
   have h0:r0.length=sz:=hl r0 (by simp);cases n with
   | zero=>simp
   | succ n =>simp only[List.take_succ_cons,yN];rw[Qh (rows:=rows) (fun r hr=>hl r (by simp[hr])) n,yj,List.take_append,List.take_of_length_le (l:=r0) (by omega),h0,yE]
theorem Tw{α:Type}{sz:Nat}:∀{rows:List (List α)},(∀r∈rows,r.length=sz)->∀(n:Nat),(rows.drop n).flatten=rows.flatten.drop (n*sz)
 | [],_,n=>by simp
 | r0::rows,hl,n=>by
   have h0:r0.length=sz:=hl r0 (by simp);cases n with
   | zero=>simp
   | succ n =>simp only[List.drop_succ_cons,yN];rw[Tw (rows:=rows) (fun r hr=>hl r (by simp[hr])) n,yj,List.drop_append,List.drop_eq_nil_of_le (as:=r0) (by omega),h0,yE,List.nil_append]
theorem Gx{w:World}{base:Nat}{e:TypeId}{size n:Nat}{v:Value}{xs:List Value}(h:w.ownsRow base e size v n xs):Ri v size 0 n v:=by
 rcases H4 h with ⟨rfl,rfl⟩ | ⟨g,cap,rfl,hc⟩
 ·simp[Ri]
 ·simp only[Ri]; exact⟨by omega,_,_,rfl,hc,.inr (by simp)⟩
section
variable{P:Program}{w:World}
theorem Qo(k:IntKind){x:Int}{y:Nat}(h0:0<=x)(h1:x<=y)(code:BoundsCode):(Instr.sliceBound (.int k x) y code).run P w=.ok x.toNat w:=by simp[Instr.sliceBound,asIntOf,h0,h1]
theorem Ap9{lo hi mx:Option Int}{vlo vhi vmx:Option Value}{len cap:Nat}(h:okB lo hi mx len=true)(hc:len<=cap)(h1:Jv lo vlo)(h2:Jv hi vhi)(h3:Jv mx vmx) :
 (Instr.sliceBounds true len cap vlo vhi vmx).run P w=.ok ((lo.getD 0).toNat,(hi.getD len).toNat,(mx.getD cap).toNat) w:=by
 obtain⟨a1,a2,a3,a4,a5⟩:=Vb h;cases mx with
 | none =>
   simp only[Jv] at h3; subst h3;simp only[xn] at a4;cases hi with
   | none =>
     simp only[Jv] at h2; subst h2;cases lo with
     | none=>simp only[Jv] at h1; subst h1; simp[Instr.sliceBounds]
     | some x =>obtain⟨k,rfl⟩:=h1;simp only[Bf9,xn] at a1 a2;simp[Instr.sliceBounds,Qo k a1 a2]
   | some y =>
     obtain⟨k',rfl⟩:=h2;simp only[Bf9] at a2 a3 a4;have hy:=Qo (P:=P) (w:=w) k' a3 (show y<=(cap:Int) by omega) .sliceAcap;cases lo with
     | none=>simp only[Jv] at h1; subst h1; simp[Instr.sliceBounds,hy]
     | some x =>obtain⟨k,rfl⟩:=h1;simp only[Bf9] at a1 a2;have hx:=Qo (P:=P) (w:=w) k a1 (show x<=(y.toNat:Int) by omega) .sliceB;simp[Instr.sliceBounds,hy,hx]
 | some m =>
   obtain⟨k'',rfl⟩:=h3;obtain⟨b1,b2,b3⟩:=a5 m rfl;have hm:=Qo (P:=P) (w:=w) k'' b1 (show m<=(cap:Int) by omega) .slice3Acap;cases hi with
   | none=>cases b3
   | some y =>
     obtain⟨k',rfl⟩:=h2;simp only[Bf9] at a2 a3 a4;have hy:=Qo (P:=P) (w:=w) k' a3 (show y<=(m.toNat:Int) by omega) .slice3B;cases lo with
     | none=>simp only[Jv] at h1; subst h1; simp[Instr.sliceBounds,hm,hy]
     | some x =>obtain⟨k,rfl⟩:=h1;simp only[Bf9] at a1 a2;have hx:=Qo (P:=P) (w:=w) k a1 (show x<=(y.toNat:Int) by omega) .slice3C;simp[Instr.sliceBounds,hm,hy,hx]
theorem O2{t e:TypeId}{es:Nat}(hu:P.underlying t=some (.slice e))(hes:(sizeOf e).run P w=.ok es w){lo hi mx:Option Int}{vlo vhi vmx:Option Value}{a:Option Addr}{len cap:Nat}(h:okB lo hi mx len=true)(hc:len<=cap)(h1:Jv lo vlo)(h2:Jv hi vhi)(h3:Jv mx vmx) :
 (Instr.sliceAt t (.slice a len cap) vlo vhi vmx).run P w=.ok (.slice (if (mx.getD cap).toNat=(lo.getD 0).toNat then a else a.map (·.add ((lo.getD 0).toNat*es))) ((hi.getD len).toNat-(lo.getD 0).toNat) ((mx.getD cap).toNat-(lo.getD 0).toNat)) w:=by
 have hb:=Ap9 (P:=P) (w:=w) h hc h1 h2 h3;simp[Instr.sliceAt,Instr.slice,run_underlying hu,hb,hes]
variable{E:Env}{I0:Nat->Prop}{B:Nat}{A:Nat->Option Place}{h:Ev}{t:TypeId}
theorem Zl{lo hi mx:Option Int}{len cap:Nat}(h:okB lo hi mx len=true)(hc:len<=cap):(lo.getD 0).toNat<=(hi.getD len).toNat/\(hi.getD len).toNat<=len/\(hi.getD len).toNat<=(mx.getD cap).toNat:=by
 obtain⟨a1,a2,a3,a4,a5⟩:=Vb h;cases mx with
 | none=>simp only[xn] at *; omega
 | some m=>obtain⟨b1,b2,b3⟩:=a5 m rfl; simp only[Bf9] at *; omega
theorem Ac9{n:Nat}{p:Place}(hp:A n=some p){sv:Value}{sz:Nat}(hk:p.kind=.row sv sz){e:TypeId}{es:Nat}(hu:P.underlying t=some (.slice e))(hes:(sizeOf e).run P w=.ok es w)(h1:es=sz)
 {off len:Nat} {va:Value} (hs:Ri sv sz off len va) {lo hi mx:Option Int} {vlo vhi vmx:Option Value} (hq:okB lo hi mx len=true) (hlo:Jv lo vlo) (hhi:Jv hi vhi) (hmx:Jv mx vmx) :
 ∃v,(Instr.sliceAt t va vlo vhi vmx).run P w=.ok v w/\Au (B1 I0 B A w) w (.sref n (off+(lo.getD 0).toNat) ((hi.getD len)-(lo.getD 0)).toNat) v:=by
 obtain⟨a1,a2,a3,a4,a5⟩:=Vb hq;have hsub:((hi.getD len)-(lo.getD 0)).toNat=(hi.getD len).toNat-(lo.getD 0).toNat:=by omega
 unfold Ri at hs;split at hs
 ·rename_i g nn cc;obtain⟨hle,a',cap,rfl,hcap,ha'⟩:=hs;obtain⟨c1,c2,c3⟩:=Zl hq hcap;refine⟨_,O2 hu hes hq hcap hlo hhi hmx,?_⟩;simp only[Au];refine⟨rfl,p,hp,.inr ⟨_,sz,hk,?_⟩⟩;unfold Ri;rw[hsub];refine⟨by omega,?_⟩;by_cases hm:(mx.getD ↑cap).toNat=(lo.getD 0).toNat
  ·rw[Bfc hm];exact⟨a',_,rfl,by omega,.inl (by omega)⟩
  ·rw[Bfb hm];refine⟨_,_,rfl,by omega,?_⟩;by_cases h0:len=0
   ·exact .inl (by omega)
   ·have ha':=ha'.resolve_left h0;subst ha';refine .inr ?_;show(⟨g,off*sz,none⟩:Addr).add _=_;rw[Addr.add_lit,h1,Bft]
 ·obtain⟨rfl,rfl,rfl⟩:=hs;obtain⟨c1,c2,c3⟩:=Zl hq (Bfj 0);refine⟨_,O2 hu hes hq (Bfj 0) hlo hhi hmx,?_⟩;simp only[Au];refine⟨rfl,p,hp,.inr ⟨_,sz,hk,?_⟩⟩;unfold Ri;rw[hsub]
  have hmz:(mx.getD ((0:Nat):Int)).toNat=0:=by
   cases mx with
   | none=>rfl
   | some m=>have:=a5 m rfl; simp only[Bf9]; omega
  refine⟨by omega,by omega,?_⟩;have e1:(lo.getD 0).toNat=0:=by omega
  have e2:(hi.getD ((0:Nat):Int)).toNat=0:=by omega
  rw[hmz,e1,e2];rfl
 ·exact hs.elim
theorem Au5(hty:∀t ti,E.ty t=some ti->Cz P t ti)(hm:Mem I0 B A h w){a:DV}{va:Value}{lo hi mx:Option Int}{vlo vhi vmx:Option Value}{r:R}(ha:Au (B1 I0 B A w) w a va)(hlo:Jv lo vlo)(hhi:Jv hi vhi)(hmx:Jv mx vmx)(hl:Ajv E h t a lo hi mx=some r)(hr:r.req=true) :
 ∃v,(Instr.sliceAt t va vlo vhi vmx).run P w=.ok v w/\Au (B1 I0 B A w) w r.v v:=by
 unfold Ajv at hl;split at hl
 ·rename_i e _ hT;have hu:=(hty _ _ hT).desc;simp only[Dd] at hu;cases hE:E.ty e with
  | none=>simp[hE] at hl
  | some ei =>
  simp only[hE,Bex] at hl;have hes:=(hty _ _ hE).Kk w;split at hl
  ·cases lo<;>cases hi<;>cases mx<;>simp at hl;subst hl;simp only[Jv] at hlo hhi hmx;subst hlo; subst hhi; subst hmx;simp only[Au] at ha; subst ha;have:=O2 (P:=P) (w:=w) (lo:=none) (hi:=none) (mx:=none) (vlo:=none) (vhi:=none) (vmx:=none) (a:=none) (len:=0) (cap:=0) hu hes rfl (Bfj 0) rfl rfl rfl;exact⟨_,this,by simp[Au]⟩
  ·cases hl
  ·rename_i g kk l hg;by_cases h1:ei.size=1
   ·simp only[h1,Bfp,Bep,Bes] at hl; subst hl;rw[h1] at hes
    have hmain:∃ad cap,va=.slice ad l.length cap/\l.length<=cap/\(l=[]\/∃b o,ad=some ⟨b,o,none⟩/\(B1 I0 B A w).H8 g b/\∀(i:Nat) n,l[i]?=some n->w.cell? ⟨b,o+i,none⟩=some (.int kk n)):=by
     cases g with
     | own i e=>exact absurd rfl (hg i e)
     | arg=>simpa only[Au] using ha
     | fresh=>simpa only[Au] using ha
    obtain⟨ad,cap,rfl,hcap,hh⟩:=hmain;obtain⟨c1,c2,c3⟩:=Zl hr hcap;obtain⟨a1,a2,a3,a4,a5⟩:=Vb hr;refine⟨_,O2 hu hes hr hcap hlo hhi hmx,?_⟩
    have hlen:(Yy lo hi l).length=(hi.getD l.length).toNat-(lo.getD 0).toNat:=by rw[Ada]; simp; omega
    have goal:∃a' cap',(Value.slice (if (mx.getD cap).toNat=(lo.getD 0).toNat then ad else ad.map (·.add ((lo.getD 0).toNat*1))) ((hi.getD l.length).toNat-(lo.getD 0).toNat) ((mx.getD cap).toNat-(lo.getD 0).toNat))=.slice a' (Yy lo hi l).length cap'/\(Yy lo hi l).length<=cap'/\((Yy lo hi l)=[]\/∃b o,a'=some ⟨b,o,none⟩/\(B1 I0 B A w).H8 g b/\∀(i:Nat) n,(Yy lo hi l)[i]?=some n->w.cell? ⟨b,o+i,none⟩=some (.int kk n)):=by
     rw[hlen];refine⟨_,_,rfl,by omega,?_⟩;by_cases h0:(hi.getD l.length).toNat-(lo.getD 0).toNat=0
     ·exact .inl (Bfq (by omega))
     ·rcases hh with rfl | ⟨b,o,rfl,hb,hrd⟩
      ·simp only[xJ] at *; omega
      ·refine .inr ⟨b,o+(lo.getD 0).toNat,?_,hb,fun i n hi'=>?_⟩
       ·rw[Bfb (by omega)];simp only[zU,Bfy];rw[Addr.add_lit]
       ·rw[Ada,yM] at hi'
        have hlt:(lo.getD 0).toNat+i<(hi.getD l.length).toNat:=by
         rcases Bfm ((lo.getD 0).toNat+i) (hi.getD l.length).toNat with h' | h'
         ·exact h'
         ·rw[y9 h'] at hi'; cases hi'
        rw[yW hlt] at hi';rw[yk];exact hrd _ _ hi'
    cases g with
    | own i e=>exact absurd rfl (hg i e)
    | arg=>simpa only[Au] using goal
    | fresh=>simpa only[Au] using goal
   ·rw[show(ei.size==1)=false by simpa using h1] at hl; simp at hl
  ·cases hl
  ·rename_i g sz l hg;by_cases h1:ei.size=sz
   ·simp only[h1,Bfp,Bep,Bes] at hl; subst hl;rw[h1] at hes
    have hmain:∃ad cap,va=.slice ad l.length cap/\l.length<=cap/\(l=[]\/∃b o rows,ad=some ⟨b,o,none⟩/\(B1 I0 B A w).H8 g b/\D5 (B1 I0 B A w).bare w l rows/\(∀r∈rows,r.length=sz/\∀u∈r,u.oneCell'=true)/\∀(i:Nat) u,rows.flatten[i]?=some u->w.cell? ⟨b,o+i,none⟩=some u):=by
     cases g with
     | own i e=>exact absurd rfl (hg i e)
     | arg=>simpa only[Au] using ha
     | fresh=>simpa only[Au] using ha
    obtain⟨ad,cap,rfl,hcap,hh⟩:=hmain;obtain⟨c1,c2,c3⟩:=Zl hr hcap;obtain⟨a1,a2,a3,a4,a5⟩:=Vb hr;refine⟨_,O2 hu hes hr hcap hlo hhi hmx,?_⟩
    have hlen:(Yy lo hi l).length=(hi.getD l.length).toNat-(lo.getD 0).toNat:=by rw[Ada]; simp; omega
    have goal:∃a' cap',(Value.slice (if (mx.getD cap).toNat=(lo.getD 0).toNat then ad else ad.map (·.add ((lo.getD 0).toNat*sz))) ((hi.getD l.length).toNat-(lo.getD 0).toNat) ((mx.getD cap).toNat-(lo.getD 0).toNat))=.slice a' (Yy lo hi l).length cap'/\(Yy lo hi l).length<=cap'/\((Yy lo hi l)=[]\/∃b o rows,a'=some ⟨b,o,none⟩/\(B1 I0 B A w).H8 g b/\D5 (B1 I0 B A w).bare w (Yy lo hi l) rows/\(∀r∈rows,r.length=sz/\∀u∈r,u.oneCell'=true)/\∀(i:Nat) u,rows.flatten[i]?=some u->w.cell? ⟨b,o+i,none⟩=some u):=by
     rw[hlen];refine⟨_,_,rfl,by omega,?_⟩;by_cases h0:(hi.getD l.length).toNat-(lo.getD 0).toNat=0
     ·exact .inl (Bfq (by omega))
     ·rcases hh with rfl | ⟨b,o,rows,rfl,hb,hrr,hlr,hrd⟩
      ·simp only[xJ] at *; omega
      ·refine .inr ⟨b,o+(lo.getD 0).toNat*sz,(rows.take (hi.getD l.length).toNat).drop (lo.getD 0).toNat,?_,hb,?_,?_,?_⟩
       ·rw[Bfb (by omega)];simp only[zU];rw[Addr.add_lit]
       ·rw[Ada]; exact(hrr.take _).drop _
       ·exact fun r hr'=>hlr r (yY (List.mem_of_mem_drop hr'))
       ·intro i u hi';rw[yk];refine hrd _ _ ?_;rw[Tw (fun r hr'=>(hlr r (yY hr')).1),yM,Qh (fun r hr'=>(hlr r hr').1)] at hi';rcases Bfm ((lo.getD 0).toNat*sz+i) ((hi.getD l.length).toNat*sz) with h' | h'
        ·rwa[yW h'] at hi'
        ·rw[y9 h'] at hi'; cases hi'
    cases g with
    | own i e=>exact absurd rfl (hg i e)
    | arg=>simpa only[Au] using goal
    | fresh=>simpa only[Au] using goal
   ·rw[show(ei.size==sz)=false by simpa using h1] at hl; simp at hl
  ·rename_i n;simp only[Au] at ha;obtain⟨_,p,hp,hd⟩:=ha;split at hl
   ·rename_i e' kk l hlk;obtain⟨hst,sv,hk,ho⟩:=Fk hm hp hlk;obtain⟨size,hk'⟩:=hd.resolve_left (Cf hst);rw[hk] at hk'; cases hk';by_cases h1:ei.size=1
    ·simp only[h1,Bfp,Bep,Bes] at hl; subst hl;have:=Ac9 (I0:=I0) (B:=B) (A:=A) (off:=0) (len:=l.length) hp hk hu hes h1 (va:=va) (Gx ho) hr hlo hhi hmx;simpa using this
    ·rw[show(ei.size==1)=false by simpa using h1] at hl; simp at hl
   ·rename_i e' sz l hlk;obtain⟨hst,_,sv,rows,hk,hrr,hlen,ho⟩:=Gh hm hp hlk;obtain⟨size,hk'⟩:=hd.resolve_left (Cf hst);rw[hk] at hk'; cases hk';by_cases h1:ei.size=sz
    ·simp only[h1,Bfp,Bep,Bes] at hl; subst hl;have:=Ac9 (I0:=I0) (B:=B) (A:=A) (off:=0) (len:=l.length) hp hk hu hes h1 (va:=va) (Gx ho) hr hlo hhi hmx;simpa using this
    ·rw[show(ei.size==sz)=false by simpa using h1] at hl; simp at hl
   ·cases hl
  ·rename_i n off len;simp only[Au] at ha;obtain⟨_,p,hp,hd⟩:=ha;split at hl
   ·rename_i e' kk l hlk;obtain⟨hst,sv,hk,ho⟩:=Fk hm hp hlk;obtain⟨sv',size,hk',hs⟩:=hd.resolve_left (Cf hst);rw[hk] at hk'; cases hk';by_cases h1:ei.size=1
    ·simp only[h1,Bfp,Bep,Bes] at hl; subst hl;exact Ac9 hp hk hu hes h1 hs hr hlo hhi hmx
    ·rw[show(ei.size==1)=false by simpa using h1] at hl; simp at hl
   ·rename_i e' sz l hlk;obtain⟨hst,_,sv,rows,hk,hrr,hlen,ho⟩:=Gh hm hp hlk;obtain⟨sv',size,hk',hs⟩:=hd.resolve_left (Cf hst);rw[hk] at hk'; cases hk';by_cases h1:ei.size=sz
    ·simp only[h1,Bfp,Bep,Bes] at hl; subst hl;exact Ac9 hp hk hu hes h1 hs hr hlo hhi hmx
    ·rw[show(ei.size==sz)=false by simpa using h1] at hl; simp at hl
   ·cases hl
  ·cases hl
 ·cases hl
end
end Go.Den
end
