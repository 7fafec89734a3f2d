/- A verified evaluator of the program's form and its use for this seat: Den32, Den33, Den34, Den35, Den36, Den37, Den38, Bits. -/
import Derived.Test.YthajngaadbanfaaGreatTC
import Derived.KernelRfl
import Derived.Laws.StructEq
import Derived.Laws.Externs
import Derived.ChangeKeysEq
import Derived.IntWalk
set_option linter.unusedVariables false
set_option linter.unusedSimpArgs false
noncomputable section
open Int (toNat)
open List (length getD)
namespace Go.Den
open Go.RowKit (Below)
theorem Alz {P:Program} {E:Env} {S:Acn E} (hty:∀ t ti,E.ty t=some ti→Cs P t ti) {I:Nat→Prop} {fn:Func} {st:St} {out:DV} (h:Aca E fn st=some out) {w w':World} {a:Act} (hh:Gg S I w.heap.size w st a w') :
 ∃ v own,(results fn a.tmps).run P w'=.ok v w'∧Below w.heap.size w w'∧Am2 own w w'∧As (Eo I own w w') w' out v:=by
 obtain ⟨A,hA⟩:=hh
 unfold Aca at h
 cases hds:Us E st fn.results.toList with
 | none=>simp [hds] at h
 | some ds =>
   rw [hds,A4y] at h
   obtain ⟨vs,hv,hr⟩:=Xm hty hA _ ds hds
   have hm:Mem I w.heap.size A st.heap w':=hA.mem fun n p fo _ hl=>hl
   have hone:As (B1 I w.heap.size A w') w' (Ar3 ds) (Ar2 vs):=by
    match ds,vs,hv with
    | [],vs,hv =>
      rw [Bj.Hw] at hv; subst hv
      simp only [As,Ar3,Ar2]
      exact ⟨#[],rfl,by simp [Bj]⟩
    | [d],vs,hv =>
      rw [Bj.Df] at hv
      obtain ⟨u,us,rfl,h1,h2⟩:=hv
      rw [Bj.Hw] at h2; subst h2
      exact h1
    | d::d'::ds,vs,hv =>
      have hv':=hv
      rw [Bj.Df] at hv
      obtain ⟨u,us,rfl,h1,h2⟩:=hv
      rw [Bj.Df] at h2
      obtain ⟨u',us',rfl,h3,h4⟩:=h2
      simp only [As,Ar3,Ar2]
      exact ⟨_,rfl,by simpa using hv'⟩
   cases hrs:Hp st.heap 6 (Ar3 ds) with
   | none=>rw [hrs] at h; cases h
   | some r =>
     obtain ⟨d,ns,os⟩:=r
     rw [hrs,A4y] at h
     simp only at h
     cases hc:(ns.all fun n=>!(os.contains n)) with
     | false=>rw [hc] at h; cases h
     | true =>
       rw [hc,A4q,A4t] at h
       subst h
       have hdis:∀ n∈ns,n ∉ os:=fun n hn hno=>by
        have:=List.all_eq_true.1 hc n hn
        simp [hno] at this
       refine ⟨_,M7 A os,Ym hr,hA.below,⟨fun i b hb=>?_,fun i j b hi hj=>?_⟩,Arq hm hdis 6 _ _ _ ns os hrs (fun _ h=>h) (fun _ h=>h) hone⟩
       ·obtain ⟨_,p,hp,hl,hpb⟩:=Qk hb
        exact hm.blkB i p b hp (by rw [hl]; simp) hpb
       ·obtain ⟨_,p,hp,hl,hpb⟩:=Qk hi
        obtain ⟨_,q,hq,hl',hqb⟩:=Qk hj
        exact hm.inj i j p q b hp hq (by rw [hl]; simp) (by rw [hl']; simp) hpb hqb
theorem Azo {P:Program} {E:Env} (he:Ka P E) {fuel:Nat} {f:FuncId} {fn:Func} {body:Code} (hf:P.funcs[f]?=some fn) (hb:fn.body=some body) {args:List DV} {out:DV} (h:B0 E fuel fn body args=some out):Qa P f args out:=by
 intro w vals I hI hv
 refine calls_of_wp hf hb ?_
 unfold B0 at h
 have hlen:args.length=vals.size:=by have:=hv.length; simpa using this
 have hh:Gg (E:=E) ⟨fun _=>False,fun t=>(vals++Array.replicate (fn.ntmps-vals.size) undef).getD t undef⟩ I w.heap.size w ⟨args++List.replicate (fn.ntmps-args.length) .undef,[]⟩ ⟨vals++Array.replicate (fn.ntmps-vals.size) undef,[]⟩ w:=by
  refine ⟨fun _=>none,rfl,by simp only [Array.size_append,Array.size_replicate,A5i,List.length_replicate]; omega,Below.refl _ _,A5k _,hI,fun n p h=>(by cases h),fun n p b h=>(by cases h),fun n m p q b h=>(by cases h),fun t=>?_,fun b h=>h.elim,fun t _=>rfl⟩
  have hw:Ld (Kd I) (B1 I w.heap.size (fun _=>none) w):=⟨fun b hb=>⟨hI b hb,.inl hb,fun n p h=>(by cases h)⟩,rfl,fun _=>rfl,fun _=>rfl⟩
  have hl:=Bj.Gr hw _ _ hv
  rcases A5n t args.length with hlt | hge
  ·obtain ⟨v,h1,h2⟩:=hl.getD t hlt
   simp only [A40,List.getElem?_append_left hlt] at h2 ⊢
   have hlt':t<vals.size:=by omega
   have e:(vals++Array.replicate (fn.ntmps-vals.size) undef).getD t undef=v:=by
    rw [Array.getD_eq_getD_getElem?,Array.getElem?_append_left hlt']
    rw [Array.getElem?_toList] at h1
    rw [h1]; rfl
   rw [e]; exact h2
  ·rw [A40,A54 hge,List.getElem?_replicate]
   split<;>simp only [A6a,Option.getD_none,As]
 refine Rm he fuel out body 0 _ _ _ _ h _ _ hh _ (fun st a w' hk hh'=>?_) (fun id st a w' hk=>by cases hk) (fun st a w' hk hh'=>?_)
 ·obtain ⟨v,own,h1,h2,h3,h4⟩:=Alz he.ty hk hh'
  have hd:a.defers=[]:=by obtain ⟨A,hA⟩:=hh'; exact hA.defers
  exact ⟨hd,v,h1,v,own,rfl,h2,h3,h4⟩
 ·obtain ⟨v,own,h1,h2,h3,h4⟩:=Alz he.ty hk hh'
  have hd:a.defers=[]:=by obtain ⟨A,hA⟩:=hh'; exact hA.defers
  exact ⟨hd,v,h1,v,own,rfl,h2,h3,h4⟩
end Go.Den
namespace Go.Den
open Go.RowKit (Below)
inductive AT where
 | b
 | i (k:IntKind)
 | s (k:IntKind)
 | fl
 | nb
 | st (l:List AT)
 | fn (g:FuncId) (l:List AT)
 | fm (g:FuncId) (l:List AT)
 | cp (l:List AT)
 | rs (sz:Nat) (l:List (List AT))
 | rl (sz:Nat)
inductive Atom where
 | b (x:Bool)
 | i (x:Int)
 | l (x:List Int)
 | f (x:Nat)
 | r (x:List (List DV))
def Aiv:AT→DV→Option Atom
 | .b,.bool x=>some (.b x)
 | .i k,.int k' x=>bif decide (k=k') then some (.i x) else none
 | .s _,.nil=>some (.l [])
 | .s k,.ints .arg k' l=>bif decide (k=k') then some (.l l) else none
 | .fl,.fl n=>some (.f n)
 | .nb,.nb n=>some (.f n)
 | .rl _,.nil=>some (.r [])
 | .rl sz,.recs .arg sz' rows=>bif Nat.beq sz sz' then some (.r rows) else none
 | _,_=>none
def X6:List AT→List DV→Option (List Atom)
 | [],[]=>some []
 | t::ts,d::ds=>match Aiv t d with
   | some a=>match X6 ts ds with
     | some as=>some (a::as)
     | none=>none
   | none=>none
 | _,_=>none
def T6:List AT→List DV→Option (List Atom)
 | [],[]=>some []
 | .cp l::ts,.cellp cs::ds=>match X6 l cs with
   | some as=>match T6 ts ds with
     | some bs=>some (as++bs)
     | none=>none
   | none=>none
 | .st l::ts,.agg cs::ds=>match X6 l cs with
   | some as=>match T6 ts ds with
     | some bs=>some (as++bs)
     | none=>none
   | none=>none
 | t::ts,d::ds=>match Aiv t d with
   | some a=>match T6 ts ds with
     | some bs=>some (a::bs)
     | none=>none
   | none=>none
 | _,_=>none
def Afz:List (List AT)→List (List DV)→Option (List Atom)
 | [],[]=>some []
 | l::ls,cs::rows=>match X6 l cs with
   | some as=>match Afz ls rows with
     | some bs=>some (as++bs)
     | none=>none
   | none=>none
 | _,_=>none
def Mg:List AT→List DV→Option (List Atom)
 | [],[]=>some []
 | .rs sz ls::ts,.recs .arg sz' rows::ds=>bif Nat.beq sz sz' then
  match Afz ls rows with
  | some as=>match Mg ts ds with
    | some bs=>some (as++bs)
    | none=>none
  | none=>none
   else none
 | .fm g l::ts,.fn g' fs []::ds=>bif Nat.beq g g' then
  match T6 l fs with
  | some as=>match Mg ts ds with
    | some bs=>some (as++bs)
    | none=>none
  | none=>none
   else none
 | .fn g l::ts,.fn g' [] cs::ds=>bif Nat.beq g g' then
  match T6 l cs with
  | some as=>match Mg ts ds with
    | some bs=>some (as++bs)
    | none=>none
  | none=>none
   else none
 | .cp l::ts,.cellp cs::ds=>match T6 l cs with
   | some as=>match Mg ts ds with
     | some bs=>some (as++bs)
     | none=>none
   | none=>none
 | .st l::ts,.agg cs::ds=>match T6 l cs with
   | some as=>match Mg ts ds with
     | some bs=>some (as++bs)
     | none=>none
   | none=>none
 | t::ts,d::ds=>match Aiv t d with
   | some a=>match Mg ts ds with
     | some bs=>some (a::bs)
     | none=>none
   | none=>none
 | _,_=>none
inductive Fq:List AT→List Atom→List DV→Prop
 | nil:Fq [] [] []
 | b {ts as ds} (x:Bool):Fq ts as ds→Fq (.b::ts) (.b x::as) (.bool x::ds)
 | i {ts as ds} (k:IntKind) (x:Int):Fq ts as ds→Fq (.i k::ts) (.i x::as) (.int k x::ds)
 | s {ts as ds} (k:IntKind) (x:List Int):Fq ts as ds→Fq (.s k::ts) (.l x::as) (.ints .arg k x::ds)
 | fl {ts as ds} (x:Nat):Fq ts as ds→Fq (.fl::ts) (.f x::as) (.fl x::ds)
 | nb {ts as ds} (x:Nat):Fq ts as ds→Fq (.nb::ts) (.f x::as) (.nb x::ds)
 | rl {ts as ds} (sz:Nat) (x:List (List DV)):Fq ts as ds→Fq (.rl sz::ts) (.r x::as) (.recs .arg sz x::ds)
 | st {l ts as cs bs ds}:Fq l as cs→Fq ts bs ds→Fq (.st l::ts) (as++bs) (.agg cs::ds)
 | fn {g l ts as cs bs ds}:Fq l as cs→Fq ts bs ds→Fq (.fn g l::ts) (as++bs) (.fn g [] cs::ds)
 | fm {g l ts as cs bs ds}:Fq l as cs→Fq ts bs ds→Fq (.fm g l::ts) (as++bs) (.fn g cs []::ds)
 | cp {l ts as cs bs ds}:Fq l as cs→Fq ts bs ds→Fq (.cp l::ts) (as++bs) (.cellp cs::ds)
 | rs0 {sz ts bs ds}:Fq ts bs ds→Fq (.rs sz []::ts) bs (.recs .arg sz []::ds)
 | rs1 {sz l ls ts as cs bs rows ds}:Fq l as cs→Fq (.rs sz ls::ts) bs (.recs .arg sz rows::ds)→Fq (.rs sz (l::ls)::ts) (as++bs) (.recs .arg sz (cs::rows)::ds)
theorem Asc {c:Ctx} {w:World} {k:IntKind} {v:Value} (h:As c w .nil v):As c w (.ints .arg k []) v:=by
 simp only [As] at h ⊢
 subst h
 exact ⟨none,0,rfl,A5k _,.inl trivial⟩
theorem Asb {c:Ctx} {w:World} {sz:Nat} {v:Value} (h:As c w .nil v):As c w (.recs .arg sz []) v:=by
 simp only [As] at h ⊢
 subst h
 exact ⟨none,0,rfl,A5k _,.inl trivial⟩
theorem Af0 {t:AT} {d:DV} {a:Atom} (h:Aiv t d=some a):∃ d',(∀ ts as ds,Fq ts as ds→Fq (t::ts) (a::as) (d'::ds))∧∀ c w v,As c w d v→As c w d' v:=by
 unfold Aiv at h
 split at h
 ·simp only [A4t] at h; subst h
  exact ⟨_,fun _ _ _ he=>.b _ he,fun _ _ _ h=>h⟩
 ·rename_i k k' x
  by_cases e:k=k'
  ·subst e
   simp only [decide_true,A4q,A4t] at h; subst h
   exact ⟨_,fun _ _ _ he=>.i _ _ he,fun _ _ _ h=>h⟩
  ·simp [e] at h
 ·rename_i k
  simp only [A4t] at h; subst h
  exact ⟨_,fun _ _ _ he=>.s k _ he,fun _ _ _ h=>Asc h⟩
 ·rename_i k k' x
  by_cases e:k=k'
  ·subst e
   simp only [decide_true,A4q,A4t] at h; subst h
   exact ⟨_,fun _ _ _ he=>.s _ _ he,fun _ _ _ h=>h⟩
  ·simp [e] at h
 ·simp only [A4t] at h; subst h
  exact ⟨_,fun _ _ _ he=>.fl _ he,fun _ _ _ h=>h⟩
 ·simp only [A4t] at h; subst h
  exact ⟨_,fun _ _ _ he=>.nb _ he,fun _ _ _ h=>h⟩
 ·rename_i sz
  simp only [A4t] at h; subst h
  exact ⟨_,fun _ _ _ he=>.rl sz _ he,fun _ _ _ h=>Asb h⟩
 ·rename_i sz sz' rows
  cases hg:Nat.beq sz sz' with
  | false=>rw [hg] at h; cases h
  | true =>
    rw [hg,A4q] at h
    obtain rfl:=A48 hg
    simp only [A4t] at h; subst h
    exact ⟨_,fun _ _ _ he=>.rl sz _ he,fun _ _ _ h=>h⟩
 ·cases h
theorem Zr:∀ {ts:List AT} {ds:List DV} {as:List Atom},X6 ts ds=some as→∃ ds',Fq ts as ds'∧∀ c w vs,Bj c w ds vs→Bj c w ds' vs
 | [],[],as,h=>by
   simp only [X6,A4t] at h; subst h
   exact ⟨[],.nil,fun _ _ _ h=>h⟩
 | t::ts,d::ds,as,h=>by
   simp only [X6] at h
   cases h1:Aiv t d with
   | none=>rw [h1] at h; cases h
   | some a =>
     cases h2:X6 ts ds with
     | none=>rw [h1,h2] at h; cases h
     | some bs =>
       rw [h1,h2] at h
       simp only [A4t] at h; subst h
       obtain ⟨d',i1,i2⟩:=Af0 h1
       obtain ⟨ds',j1,j2⟩:=Zr h2
       refine ⟨d'::ds',i1 _ _ _ j1,fun c w vs hv=>?_⟩
       rw [Bj.Df] at hv ⊢
       obtain ⟨u,us,e,hu,hus⟩:=hv
       exact ⟨u,us,e,i2 _ _ _ hu,j2 _ _ _ hus⟩
 | [],_::_,as,h=>by simp [X6] at h
 | _::_,[],as,h=>by simp [X6] at h
theorem Rn:∀ {ts:List AT} {ds:List DV} {as:List Atom},T6 ts ds=some as→∃ ds',Fq ts as ds'∧∀ c w vs,Bj c w ds vs→Bj c w ds' vs
 | ts,ds,as,h=>by
   unfold T6 at h
   split at h
   ·simp only [A4t] at h; subst h
    exact ⟨[],.nil,fun _ _ _ h=>h⟩
   ·rename_i l ts cs ds
    cases h1:X6 l cs with
    | none=>rw [h1] at h; cases h
    | some a =>
      cases h2:T6 ts ds with
      | none=>rw [h1,h2] at h; cases h
      | some bs =>
        rw [h1,h2] at h
        simp only [A4t] at h; subst h
        obtain ⟨cs',i1,i2⟩:=Zr h1
        obtain ⟨ds',j1,j2⟩:=Rn h2
        refine ⟨.cellp cs'::ds',.cp i1 j1,fun c w vs hv=>?_⟩
        rw [Bj.Df] at hv ⊢
        obtain ⟨u,us,e,hu,hus⟩:=hv
        refine ⟨u,us,e,?_,j2 _ _ _ hus⟩
        simp only [As] at hu ⊢
        obtain ⟨b,o,vs,e,hb,hh,hc⟩:=hu
        exact ⟨b,o,vs,e,hb,i2 _ _ _ hh,hc⟩
   ·rename_i l ts cs ds
    cases h1:X6 l cs with
    | none=>rw [h1] at h; cases h
    | some a =>
      cases h2:T6 ts ds with
      | none=>rw [h1,h2] at h; cases h
      | some bs =>
        rw [h1,h2] at h
        simp only [A4t] at h; subst h
        obtain ⟨cs',i1,i2⟩:=Zr h1
        obtain ⟨ds',j1,j2⟩:=Rn h2
        refine ⟨.agg cs'::ds',.st i1 j1,fun c w vs hv=>?_⟩
        rw [Bj.Df] at hv ⊢
        obtain ⟨u,us,e,hu,hus⟩:=hv
        refine ⟨u,us,e,?_,j2 _ _ _ hus⟩
        simp only [As] at hu ⊢
        obtain ⟨vs,e,hh⟩:=hu
        exact ⟨vs,e,i2 _ _ _ hh⟩
   ·rename_i t ts d ds _ _
    cases h1:Aiv t d with
    | none=>rw [h1] at h; cases h
    | some a =>
      cases h2:T6 ts ds with
      | none=>rw [h1,h2] at h; cases h
      | some bs =>
        rw [h1,h2] at h
        simp only [A4t] at h; subst h
        obtain ⟨d',i1,i2⟩:=Af0 h1
        obtain ⟨ds',j1,j2⟩:=Rn h2
        refine ⟨d'::ds',i1 _ _ _ j1,fun c w vs hv=>?_⟩
        rw [Bj.Df] at hv ⊢
        obtain ⟨u,us,e,hu,hus⟩:=hv
        exact ⟨u,us,e,i2 _ _ _ hu,j2 _ _ _ hus⟩
   ·cases h
theorem Amr:∀ {ls:List (List AT)} {rows:List (List DV)} {as:List Atom},Afz ls rows=some as →
 ∃ rows',(∀ sz ts bs ds,Fq ts bs ds→Fq (.rs sz ls::ts) (as++bs) (.recs .arg sz rows'::ds))∧rows'.length=rows.length∧∀ c w vs,Dy c w rows vs→Dy c w rows' vs
 | [],[],as,h=>by
   simp only [Afz,A4t] at h; subst h
   exact ⟨[],fun _ _ _ _ h=>.rs0 h,rfl,fun _ _ _ h=>h⟩
 | l::ls,cs::rows,as,h=>by
   simp only [Afz] at h
   cases h1:X6 l cs with
   | none=>rw [h1] at h; cases h
   | some a =>
     cases h2:Afz ls rows with
     | none=>rw [h1,h2] at h; cases h
     | some bs =>
       rw [h1,h2] at h
       simp only [A4t] at h; subst h
       obtain ⟨cs',i1,i2⟩:=Zr h1
       obtain ⟨rows',j1,j2,j3⟩:=Amr h2
       refine ⟨cs'::rows',fun sz ts b ds he=>?_,by simp [j2],fun c w vs hv=>?_⟩
       ·rw [List.append_assoc]; exact .rs1 i1 (j1 _ _ _ _ he)
       ·simp only [Dy] at hv ⊢
        obtain ⟨u,us,e,hu,hus⟩:=hv
        exact ⟨u,us,e,i2 _ _ _ hu,j3 _ _ _ hus⟩
 | [],_::_,as,h=>by simp [Afz] at h
 | _::_,[],as,h=>by simp [Afz] at h
theorem Mq:∀ {ts:List AT} {ds:List DV} {as:List Atom},Mg ts ds=some as→∃ ds',Fq ts as ds'∧∀ c w vs,Bj c w ds vs→Bj c w ds' vs
 | ts,ds,as,h=>by
   unfold Mg at h
   split at h
   ·simp only [A4t] at h; subst h
    exact ⟨[],.nil,fun _ _ _ h=>h⟩
   ·rename_i sz ls ts sz' rows ds
    cases hg:Nat.beq sz sz' with
    | false=>rw [hg] at h; cases h
    | true =>
    rw [hg,A4q] at h
    obtain rfl:=A48 hg
    cases h1:Afz ls rows with
    | none=>rw [h1] at h; cases h
    | some a =>
      cases h2:Mg ts ds with
      | none=>rw [h1,h2] at h; cases h
      | some bs =>
        rw [h1,h2] at h
        simp only [A4t] at h; subst h
        obtain ⟨rows',i1,i3,i2⟩:=Amr h1
        obtain ⟨ds',j1,j2⟩:=Mq h2
        refine ⟨.recs .arg sz rows'::ds',i1 _ _ _ _ j1,fun c w vs hv=>?_⟩
        rw [Bj.Df] at hv ⊢
        obtain ⟨u,us,e,hu,hus⟩:=hv
        refine ⟨u,us,e,?_,j2 _ _ _ hus⟩
        simp only [As] at hu ⊢
        obtain ⟨a,cap,e,hc,hh⟩:=hu
        refine ⟨a,cap,by rw [i3]; exact e,by rw [i3]; exact hc,hh.imp (fun h=>?_) fun ⟨b,o,rs,e1,e2,e3,e4,e5⟩=>⟨b,o,rs,e1,e2,i2 _ _ _ e3,e4,e5⟩⟩
        rw [h] at i3
        exact A5r i3
   ·rename_i g l ts g' cs ds
    cases hg:Nat.beq g g' with
    | false=>rw [hg] at h; cases h
    | true =>
    rw [hg,A4q] at h
    obtain rfl:=A48 hg
    cases h1:T6 l cs with
    | none=>rw [h1] at h; cases h
    | some a =>
      cases h2:Mg ts ds with
      | none=>rw [h1,h2] at h; cases h
      | some bs =>
        rw [h1,h2] at h
        simp only [A4t] at h; subst h
        obtain ⟨cs',i1,i2⟩:=Rn h1
        obtain ⟨ds',j1,j2⟩:=Mq h2
        refine ⟨.fn g cs' []::ds',.fm i1 j1,fun c w vs hv=>?_⟩
        rw [Bj.Df] at hv ⊢
        obtain ⟨u,us,e,hu,hus⟩:=hv
        refine ⟨u,us,e,?_,j2 _ _ _ hus⟩
        simp only [As] at hu ⊢
        obtain ⟨fs',vs,e,hf,hh⟩:=hu
        exact ⟨fs',vs,e,i2 _ _ _ hf,hh⟩
   ·rename_i g l ts g' cs ds
    cases hg:Nat.beq g g' with
    | false=>rw [hg] at h; cases h
    | true =>
    rw [hg,A4q] at h
    obtain rfl:=A48 hg
    cases h1:T6 l cs with
    | none=>rw [h1] at h; cases h
    | some a =>
      cases h2:Mg ts ds with
      | none=>rw [h1,h2] at h; cases h
      | some bs =>
        rw [h1,h2] at h
        simp only [A4t] at h; subst h
        obtain ⟨cs',i1,i2⟩:=Rn h1
        obtain ⟨ds',j1,j2⟩:=Mq h2
        refine ⟨.fn g [] cs'::ds',.fn i1 j1,fun c w vs hv=>?_⟩
        rw [Bj.Df] at hv ⊢
        obtain ⟨u,us,e,hu,hus⟩:=hv
        refine ⟨u,us,e,?_,j2 _ _ _ hus⟩
        simp only [As] at hu ⊢
        obtain ⟨fs',vs,e,hf,hh⟩:=hu
        exact ⟨fs',vs,e,hf,i2 _ _ _ hh⟩
   ·rename_i l ts cs ds
    cases h1:T6 l cs with
    | none=>rw [h1] at h; cases h
    | some a =>
      cases h2:Mg ts ds with
      | none=>rw [h1,h2] at h; cases h
      | some bs =>
        rw [h1,h2] at h
        simp only [A4t] at h; subst h
        obtain ⟨cs',i1,i2⟩:=Rn h1
        obtain ⟨ds',j1,j2⟩:=Mq h2
        refine ⟨.cellp cs'::ds',.cp i1 j1,fun c w vs hv=>?_⟩
        rw [Bj.Df] at hv ⊢
        obtain ⟨u,us,e,hu,hus⟩:=hv
        refine ⟨u,us,e,?_,j2 _ _ _ hus⟩
        simp only [As] at hu ⊢
        obtain ⟨b,o,vs,e,hb,hh,hc⟩:=hu
        exact ⟨b,o,vs,e,hb,i2 _ _ _ hh,hc⟩
   ·rename_i l ts cs ds
    cases h1:T6 l cs with
    | none=>rw [h1] at h; cases h
    | some a =>
      cases h2:Mg ts ds with
      | none=>rw [h1,h2] at h; cases h
      | some bs =>
        rw [h1,h2] at h
        simp only [A4t] at h; subst h
        obtain ⟨cs',i1,i2⟩:=Rn h1
        obtain ⟨ds',j1,j2⟩:=Mq h2
        refine ⟨.agg cs'::ds',.st i1 j1,fun c w vs hv=>?_⟩
        rw [Bj.Df] at hv ⊢
        obtain ⟨u,us,e,hu,hus⟩:=hv
        refine ⟨u,us,e,?_,j2 _ _ _ hus⟩
        simp only [As] at hu ⊢
        obtain ⟨vs,e,hh⟩:=hu
        exact ⟨vs,e,i2 _ _ _ hh⟩
   ·rename_i t ts d ds _ _ _ _ _
    cases h1:Aiv t d with
    | none=>rw [h1] at h; cases h
    | some a =>
      cases h2:Mg ts ds with
      | none=>rw [h1,h2] at h; cases h
      | some bs =>
        rw [h1,h2] at h
        simp only [A4t] at h; subst h
        obtain ⟨d',i1,i2⟩:=Af0 h1
        obtain ⟨ds',j1,j2⟩:=Mq h2
        refine ⟨d'::ds',i1 _ _ _ j1,fun c w vs hv=>?_⟩
        rw [Bj.Df] at hv ⊢
        obtain ⟨u,us,e,hu,hus⟩:=hv
        exact ⟨u,us,e,i2 _ _ _ hu,j2 _ _ _ hus⟩
   ·cases h
def entry (ts:List AT) (pre:List Atom→Bool) (out:List Atom→DV):Entry where
 pre:=fun args=>match Mg ts args with
  | some as=>pre as
  | none=>false
 out:=fun args=>match Mg ts args with
  | some as=>out as
  | none=>.undef
inductive Wk (drops:List Nat):DV→DV→Prop
 | refl {d:DV} (h:Fz 1 [] d=true) (ho:∀ i e k l,d≠.ints (.own i e) k l) (hr:∀ i e k l,d≠.recs (.own i e) k l):Wk drops d d
 | nil (g:Ai9) (k:IntKind):Wk drops .nil (.ints g k [])
 | fresh (k:IntKind) (l:List Int):Wk drops (.ints .fresh k l) (.ints .arg k l)
 | keep (i:Nat) (e:TypeId) (k:IntKind) (l:List Int) (h:i ∉ drops):Wk drops (.ints (.own i e) k l) (.ints (.own i e) k l)
 | keepR (i:Nat) (e:TypeId) (sz:Nat) (l:List (List DV)) (h:i ∉ drops):Wk drops (.recs (.own i e) sz l) (.recs (.own i e) sz l)
 | nilR (g:Ai9) (sz:Nat):Wk drops .nil (.recs g sz [])
 | dropR (i:Nat) (e:TypeId) (sz:Nat) (l:List (List DV)) (h:i∈drops):Wk drops (.recs (.own i e) sz l) (.recs .fresh sz l)
 | drop (i:Nat) (e:TypeId) (k:IntKind) (l:List Int) (h:i∈drops):Wk drops (.ints (.own i e) k l) (.ints .fresh k l)
 | dropA (i:Nat) (e:TypeId) (k:IntKind) (l:List Int) (h:i∈drops):Wk drops (.ints (.own i e) k l) (.ints .arg k l)
 | agg {l l':List DV} (h:l.length=l'.length) (hw:∀ (j:Nat) d d',l[j]?=some d→l'[j]?=some d'→Wk drops d d'):Wk drops (.agg l) (.agg l')
 | tup {l l':List DV} (h:l.length=l'.length) (hw:∀ (j:Nat) d d',l[j]?=some d→l'[j]?=some d'→Wk drops d d'):Wk drops (.tup l) (.tup l')
def Jj (drops:List Nat) (own:Nat→Option Nat) (i:Nat):Option Nat:=if i∈drops then none else own i
theorem Nj {drops:List Nat} {own:Nat→Option Nat} {i b:Nat} (h:Jj drops own i=some b):own i=some b∧i ∉ drops:=by
 unfold Jj at h
 split at h
 ·cases h
 ·exact ⟨h,‹_›⟩
theorem Ua {w:World} {base:Nat} {e:TypeId} {k:IntKind} {l:List Int} {v:Value} (ho:w.ownsRow base e 1 v l.length (l.map (Value.int k))) {ok:Nat→Prop} (hok:∀ b,v.ownBlock=some b→ok b) :
 ∃ a cap,v=.slice a l.length cap∧l.length≤cap∧(l=[]∨∃ b o,a=some ⟨b,o,none⟩∧ok b∧∀ (i:Nat) n,l[i]?=some n→w.cell? ⟨b,o+i,none⟩=some (.int k n)):=by
 have:=K7 (p:=⟨.live,.row v 1⟩) rfl ho (F4 ho) (ok:=ok) hok
 simp only [List.drop_zero,List.take_length] at this
 exact this
theorem Wk.rel {drops:List Nat} {d d':DV} (h:Wk drops d d') {I:Nat→Prop} {own:Nat→Option Nat} {w w':World} (ho:Am2 own w w'):∀ v,As (Eo I own w w') w' d v→As (Eo I (Jj drops own) w w') w' d' v:=by
 have hok:∀ b,(Eo I own w w').ok b→(Eo I (Jj drops own) w w').ok b:=by
  rintro b ⟨h1,h2,h3⟩
  exact ⟨h1,h2,fun i hi=>h3 i (Nj hi).1⟩
 have hblk:∀ i b,i∈drops→own i=some b→(Eo I (Jj drops own) w w').ok b∧w.heap.size≤b:=by
  intro i b hi hb
  obtain ⟨h1,h2⟩:=ho.lt i b hb
  refine ⟨⟨h2,.inr h1,fun j hj=>?_⟩,h1⟩
  obtain ⟨h3,h4⟩:=Nj hj
  rw [ho.inj j i b h3 hb] at h4
  exact h4 hi
 induction h with
 | @refl d h h1 h2 =>
   intro v hv
   have hl:Nl (({ Eo I own w w' with own:=fun _=>none }:Ctx).only []) w' (Eo I (Jj drops own) w w') w' :=
    ⟨hok,rfl,rfl,fun _ _ h=>(by cases h),fun n p hp=>(by simp [Ctx.only] at hp),fun _ _ _=>rfl,fun _ _ h=>(by cases h)⟩
   refine As.D9 hl d v (Ae8 [] 1 d v h ?_)
   cases d with
   | ints g k l =>
     cases g with
     | own i e=>exact absurd rfl (h1 i e k l)
     | _=>simp only [As] at hv ⊢; exact hv
   | recs g k l =>
     cases g with
     | own i e=>exact absurd rfl (h2 i e k l)
     | _=>simp only [As] at hv ⊢; exact hv
   | agg l =>
     cases l with
     | nil=>simp only [As] at hv ⊢; simpa [Bj] using hv
     | cons a l=>simp [Fz] at h
   | tup l =>
     cases l with
     | nil=>simp only [As] at hv ⊢; simpa [Bj] using hv
     | cons a l=>simp [Fz] at h
   | fn g a c =>
     cases a with
     | cons _ _=>simp [Fz] at h
     | nil =>
       cases c with
       | cons _ _=>simp [Fz] at h
       | nil=>simp only [As] at hv ⊢; simpa [Bj] using hv
   | gd c d=>simp [Fz] at h
   | oref n=>simp [Fz] at h
   | sref n o m=>simp [Fz] at h
   | ptr n i j=>simp [Fz] at h
   | undef=>simp only [As]
   | _=>simp only [As] at hv ⊢; exact hv
 | nil g k =>
   intro v hv
   simp only [As] at hv
   subst hv
   cases g with
   | own i e=>simp only [As]; exact ⟨World.ownsRow_nil w' _ e 1,fun b hb=>by cases hb⟩
   | _=>simp only [As]; exact ⟨none,0,rfl,A5k _,.inl trivial⟩
 | nilR g sz =>
   intro v hv
   simp only [As] at hv
   subst hv
   cases g with
   | own i e=>simp only [As]; exact ⟨[],by simp [Dy],by simp,World.ownsRow_nil w' _ e sz,fun b hb=>by cases hb⟩
   | _=>simp only [As]; exact ⟨none,0,rfl,A5k _,.inl trivial⟩
 | dropR i e sz l h =>
   intro v hv
   simp only [As] at hv ⊢
   obtain ⟨rows,h1,h2,h3,h4⟩:=hv
   have hr:=Dy.D9 (c:=(Eo I own w w').bare) (c':=(Eo I (Jj drops own) w w').bare) ⟨hok,rfl,rfl,fun _ _ h=>(by cases h),fun _ _ h=>(by cases h),fun _ _ _=>rfl,fun _ _ h=>(by cases h)⟩ _ _ h1
   have:=K6 (p:=⟨.live,.row v sz⟩) rfl hr h2 h3 (by have:=F4 h3; exact this) (ok:=fun b=>(Eo I (Jj drops own) w w').ok b∧w.heap.size≤b) (fun b hb=>hblk i b h (h4 b hb))
   simp only [List.drop_zero,List.take_length] at this
   obtain ⟨a,cap,e1,e2,e3⟩:=this
   exact ⟨a,cap,e1,e2,e3.imp id fun ⟨b,o,rows',e4,e5,e6,e7,e8⟩=>⟨b,o,rows',e4,⟨e5.1,rfl,e5.2⟩,e6,e7,e8⟩⟩
 | fresh k l =>
   intro v hv
   simp only [As] at hv ⊢
   obtain ⟨a,cap,e,h1,h2⟩:=hv
   exact ⟨a,cap,e,h1,h2.imp id fun ⟨b,o,h3,h4,h5⟩=>⟨b,o,h3,hok b h4.1,h5⟩⟩
 | keep i e k l h =>
   intro v hv
   simp only [As] at hv ⊢
   exact ⟨hv.1,fun b hb=>by show Jj drops own i=some b; unfold Jj; rw [A5c h]; exact hv.2 b hb⟩
 | keepR i e sz l h =>
   intro v hv
   simp only [As] at hv ⊢
   obtain ⟨rows,h1,h2,h3,h4⟩:=hv
   refine ⟨rows,?_,h2,h3,fun b hb=>by show Jj drops own i=some b; unfold Jj; rw [A5c h]; exact h4 b hb⟩
   exact Dy.D9 (c:=(Eo I own w w').bare) (c':=(Eo I (Jj drops own) w w').bare) ⟨hok,rfl,rfl,fun _ _ h=>(by cases h),fun _ _ h=>(by cases h),fun _ _ _=>rfl,fun _ _ h=>(by cases h)⟩ _ _ h1
 | drop i e k l h =>
   intro v hv
   simp only [As] at hv ⊢
   exact Ua hv.1 fun b hb=>⟨(hblk i b h (hv.2 b hb)).1,rfl,(hblk i b h (hv.2 b hb)).2⟩
 | dropA i e k l h =>
   intro v hv
   simp only [As] at hv ⊢
   exact Ua hv.1 fun b hb=>(hblk i b h (hv.2 b hb)).1
 | @agg l l' h hw ih =>
   intro v hv
   simp only [As] at hv ⊢
   obtain ⟨vs,e,hl⟩:=hv
   refine ⟨vs,e,Bj.Np (by rw [← h]; exact hl.length) fun j d v hd hv=>?_⟩
   have hlt:j<l.length:=by rw [h]; exact (List.getElem?_eq_some_iff.1 hd).1
   obtain ⟨u,hu,hr⟩:=hl.get j _ (A47 hlt)
   rw [hv] at hu; cases hu
   exact ih j _ d (A47 hlt) hd v hr
 | @tup l l' h hw ih =>
   intro v hv
   simp only [As] at hv ⊢
   obtain ⟨vs,e,hl⟩:=hv
   refine ⟨vs,e,Bj.Np (by rw [← h]; exact hl.length) fun j d v hd hv=>?_⟩
   have hlt:j<l.length:=by rw [h]; exact (List.getElem?_eq_some_iff.1 hd).1
   obtain ⟨u,hu,hr⟩:=hl.get j _ (A47 hlt)
   rw [hv] at hu; cases hu
   exact ih j _ d (A47 hlt) hd v hr
theorem Qa.Am7 {P:Program} {f:FuncId} {args:List DV} {out out':DV} (h:Qa P f args out) {drops:List Nat} (hw:Wk drops out out'):Qa P f args out':=by
 intro w vals I hI hv
 refine (h w vals I hI hv).mono ?_
 rintro e w' ⟨v,own,he,hb,ho,hr⟩
 refine ⟨v,Jj drops own,he,hb,⟨fun i b hi=>ho.lt i b (Nj hi).1,fun i j b hi hj=>ho.inj i j b (Nj hi).1 (Nj hj).1⟩,hw.rel ho v hr⟩
theorem Qa.args {P:Program} {f:FuncId} {args args':List DV} {out:DV} (h:Qa P f args out) (ha:∀ c w vs,Bj c w args' vs→Bj c w args vs):Qa P f args' out :=
 fun w vals I hI hv=>h w vals I hI (ha _ _ _ hv)
theorem Yq {P:Program} {E:Env} (he:Ka P E) {f:FuncId} {fn:Func} {body:Code} (hf:P.funcs[f]?=some fn) (hb:fn.body=some body) {ts:List AT} {pre:List Atom→Bool} {out:List Atom→DV}
 (h:∀ as ds,Fq ts as ds→pre as=true→∃ fuel d drops,B0 E fuel fn body ds=some d∧Wk drops d (out as)):Ab6 P f (entry ts pre out):=by
 intro args ha
 simp only [entry] at ha ⊢
 cases hd:Mg ts args with
 | none=>rw [hd] at ha; cases ha
 | some as =>
   rw [hd] at ha
   simp only at ha ⊢
   obtain ⟨ds,h1,h2⟩:=Mq hd
   obtain ⟨fuel,d,drops,h3,h4⟩:=h as ds h1 ha
   exact ((Azo he hf hb h3).Am7 h4).args h2
end Go.Den
namespace Go.Den
structure Pt (β:Type) where
 b:Nat
 c:Code
 Kn:St→Option β
 Kx:Nat→St→Option β
 Kr:St→Option β
def descend {β:Type} (E:Env) (n:Nat):List Nat→List Nat→Nat→Code→(St→Option β)→(Nat→St→Option β)→(St→Option β)→Pt β
 | 0::p,ms,b,.seq x y,Kn,Kx,Kr=>descend E n p ms b x (fun st'=>den E n b y st' Kn Kx Kr) Kx Kr
 | _::p,ms,b,.seq _ y,Kn,Kx,Kr=>descend E n p ms b y Kn Kx Kr
 | 0::p,ms,b,.cond _ x _,Kn,Kx,Kr=>descend E n p ms b x Kn Kx Kr
 | _::p,ms,b,.cond _ _ y,Kn,Kx,Kr=>descend E n p ms b y Kn Kx Kr
 | _::p,ms,_,.block id c,Kn,Kx,Kr=>descend E n p ms id c Kn (fun id' st'=>bif id'==id then Kn st' else Kx id' st') Kr
 | _::p,ms,b,.scope c,Kn,Kx,Kr=>descend E n p ms b c Kn Kx Kr
 | _::p,m::ms,b,.loop c,_,Kx,Kr=>descend E n p ms b c (fun st2=>match canon (E.hint b) st2 with | some st3=>Ws (E.hint b) (den E n b c) m st3 Kx Kr | none=>none) Kx Kr
 | _,_,b,c,Kn,Kx,Kr=>⟨b,c,Kn,Kx,Kr⟩
def cutAt (E:Env) (n:Nat) (fn:Func) (body:Code) (p ms:List Nat) (st:St):Option DV :=
 match descend E n p ms 0 body (fun st=>Aca E fn st) (fun _ _=>none) (fun st=>Aca E fn st) with
 | ⟨b,.seq (.region _ ops draw) y,Kn,Kx,Kr⟩=>Aes (Ahf E ops draw (fun st'=>den E n b y st' Kn Kx Kr)) st
 | ⟨_,.region _ ops draw,Kn,_,_⟩=>Aes (Ahf E ops draw Kn) st
 | _=>none
def Atu (E:Env) (n:Nat) (fn:Func) (body:Code) (p ms:List Nat) (st:St):Option DV :=
 match descend E n p ms 0 body (fun st=>Aca E fn st) (fun _ _=>none) (fun st=>Aca E fn st) with
 | ⟨b,.seq (.region _ ops draw) y,Kn,Kx,Kr⟩=>Ahf E ops draw (fun st'=>den E n b y st' Kn Kx Kr) st
 | ⟨_,.region _ ops draw,Kn,_,_⟩=>Ahf E ops draw Kn st
 | _=>none
theorem Dk (E:Env) (n:Nat) (fn:Func) (body:Code) (p ms:List Nat) (st:St):cutAt E n fn body p ms st=Atu E n fn body p ms st:=by
 unfold cutAt Atu
 split<;>simp only [Ac0]
def Cb (E:Env) (n:Nat) (fn:Func) (body:Code) (p ms:List Nat) (m:Nat) (st:St):Option DV :=
 match descend E n p ms 0 body (fun st=>Aca E fn st) (fun _ _=>none) (fun st=>Aca E fn st) with
 | ⟨b,.loop c,_,Kx,Kr⟩=>Ws (E.hint b) (den E n b c) m st Kx Kr
 | _=>none
def atL (i:Nat):List (Nat × DV)→DV
 | []=>.undef
 | (j,d)::l=>bif Nat.beq i j then d else atL i l
def A12 (l:List (Nat × DV)):Nat→Nat→List DV
 | 0,_=>[]
 | k+1,i=>atL i l::A12 l k (i+1)
def Fo (n:Nat) (l:List (Nat × DV)):List DV:=A12 l n 0
end Go.Den
namespace Go.Den
open Go.RowKit (Below)
def Ab (x:Int):Int:=IntKind.i64.wrap x
def Bs (x:Int):Int:=IntKind.u64.wrap x
def Li (x:Int):Int:=IntKind.u32.wrap x
def Fy (k:IntKind) (x y:Int):Int:=k.wrap (BitVec.ofInt k.bits x &&& BitVec.ofInt k.bits y).toNat
def Jl (k:IntKind) (x y:Int):Int:=k.wrap (BitVec.ofInt k.bits x ||| BitVec.ofInt k.bits y).toNat
def Axj (k:IntKind) (x y:Int):Int:=k.wrap (BitVec.ofInt k.bits x ^^^ BitVec.ofInt k.bits y).toNat
def H8 (k:IntKind) (x y:Int):Int:=k.wrap (BitVec.ofInt k.bits x &&& ~~~(BitVec.ofInt k.bits y)).toNat
def Cg (k:IntKind) (x y:Int):Int:=k.wrap (x*2^(min y.toNat k.bits))
def Ed (k:IntKind) (x y:Int):Int:=x.fdiv (2^(min y.toNat k.bits))
def B3 (p:Prop):Bool:=@decide p (Classical.propDecidable p)
theorem Aq {p:Prop}:B3 p=true↔p:=by unfold B3; exact @decide_eq_true_iff p (Classical.propDecidable p)
def Ak (f:Func):Code:=f.body.getD .skip
def Bb:List (Nat × Entry)→Nat→Option Entry
 | [],_=>none
 | (m,e)::l,n=>bif Nat.beq m n then some e else Bb l n
def Am9:List (Nat × TI)→Nat→Option TI
 | [],_=>none
 | (m,e)::l,n=>bif Nat.beq m n then some e else Am9 l n
theorem ifT {α:Type} {R:Bool} {A A' B:α} (h:R=true) (ha:A=A'):(bif R then A else B)=A':=by rw [h,ha]; rfl
theorem Ay {α:Type} {R:Bool} {A A':Option α} (h:R=true) (ha:A=A'):(bif R then A else none)=A':=ifT h ha
theorem Cw {α:Type} {R S:Bool} {A A' B B':α} (h:R=S) (ha:A=A') (hb:B=B'):(bif R then A else B)=bif S then A' else B':=by rw [h,ha,hb]
theorem E1 {α:Type} {R:Bool} {A A' B B':α} (ha:A=A') (hb:B=B'):(bif R then A else B)=bif R then A' else B':=by rw [ha,hb]
structure A8 (P:Program) (g:FuncId) (e:Entry):Prop where
 meets:Ab6 P g e
 call:∀ (args:Array Value) (w:World),(callFunc g args).run P w=.ok (.enter g args) w
inductive A1 (P:Program):List (Nat × Entry)→Prop
 | nil:A1 P []
 | cons {g e l}:A8 P g e→A1 P l→A1 P ((g,e)::l)
theorem A1.get {P:Program} {l:List (Nat × Entry)} (h:A1 P l) {g:Nat} {e:Entry} (hg:Bb l g=some e):A8 P g e:=by
 induction h with
 | nil=>cases hg
 | @cons g' e' l h1 h2 ih =>
   simp only [Bb] at hg
   cases hb:Nat.beq g' g with
   | true =>
     rw [hb] at hg
     simp only [A4q,A4t] at hg
     have:=A48 hb
     subst this hg
     exact h1
   | false=>rw [hb] at hg; exact ih hg
theorem Mi {P:Program} {f:FuncId} {fn:Func} {body:Code} (hf:P.funcs[f]?=some fn) (hn:(fn.name== "runtime.NumGoroutine")=false) (hb:fn.body=some body) (args:Array Value) (w:World) :
 (callFunc f args).run P w=.ok (.enter f args) w:=by
 have h1:fn.name≠ "runtime.NumGoroutine":=by simpa using hn
 simp [callFunc,hf,h1,hb]
inductive T0 (P:Program):List (Nat × TI)→Prop
 | nil:T0 P []
 | cons {t ti l}:Cs P t ti→T0 P l→T0 P ((t,ti)::l)
theorem T0.get {P:Program} {l:List (Nat × TI)} (h:T0 P l) {t:Nat} {ti:TI} (hg:Am9 l t=some ti):Cs P t ti:=by
 induction h with
 | nil=>cases hg
 | @cons t' ti' l h1 h2 ih =>
   simp only [Am9] at hg
   cases hb:Nat.beq t' t with
   | true =>
     rw [hb] at hg
     simp only [A4q,A4t] at hg
     have:=A48 hb
     subst this hg
     exact h1
   | false=>rw [hb] at hg; exact ih hg
theorem Dh {P:Program} {t:TypeId} {ti:TI} {z:Value} (h:(P.info? t).map (fun i=>(i.zero,i.size,i.bytes))=some (some z,ti.size,ti.bytes)) (hz:Agb ti.zero z.cells.toList) (hs:z.cells.size=ti.size)
 (h1:∀ u∈z.cells.toList,u.oneCell'=true) (hd:C0 P t ti.kind):Cs P t ti:=by
 cases hi:P.info? t with
 | none=>rw [hi] at h; cases h
 | some i =>
   rw [hi] at h
   simp only [Option.map_some,A4t,A4z] at h
   exact ⟨⟨i,z,hi,h.2.1,h.2.2,h.1,hz,hs,h1⟩,hd⟩
def Aoe (ts:List AT) (pre:List Atom→Bool) (out:List Atom→DV) (mu:List Atom→Nat) (n:Nat):Entry:=entry ts (fun as=>pre as&&B3 (mu as<n)) out
theorem Akp {P:Program} {E:Nat→Env} {f:FuncId} {fn:Func} {body:Code} (hf:P.funcs[f]?=some fn) (hb:fn.body=some body) {ts:List AT} {pre:List Atom→Bool} {out:List Atom→DV} (mu:List Atom→Nat)
 (he:∀ n,Ab6 P f (Aoe ts pre out mu n)→Ka P (E n))
 (h:∀ n as ds,Fq ts as ds→pre as=true→mu as<n+1→∃ fuel d drops,B0 (E n) fuel fn body ds=some d∧Wk drops d (out as)):Ab6 P f (entry ts pre out):=by
 have key:∀ n,Ab6 P f (Aoe ts pre out mu n):=by
  intro n
  induction n with
  | zero =>
    intro args ha
    simp only [Aoe,entry] at ha
    split at ha
    ·simp only [A41,Aq] at ha; omega
    ·cases ha
  | succ n ih =>
    refine Yq (he n ih) hf hb fun as ds hd hp=>?_
    simp only [A41,Aq] at hp
    exact h n as ds hd hp.1 hp.2
 intro args ha
 simp only [entry] at ha
 cases hd:Mg ts args with
 | none=>rw [hd] at ha; cases ha
 | some as =>
   rw [hd] at ha
   have:=key (mu as+1) args (by simp only [Aoe,entry,hd,A41,Aq]; exact ⟨ha,Nat.lt_succ_self _⟩)
   simp only [Aoe,entry] at this ⊢
   exact this
theorem Q6 {P:Program} (w:World) {t:TypeId} {ti:TI} (hf:Cs P t ti) (ha:ti.agg=false) {xs:Array Value} {i:Nat} {v:Value} (hv:xs[i]?=some v):(part t xs i).run P w=.ok v w:=by
 simp [part,hf.Vx w,ha,hv]
theorem Z7 {z:Bool} {l m:List DV} (h:sameShape (.bool z::l) m=true):∃ b m',m=.bool b::m'∧sameShape l m'=true:=by
 cases m with
 | nil=>simp [sameShape] at h
 | cons d m'=>cases d<;>simp [sameShape] at h; exact ⟨_,_,rfl,h⟩
theorem Tc {k:IntKind} {z:Int} {l m:List DV} (h:sameShape (.int k z::l) m=true):∃ b m',m=.int k b::m'∧sameShape l m'=true:=by
 cases m with
 | nil=>simp [sameShape] at h
 | cons d m'=>cases d<;>simp [sameShape] at h; obtain ⟨rfl,h⟩:=h; exact ⟨_,_,rfl,h⟩
theorem Ac6 {m:List DV} (h:sameShape [] m=true):m=[]:=by
 cases m with
 | nil=>rfl
 | cons d m'=>cases d<;>simp [sameShape] at h
theorem Azw {P:Program} {g:FuncId} {e:Entry} (h:A8 P g e) {vals:Array Value} {w:World} {args:List DV} {I:Nat→Prop} (hI:∀ b,I b→b<w.heap.size) (ha:Bj (Kd I) w args vals.toList)
 (hp:e.pre args=true) (ho:e.out args=.bool true):Calls P g vals w fun e w'=>e=.returned (.bool true)∧Below w.heap.size w w':=by
 refine (h.meets args hp w vals I hI ha).mono ?_
 rintro e w' ⟨v,own,he,hb,_,hv⟩
 rw [ho] at hv
 simp only [As] at hv
 subst hv
 exact ⟨he,hb⟩
end Go.Den
namespace Go.Den
open Go.RowKit (Below)
def A2m (E:Env) (n:Nat) (_fn:Func) (body:Code) (p ms:List Nat) (m:Nat) (st:St):Option Unit :=
 match descend E n p ms 0 body (fun _=>some ()) (fun _ _=>none) (fun _=>some ()) with
 | ⟨b,.loop c,_,Kx,Kr⟩=>Ws (E.hint b) (den E n b c) m st Kx Kr
 | _=>none
def Acp (e:TypeId) (k:IntKind) (st:St):Option (List Int):=match st.tmps.getD 0 .undef with
 | .oref n=>match look st.heap n with
   | some (false,.ints e' k' l)=>bif e==e'&&decide (k=k') then some l else none
   | _=>none
 | _=>none
def wrD (E:Env) (fuel:Nat) (fn:Func) (body:Code) (e:TypeId) (k:IntKind) (l:List Int) (ds:List DV):Option (List Int) :=
 den E fuel 0 body ⟨(.oref 1000::ds)++List.replicate (fn.ntmps-(ds.length+1)) .undef,[(1000,false,.ints e k l)]⟩ (Acp e k) (fun _ _=>none) (Acp e k)
def Wj (E:Env) (n:Nat) (_fn:Func) (body:Code) (e:TypeId) (k:IntKind) (p ms:List Nat) (m:Nat) (st:St):Option (List Int) :=
 match descend E n p ms 0 body (Acp e k) (fun _ _=>none) (Acp e k) with
 | ⟨b,.loop c,_,Kx,Kr⟩=>Ws (E.hint b) (den E n b c) m st Kx Kr
 | _=>none
theorem A0f {P:Program} {E:Env} (he:Ka P E) (hnp:0<E.np) {f:FuncId} {fn:Func} {body:Code} (hf:P.funcs[f]?=some fn) (hb:fn.body=some body) (hres:fn.results.toList=[])
 (hcall:∀ (args:Array Value) (w:World),(callFunc f args).run P w=.ok (.enter f args) w) {W:Writer}
 (h:∀ l ds,l.length≤maxLen→W.pre l ds=true→∃ ds' fuel,(∀ c w vs,Bj c w ds vs→Bj c w ds' vs)∧wrD E fuel fn body W.elem W.kind l ds'=some (W.out l ds)):P9 P f W:=by
 refine ⟨hcall,fun w v l ds vals hown hds hpre=>?_⟩
 refine calls_of_wp hf hb ?_
 have hlen:l.length≤maxLen:=by
  rcases hown.2 with ⟨_,hn⟩ | ⟨g,cap,cur,_,_,_,hnc,hm,_,_⟩
  ·rw [hn]; exact Nat.zero_le _
  ·exact A5x hnc hm
 obtain ⟨ds',fuel,hds',h⟩:=h l ds hlen hpre
 have hds:=hds' _ _ _ hds
 generalize W.out l ds=out at h
 unfold wrD at h
 let A:Nat→Option Place:=fun n=>if n=1000 then some ⟨.live,.row v 1⟩ else none
 have hA:∀ {n p},A n=some p→n=1000∧p=⟨.live,.row v 1⟩:=by
  intro n p hp
  have hp:(if n=1000 then some (⟨.live,.row v 1⟩:Place) else none)=some p:=hp
  by_cases hn:n=1000
  ·rw [A5d hn] at hp; cases hp; exact ⟨hn,rfl⟩
  ·rw [A5c hn] at hp; cases hp
 have hone:v.oneCell'=true:=by
  rcases hown.2 with ⟨hv,_⟩ | ⟨g,cap,cur,hv,_⟩<;>rw [hv]<;>rfl
 have hsz:∀ b,v.ownBlock=some b→b<w.heap.size:=fun b hb=>(hown.lt b hb).2
 have hl:ds'.length=vals.length:=hds.length
 have hh:Gg (E:=E) ⟨fun b=>b<w.heap.size∧v.ownBlock≠some b,fun t=>((v::vals).toArray++Array.replicate (fn.ntmps-(v::vals).toArray.size) undef).getD t undef⟩ (fun _=>False) 0 w
  ⟨(.oref 1000::ds')++List.replicate (fn.ntmps-(ds'.length+1)) .undef,[(1000,false,.ints W.elem W.kind l)]⟩
  ⟨(v::vals).toArray++Array.replicate (fn.ntmps-(v::vals).toArray.size) undef,[]⟩ w:=by
  refine ⟨A,rfl,by simp only [Array.size_append,Array.size_replicate,List.size_toArray,A5i,List.length_replicate,List.length_cons]; omega,Below.refl _ _,Nat.zero_le _,fun b h=>h.elim,fun n p hp=>?_,fun n p b hp _ hpb=>?_,fun n m p q b hp hq _ _ _ _=>?_,fun t=>?_,fun b hb=>⟨hb.1,rfl,fun n p hp _ hpb=>?_⟩,fun t _=>rfl⟩
  ·obtain ⟨rfl,rfl⟩:=hA hp
   exact ⟨_,rfl,rfl,v,rfl,hown⟩
  ·obtain ⟨rfl,rfl⟩:=hA hp
   exact ⟨Nat.zero_le _,hsz b hpb⟩
  ·exact (hA hp).1.trans (hA hq).1.symm
  ·have hw:Ld (Kd fun b=>b<w.heap.size∧v.ownBlock≠some b) (B1 (fun _=>False) 0 A w):=⟨fun b hb=>⟨hb.1,.inr (Nat.zero_le _),fun n p hp _ hpb=>by
    obtain ⟨rfl,rfl⟩:=hA hp
    exact hb.2 hpb⟩,rfl,fun _=>rfl,fun _=>rfl⟩
   have hall:Bj (B1 (fun _=>False) 0 A w) w (.oref 1000::ds') (v::vals):=by
    rw [Bj.Df]
    refine ⟨_,_,rfl,?_,Bj.Gr hw _ _ hds⟩
    simp only [As]
    exact ⟨hone,⟨.live,.row v 1⟩,(A5d rfl:A 1000=some _),.inr ⟨1,rfl⟩⟩
   rcases A5n t (.oref 1000::ds').length with hlt | hge
   ·obtain ⟨u,h1,h2⟩:=hall.getD t hlt
    simp only [A40,List.getElem?_append_left hlt] at h2 ⊢
    have hlt':t<(v::vals).toArray.size:=by simp only [List.size_toArray,List.length_cons] at hlt ⊢; omega
    have e:((v::vals).toArray++Array.replicate (fn.ntmps-(v::vals).toArray.size) undef).getD t undef=u:=by
     rw [Array.getD_eq_getD_getElem?,Array.getElem?_append_left hlt',List.getElem?_toArray,h1]; rfl
    rw [e]; exact h2
   ·rw [A40,A54 hge,List.getElem?_replicate]
    split<;>simp only [A6a,Option.getD_none,As]
  ·obtain ⟨rfl,rfl⟩:=hA hp
   exact hb.2 hpb
 have fin:∀ (st:St) (a:Act) (w':World),Acp W.elem W.kind st=some out→Gg (E:=E) ⟨fun b=>b<w.heap.size∧v.ownBlock≠some b,fun t=>((v::vals).toArray++Array.replicate (fn.ntmps-(v::vals).toArray.size) undef).getD t undef⟩ (fun _=>False) 0 w st a w' →
  a.defers=[]∧∃ u,(results fn a.tmps).run P w'=.ok u w'∧(∃ u',Ending.returned u=.returned u')∧w'.ownsRow 0 W.elem 1 v out.length (out.map (Value.int W.kind))∧Below 0 w w'∧∀ b,b<w.heap.size→v.ownBlock≠some b→w'.heap[b]?=w.heap[b]?:=by
  intro st a w' he' ⟨A',hA'⟩
  obtain ⟨vs,hv,hr⟩:=Xm (st:=st) he.ty hA' fn.results.toList [] (by rw [hres]; rfl)
  refine ⟨hA'.defers,_,Ym hr,⟨_,rfl⟩,?_,hA'.below,fun b h1 h2=>(hA'.kept b ⟨h1,h2⟩).2.1⟩
  have h0:=hA'.tmps 0
  have hpin:=hA'.pin 0 hnp
  have hv0:a.tmps.getD 0 undef=v:=by
   rw [hpin]
   show ((v::vals).toArray++Array.replicate (fn.ntmps-(v::vals).toArray.size) undef).getD 0 undef=v
   rw [Array.getD_eq_getD_getElem?,Array.getElem?_append_left (by simp)]; rfl
  rw [hv0] at h0
  unfold Acp at he'
  split at he'
  ·rename_i n hn
   rw [hn] at h0
   simp only [As] at h0
   obtain ⟨_,p,hp,hpd⟩:=h0
   split at he'
   ·rename_i e' k' l' hlk
    cases hc:(W.elem==e'&&decide (W.kind=k')) with
    | false=>rw [hc] at he'; simp at he'
    | true =>
      rw [hc,A4q,A4t] at he'
      subst he'
      simp only [A41,beq_iff_eq,A4x] at hc
      obtain ⟨rfl,rfl⟩:=hc
      have hm:Mem (fun _=>False) 0 A' st.heap w':=hA'.mem fun n p fo _ hl=>hl
      obtain ⟨hlive,sv,hkind,hown'⟩:=E3 hm hp hlk
      simp only [Bool.false_eq_true,if_false] at hlive
      rcases hpd with hpd | ⟨size,hk⟩
      ·rw [hlive] at hpd; cases hpd
      ·rw [hkind] at hk; cases hk
       exact hown'
   ·cases he'
  ·cases he'
 refine Rm he fuel out body 0 _ _ _ _ h _ _ hh _ (fun st a w' hk hh'=>?_) (fun id st a w' hk=>by cases hk) (fun st a w' hk hh'=>?_)
 ·obtain ⟨h1,u,h2,h3⟩:=fin st a w' hk hh'
  exact ⟨h1,u,h2,h3⟩
 ·obtain ⟨h1,u,h2,h3⟩:=fin st a w' hk hh'
  exact ⟨h1,u,h2,h3⟩
def Agf (e:TypeId) (k:IntKind) (ts:List AT) (pre:List Atom→Bool) (out:List Atom→List Int):Writer where
 elem:=e
 kind:=k
 pre:=fun l ds=>match Mg ts ds with
  | some as=>pre (.l l::as)
  | none=>false
 out:=fun l ds=>match Mg ts ds with
  | some as=>out (.l l::as)
  | none=>l
theorem Zv {P:Program} {E:Env} (he:Ka P E) (hnp:0<E.np) {f:FuncId} {fn:Func} {body:Code} (hf:P.funcs[f]?=some fn) (hb:fn.body=some body) (hres:fn.results.toList=[])
 (hcall:∀ (args:Array Value) (w:World),(callFunc f args).run P w=.ok (.enter f args) w) {e:TypeId} {k:IntKind} {ts:List AT} {pre:List Atom→Bool} {out:List Atom→List Int}
 (h:∀ l as ds,Fq ts as ds→pre (.l l::as)=true→∃ fuel,wrD E fuel fn body e k l ds=some (out (.l l::as))):P9 P f (Agf e k ts pre out):=by
 refine A0f he hnp hf hb hres hcall fun l ds _ hp=>?_
 simp only [Agf] at hp ⊢
 cases hd:Mg ts ds with
 | none=>rw [hd] at hp; cases hp
 | some as =>
   rw [hd] at hp
   obtain ⟨ds',h1,h2⟩:=Mq hd
   obtain ⟨fuel,h3⟩:=h l as ds' h1 hp
   exact ⟨ds',fuel,h2,h3⟩
end Go.Den
namespace Go.Den
def Az0 (ts:List AT) (e1 e2:Entry):Entry where
 pre:=fun args=>match Mg ts args with
  | some _=>e1.pre args
  | none=>e2.pre args
 out:=fun args=>match Mg ts args with
  | some _=>e1.out args
  | none=>e2.out args
theorem A8.alt {P:Program} {g:FuncId} {ts:List AT} {e1 e2:Entry} (h1:A8 P g e1) (h2:A8 P g e2):A8 P g (Az0 ts e1 e2):=by
 refine ⟨fun args ha=>?_,h1.call⟩
 simp only [Az0] at ha ⊢
 cases hd:Mg ts args with
 | none=>rw [hd] at ha; exact h2.meets args ha
 | some x=>rw [hd] at ha; exact h1.meets args ha
theorem A8.Am7 {P:Program} {g:FuncId} {ts:List AT} {pre pre':List Atom→Bool} {out out':List Atom→DV} (h:A8 P g (entry ts pre out)) (drops:List Nat)
 (hw:∀ ats,pre' ats=true→pre ats=true∧Wk drops (out ats) (out' ats)):A8 P g (entry ts pre' out'):=by
 refine ⟨fun args ha=>?_,h.call⟩
 simp only [entry] at ha ⊢
 cases hd:Mg ts args with
 | none=>rw [hd] at ha; cases ha
 | some x =>
   rw [hd] at ha
   have:=h.meets args (by simp only [entry,hd]; exact (hw x ha).1)
   simp only [entry,hd] at this
   exact this.Am7 (hw x ha).2
end Go.Den
namespace Go.Den
def Atx (K:List (List DV)→List DV→Prop):List DV→Prop
 | .recs .arg _ rows::ds=>K rows ds
 | _=>True
def Mk:Nat→List AT→(List Atom→List DV→Prop)→Prop
 | 0,_,_=>False
 | _+1,[],K=>K [] []
 | n+1,.b::ts,K=>∀ x:Bool,Mk n ts fun as ds=>K (.b x::as) (.bool x::ds)
 | n+1,.i k::ts,K=>∀ x:Int,Mk n ts fun as ds=>K (.i x::as) (.int k x::ds)
 | n+1,.s k::ts,K=>∀ x:List Int,Mk n ts fun as ds=>K (.l x::as) (.ints .arg k x::ds)
 | n+1,.fl::ts,K=>∀ x:Nat,Mk n ts fun as ds=>K (.f x::as) (.fl x::ds)
 | n+1,.nb::ts,K=>∀ x:Nat,Mk n ts fun as ds=>K (.f x::as) (.nb x::ds)
 | n+1,.rl sz::ts,K=>∀ x:List (List DV),Mk n ts fun as ds=>K (.r x::as) (.recs .arg sz x::ds)
 | n+1,.st l::ts,K=>Mk n l fun as cs=>Mk n ts fun bs ds=>K (as++bs) (.agg cs::ds)
 | n+1,.fn g l::ts,K=>Mk n l fun as cs=>Mk n ts fun bs ds=>K (as++bs) (.fn g [] cs::ds)
 | n+1,.fm g l::ts,K=>Mk n l fun as cs=>Mk n ts fun bs ds=>K (as++bs) (.fn g cs []::ds)
 | n+1,.cp l::ts,K=>Mk n l fun as cs=>Mk n ts fun bs ds=>K (as++bs) (.cellp cs::ds)
 | n+1,.rs sz []::ts,K=>Mk n ts fun as ds=>K as (.recs .arg sz []::ds)
 | n+1,.rs sz (l::ls)::ts,K=>Mk n l fun as cs=>Mk n (.rs sz ls::ts) fun bs ds=>Atx (fun rows ds=>K (as++bs) (.recs .arg sz (cs::rows)::ds)) ds
theorem Mk.go:∀ (n:Nat) {ts:List AT} {as:List Atom} {ds:List DV} {K:List Atom→List DV→Prop},Mk n ts K→Fq ts as ds→K as ds:=by
 intro n
 induction n with
 | zero=>intro ts as ds K h _; exact h.elim
 | succ n ih =>
   intro ts as ds K h e
   cases e with
   | nil=>exact h
   | b x e=>exact ih (K:=fun as ds=>K (.b x::as) (.bool x::ds)) (h x) e
   | i k x e=>exact ih (K:=fun as ds=>K (.i x::as) (.int k x::ds)) (h x) e
   | s k x e=>exact ih (K:=fun as ds=>K (.l x::as) (.ints .arg k x::ds)) (h x) e
   | fl x e=>exact ih (K:=fun as ds=>K (.f x::as) (.fl x::ds)) (h x) e
   | nb x e=>exact ih (K:=fun as ds=>K (.f x::as) (.nb x::ds)) (h x) e
   | rl sz x e=>exact ih (K:=fun as ds=>K (.r x::as) (.recs .arg sz x::ds)) (h x) e
   | @st _ _ a c _ _ e1 e2=>exact ih (K:=fun bs ds=>K (a++bs) (.agg c::ds)) (ih (K:=fun as cs=>Mk n _ fun bs ds=>K (as++bs) (.agg cs::ds)) h e1) e2
   | @fn g _ _ a c _ _ e1 e2=>exact ih (K:=fun bs ds=>K (a++bs) (.fn g [] c::ds)) (ih (K:=fun as cs=>Mk n _ fun bs ds=>K (as++bs) (.fn g [] cs::ds)) h e1) e2
   | @fm g _ _ a c _ _ e1 e2=>exact ih (K:=fun bs ds=>K (a++bs) (.fn g c []::ds)) (ih (K:=fun as cs=>Mk n _ fun bs ds=>K (as++bs) (.fn g cs []::ds)) h e1) e2
   | @cp _ _ a c _ _ e1 e2=>exact ih (K:=fun bs ds=>K (a++bs) (.cellp c::ds)) (ih (K:=fun as cs=>Mk n _ fun bs ds=>K (as++bs) (.cellp cs::ds)) h e1) e2
   | rs0 e=>exact ih (K:=fun as ds=>K as (.recs .arg _ []::ds)) h e
   | @rs1 sz _ _ _ a c _ _ _ e1 e2 =>
     have:=ih (K:=fun bs ds=>Atx (fun rows ds=>K (a++bs) (.recs .arg sz (c::rows)::ds)) ds) (ih (K:=fun as cs=>Mk n _ fun bs ds=>Atx (fun rows ds=>K (as++bs) (.recs .arg sz (cs::rows)::ds)) ds) h e1) e2
     exact this
abbrev Aul (E:Env) (fn:Func) (ds:List DV) (out:DV):Prop:=∃ N dv drops,B0 E N fn (Ak fn) ds=some dv∧Wk drops dv out
abbrev Hyp (E:Env) (fn:Func) (ts:List AT) (pre:List Atom→Bool) (out:List Atom→DV):Prop:=Mk 40 ts fun as ds=>pre as=true→Aul E fn ds (out as)
theorem Al {P:Program} {E:Env} (he:Ka P E) {f:FuncId} {fn:Func} (hf:P.funcs[f]?=some fn) (hb:fn.body=some (Ak fn)) (hn:(fn.name== "runtime.NumGoroutine")=false) {ts:List AT} {pre:List Atom→Bool} {out:List Atom→DV}
 (h:Mk 40 ts fun as ds=>pre as=true→Aul E fn ds (out as)):A8 P f (entry ts pre out) :=
 ⟨Yq he hf hb fun _ _ e hp=>Mk.go 40 h e hp,Mi hf hn hb⟩
end Go.Den
namespace Go.Den
theorem An {x:Int} (h1:-9223372036854775808≤x) (h2:x≤9223372036854775807):Ab x=x:=Go.IntWalk.i64_in x ⟨h1,h2⟩
theorem Qb (x:Int):Bs x=x%18446744073709551616:=by unfold Bs IntKind.wrap; simp [IntKind.bits,IntKind.signed]
theorem Aqg (x:Int):Li x=x%4294967296:=by unfold Li IntKind.wrap; simp [IntKind.bits,IntKind.signed]
theorem Ef {x:Int} (h1:0≤x) (h2:x<18446744073709551616):Bs x=x:=by rw [Qb]; omega
theorem Mu {x:Int} (h1:0≤x) (h2:x<4294967296):Li x=x:=by rw [Aqg]; omega
theorem Axk (k:IntKind) (x y:Int):Ed k x y=x / 2^(min y.toNat k.bits):=by
 unfold Ed
 exact Int.fdiv_eq_ediv_of_nonneg _ (Int.le_of_lt (Int.pow_pos (by decide)))
theorem Je (k:IntKind) (n s:Nat) (h:s≤k.bits):Ed k n s=((n / 2^s:Nat):Int):=by
 rw [Axk,A4s,Nat.min_eq_left h]
 push_cast
 rfl
theorem Gw (n s:Nat) (h:s≤64):Cg .u64 n s=((n*2^s%2^64:Nat):Int):=by
 unfold Cg
 rw [A4s,show IntKind.u64.bits=64 from rfl,Nat.min_eq_left h]
 show Bs _=_
 rw [Qb]
 show _=((n*2^s%18446744073709551616:Nat):Int)
 rw [Int.natCast_emod,A5b,Int.natCast_pow]
 rfl
theorem J6 (b n:Nat):(BitVec.ofInt b n).toNat=n%2^b:=by
 rw [BitVec.toNat_ofInt]
 rw [show ((n:Int)%(2^b:Nat))=((n%2^b:Nat):Int) by push_cast; rfl,A4s]
theorem Vj {n:Nat} (h:n<2^64):IntKind.u64.wrap n=n:=by
 show Bs _=_
 rw [Qb]
 omega
theorem Ai3 {a b:Nat} (ha:a<2^64) (hb:b<2^64):Fy .u64 a b=((a &&& b:Nat):Int):=by
 unfold Fy
 rw [BitVec.toNat_and,J6,J6,show IntKind.u64.bits=64 from rfl,A43 ha,A43 hb]
 exact Vj (A5s Nat.and_le_left ha)
theorem W0 {a b:Nat} (ha:a<2^64) (hb:b<2^64):Jl .u64 a b=((a ||| b:Nat):Int):=by
 unfold Jl
 rw [BitVec.toNat_or,J6,J6,show IntKind.u64.bits=64 from rfl,A43 ha,A43 hb]
 exact Vj (Nat.or_lt_two_pow ha hb)
theorem At8 {a b:Nat} (ha:a<2^64) (hb:b<2^64):Axj .u64 a b=((a ^^^ b:Nat):Int):=by
 unfold Axj
 rw [BitVec.toNat_xor,J6,J6,show IntKind.u64.bits=64 from rfl,A43 ha,A43 hb]
 exact Vj (Nat.xor_lt_two_pow ha hb)
theorem J9 {a:Nat} (k:Nat) (ha:a<2^64) (hk:k≤64):Fy .u64 a ((2^k-1:Nat):Int)=((a%2^k:Nat):Int):=by
 rw [Ai3 ha (by have:=A45 (n:=2) (by decide) hk; have:=Nat.pow_pos (a:=2) (n:=k) (by decide); omega),Nat.and_two_pow_sub_one_eq_mod]
theorem Oy {a b k:Nat} (hb:b<2^k):b ||| (a*2^k)=a*2^k+b:=by
 rw [Nat.or_comm,A5e,Nat.two_pow_add_eq_or_of_lt hb]
theorem Ap6 {a b k:Nat} (hb:b<2^k) (h:a*2^k+b<2^64):Jl .u64 b ((a*2^k:Nat):Int)=((a*2^k+b:Nat):Int):=by
 rw [W0 (by omega) (by omega),Oy hb]
theorem O8 {a b k:Nat} (hb:b<2^k) (h:a*2^k+b<2^64):Jl .u64 ((a*2^k:Nat):Int) b=((a*2^k+b:Nat):Int):=by
 rw [W0 (by omega) (by omega),Nat.or_comm,Oy hb]
theorem Zu {r:Nat} (hr:r<2^63):(2^63+r) ^^^ 2^63=r∧r ^^^ 2^63=2^63+r:=by
 have e2:=Nat.two_pow_add_eq_or_of_lt hr 1
 rw [A5z] at e2
 have a1:r ^^^ 2^63=2^63+r:=by
  rw [e2]
  apply Nat.eq_of_testBit_eq
  intro i
  rw [Nat.testBit_xor,Nat.testBit_or,Nat.testBit_two_pow]
  by_cases hi:63=i
  ·subst hi
   rw [Nat.testBit_lt_two_pow hr]; simp
  ·simp [hi]
 refine ⟨?_,a1⟩
 rw [← a1,Nat.xor_assoc,Nat.xor_self,Nat.xor_zero]
theorem Auq {a:Nat} (ha:a<2^64):a ^^^ 2^63=if 2^63≤a then a-2^63 else a+2^63:=by
 by_cases h:2^63≤a
 ·rw [A5d h]
  obtain ⟨r,rfl⟩:∃ r,a=2^63+r:=⟨a-2^63,by omega⟩
  rw [(Zu (by omega)).1]; omega
 ·rw [A5c h,(Zu (by omega)).2]; omega
def Af (x:Int):Bool:=B3 (0≤x∧x<18446744073709551616)
theorem By {x:Int} (h:Af x=true):∃ n:Nat,x=n∧n<2^64:=by
 unfold Af at h
 rw [Aq] at h
 exact ⟨x.toNat,by omega,by omega⟩
theorem Cm {n:Nat} (h:n<2^64):Af n=true:=by
 unfold Af
 rw [Aq]
 omega
inductive WkL (drops:List Nat):List DV→List DV→Prop
 | nil:WkL drops [] []
 | cons {d d' l l'}:Wk drops d d'→WkL drops l l'→WkL drops (d::l) (d'::l')
theorem WkL.length {drops:List Nat} {l l':List DV} (h:WkL drops l l'):l.length=l'.length:=by
 induction h with
 | nil=>rfl
 | cons _ _ ih=>simp [ih]
theorem WkL.get {drops:List Nat} {l l':List DV} (h:WkL drops l l'):∀ (j:Nat) d d',l[j]?=some d→l'[j]?=some d'→Wk drops d d':=by
 induction h with
 | nil=>intro j d d' h; cases h
 | cons h1 _ ih =>
   intro j d d' h2 h3
   cases j with
   | zero=>cases h2; cases h3; exact h1
   | succ j=>exact ih j d d' h2 h3
theorem Wk.Hc {drops:List Nat} {l l':List DV} (h:WkL drops l l'):Wk drops (.agg l) (.agg l'):=.agg h.length h.get
theorem Wk.Hs {drops:List Nat} {l l':List DV} (h:WkL drops l l'):Wk drops (.tup l) (.tup l'):=.tup h.length h.get
theorem Wk.bool {drops:List Nat} {b:Bool}:Wk drops (.bool b) (.bool b):=.refl rfl (by intros; simp) (by intros; simp)
theorem Wk.int {drops:List Nat} {k:IntKind} {x:Int}:Wk drops (.int k x) (.int k x):=.refl rfl (by intros; simp) (by intros; simp)
theorem Wk.fl {drops:List Nat} {x:Nat}:Wk drops (.fl x) (.fl x):=.refl rfl (by intros; simp) (by intros; simp)
theorem Wk.W1 {drops:List Nat} {k:IntKind} {l:List Int}:Wk drops (.ints .arg k l) (.ints .arg k l):=.refl rfl (by intros; simp) (by intros; simp)
theorem Wk.O4 {drops:List Nat} {k:IntKind} {l:List Int}:Wk drops (.ints .fresh k l) (.ints .fresh k l):=.refl rfl (by intros; simp) (by intros; simp)
theorem Fq.Kt {as:List Atom} {ds:List DV} (h:Fq [] as ds):as=[]∧ds=[]:=by cases h; exact ⟨rfl,rfl⟩
theorem Fq.A19 {ts:List AT} {as:List Atom} {ds:List DV} (h:Fq (.b::ts) as ds):∃ x as' ds',as=.b x::as'∧ds=.bool x::ds'∧Fq ts as' ds':=by
 cases h with | b x h=>exact ⟨x,_,_,rfl,rfl,h⟩
theorem Fq.Ads {k:IntKind} {ts:List AT} {as:List Atom} {ds:List DV} (h:Fq (.i k::ts) as ds):∃ x as' ds',as=.i x::as'∧ds=.int k x::ds'∧Fq ts as' ds':=by
 cases h with | i k x h=>exact ⟨x,_,_,rfl,rfl,h⟩
theorem Fq.Arc {k:IntKind} {ts:List AT} {as:List Atom} {ds:List DV} (h:Fq (.s k::ts) as ds):∃ x as' ds',as=.l x::as'∧ds=.ints .arg k x::ds'∧Fq ts as' ds':=by
 cases h with | s k x h=>exact ⟨x,_,_,rfl,rfl,h⟩
theorem Fq.Azh {ts:List AT} {as:List Atom} {ds:List DV} (h:Fq (.nb::ts) as ds):∃ x as' ds',as=.f x::as'∧ds=.nb x::ds'∧Fq ts as' ds':=by
 cases h with | nb x h=>exact ⟨x,_,_,rfl,rfl,h⟩
theorem Fq.Aky {g:FuncId} {l ts:List AT} {as:List Atom} {ds:List DV} (h:Fq (.fn g l::ts) as ds):∃ a1 cs a2 ds',as=a1++a2∧ds=.fn g [] cs::ds'∧Fq l a1 cs∧Fq ts a2 ds':=by
 cases h with | fn h1 h2=>exact ⟨_,_,_,_,rfl,rfl,h1,h2⟩
theorem Fq.Ak2 {l ts:List AT} {as:List Atom} {ds:List DV} (h:Fq (.cp l::ts) as ds):∃ a1 cs a2 ds',as=a1++a2∧ds=.cellp cs::ds'∧Fq l a1 cs∧Fq ts a2 ds':=by
 cases h with | cp h1 h2=>exact ⟨_,_,_,_,rfl,rfl,h1,h2⟩
end Go.Den
end
