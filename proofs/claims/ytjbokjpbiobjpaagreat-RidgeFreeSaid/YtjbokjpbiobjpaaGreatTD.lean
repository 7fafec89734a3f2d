/- A verified evaluator of the program's form and its use for this seat: Den33, Den34, Den35, Den36, Den37, Den38, Bits, Rnd, Flt, Words, NearL, IeeL, OrdL, MulL, Limb, DyL, DyV, ExactL, MulW, SumL, MatL, MatW, PowL, TileL, DiffL, MagL. -/
import Derived.Test.YtjbokjpbiobjpaaGreatTC
import Derived.KernelRfl
import Derived.Laws.StructEq
import Derived.Laws.Externs
import Derived.ChangeKeysEq
import Derived.IntWalk
set_option linter.unusedVariables false
set_option linter.unusedSimpArgs false
noncomputable section
open Int (toNat)
open List (length getD)
namespace Go.Den
open Go.RowKit (Below)
inductive AT where
 | b
 | i (k:IntKind)
 | s (k:IntKind)
 | fl
 | nb
 | st (l:List AT)
 | fn (g:FuncId) (l:List AT)
 | fm (g:FuncId) (l:List AT)
 | cp (l:List AT)
 | rs (sz:Nat) (l:List (List AT))
inductive Atom where
 | b (x:Bool)
 | i (x:Int)
 | l (x:List Int)
 | f (x:Nat)
def Ahl:AT→DV→Option Atom
 | .b,.bool x=>some (.b x)
 | .i k,.int k' x=>bif decide (k=k') then some (.i x) else none
 | .s _,.nil=>some (.l [])
 | .s k,.ints .arg k' l=>bif decide (k=k') then some (.l l) else none
 | .fl,.fl n=>some (.f n)
 | .nb,.nb n=>some (.f n)
 | _,_=>none
def Wv:List AT→List DV→Option (List Atom)
 | [],[]=>some []
 | t::ts,d::ds=>match Ahl t d with
   | some a=>match Wv ts ds with
     | some as=>some (a::as)
     | none=>none
   | none=>none
 | _,_=>none
def S6:List AT→List DV→Option (List Atom)
 | [],[]=>some []
 | .cp l::ts,.cellp cs::ds=>match Wv l cs with
   | some as=>match S6 ts ds with
     | some bs=>some (as++bs)
     | none=>none
   | none=>none
 | .st l::ts,.agg cs::ds=>match Wv l cs with
   | some as=>match S6 ts ds with
     | some bs=>some (as++bs)
     | none=>none
   | none=>none
 | t::ts,d::ds=>match Ahl t d with
   | some a=>match S6 ts ds with
     | some bs=>some (a::bs)
     | none=>none
   | none=>none
 | _,_=>none
def Aeq:List (List AT)→List (List DV)→Option (List Atom)
 | [],[]=>some []
 | l::ls,cs::rows=>match Wv l cs with
   | some as=>match Aeq ls rows with
     | some bs=>some (as++bs)
     | none=>none
   | none=>none
 | _,_=>none
def M3:List AT→List DV→Option (List Atom)
 | [],[]=>some []
 | .rs sz ls::ts,.recs .arg sz' rows::ds=>bif Nat.beq sz sz' then
  match Aeq ls rows with
  | some as=>match M3 ts ds with
    | some bs=>some (as++bs)
    | none=>none
  | none=>none
   else none
 | .fm g l::ts,.fn g' fs []::ds=>bif Nat.beq g g' then
  match S6 l fs with
  | some as=>match M3 ts ds with
    | some bs=>some (as++bs)
    | none=>none
  | none=>none
   else none
 | .fn g l::ts,.fn g' [] cs::ds=>bif Nat.beq g g' then
  match S6 l cs with
  | some as=>match M3 ts ds with
    | some bs=>some (as++bs)
    | none=>none
  | none=>none
   else none
 | .cp l::ts,.cellp cs::ds=>match S6 l cs with
   | some as=>match M3 ts ds with
     | some bs=>some (as++bs)
     | none=>none
   | none=>none
 | .st l::ts,.agg cs::ds=>match S6 l cs with
   | some as=>match M3 ts ds with
     | some bs=>some (as++bs)
     | none=>none
   | none=>none
 | t::ts,d::ds=>match Ahl t d with
   | some a=>match M3 ts ds with
     | some bs=>some (a::bs)
     | none=>none
   | none=>none
 | _,_=>none
inductive Gf:List AT→List Atom→List DV→Prop
 | nil:Gf [] [] []
 | b {ts as ds} (x:Bool):Gf ts as ds→Gf (.b::ts) (.b x::as) (.bool x::ds)
 | i {ts as ds} (k:IntKind) (x:Int):Gf ts as ds→Gf (.i k::ts) (.i x::as) (.int k x::ds)
 | s {ts as ds} (k:IntKind) (x:List Int):Gf ts as ds→Gf (.s k::ts) (.l x::as) (.ints .arg k x::ds)
 | fl {ts as ds} (x:Nat):Gf ts as ds→Gf (.fl::ts) (.f x::as) (.fl x::ds)
 | nb {ts as ds} (x:Nat):Gf ts as ds→Gf (.nb::ts) (.f x::as) (.nb x::ds)
 | st {l ts as cs bs ds}:Gf l as cs→Gf ts bs ds→Gf (.st l::ts) (as++bs) (.agg cs::ds)
 | fn {g l ts as cs bs ds}:Gf l as cs→Gf ts bs ds→Gf (.fn g l::ts) (as++bs) (.fn g [] cs::ds)
 | fm {g l ts as cs bs ds}:Gf l as cs→Gf ts bs ds→Gf (.fm g l::ts) (as++bs) (.fn g cs []::ds)
 | cp {l ts as cs bs ds}:Gf l as cs→Gf ts bs ds→Gf (.cp l::ts) (as++bs) (.cellp cs::ds)
 | rs0 {sz ts bs ds}:Gf ts bs ds→Gf (.rs sz []::ts) bs (.recs .arg sz []::ds)
 | rs1 {sz l ls ts as cs bs rows ds}:Gf l as cs→Gf (.rs sz ls::ts) bs (.recs .arg sz rows::ds)→Gf (.rs sz (l::ls)::ts) (as++bs) (.recs .arg sz (cs::rows)::ds)
theorem Ap8 {c:Ctx} {w:World} {k:IntKind} {v:Value} (h:Ap c w .nil v):Ap c w (.ints .arg k []) v:=by
 simp only [Ap] at h ⊢
 subst h
 exact ⟨none,0,rfl,A2b _,.inl trivial⟩
theorem Aer {t:AT} {d:DV} {a:Atom} (h:Ahl t d=some a):∃ d',(∀ ts as ds,Gf ts as ds→Gf (t::ts) (a::as) (d'::ds))∧∀ c w v,Ap c w d v→Ap c w d' v:=by
 unfold Ahl at h
 split at h
 ·simp only [A1k] at h; subst h
  exact ⟨_,fun _ _ _ he=>.b _ he,fun _ _ _ h=>h⟩
 ·rename_i k k' x
  by_cases e:k=k'
  ·subst e
   simp only [decide_true,A1h,A1k] at h; subst h
   exact ⟨_,fun _ _ _ he=>.i _ _ he,fun _ _ _ h=>h⟩
  ·simp [e] at h
 ·rename_i k
  simp only [A1k] at h; subst h
  exact ⟨_,fun _ _ _ he=>.s k _ he,fun _ _ _ h=>Ap8 h⟩
 ·rename_i k k' x
  by_cases e:k=k'
  ·subst e
   simp only [decide_true,A1h,A1k] at h; subst h
   exact ⟨_,fun _ _ _ he=>.s _ _ he,fun _ _ _ h=>h⟩
  ·simp [e] at h
 ·simp only [A1k] at h; subst h
  exact ⟨_,fun _ _ _ he=>.fl _ he,fun _ _ _ h=>h⟩
 ·simp only [A1k] at h; subst h
  exact ⟨_,fun _ _ _ he=>.nb _ he,fun _ _ _ h=>h⟩
 ·cases h
theorem Yj:∀ {ts:List AT} {ds:List DV} {as:List Atom},Wv ts ds=some as→∃ ds',Gf ts as ds'∧∀ c w vs,Bf c w ds vs→Bf c w ds' vs
 | [],[],as,h=>by
   simp only [Wv,A1k] at h; subst h
   exact ⟨[],.nil,fun _ _ _ h=>h⟩
 | t::ts,d::ds,as,h=>by
   simp only [Wv] at h
   cases h1:Ahl t d with
   | none=>rw [h1] at h; cases h
   | some a =>
     cases h2:Wv ts ds with
     | none=>rw [h1,h2] at h; cases h
     | some bs =>
       rw [h1,h2] at h
       simp only [A1k] at h; subst h
       obtain ⟨d',i1,i2⟩:=Aer h1
       obtain ⟨ds',j1,j2⟩:=Yj h2
       refine ⟨d'::ds',i1 _ _ _ j1,fun c w vs hv=>?_⟩
       rw [Bf.Cw] at hv ⊢
       obtain ⟨u,us,e,hu,hus⟩:=hv
       exact ⟨u,us,e,i2 _ _ _ hu,j2 _ _ _ hus⟩
 | [],_::_,as,h=>by simp [Wv] at h
 | _::_,[],as,h=>by simp [Wv] at h
theorem Qg:∀ {ts:List AT} {ds:List DV} {as:List Atom},S6 ts ds=some as→∃ ds',Gf ts as ds'∧∀ c w vs,Bf c w ds vs→Bf c w ds' vs
 | ts,ds,as,h=>by
   unfold S6 at h
   split at h
   ·simp only [A1k] at h; subst h
    exact ⟨[],.nil,fun _ _ _ h=>h⟩
   ·rename_i l ts cs ds
    cases h1:Wv l cs with
    | none=>rw [h1] at h; cases h
    | some a =>
      cases h2:S6 ts ds with
      | none=>rw [h1,h2] at h; cases h
      | some bs =>
        rw [h1,h2] at h
        simp only [A1k] at h; subst h
        obtain ⟨cs',i1,i2⟩:=Yj h1
        obtain ⟨ds',j1,j2⟩:=Qg h2
        refine ⟨.cellp cs'::ds',.cp i1 j1,fun c w vs hv=>?_⟩
        rw [Bf.Cw] at hv ⊢
        obtain ⟨u,us,e,hu,hus⟩:=hv
        refine ⟨u,us,e,?_,j2 _ _ _ hus⟩
        simp only [Ap] at hu ⊢
        obtain ⟨b,o,vs,e,hb,hh,hc⟩:=hu
        exact ⟨b,o,vs,e,hb,i2 _ _ _ hh,hc⟩
   ·rename_i l ts cs ds
    cases h1:Wv l cs with
    | none=>rw [h1] at h; cases h
    | some a =>
      cases h2:S6 ts ds with
      | none=>rw [h1,h2] at h; cases h
      | some bs =>
        rw [h1,h2] at h
        simp only [A1k] at h; subst h
        obtain ⟨cs',i1,i2⟩:=Yj h1
        obtain ⟨ds',j1,j2⟩:=Qg h2
        refine ⟨.agg cs'::ds',.st i1 j1,fun c w vs hv=>?_⟩
        rw [Bf.Cw] at hv ⊢
        obtain ⟨u,us,e,hu,hus⟩:=hv
        refine ⟨u,us,e,?_,j2 _ _ _ hus⟩
        simp only [Ap] at hu ⊢
        obtain ⟨vs,e,hh⟩:=hu
        exact ⟨vs,e,i2 _ _ _ hh⟩
   ·rename_i t ts d ds _ _
    cases h1:Ahl t d with
    | none=>rw [h1] at h; cases h
    | some a =>
      cases h2:S6 ts ds with
      | none=>rw [h1,h2] at h; cases h
      | some bs =>
        rw [h1,h2] at h
        simp only [A1k] at h; subst h
        obtain ⟨d',i1,i2⟩:=Aer h1
        obtain ⟨ds',j1,j2⟩:=Qg h2
        refine ⟨d'::ds',i1 _ _ _ j1,fun c w vs hv=>?_⟩
        rw [Bf.Cw] at hv ⊢
        obtain ⟨u,us,e,hu,hus⟩:=hv
        exact ⟨u,us,e,i2 _ _ _ hu,j2 _ _ _ hus⟩
   ·cases h
theorem Alj:∀ {ls:List (List AT)} {rows:List (List DV)} {as:List Atom},Aeq ls rows=some as →
 ∃ rows',(∀ sz ts bs ds,Gf ts bs ds→Gf (.rs sz ls::ts) (as++bs) (.recs .arg sz rows'::ds))∧rows'.length=rows.length∧∀ c w vs,Dc c w rows vs→Dc c w rows' vs
 | [],[],as,h=>by
   simp only [Aeq,A1k] at h; subst h
   exact ⟨[],fun _ _ _ _ h=>.rs0 h,rfl,fun _ _ _ h=>h⟩
 | l::ls,cs::rows,as,h=>by
   simp only [Aeq] at h
   cases h1:Wv l cs with
   | none=>rw [h1] at h; cases h
   | some a =>
     cases h2:Aeq ls rows with
     | none=>rw [h1,h2] at h; cases h
     | some bs =>
       rw [h1,h2] at h
       simp only [A1k] at h; subst h
       obtain ⟨cs',i1,i2⟩:=Yj h1
       obtain ⟨rows',j1,j2,j3⟩:=Alj h2
       refine ⟨cs'::rows',fun sz ts b ds he=>?_,by simp [j2],fun c w vs hv=>?_⟩
       ·rw [List.append_assoc]; exact .rs1 i1 (j1 _ _ _ _ he)
       ·simp only [Dc] at hv ⊢
        obtain ⟨u,us,e,hu,hus⟩:=hv
        exact ⟨u,us,e,i2 _ _ _ hu,j3 _ _ _ hus⟩
 | [],_::_,as,h=>by simp [Aeq] at h
 | _::_,[],as,h=>by simp [Aeq] at h
theorem Mz:∀ {ts:List AT} {ds:List DV} {as:List Atom},M3 ts ds=some as→∃ ds',Gf ts as ds'∧∀ c w vs,Bf c w ds vs→Bf c w ds' vs
 | ts,ds,as,h=>by
   unfold M3 at h
   split at h
   ·simp only [A1k] at h; subst h
    exact ⟨[],.nil,fun _ _ _ h=>h⟩
   ·rename_i sz ls ts sz' rows ds
    cases hg:Nat.beq sz sz' with
    | false=>rw [hg] at h; cases h
    | true =>
    rw [hg,A1h] at h
    obtain rfl:=A1z hg
    cases h1:Aeq ls rows with
    | none=>rw [h1] at h; cases h
    | some a =>
      cases h2:M3 ts ds with
      | none=>rw [h1,h2] at h; cases h
      | some bs =>
        rw [h1,h2] at h
        simp only [A1k] at h; subst h
        obtain ⟨rows',i1,i3,i2⟩:=Alj h1
        obtain ⟨ds',j1,j2⟩:=Mz h2
        refine ⟨.recs .arg sz rows'::ds',i1 _ _ _ _ j1,fun c w vs hv=>?_⟩
        rw [Bf.Cw] at hv ⊢
        obtain ⟨u,us,e,hu,hus⟩:=hv
        refine ⟨u,us,e,?_,j2 _ _ _ hus⟩
        simp only [Ap] at hu ⊢
        obtain ⟨a,cap,e,hc,hh⟩:=hu
        refine ⟨a,cap,by rw [i3]; exact e,by rw [i3]; exact hc,hh.imp (fun h=>?_) fun ⟨b,o,rs,e1,e2,e3,e4,e5⟩=>⟨b,o,rs,e1,e2,i2 _ _ _ e3,e4,e5⟩⟩
        rw [h] at i3
        exact A2i i3
   ·rename_i g l ts g' cs ds
    cases hg:Nat.beq g g' with
    | false=>rw [hg] at h; cases h
    | true =>
    rw [hg,A1h] at h
    obtain rfl:=A1z hg
    cases h1:S6 l cs with
    | none=>rw [h1] at h; cases h
    | some a =>
      cases h2:M3 ts ds with
      | none=>rw [h1,h2] at h; cases h
      | some bs =>
        rw [h1,h2] at h
        simp only [A1k] at h; subst h
        obtain ⟨cs',i1,i2⟩:=Qg h1
        obtain ⟨ds',j1,j2⟩:=Mz h2
        refine ⟨.fn g cs' []::ds',.fm i1 j1,fun c w vs hv=>?_⟩
        rw [Bf.Cw] at hv ⊢
        obtain ⟨u,us,e,hu,hus⟩:=hv
        refine ⟨u,us,e,?_,j2 _ _ _ hus⟩
        simp only [Ap] at hu ⊢
        obtain ⟨fs',vs,e,hf,hh⟩:=hu
        exact ⟨fs',vs,e,i2 _ _ _ hf,hh⟩
   ·rename_i g l ts g' cs ds
    cases hg:Nat.beq g g' with
    | false=>rw [hg] at h; cases h
    | true =>
    rw [hg,A1h] at h
    obtain rfl:=A1z hg
    cases h1:S6 l cs with
    | none=>rw [h1] at h; cases h
    | some a =>
      cases h2:M3 ts ds with
      | none=>rw [h1,h2] at h; cases h
      | some bs =>
        rw [h1,h2] at h
        simp only [A1k] at h; subst h
        obtain ⟨cs',i1,i2⟩:=Qg h1
        obtain ⟨ds',j1,j2⟩:=Mz h2
        refine ⟨.fn g [] cs'::ds',.fn i1 j1,fun c w vs hv=>?_⟩
        rw [Bf.Cw] at hv ⊢
        obtain ⟨u,us,e,hu,hus⟩:=hv
        refine ⟨u,us,e,?_,j2 _ _ _ hus⟩
        simp only [Ap] at hu ⊢
        obtain ⟨fs',vs,e,hf,hh⟩:=hu
        exact ⟨fs',vs,e,hf,i2 _ _ _ hh⟩
   ·rename_i l ts cs ds
    cases h1:S6 l cs with
    | none=>rw [h1] at h; cases h
    | some a =>
      cases h2:M3 ts ds with
      | none=>rw [h1,h2] at h; cases h
      | some bs =>
        rw [h1,h2] at h
        simp only [A1k] at h; subst h
        obtain ⟨cs',i1,i2⟩:=Qg h1
        obtain ⟨ds',j1,j2⟩:=Mz h2
        refine ⟨.cellp cs'::ds',.cp i1 j1,fun c w vs hv=>?_⟩
        rw [Bf.Cw] at hv ⊢
        obtain ⟨u,us,e,hu,hus⟩:=hv
        refine ⟨u,us,e,?_,j2 _ _ _ hus⟩
        simp only [Ap] at hu ⊢
        obtain ⟨b,o,vs,e,hb,hh,hc⟩:=hu
        exact ⟨b,o,vs,e,hb,i2 _ _ _ hh,hc⟩
   ·rename_i l ts cs ds
    cases h1:S6 l cs with
    | none=>rw [h1] at h; cases h
    | some a =>
      cases h2:M3 ts ds with
      | none=>rw [h1,h2] at h; cases h
      | some bs =>
        rw [h1,h2] at h
        simp only [A1k] at h; subst h
        obtain ⟨cs',i1,i2⟩:=Qg h1
        obtain ⟨ds',j1,j2⟩:=Mz h2
        refine ⟨.agg cs'::ds',.st i1 j1,fun c w vs hv=>?_⟩
        rw [Bf.Cw] at hv ⊢
        obtain ⟨u,us,e,hu,hus⟩:=hv
        refine ⟨u,us,e,?_,j2 _ _ _ hus⟩
        simp only [Ap] at hu ⊢
        obtain ⟨vs,e,hh⟩:=hu
        exact ⟨vs,e,i2 _ _ _ hh⟩
   ·rename_i t ts d ds _ _ _ _ _
    cases h1:Ahl t d with
    | none=>rw [h1] at h; cases h
    | some a =>
      cases h2:M3 ts ds with
      | none=>rw [h1,h2] at h; cases h
      | some bs =>
        rw [h1,h2] at h
        simp only [A1k] at h; subst h
        obtain ⟨d',i1,i2⟩:=Aer h1
        obtain ⟨ds',j1,j2⟩:=Mz h2
        refine ⟨d'::ds',i1 _ _ _ j1,fun c w vs hv=>?_⟩
        rw [Bf.Cw] at hv ⊢
        obtain ⟨u,us,e,hu,hus⟩:=hv
        exact ⟨u,us,e,i2 _ _ _ hu,j2 _ _ _ hus⟩
   ·cases h
def entry (ts:List AT) (pre:List Atom→Bool) (out:List Atom→DV):Entry where
 pre:=fun args=>match M3 ts args with
  | some as=>pre as
  | none=>false
 out:=fun args=>match M3 ts args with
  | some as=>out as
  | none=>.undef
inductive Wk (drops:List Nat):DV→DV→Prop
 | refl {d:DV} (h:E6 1 [] d=true) (ho:∀ i e k l,d≠.ints (.own i e) k l) (hr:∀ i e k l,d≠.recs (.own i e) k l):Wk drops d d
 | nil (g:Ah2) (k:IntKind):Wk drops .nil (.ints g k [])
 | fresh (k:IntKind) (l:List Int):Wk drops (.ints .fresh k l) (.ints .arg k l)
 | keep (i:Nat) (e:TypeId) (k:IntKind) (l:List Int) (h:i ∉ drops):Wk drops (.ints (.own i e) k l) (.ints (.own i e) k l)
 | keepR (i:Nat) (e:TypeId) (sz:Nat) (l:List (List DV)) (h:i ∉ drops):Wk drops (.recs (.own i e) sz l) (.recs (.own i e) sz l)
 | nilR (g:Ah2) (sz:Nat):Wk drops .nil (.recs g sz [])
 | dropR (i:Nat) (e:TypeId) (sz:Nat) (l:List (List DV)) (h:i∈drops):Wk drops (.recs (.own i e) sz l) (.recs .fresh sz l)
 | drop (i:Nat) (e:TypeId) (k:IntKind) (l:List Int) (h:i∈drops):Wk drops (.ints (.own i e) k l) (.ints .fresh k l)
 | dropA (i:Nat) (e:TypeId) (k:IntKind) (l:List Int) (h:i∈drops):Wk drops (.ints (.own i e) k l) (.ints .arg k l)
 | agg {l l':List DV} (h:l.length=l'.length) (hw:∀ (j:Nat) d d',l[j]?=some d→l'[j]?=some d'→Wk drops d d'):Wk drops (.agg l) (.agg l')
 | tup {l l':List DV} (h:l.length=l'.length) (hw:∀ (j:Nat) d d',l[j]?=some d→l'[j]?=some d'→Wk drops d d'):Wk drops (.tup l) (.tup l')
def Ir (drops:List Nat) (own:Nat→Option Nat) (i:Nat):Option Nat:=if i∈drops then none else own i
theorem L4 {drops:List Nat} {own:Nat→Option Nat} {i b:Nat} (h:Ir drops own i=some b):own i=some b∧i ∉ drops:=by
 unfold Ir at h
 split at h
 ·cases h
 ·exact ⟨h,‹_›⟩
theorem Tb {w:World} {base:Nat} {e:TypeId} {k:IntKind} {l:List Int} {v:Value} (ho:w.ownsRow base e 1 v l.length (l.map (Value.int k))) {ok:Nat→Prop} (hok:∀ b,v.ownBlock=some b→ok b) :
 ∃ a cap,v=.slice a l.length cap∧l.length≤cap∧(l=[]∨∃ b o,a=some ⟨b,o,none⟩∧ok b∧∀ (i:Nat) n,l[i]?=some n→w.cell? ⟨b,o+i,none⟩=some (.int k n)):=by
 have:=K1 (p:=⟨.live,.row v 1⟩) rfl ho (Gg ho) (ok:=ok) hok
 simp only [List.drop_zero,List.take_length] at this
 exact this
theorem Wk.rel {drops:List Nat} {d d':DV} (h:Wk drops d d') {I:Nat→Prop} {own:Nat→Option Nat} {w w':World} (ho:Al0 own w w'):∀ v,Ap (D2 I own w w') w' d v→Ap (D2 I (Ir drops own) w w') w' d' v:=by
 have hok:∀ b,(D2 I own w w').ok b→(D2 I (Ir drops own) w w').ok b:=by
  rintro b ⟨h1,h2,h3⟩
  exact ⟨h1,h2,fun i hi=>h3 i (L4 hi).1⟩
 have hblk:∀ i b,i∈drops→own i=some b→(D2 I (Ir drops own) w w').ok b∧w.heap.size≤b:=by
  intro i b hi hb
  obtain ⟨h1,h2⟩:=ho.lt i b hb
  refine ⟨⟨h2,.inr h1,fun j hj=>?_⟩,h1⟩
  obtain ⟨h3,h4⟩:=L4 hj
  rw [ho.inj j i b h3 hb] at h4
  exact h4 hi
 induction h with
 | @refl d h h1 h2 =>
   intro v hv
   have hl:L8 (({ D2 I own w w' with own:=fun _=>none }:Ctx).only []) w' (D2 I (Ir drops own) w w') w' :=
    ⟨hok,rfl,rfl,fun _ _ h=>(by cases h),fun n p hp=>(by simp [Ctx.only] at hp),fun _ _ _=>rfl,fun _ _ h=>(by cases h)⟩
   refine Ap.Ds hl d v (Ad0 [] 1 d v h ?_)
   cases d with
   | ints g k l =>
     cases g with
     | own i e=>exact absurd rfl (h1 i e k l)
     | _=>simp only [Ap] at hv ⊢; exact hv
   | recs g k l =>
     cases g with
     | own i e=>exact absurd rfl (h2 i e k l)
     | _=>simp only [Ap] at hv ⊢; exact hv
   | agg l =>
     cases l with
     | nil=>simp only [Ap] at hv ⊢; simpa [Bf] using hv
     | cons a l=>simp [E6] at h
   | tup l =>
     cases l with
     | nil=>simp only [Ap] at hv ⊢; simpa [Bf] using hv
     | cons a l=>simp [E6] at h
   | fn g a c =>
     cases a with
     | cons _ _=>simp [E6] at h
     | nil =>
       cases c with
       | cons _ _=>simp [E6] at h
       | nil=>simp only [Ap] at hv ⊢; simpa [Bf] using hv
   | gd c d=>simp [E6] at h
   | oref n=>simp [E6] at h
   | sref n o m=>simp [E6] at h
   | ptr n i j=>simp [E6] at h
   | undef=>simp only [Ap]
   | _=>simp only [Ap] at hv ⊢; exact hv
 | nil g k =>
   intro v hv
   simp only [Ap] at hv
   subst hv
   cases g with
   | own i e=>simp only [Ap]; exact ⟨World.ownsRow_nil w' _ e 1,fun b hb=>by cases hb⟩
   | _=>simp only [Ap]; exact ⟨none,0,rfl,A2b _,.inl trivial⟩
 | nilR g sz =>
   intro v hv
   simp only [Ap] at hv
   subst hv
   cases g with
   | own i e=>simp only [Ap]; exact ⟨[],by simp [Dc],by simp,World.ownsRow_nil w' _ e sz,fun b hb=>by cases hb⟩
   | _=>simp only [Ap]; exact ⟨none,0,rfl,A2b _,.inl trivial⟩
 | dropR i e sz l h =>
   intro v hv
   simp only [Ap] at hv ⊢
   obtain ⟨rows,h1,h2,h3,h4⟩:=hv
   have hr:=Dc.Ds (c:=(D2 I own w w').bare) (c':=(D2 I (Ir drops own) w w').bare) ⟨hok,rfl,rfl,fun _ _ h=>(by cases h),fun _ _ h=>(by cases h),fun _ _ _=>rfl,fun _ _ h=>(by cases h)⟩ _ _ h1
   have:=K0 (p:=⟨.live,.row v sz⟩) rfl hr h2 h3 (by have:=Gg h3; exact this) (ok:=fun b=>(D2 I (Ir drops own) w w').ok b∧w.heap.size≤b) (fun b hb=>hblk i b h (h4 b hb))
   simp only [List.drop_zero,List.take_length] at this
   obtain ⟨a,cap,e1,e2,e3⟩:=this
   exact ⟨a,cap,e1,e2,e3.imp id fun ⟨b,o,rows',e4,e5,e6,e7,e8⟩=>⟨b,o,rows',e4,⟨e5.1,rfl,e5.2⟩,e6,e7,e8⟩⟩
 | fresh k l =>
   intro v hv
   simp only [Ap] at hv ⊢
   obtain ⟨a,cap,e,h1,h2⟩:=hv
   exact ⟨a,cap,e,h1,h2.imp id fun ⟨b,o,h3,h4,h5⟩=>⟨b,o,h3,hok b h4.1,h5⟩⟩
 | keep i e k l h =>
   intro v hv
   simp only [Ap] at hv ⊢
   exact ⟨hv.1,fun b hb=>by show Ir drops own i=some b; unfold Ir; rw [A13 h]; exact hv.2 b hb⟩
 | keepR i e sz l h =>
   intro v hv
   simp only [Ap] at hv ⊢
   obtain ⟨rows,h1,h2,h3,h4⟩:=hv
   refine ⟨rows,?_,h2,h3,fun b hb=>by show Ir drops own i=some b; unfold Ir; rw [A13 h]; exact h4 b hb⟩
   exact Dc.Ds (c:=(D2 I own w w').bare) (c':=(D2 I (Ir drops own) w w').bare) ⟨hok,rfl,rfl,fun _ _ h=>(by cases h),fun _ _ h=>(by cases h),fun _ _ _=>rfl,fun _ _ h=>(by cases h)⟩ _ _ h1
 | drop i e k l h =>
   intro v hv
   simp only [Ap] at hv ⊢
   exact Tb hv.1 fun b hb=>⟨(hblk i b h (hv.2 b hb)).1,rfl,(hblk i b h (hv.2 b hb)).2⟩
 | dropA i e k l h =>
   intro v hv
   simp only [Ap] at hv ⊢
   exact Tb hv.1 fun b hb=>(hblk i b h (hv.2 b hb)).1
 | @agg l l' h hw ih =>
   intro v hv
   simp only [Ap] at hv ⊢
   obtain ⟨vs,e,hl⟩:=hv
   refine ⟨vs,e,Bf.Mc (by rw [← h]; exact hl.length) fun j d v hd hv=>?_⟩
   have hlt:j<l.length:=by rw [h]; exact (List.getElem?_eq_some_iff.1 hd).1
   obtain ⟨u,hu,hr⟩:=hl.get j _ (A1y hlt)
   rw [hv] at hu; cases hu
   exact ih j _ d (A1y hlt) hd v hr
 | @tup l l' h hw ih =>
   intro v hv
   simp only [Ap] at hv ⊢
   obtain ⟨vs,e,hl⟩:=hv
   refine ⟨vs,e,Bf.Mc (by rw [← h]; exact hl.length) fun j d v hd hv=>?_⟩
   have hlt:j<l.length:=by rw [h]; exact (List.getElem?_eq_some_iff.1 hd).1
   obtain ⟨u,hu,hr⟩:=hl.get j _ (A1y hlt)
   rw [hv] at hu; cases hu
   exact ih j _ d (A1y hlt) hd v hr
theorem O0.Aok {P:Program} {f:FuncId} {args:List DV} {out out':DV} (h:O0 P f args out) {drops:List Nat} (hw:Wk drops out out'):O0 P f args out':=by
 intro w vals I hI hv
 refine (h w vals I hI hv).mono ?_
 rintro e w' ⟨v,own,he,hb,ho,hr⟩
 refine ⟨v,Ir drops own,he,hb,⟨fun i b hi=>ho.lt i b (L4 hi).1,fun i j b hi hj=>ho.inj i j b (L4 hi).1 (L4 hj).1⟩,hw.rel ho v hr⟩
theorem O0.args {P:Program} {f:FuncId} {args args':List DV} {out:DV} (h:O0 P f args out) (ha:∀ c w vs,Bf c w args' vs→Bf c w args vs):O0 P f args' out :=
 fun w vals I hI hv=>h w vals I hI (ha _ _ _ hv)
theorem Xh {P:Program} {E:Env} (he:Kt P E) {f:FuncId} {fn:Func} {body:Code} (hf:P.funcs[f]?=some fn) (hb:fn.body=some body) {ts:List AT} {pre:List Atom→Bool} {out:List Atom→DV}
 (h:∀ as ds,Gf ts as ds→pre as=true→∃ fuel d drops,Bw E fuel fn body ds=some d∧Wk drops d (out as)):Aa2 P f (entry ts pre out):=by
 intro args ha
 simp only [entry] at ha ⊢
 cases hd:M3 ts args with
 | none=>rw [hd] at ha; cases ha
 | some as =>
   rw [hd] at ha
   simp only at ha ⊢
   obtain ⟨ds,h1,h2⟩:=Mz hd
   obtain ⟨fuel,d,drops,h3,h4⟩:=h as ds h1 ha
   exact ((Awv he hf hb h3).Aok h4).args h2
end Go.Den
namespace Go.Den
structure Pt (β:Type) where
 b:Nat
 c:Code
 Kn:St→Option β
 Kx:Nat→St→Option β
 Kr:St→Option β
def descend {β:Type} (E:Env) (n:Nat):List Nat→List Nat→Nat→Code→(St→Option β)→(Nat→St→Option β)→(St→Option β)→Pt β
 | 0::p,ms,b,.seq x y,Kn,Kx,Kr=>descend E n p ms b x (fun st'=>den E n b y st' Kn Kx Kr) Kx Kr
 | _::p,ms,b,.seq _ y,Kn,Kx,Kr=>descend E n p ms b y Kn Kx Kr
 | 0::p,ms,b,.cond _ x _,Kn,Kx,Kr=>descend E n p ms b x Kn Kx Kr
 | _::p,ms,b,.cond _ _ y,Kn,Kx,Kr=>descend E n p ms b y Kn Kx Kr
 | _::p,ms,_,.block id c,Kn,Kx,Kr=>descend E n p ms id c Kn (fun id' st'=>bif id'==id then Kn st' else Kx id' st') Kr
 | _::p,ms,b,.scope c,Kn,Kx,Kr=>descend E n p ms b c Kn Kx Kr
 | _::p,m::ms,b,.loop c,_,Kx,Kr=>descend E n p ms b c (fun st2=>match canon (E.hint b) st2 with | some st3=>Z7 (E.hint b) (den E n b c) m st3 Kx Kr | none=>none) Kx Kr
 | _,_,b,c,Kn,Kx,Kr=>⟨b,c,Kn,Kx,Kr⟩
def cutAt (E:Env) (n:Nat) (fn:Func) (body:Code) (p ms:List Nat) (st:St):Option DV :=
 match descend E n p ms 0 body (fun st=>Aa4 E fn st) (fun _ _=>none) (fun st=>Aa4 E fn st) with
 | ⟨b,.seq (.region _ ops draw) y,Kn,Kx,Kr⟩=>Adk (Af4 E ops draw (fun st'=>den E n b y st' Kn Kx Kr)) st
 | ⟨_,.region _ ops draw,Kn,_,_⟩=>Adk (Af4 E ops draw Kn) st
 | _=>none
def Ars (E:Env) (n:Nat) (fn:Func) (body:Code) (p ms:List Nat) (st:St):Option DV :=
 match descend E n p ms 0 body (fun st=>Aa4 E fn st) (fun _ _=>none) (fun st=>Aa4 E fn st) with
 | ⟨b,.seq (.region _ ops draw) y,Kn,Kx,Kr⟩=>Af4 E ops draw (fun st'=>den E n b y st' Kn Kx Kr) st
 | ⟨_,.region _ ops draw,Kn,_,_⟩=>Af4 E ops draw Kn st
 | _=>none
theorem Rk (E:Env) (n:Nat) (fn:Func) (body:Code) (p ms:List Nat) (st:St):cutAt E n fn body p ms st=Ars E n fn body p ms st:=by
 unfold cutAt Ars
 split<;>simp only [Abo]
def B2 (E:Env) (n:Nat) (fn:Func) (body:Code) (p ms:List Nat) (m:Nat) (st:St):Option DV :=
 match descend E n p ms 0 body (fun st=>Aa4 E fn st) (fun _ _=>none) (fun st=>Aa4 E fn st) with
 | ⟨b,.loop c,_,Kx,Kr⟩=>Z7 (E.hint b) (den E n b c) m st Kx Kr
 | _=>none
def atL (i:Nat):List (Nat × DV)→DV
 | []=>.undef
 | (j,d)::l=>bif Nat.beq i j then d else atL i l
def Ay1 (l:List (Nat × DV)):Nat→Nat→List DV
 | 0,_=>[]
 | k+1,i=>atL i l::Ay1 l k (i+1)
def Gz (n:Nat) (l:List (Nat × DV)):List DV:=Ay1 l n 0
end Go.Den
namespace Go.Den
open Go.RowKit (Below)
def Ab (x:Int):Int:=IntKind.i64.wrap x
def Bl (x:Int):Int:=IntKind.u64.wrap x
def J9 (x:Int):Int:=IntKind.u32.wrap x
def E1 (k:IntKind) (x y:Int):Int:=k.wrap (BitVec.ofInt k.bits x &&& BitVec.ofInt k.bits y).toNat
def Is (k:IntKind) (x y:Int):Int:=k.wrap (BitVec.ofInt k.bits x ||| BitVec.ofInt k.bits y).toNat
def Auy (k:IntKind) (x y:Int):Int:=k.wrap (BitVec.ofInt k.bits x ^^^ BitVec.ofInt k.bits y).toNat
def Gx (k:IntKind) (x y:Int):Int:=k.wrap (BitVec.ofInt k.bits x &&& ~~~(BitVec.ofInt k.bits y)).toNat
def B4 (k:IntKind) (x y:Int):Int:=k.wrap (x*2^(min y.toNat k.bits))
def Dm (k:IntKind) (x y:Int):Int:=x.fdiv (2^(min y.toNat k.bits))
def Cz (p:Prop):Bool:=@decide p (Classical.propDecidable p)
theorem Ar {p:Prop}:Cz p=true↔p:=by unfold Cz; exact @decide_eq_true_iff p (Classical.propDecidable p)
def An (f:Func):Code:=f.body.getD .skip
def A8:List (Nat × Entry)→Nat→Option Entry
 | [],_=>none
 | (m,e)::l,n=>bif Nat.beq m n then some e else A8 l n
def Aov:List (Nat × TI)→Nat→Option TI
 | [],_=>none
 | (m,e)::l,n=>bif Nat.beq m n then some e else Aov l n
theorem ifT {α:Type} {R:Bool} {A A' B:α} (h:R=true) (ha:A=A'):(bif R then A else B)=A':=by rw [h,ha]; rfl
theorem Ax {α:Type} {R:Bool} {A A':Option α} (h:R=true) (ha:A=A'):(bif R then A else none)=A':=ifT h ha
theorem C9 {α:Type} {R S:Bool} {A A' B B':α} (h:R=S) (ha:A=A') (hb:B=B'):(bif R then A else B)=bif S then A' else B':=by rw [h,ha,hb]
theorem Et {α:Type} {R:Bool} {A A' B B':α} (ha:A=A') (hb:B=B'):(bif R then A else B)=bif R then A' else B':=by rw [ha,hb]
structure A4 (P:Program) (g:FuncId) (e:Entry):Prop where
 meets:Aa2 P g e
 call:∀ (args:Array Value) (w:World),(callFunc g args).run P w=.ok (.enter g args) w
inductive Az (P:Program):List (Nat × Entry)→Prop
 | nil:Az P []
 | cons {g e l}:A4 P g e→Az P l→Az P ((g,e)::l)
theorem Az.get {P:Program} {l:List (Nat × Entry)} (h:Az P l) {g:Nat} {e:Entry} (hg:A8 l g=some e):A4 P g e:=by
 induction h with
 | nil=>cases hg
 | @cons g' e' l h1 h2 ih =>
   simp only [A8] at hg
   cases hb:Nat.beq g' g with
   | true =>
     rw [hb] at hg
     simp only [A1h,A1k] at hg
     have:=A1z hb
     subst this hg
     exact h1
   | false=>rw [hb] at hg; exact ih hg
theorem T5 {P:Program} {f:FuncId} {fn:Func} {body:Code} (hf:P.funcs[f]?=some fn) (hn:(fn.name== "runtime.NumGoroutine")=false) (hb:fn.body=some body) (args:Array Value) (w:World) :
 (callFunc f args).run P w=.ok (.enter f args) w:=by
 have h1:fn.name≠ "runtime.NumGoroutine":=by simpa using hn
 simp [callFunc,hf,h1,hb]
inductive Sx (P:Program):List (Nat × TI)→Prop
 | nil:Sx P []
 | cons {t ti l}:B7 P t ti→Sx P l→Sx P ((t,ti)::l)
theorem Sx.get {P:Program} {l:List (Nat × TI)} (h:Sx P l) {t:Nat} {ti:TI} (hg:Aov l t=some ti):B7 P t ti:=by
 induction h with
 | nil=>cases hg
 | @cons t' ti' l h1 h2 ih =>
   simp only [Aov] at hg
   cases hb:Nat.beq t' t with
   | true =>
     rw [hb] at hg
     simp only [A1h,A1k] at hg
     have:=A1z hb
     subst this hg
     exact h1
   | false=>rw [hb] at hg; exact ih hg
theorem Cb {P:Program} {t:TypeId} {ti:TI} {z:Value} (h:(P.info? t).map (fun i=>(i.zero,i.size,i.bytes))=some (some z,ti.size,ti.bytes)) (hz:Ae2 ti.zero z.cells.toList) (hs:z.cells.size=ti.size)
 (h1:∀ u∈z.cells.toList,u.oneCell'=true) (hd:Ce P t ti.kind):B7 P t ti:=by
 cases hi:P.info? t with
 | none=>rw [hi] at h; cases h
 | some i =>
   rw [hi] at h
   simp only [Option.map_some,A1k,A1q] at h
   exact ⟨⟨i,z,hi,h.2.1,h.2.2,h.1,hz,hs,h1⟩,hd⟩
def Amm (ts:List AT) (pre:List Atom→Bool) (out:List Atom→DV) (mu:List Atom→Nat) (n:Nat):Entry:=entry ts (fun as=>pre as&&Cz (mu as<n)) out
theorem Ai7 {P:Program} {E:Nat→Env} {f:FuncId} {fn:Func} {body:Code} (hf:P.funcs[f]?=some fn) (hb:fn.body=some body) {ts:List AT} {pre:List Atom→Bool} {out:List Atom→DV} (mu:List Atom→Nat)
 (he:∀ n,Aa2 P f (Amm ts pre out mu n)→Kt P (E n))
 (h:∀ n as ds,Gf ts as ds→pre as=true→mu as<n+1→∃ fuel d drops,Bw (E n) fuel fn body ds=some d∧Wk drops d (out as)):Aa2 P f (entry ts pre out):=by
 have key:∀ n,Aa2 P f (Amm ts pre out mu n):=by
  intro n
  induction n with
  | zero =>
    intro args ha
    simp only [Amm,entry] at ha
    split at ha
    ·simp only [A1s,Ar] at ha; omega
    ·cases ha
  | succ n ih =>
    refine Xh (he n ih) hf hb fun as ds hd hp=>?_
    simp only [A1s,Ar] at hp
    exact h n as ds hd hp.1 hp.2
 intro args ha
 simp only [entry] at ha
 cases hd:M3 ts args with
 | none=>rw [hd] at ha; cases ha
 | some as =>
   rw [hd] at ha
   have:=key (mu as+1) args (by simp only [Amm,entry,hd,A1s,Ar]; exact ⟨ha,Nat.lt_succ_self _⟩)
   simp only [Amm,entry] at this ⊢
   exact this
theorem Mp {P:Program} (w:World) {t:TypeId} {ti:TI} (hf:B7 P t ti) (ha:ti.agg=false) {xs:Array Value} {i:Nat} {v:Value} (hv:xs[i]?=some v):(part t xs i).run P w=.ok v w:=by
 simp [part,hf.Ut w,ha,hv]
theorem Yy {z:Bool} {l m:List DV} (h:sameShape (.bool z::l) m=true):∃ b m',m=.bool b::m'∧sameShape l m'=true:=by
 cases m with
 | nil=>simp [sameShape] at h
 | cons d m'=>cases d<;>simp [sameShape] at h; exact ⟨_,_,rfl,h⟩
theorem Jz {k:IntKind} {z:Int} {l m:List DV} (h:sameShape (.int k z::l) m=true):∃ b m',m=.int k b::m'∧sameShape l m'=true:=by
 cases m with
 | nil=>simp [sameShape] at h
 | cons d m'=>cases d<;>simp [sameShape] at h; obtain ⟨rfl,h⟩:=h; exact ⟨_,_,rfl,h⟩
theorem R5 {m:List DV} (h:sameShape [] m=true):m=[]:=by
 cases m with
 | nil=>rfl
 | cons d m'=>cases d<;>simp [sameShape] at h
theorem Aw3 {P:Program} {g:FuncId} {e:Entry} (h:A4 P g e) {vals:Array Value} {w:World} {args:List DV} {I:Nat→Prop} (hI:∀ b,I b→b<w.heap.size) (ha:Bf (Kl I) w args vals.toList)
 (hp:e.pre args=true) (ho:e.out args=.bool true):Calls P g vals w fun e w'=>e=.returned (.bool true)∧Below w.heap.size w w':=by
 refine (h.meets args hp w vals I hI ha).mono ?_
 rintro e w' ⟨v,own,he,hb,_,hv⟩
 rw [ho] at hv
 simp only [Ap] at hv
 subst hv
 exact ⟨he,hb⟩
end Go.Den
namespace Go.Den
open Go.RowKit (Below)
end Go.Den
namespace Go.Den
def Aw6 (ts:List AT) (e1 e2:Entry):Entry where
 pre:=fun args=>match M3 ts args with
  | some _=>e1.pre args
  | none=>e2.pre args
 out:=fun args=>match M3 ts args with
  | some _=>e1.out args
  | none=>e2.out args
theorem A4.alt {P:Program} {g:FuncId} {ts:List AT} {e1 e2:Entry} (h1:A4 P g e1) (h2:A4 P g e2):A4 P g (Aw6 ts e1 e2):=by
 refine ⟨fun args ha=>?_,h1.call⟩
 simp only [Aw6] at ha ⊢
 cases hd:M3 ts args with
 | none=>rw [hd] at ha; exact h2.meets args ha
 | some x=>rw [hd] at ha; exact h1.meets args ha
theorem A4.Aok {P:Program} {g:FuncId} {ts:List AT} {pre pre':List Atom→Bool} {out out':List Atom→DV} (h:A4 P g (entry ts pre out)) (drops:List Nat)
 (hw:∀ ats,pre' ats=true→pre ats=true∧Wk drops (out ats) (out' ats)):A4 P g (entry ts pre' out'):=by
 refine ⟨fun args ha=>?_,h.call⟩
 simp only [entry] at ha ⊢
 cases hd:M3 ts args with
 | none=>rw [hd] at ha; cases ha
 | some x =>
   rw [hd] at ha
   have:=h.meets args (by simp only [entry,hd]; exact (hw x ha).1)
   simp only [entry,hd] at this
   exact this.Aok (hw x ha).2
end Go.Den
namespace Go.Den
def Aru (K:List (List DV)→List DV→Prop):List DV→Prop
 | .recs .arg _ rows::ds=>K rows ds
 | _=>True
def L9:Nat→List AT→(List Atom→List DV→Prop)→Prop
 | 0,_,_=>False
 | _+1,[],K=>K [] []
 | n+1,.b::ts,K=>∀ x:Bool,L9 n ts fun as ds=>K (.b x::as) (.bool x::ds)
 | n+1,.i k::ts,K=>∀ x:Int,L9 n ts fun as ds=>K (.i x::as) (.int k x::ds)
 | n+1,.s k::ts,K=>∀ x:List Int,L9 n ts fun as ds=>K (.l x::as) (.ints .arg k x::ds)
 | n+1,.fl::ts,K=>∀ x:Nat,L9 n ts fun as ds=>K (.f x::as) (.fl x::ds)
 | n+1,.nb::ts,K=>∀ x:Nat,L9 n ts fun as ds=>K (.f x::as) (.nb x::ds)
 | n+1,.st l::ts,K=>L9 n l fun as cs=>L9 n ts fun bs ds=>K (as++bs) (.agg cs::ds)
 | n+1,.fn g l::ts,K=>L9 n l fun as cs=>L9 n ts fun bs ds=>K (as++bs) (.fn g [] cs::ds)
 | n+1,.fm g l::ts,K=>L9 n l fun as cs=>L9 n ts fun bs ds=>K (as++bs) (.fn g cs []::ds)
 | n+1,.cp l::ts,K=>L9 n l fun as cs=>L9 n ts fun bs ds=>K (as++bs) (.cellp cs::ds)
 | n+1,.rs sz []::ts,K=>L9 n ts fun as ds=>K as (.recs .arg sz []::ds)
 | n+1,.rs sz (l::ls)::ts,K=>L9 n l fun as cs=>L9 n (.rs sz ls::ts) fun bs ds=>Aru (fun rows ds=>K (as++bs) (.recs .arg sz (cs::rows)::ds)) ds
theorem L9.go:∀ (n:Nat) {ts:List AT} {as:List Atom} {ds:List DV} {K:List Atom→List DV→Prop},L9 n ts K→Gf ts as ds→K as ds:=by
 intro n
 induction n with
 | zero=>intro ts as ds K h _; exact h.elim
 | succ n ih =>
   intro ts as ds K h e
   cases e with
   | nil=>exact h
   | b x e=>exact ih (K:=fun as ds=>K (.b x::as) (.bool x::ds)) (h x) e
   | i k x e=>exact ih (K:=fun as ds=>K (.i x::as) (.int k x::ds)) (h x) e
   | s k x e=>exact ih (K:=fun as ds=>K (.l x::as) (.ints .arg k x::ds)) (h x) e
   | fl x e=>exact ih (K:=fun as ds=>K (.f x::as) (.fl x::ds)) (h x) e
   | nb x e=>exact ih (K:=fun as ds=>K (.f x::as) (.nb x::ds)) (h x) e
   | @st _ _ a c _ _ e1 e2=>exact ih (K:=fun bs ds=>K (a++bs) (.agg c::ds)) (ih (K:=fun as cs=>L9 n _ fun bs ds=>K (as++bs) (.agg cs::ds)) h e1) e2
   | @fn g _ _ a c _ _ e1 e2=>exact ih (K:=fun bs ds=>K (a++bs) (.fn g [] c::ds)) (ih (K:=fun as cs=>L9 n _ fun bs ds=>K (as++bs) (.fn g [] cs::ds)) h e1) e2
   | @fm g _ _ a c _ _ e1 e2=>exact ih (K:=fun bs ds=>K (a++bs) (.fn g c []::ds)) (ih (K:=fun as cs=>L9 n _ fun bs ds=>K (as++bs) (.fn g cs []::ds)) h e1) e2
   | @cp _ _ a c _ _ e1 e2=>exact ih (K:=fun bs ds=>K (a++bs) (.cellp c::ds)) (ih (K:=fun as cs=>L9 n _ fun bs ds=>K (as++bs) (.cellp cs::ds)) h e1) e2
   | rs0 e=>exact ih (K:=fun as ds=>K as (.recs .arg _ []::ds)) h e
   | @rs1 sz _ _ _ a c _ _ _ e1 e2 =>
     have:=ih (K:=fun bs ds=>Aru (fun rows ds=>K (a++bs) (.recs .arg sz (c::rows)::ds)) ds) (ih (K:=fun as cs=>L9 n _ fun bs ds=>Aru (fun rows ds=>K (as++bs) (.recs .arg sz (cs::rows)::ds)) ds) h e1) e2
     exact this
abbrev Asi (E:Env) (fn:Func) (ds:List DV) (out:DV):Prop:=∃ N dv drops,Bw E N fn (An fn) ds=some dv∧Wk drops dv out
abbrev Hyp (E:Env) (fn:Func) (ts:List AT) (pre:List Atom→Bool) (out:List Atom→DV):Prop:=L9 40 ts fun as ds=>pre as=true→Asi E fn ds (out as)
theorem Al {P:Program} {E:Env} (he:Kt P E) {f:FuncId} {fn:Func} (hf:P.funcs[f]?=some fn) (hb:fn.body=some (An fn)) (hn:(fn.name== "runtime.NumGoroutine")=false) {ts:List AT} {pre:List Atom→Bool} {out:List Atom→DV}
 (h:L9 40 ts fun as ds=>pre as=true→Asi E fn ds (out as)):A4 P f (entry ts pre out) :=
 ⟨Xh he hf hb fun _ _ e hp=>L9.go 40 h e hp,T5 hf hn hb⟩
end Go.Den
namespace Go.Den
theorem Am {x:Int} (h1:-9223372036854775808≤x) (h2:x≤9223372036854775807):Ab x=x:=Go.IntWalk.i64_in x ⟨h1,h2⟩
theorem O2 (x:Int):Bl x=x%18446744073709551616:=by unfold Bl IntKind.wrap; simp [IntKind.bits,IntKind.signed]
theorem Aol (x:Int):J9 x=x%4294967296:=by unfold J9 IntKind.wrap; simp [IntKind.bits,IntKind.signed]
theorem Dp {x:Int} (h1:0≤x) (h2:x<18446744073709551616):Bl x=x:=by rw [O2]; omega
theorem Lm {x:Int} (h1:0≤x) (h2:x<4294967296):J9 x=x:=by rw [Aol]; omega
theorem Auz (k:IntKind) (x y:Int):Dm k x y=x / 2^(min y.toNat k.bits):=by
 unfold Dm
 exact Int.fdiv_eq_ediv_of_nonneg _ (Int.le_of_lt (Int.pow_pos (by decide)))
theorem Ii (k:IntKind) (n s:Nat) (h:s≤k.bits):Dm k n s=((n / 2^s:Nat):Int):=by
 rw [Auz,A1j,Nat.min_eq_left h]
 push_cast
 rfl
theorem Fu (n s:Nat) (h:s≤64):B4 .u64 n s=((n*2^s%2^64:Nat):Int):=by
 unfold B4
 rw [A1j,show IntKind.u64.bits=64 from rfl,Nat.min_eq_left h]
 show Bl _=_
 rw [O2]
 show _=((n*2^s%18446744073709551616:Nat):Int)
 rw [Int.natCast_emod,A12,Int.natCast_pow]
 rfl
theorem Jb (b n:Nat):(BitVec.ofInt b n).toNat=n%2^b:=by
 rw [BitVec.toNat_ofInt]
 rw [show ((n:Int)%(2^b:Nat))=((n%2^b:Nat):Int) by push_cast; rfl,A1j]
theorem Ue {n:Nat} (h:n<2^64):IntKind.u64.wrap n=n:=by
 show Bl _=_
 rw [O2]
 omega
theorem Ahr {a b:Nat} (ha:a<2^64) (hb:b<2^64):E1 .u64 a b=((a &&& b:Nat):Int):=by
 unfold E1
 rw [BitVec.toNat_and,Jb,Jb,show IntKind.u64.bits=64 from rfl,A1u ha,A1u hb]
 exact Ue (A2j Nat.and_le_left ha)
theorem Vs {a b:Nat} (ha:a<2^64) (hb:b<2^64):Is .u64 a b=((a ||| b:Nat):Int):=by
 unfold Is
 rw [BitVec.toNat_or,Jb,Jb,show IntKind.u64.bits=64 from rfl,A1u ha,A1u hb]
 exact Ue (Nat.or_lt_two_pow ha hb)
theorem Ar6 {a b:Nat} (ha:a<2^64) (hb:b<2^64):Auy .u64 a b=((a ^^^ b:Nat):Int):=by
 unfold Auy
 rw [BitVec.toNat_xor,Jb,Jb,show IntKind.u64.bits=64 from rfl,A1u ha,A1u hb]
 exact Ue (Nat.xor_lt_two_pow ha hb)
theorem Jf {a:Nat} (k:Nat) (ha:a<2^64) (hk:k≤64):E1 .u64 a ((2^k-1:Nat):Int)=((a%2^k:Nat):Int):=by
 rw [Ahr ha (by have:=A1w (n:=2) (by decide) hk; have:=Nat.pow_pos (a:=2) (n:=k) (by decide); omega),Nat.and_two_pow_sub_one_eq_mod]
theorem Np {a b k:Nat} (hb:b<2^k):b ||| (a*2^k)=a*2^k+b:=by
 rw [Nat.or_comm,A15,Nat.two_pow_add_eq_or_of_lt hb]
theorem Aoc {a b k:Nat} (hb:b<2^k) (h:a*2^k+b<2^64):Is .u64 b ((a*2^k:Nat):Int)=((a*2^k+b:Nat):Int):=by
 rw [Vs (by omega) (by omega),Np hb]
theorem Nx {a b k:Nat} (hb:b<2^k) (h:a*2^k+b<2^64):Is .u64 ((a*2^k:Nat):Int) b=((a*2^k+b:Nat):Int):=by
 rw [Vs (by omega) (by omega),Nat.or_comm,Np hb]
theorem Yl {r:Nat} (hr:r<2^63):(2^63+r) ^^^ 2^63=r∧r ^^^ 2^63=2^63+r:=by
 have e2:=Nat.two_pow_add_eq_or_of_lt hr 1
 rw [A2q] at e2
 have a1:r ^^^ 2^63=2^63+r:=by
  rw [e2]
  apply Nat.eq_of_testBit_eq
  intro i
  rw [Nat.testBit_xor,Nat.testBit_or,Nat.testBit_two_pow]
  by_cases hi:63=i
  ·subst hi
   rw [Nat.testBit_lt_two_pow hr]; simp
  ·simp [hi]
 refine ⟨?_,a1⟩
 rw [← a1,Nat.xor_assoc,Nat.xor_self,Nat.xor_zero]
theorem Asl {a:Nat} (ha:a<2^64):a ^^^ 2^63=if 2^63≤a then a-2^63 else a+2^63:=by
 by_cases h:2^63≤a
 ·rw [A14 h]
  obtain ⟨r,rfl⟩:∃ r,a=2^63+r:=⟨a-2^63,by omega⟩
  rw [(Yl (by omega)).1]; omega
 ·rw [A13 h,(Yl (by omega)).2]; omega
def Af (x:Int):Bool:=Cz (0≤x∧x<18446744073709551616)
theorem Bm {x:Int} (h:Af x=true):∃ n:Nat,x=n∧n<2^64:=by
 unfold Af at h
 rw [Ar] at h
 exact ⟨x.toNat,by omega,by omega⟩
theorem B5 {n:Nat} (h:n<2^64):Af n=true:=by
 unfold Af
 rw [Ar]
 omega
inductive WkL (drops:List Nat):List DV→List DV→Prop
 | nil:WkL drops [] []
 | cons {d d' l l'}:Wk drops d d'→WkL drops l l'→WkL drops (d::l) (d'::l')
theorem WkL.length {drops:List Nat} {l l':List DV} (h:WkL drops l l'):l.length=l'.length:=by
 induction h with
 | nil=>rfl
 | cons _ _ ih=>simp [ih]
theorem WkL.get {drops:List Nat} {l l':List DV} (h:WkL drops l l'):∀ (j:Nat) d d',l[j]?=some d→l'[j]?=some d'→Wk drops d d':=by
 induction h with
 | nil=>intro j d d' h; cases h
 | cons h1 _ ih =>
   intro j d d' h2 h3
   cases j with
   | zero=>cases h2; cases h3; exact h1
   | succ j=>exact ih j d d' h2 h3
theorem Wk.Hk {drops:List Nat} {l l':List DV} (h:WkL drops l l'):Wk drops (.agg l) (.agg l'):=.agg h.length h.get
theorem Wk.Ha {drops:List Nat} {l l':List DV} (h:WkL drops l l'):Wk drops (.tup l) (.tup l'):=.tup h.length h.get
theorem Wk.bool {drops:List Nat} {b:Bool}:Wk drops (.bool b) (.bool b):=.refl rfl (by intros; simp) (by intros; simp)
theorem Wk.int {drops:List Nat} {k:IntKind} {x:Int}:Wk drops (.int k x) (.int k x):=.refl rfl (by intros; simp) (by intros; simp)
theorem Wk.fl {drops:List Nat} {x:Nat}:Wk drops (.fl x) (.fl x):=.refl rfl (by intros; simp) (by intros; simp)
theorem Wk.nb {drops:List Nat} {x:Nat}:Wk drops (.nb x) (.nb x):=.refl rfl (by intros; simp) (by intros; simp)
theorem Wk.X0 {drops:List Nat} {k:IntKind} {l:List Int}:Wk drops (.ints .arg k l) (.ints .arg k l):=.refl rfl (by intros; simp) (by intros; simp)
theorem Wk.Ov {drops:List Nat} {k:IntKind} {l:List Int}:Wk drops (.ints .fresh k l) (.ints .fresh k l):=.refl rfl (by intros; simp) (by intros; simp)
theorem Gf.Aea {as:List Atom} {ds:List DV} (h:Gf [] as ds):as=[]∧ds=[]:=by cases h; exact ⟨rfl,rfl⟩
theorem Gf.Ay9 {ts:List AT} {as:List Atom} {ds:List DV} (h:Gf (.b::ts) as ds):∃ x as' ds',as=.b x::as'∧ds=.bool x::ds'∧Gf ts as' ds':=by
 cases h with | b x h=>exact ⟨x,_,_,rfl,rfl,h⟩
theorem Gf.Aq8 {k:IntKind} {ts:List AT} {as:List Atom} {ds:List DV} (h:Gf (.i k::ts) as ds):∃ x as' ds',as=.i x::as'∧ds=.int k x::ds'∧Gf ts as' ds':=by
 cases h with | i k x h=>exact ⟨x,_,_,rfl,rfl,h⟩
theorem Gf.Awm {ts:List AT} {as:List Atom} {ds:List DV} (h:Gf (.nb::ts) as ds):∃ x as' ds',as=.f x::as'∧ds=.nb x::ds'∧Gf ts as' ds':=by
 cases h with | nb x h=>exact ⟨x,_,_,rfl,rfl,h⟩
end Go.Den
namespace Go.Rnd
def Nm (V k:Nat):Nat:=V / 2^k+(if 2^k<2*(V%2^k)∨(2*(V%2^k)=2^k∧V / 2^k%2=1) then 1 else 0)
def Ke (V:Nat) (s:Int):Nat:=Nm (V*2^(-s).toNat) s.toNat
def Nd (V:Nat) (s:Int):Bool:=decide (V*2^(-s).toNat%2^s.toNat=0)
def Cj (M:Nat) (E:Int):Int:=max (E+M.log2-52) (-1074)
def kept (M:Nat) (E:Int):Nat:=Ke M (Cj M E-E)
def Dz:Nat:=2047*2^52
def Ca (M:Nat) (E:Int):Nat:=if M=0 then 0 else min ((Cj M E+1074).toNat*2^52+kept M E) Dz
def exact (M:Nat) (E:Int):Bool:=Nd M (Cj M E-E)
def flags (r:Nat) (ex:Bool):Nat:=if r=Dz then 5 else if ex then 0 else if 2^52≤r then 1 else 3
def flagsOf (M:Nat) (E:Int):Nat:=if M=0 then 0 else flags (Ca M E) (exact M E)
theorem Cg (k:Nat):0<2^k:=Nat.pow_pos (by decide)
theorem O6 (V:Nat):Nm V 0=V:=by
 unfold Nm; simp [Nat.mod_one]
theorem Uw (V a k:Nat):Nm (V*2^a) (a+k)=Nm V k:=by
 unfold Nm
 have hA:=Cg a
 have e:2^(a+k)=2^a*2^k:=A16 2 a k
 have hd:V*2^a / 2^(a+k)=V / 2^k:=by
  rw [e,A15 V,Nat.mul_div_mul_left _ _ hA]
 have hm:V*2^a%2^(a+k)=2^a*(V%2^k):=by
  rw [e,A15 V,Nat.mul_mod_mul_left]
 rw [hd,hm,e]
 have h1:(2^a*2^k<2*(2^a*(V%2^k)))↔(2^k<2*(V%2^k)):=by
  rw [Nat.mul_left_comm 2]
  exact Nat.mul_lt_mul_left hA
 have h2:(2*(2^a*(V%2^k))=2^a*2^k)↔(2*(V%2^k)=2^k):=by
  rw [Nat.mul_left_comm 2]
  exact Nat.mul_right_inj (by omega)
 simp only [h1,h2]
theorem mod_mul (V a k:Nat):(V*2^a%2^(a+k)=0)↔(V%2^k=0):=by
 have hA:=Cg a
 rw [A16,A15 V,Nat.mul_mod_mul_left]
 constructor
 ·intro h
  rcases Nat.mul_eq_zero.1 h with h | h
  ·omega
  ·exact h
 ·intro h; rw [h]; rfl
theorem Xe (V k:Nat) (s:Int):Ke (V*2^k) (s+k)=Ke V s∧Nd (V*2^k) (s+k)=Nd V s:=by
 unfold Ke Nd
 by_cases h0:0≤s
 ·have e1:(-(s+k)).toNat=0:=by omega
  have e2:(-s).toNat=0:=by omega
  have e3:(s+k).toNat=k+s.toNat:=by omega
  rw [e1,e2,e3,A2f,A2q,A2q]
  exact ⟨Uw V k _,by simp only [mod_mul]⟩
 ·by_cases h1:0≤s+k
  ·have e1:(-(s+k)).toNat=0:=by omega
   have e2:s.toNat=0:=by omega
   have e3:k=(s+k).toNat+(-s).toNat:=by omega
   rw [e1,e2,A2f,A2q]
   have e4:V*2^k=V*2^(-s).toNat*2^(s+k).toNat:=by
    rw [A18,← A16,Nat.add_comm (-s).toNat,← e3]
   rw [e4]
   refine ⟨?_,?_⟩
   ·have:=Uw (V*2^(-s).toNat) (s+k).toNat 0
    rw [A2p] at this; exact this
   ·have:=mod_mul (V*2^(-s).toNat) (s+k).toNat 0
    rw [A2p,A2f] at this
    simp only [this]
  ·have e1:(s+k).toNat=0:=by omega
   have e2:s.toNat=0:=by omega
   have e3:(-s).toNat=k+(-(s+k)).toNat:=by omega
   rw [e1,e2,e3,A16,A18]
   exact ⟨rfl,rfl⟩
theorem Lw (M k:Nat) (hM:M≠0):(M*2^k).log2=M.log2+k:=by
 have hk:=Cg k
 have hne:M*2^k≠0:=by
  intro h
  rcases Nat.mul_eq_zero.1 h with h | h<;>omega
 have h1:=Nat.log2_self_le hM
 have h2:=Nat.lt_log2_self (n:=M)
 have a:M.log2+k≤(M*2^k).log2:=by
  rw [Nat.le_log2 hne,A16]
  exact A1t _ h1
 have b:(M*2^k).log2<M.log2+k+1:=by
  rw [A2x hne,Nat.add_right_comm,A16]
  exact (Nat.mul_lt_mul_right hk).2 h2
 omega
theorem Vf {n a:Nat} (h1:2^a≤n) (h2:n<2^(a+1)):n.log2=a:=by
 have:=Cg a
 have hn:n≠0:=by omega
 have b1:=(Nat.le_log2 hn).2 h1
 have b2:=(A2x hn).2 h2
 omega
theorem Aje (M k:Nat) (E:Int) (hM:M≠0):Cj (M*2^k) (E-k)=Cj M E:=by
 unfold Cj; rw [Lw M k hM]; congr 1; omega
theorem Hy {M k:Nat} (hM:M≠0):M*2^k≠0:=by
 have:=Cg k
 intro h
 rcases Nat.mul_eq_zero.1 h with h | h<;>omega
theorem Du (M k:Nat) (E:Int):Ca (M*2^k) (E-k)=Ca M E∧flagsOf (M*2^k) (E-k)=flagsOf M E:=by
 by_cases hM:M=0
 ·subst hM; simp [Ca,flagsOf]
 ·have hl:=Aje M k E hM
  have e:Cj M E-(E-k)=Cj M E-E+k:=by omega
  have h1:Ca (M*2^k) (E-k)=Ca M E:=by
   unfold Ca kept
   rw [A13 (Hy hM),A13 hM,hl,e,(Xe M k _).1]
  refine ⟨h1,?_⟩
  unfold flagsOf
  rw [A13 (Hy hM),A13 hM,h1]
  unfold exact
  rw [hl,e,(Xe M k _).2]
theorem Apm {V s d k:Nat} (hs:s%2=1) (h1:(s-1)*2^d<V) (h2:V<(s+1)*2^d) (hk:2≤k) :
 Nm V (d+k)=Nm s k∧V%2^(d+k)≠0∧s%2^k≠0:=by
 have hA:=Cg d
 obtain ⟨j,rfl⟩:∃ j,k=j+2:=⟨k-2,by omega⟩
 have hB:2^(j+2)=4*2^j:=by rw [A16]; omega
 have hBp:=Cg (j+2)
 have hC:=Cg j
 have hsd:=Nat.div_add_mod s (2^(j+2))
 have hr2:s%2^(j+2)%2=1:=by
  rw [hB,show 4*2^j=2*(2*2^j) by omega,Nat.mod_mul_right_mod]; exact hs
 have hrlt:=Nat.mod_lt s hBp
 generalize hq:s / 2^(j+2)=q at *
 generalize hr:s%2^(j+2)=r at *
 have hAB:2^(d+(j+2))=2^d*2^(j+2):=A16 2 d (j+2)
 generalize hBB:2^(j+2)=b at *
 generalize hAA:2^d=a at *
 have e1:(s-1)*a=q*(a*b)+(r-1)*a:=by
  have:s-1=b*q+(r-1):=by omega
  rw [this,A2l,A15 b q,A18,A15 b a]
 have e2:(s+1)*a=q*(a*b)+(r+1)*a:=by
  have:s+1=b*q+(r+1):=by omega
  rw [this,A2l,A15 b q,A18,A15 b a]
 have e3:(r+1)*a≤b*a:=A1t a (by omega)
 rw [A15 b a] at e3
 rw [e1] at h1
 rw [e2] at h2
 have hdiv:V / (a*b)=q:=Nat.div_eq_of_lt_le (by omega) (by rw [A2l]; omega)
 have hmod:V%(a*b)=V-q*(a*b):=by
  have:=Nat.div_add_mod V (a*b)
  rw [hdiv,A15 (a*b) q] at this; omega
 have hb2:b=2*(2*2^j):=by omega
 generalize hc:2^j=c at *
 have hR1:(r-1)*a<V-q*(a*b):=by omega
 have hR2:V-q*(a*b)<(r+1)*a:=by omega
 generalize hR:V-q*(a*b)=R at *
 have hab:a*b=2*(2*c*a):=by rw [hb2,A15 a,A18]
 have key:(a*b<2*R∨(2*R=a*b∧q%2=1))↔(b<2*r∨(2*r=b∧q%2=1)):=by
  rw [hab,hb2]
  rcases A2e r (2*c) with hlt | hge
  ·have:(r+1)*a≤2*c*a:=A1t a (by omega)
   constructor<;>(intro h; omega)
  ·have hgt:2*c+1≤r:=by omega
   have:2*c*a≤(r-1)*a:=A1t a (by omega)
   constructor
   ·intro _; left; omega
   ·intro _; left; omega
 refine ⟨?_,?_,?_⟩
 ·unfold Nm
  rw [hAB,hdiv,hmod,hBB,hq,hr]
  simp only [key]
 ·rw [hAB,hmod]
  have:=Nat.zero_le ((r-1)*a)
  omega
 ·omega
theorem Q2 {V s d:Nat} {E:Int} (hs:s%2=1) (h1:(s-1)*2^d<V) (h2:V<(s+1)*2^d) (hl:Cj V E=Cj s (E+d)) (hk:E+d+2≤Cj s (E+d)) :
 Ca V E=Ca s (E+d)∧flagsOf V E=flagsOf s (E+d):=by
 have hV:V≠0:=by omega
 have hs0:s≠0:=by omega
 generalize hL:Cj s (E+d)=L at *
 obtain ⟨k,hk2⟩:∃ k:Nat,L-(E+d)=k+2:=⟨(L-(E+d)-2).toNat,by omega⟩
 obtain ⟨a1,a2,a3⟩:=Apm (k:=k+2) hs h1 h2 (by omega)
 have e1:(L-E).toNat=d+(k+2):=by omega
 have e2:(-(L-E)).toNat=0:=by omega
 have e3:(L-(E+d)).toNat=k+2:=by omega
 have e4:(-(L-(E+d))).toNat=0:=by omega
 have hr:Ca V E=Ca s (E+d):=by
  unfold Ca kept Ke
  rw [A13 hV,A13 hs0,hl,hL,e1,e2,e3,e4]
  simp only [A2f,A2q]
  rw [a1]
 refine ⟨hr,?_⟩
 unfold flagsOf exact Nd
 rw [A13 hV,A13 hs0,hr,hl,hL,e1,e2,e3,e4]
 simp only [A2f,A2q,a2,a3,decide_false]
theorem Q9 {V s d:Nat} (hs:s%2=1) (hs3:3≤s) (h1:(s-1)*2^d<V) (h2:V<(s+1)*2^d):V.log2=s.log2+d:=by
 have hs0:s≠0:=by omega
 have a1:=Nat.log2_self_le hs0
 have a2:=Nat.lt_log2_self (n:=s)
 have hl:1≤s.log2:=by rw [Nat.le_log2 hs0]; omega
 obtain ⟨t,ht⟩:∃ t,s.log2=t+1:=⟨s.log2-1,by omega⟩
 rw [ht] at a1 a2 ⊢
 have ev1:2^(t+1)=2*2^t:=by rw [Nat.pow_succ]; omega
 have ev2:2^(t+1+1)=2*(2*2^t):=by rw [Nat.pow_succ,ev1]; omega
 refine Vf ?_ ?_
 ·rw [A16]
  have:2^(t+1)*2^d≤(s-1)*2^d:=A1t _ (by omega)
  omega
 ·have e:t+1+d+1=(t+1+1)+d:=by omega
  rw [e,A16]
  have:(s+1)*2^d≤2^(t+1+1)*2^d:=A1t _ (by omega)
  omega
end Go.Rnd
namespace Go.Rnd
def Bk (b:Nat):Bool:=decide (2^63≤b)
def Db (b:Nat):Nat:=b / 2^52%2048
def Cm (b:Nat):Nat:=b%2^52
def Ah (b:Nat):Nat:=if Db b=2047 then (if Cm b=0 then 3 else 4) else if 0<Db b then 2 else if 0<Cm b then 1 else 0
def Ig (b:Nat):Bool:=decide (Db b<2047)
def Gb (b:Nat):Nat:=if 2^63≤b then b-2^63 else b+2^63
def As (b:Nat):Nat:=if Db b=0 then Cm b else Cm b+2^52
def Ay (b:Nat):Int:=if Db b=0 then -1074 else (Db b:Int)-1075
def Bc (neg:Bool) (r:Nat):Nat:=if neg then 2^63+r else r
def H9 (neg:Bool) (m:Nat):Int:=if neg then -(m:Int) else m
def Fs (b:Nat) (e:Int):Int:=H9 (Bk b) (As b*2^(Ay b-e).toNat)
def Le:Nat:=0x7ff8000000000000
def Kd (z:Nat) (S:Int) (e:Int):Nat × Nat :=
 if S=0 then (z,0) else (Bc (decide (S<0)) (Ca S.natAbs e),flagsOf S.natAbs e)
def Gd (a b:Nat):Nat × Nat :=
 if Ah a=4∨Ah b=4 then (Le,0)
 else if Ah a=3 then (if Ah b=3∧a≠b then (Le,16) else (a,0))
 else if Ah b=3 then (b,0)
 else Kd (Bc (Bk a&&Bk b) 0) (Fs a (min (Ay a) (Ay b))+Fs b (min (Ay a) (Ay b))) (min (Ay a) (Ay b))
def As6 (a b:Nat):Nat × Nat:=Gd a (Gb b)
def Gr (neg:Bool) (m:Nat) (e:Int) (more:Bool):Nat × Nat :=
 (Bc neg (Ca (4*m+more.toNat) (e-2)),flagsOf (4*m+more.toNat) (e-2))
def D0 (x:Int):Bool:=Bk x.toNat
def Mb (x:Int):Int:=Db x.toNat
def C3 (x:Int):Int:=Cm x.toNat
def A5 (x:Int):Int:=Ah x.toNat
def Ck (x:Int):Bool:=Ig x.toNat
def Cr (x:Int):Int:=Gb x.toNat
def Bx (x:Int):Int:=As x.toNat
def Bi (x:Int):Int:=Ay x.toNat
def E9 (neg:Bool) (m e:Int) (more:Bool):Int:=(Gr neg m.toNat e more).1
def E8 (neg:Bool) (m e:Int) (more:Bool):Int:=(Gr neg m.toNat e more).2
def Fg (a b:Int):Int:=(Gd a.toNat b.toNat).1
def Xs (a b:Int):Int:=(Gd a.toNat b.toNat).2
def Ec (a b:Int):Int:=(As6 a.toNat b.toNat).1
def Ayu (a b:Int):Int:=(As6 a.toNat b.toNat).2
theorem I9 (b:Nat):Db b<2048:=Nat.mod_lt _ (by decide)
theorem Kh (b:Nat):Cm b<4503599627370496:=Nat.mod_lt _ (by decide)
theorem Ff (b:Nat):As b<9007199254740992:=by
 have:=Kh b
 unfold As; split<;>omega
theorem D6 (b:Nat):-1074≤Ay b∧Ay b≤972:=by
 have:=I9 b
 unfold Ay; split<;>omega
theorem M8 {m:Nat} {e:Int} (h1:2^52≤m) (h2:m<2^53) (he:-1074≤e):Ca m e=min ((e+1074).toNat*2^52+m) Dz:=by
 have hl:m.log2=52:=Vf h1 h2
 have hm:m≠0:=by omega
 have hle:Cj m e=e:=by unfold Cj; rw [hl]; omega
 unfold Ca kept
 rw [A13 hm,hle,Int.sub_self]
 unfold Ke
 simp [O6]
theorem Y3 {m:Nat} (h2:m<2^52):Ca m (-1074)=m:=by
 by_cases hm:m=0
 ·subst hm; rfl
 ·have hl:m.log2<52:=(A2x hm).2 h2
  have hle:Cj m (-1074)=-1074:=by unfold Cj; omega
  unfold Ca kept
  rw [A13 hm,hle,Int.sub_self]
  unfold Ke Dz
  simp [O6]
  omega
theorem Jq (m:Nat) (e:Int):Ca m e≤Dz:=by
 unfold Ca
 split
 ·exact Nat.zero_le _
 ·exact Nat.min_le_right _ _
theorem Fb:Dz=9218868437227405312:=rfl
theorem Ps (m:Nat) (e:Int):Ca m e<2^63:=by
 have:=Jq m e
 rw [Fb] at this
 omega
theorem Ul (n:Bool) (m:Nat) (e:Int):Bc n (Ca m e)<2^64:=by
 have:=Ps m e
 unfold Bc; split<;>omega
theorem Zv {r:Nat} (h:r<2^63):Gb r=2^63+r:=by
 unfold Gb; rw [A13 (by omega)]; omega
end Go.Rnd
namespace Go.Rnd
open Go.Den
def Lh (m e:Int):Bool:=Cz (0≤m∧m≤9007199254740992∧-1074≤e∧e+m / 9007199254740992≤100000)
def Pz (m e:Int):Nat:=if 9007199254740992≤m then 1 else if m<4503599627370496 then 2+(e+1074).toNat else 0
def Uz (n:Bool) (m e:Int):Int:=Bc n (Ca m.toNat e)
def El (m e:Int) (r:Bool):Bool :=
 Cz (0≤m∧m<18446744073709551616∧e≤50000∧(-1137≤e∨(m<4611686018427387904∧-1140≤e))∧(r=true→4503599627370496≤m∨e≤-1074))
def F9 (n D:Nat):Nat:=if n%2^D=0 then n / 2^D else 2*(n / 2^D / 2)+1
def Fh (m d:Int):Int:=F9 m.toNat (min d.toNat 63)
def Cp (l:List Int):Bool:=Cz (l.length<4611686018427387904∧∀ x∈l,Af x=true)
def D3 (x:Nat):Nat:=if Ah x=4 then Le else x
def Aav (x:Int):Int:=D3 x.toNat
def Gc (x:Nat):Int:=D3 x
def K4 (x:Int):Bool:=Cz (0≤x)
theorem I1 (n:Nat):K4 (n:Int)=true:=Ar.2 (Int.natCast_nonneg n)
theorem U8 {x:Int} (h:K4 x=true):∃ n:Nat,x=n:=⟨x.toNat,by have:=Ar.1 h; omega⟩
end Go.Rnd
namespace Go.Rnd
theorem Ayx (a c:Nat):(a+1)*c+c=a*c+(c+c):=by rw [A2l,Nat.one_mul,Nat.add_assoc]
theorem Ax2:2^52+2^52=2^53:=by decide
theorem Ayw (a:Nat):(a+1)*2^52+2^52=a*2^52+2^53:=(Ayx a (2^52)).trans (congrArg (fun x=>a*2^52+x) Ax2)
theorem Avt:2^52*2^1=2^53:=by decide
theorem Atb {E:Int}:Ca (2^53) E=Ca (2^52) (E+1):=by
 have:=(Du (2^52) 1 (E+1)).1
 have e1:E+1-((1:Nat):Int)=E:=by omega
 rw [e1,Avt] at this
 exact this
theorem Apg {E:Int} (hE:-1074≤E):Ca (2^53) E=min ((E+1074).toNat*2^52+2^53) Dz:=by
 have e3:(E+1+1074).toNat=(E+1074).toNat+1:=by omega
 rw [Atb,M8 (by decide) (by decide) (by omega),e3]
 exact congrArg (fun x=>min x Dz) (Ayw _)
theorem Amd {q:Nat} {E:Int} (h1:q≤2^53) (hE:-1074≤E) (h2:2^52≤q∨E=-1074):Ca q E=min ((E+1074).toNat*2^52+q) Dz:=by
 by_cases ha:q=2^53
 ·rw [ha]; exact Apg hE
 ·by_cases hb:2^52≤q
  ·exact M8 hb (by omega) hE
  ·obtain rfl:E=-1074:=h2.resolve_left hb
   rw [Y3 (by omega)]
   unfold Dz
   simp
   omega
theorem Amn {M D s:Nat} (hs:s≤1):Nm (4*M+s) (D+2)=M / 2^D+(if 0<D∧(2^(D-1)<M%2^D∨(M%2^D=2^(D-1)∧(s=1∨M / 2^D%2=1))) then 1 else 0) ∧
 ((4*M+s)%2^(D+2)=0↔M%2^D=0∧s=0):=by
 have hp:2^(D+2)=2^D*4:=by rw [A16]
 have hA:=Cg D
 have hdm:=Nat.div_add_mod M (2^D)
 have hlt:=Nat.mod_lt M hA
 have hdiv:(4*M+s) / (2^D*4)=M / 2^D:=by
  rw [A15 (2^D) 4,← A2a]
  congr 1; omega
 have hmod:(4*M+s)%(2^D*4)=4*(M%2^D)+s:=by
  have h:=Nat.div_add_mod (4*M+s) (2^D*4)
  rw [hdiv] at h
  have e:2^D*4*(M / 2^D)=4*(2^D*(M / 2^D)):=by rw [A15 (2^D) 4,A18]
  rw [e] at h
  omega
 unfold Nm
 rw [hp,hdiv,hmod]
 generalize M%2^D=r at *
 generalize M / 2^D=q at *
 refine ⟨?_,by omega⟩
 congr 1
 have key:(2^D*4<2*(4*r+s)∨2*(4*r+s)=2^D*4∧q%2=1)↔(0<D∧(2^(D-1)<r∨(r=2^(D-1)∧(s=1∨q%2=1)))):=by
  cases D with
  | zero=>simp only [A2f] at hlt ⊢; omega
  | succ d =>
    rw [Nat.pow_succ] at hlt ⊢
    simp only [Nat.add_sub_cancel]
    generalize 2^d=c at *
    omega
 simp only [key]
structure Drop (M:Nat) (e:Int) (D:Nat):Prop where
 le:D≤63
 stop:D<63→M / 2^D<2^53∧-1074≤e+D
 least:∀ d,d<D→2^53≤M / 2^d∨e+d < -1074
def qOf (M D s:Nat):Nat:=M / 2^D+(if 0<D∧(2^(D-1)<M%2^D∨(M%2^D=2^(D-1)∧(s=1∨M / 2^D%2=1))) then 1 else 0)
theorem Aps {M D s:Nat} (h:M / 2^D<2^53):qOf M D s≤2^53:=by
 unfold qOf; split<;>omega
theorem Apt {M D s:Nat}:M / 2^D≤qOf M D s:=by unfold qOf; omega
theorem Aw1 {M D:Nat} {c:Nat} (h:M / 2^D<c):M<c*2^D:=(Nat.div_lt_iff_lt_mul (Cg D)).1 h
theorem Aq2 {M D:Nat} {c:Nat} (h:c≤M / 2^D):c*2^D≤M:=(Nat.le_div_iff_mul_le (Cg D)).1 h
theorem Z5 {V:Nat} {E L:Int} (h:(E+V.log2-52=L∧-1074≤L)∨(E+V.log2-52≤L∧L=-1074)):Cj V E=L:=by unfold Cj; omega
theorem Ang {M s:Nat} (hs:s≤1) (hM:M≠0):(4*M+s).log2=M.log2+2:=by
 have h1:=Nat.log2_self_le hM
 have h2:=Nat.lt_log2_self (n:=M)
 refine Vf ?_ ?_
 ·rw [A16]; omega
 ·have e:2^(M.log2+2+1)=2^(M.log2+1)*4:=by rw [show M.log2+2+1=M.log2+1+2 by omega,A16]
  omega
theorem Am5 {M D s:Nat} {e:Int} (hD:Drop M e D) (hs:s≤1) (hV:4*M+s≠0) (hM:M<2^64) (he:-1137≤e∨(M<2^62∧-1140≤e)) (hr:s=1→2^52≤M∨e≤-1074) :
 Ca (4*M+s) (e-2)=Ca (if e+D < -1074 then 0 else qOf M D s) (max (e+D) (-1074)) ∧
 flagsOf (4*M+s) (e-2)=flags (Ca (4*M+s) (e-2)) (decide (M%2^D=0∧s=0)) ∧
 (if e+D < -1074 then 0 else qOf M D s)≤2^53:=by
 have hA:=Cg D
 by_cases hlow:e+D < -1074
 ·
  have hD63:D=63:=by
   rcases A2e D 63 with h | h
   ·have:=(hD.stop h).2; omega
   ·have:=hD.le; omega
  subst hD63
  have hM62:M<2^62:=by rcases he with h | h; omega; exact h.1
  have he2:-1140≤e:=by rcases he with h | h; omega; exact h.2
  have hV64:4*M+s<2^64:=by omega
  have hlog:(4*M+s).log2<64:=(A2x hV).2 hV64
  have hl:Cj (4*M+s) (e-2)=-1074:=Z5 (.inr ⟨by omega,rfl⟩)
  obtain ⟨k,hk⟩:∃ k:Nat,(-1074-(e-2)).toNat=66+k:=⟨(-1074-(e-2)).toNat-66,by omega⟩
  have e2:(-(-1074-(e-2))).toNat=0:=by omega
  have hp:2^66≤2^(66+k):=A1w (by decide) (by omega)
  have hsm:4*M+s<2^(66+k):=by omega
  have hz:Ke (4*M+s) (-1074-(e-2))=0:=by
   unfold Ke Nm
   rw [e2,hk,A2f,A2q,Nat.div_eq_of_lt hsm,A1u hsm,A13 (by omega)]
  have hru:Ca (4*M+s) (e-2)=0:=by
   unfold Ca kept
   rw [A13 hV,hl,hz]
   simp
  refine ⟨?_,?_,?_⟩
  ·rw [hru,A14 hlow]; rfl
  ·unfold flagsOf exact Nd
   rw [A13 hV,hl,e2,hk,A2f,A2q,A1u hsm]
   congr 1
   have h63:M%2^63=M:=A1u (by omega)
   rw [h63,A1x]
   simp only [A1o]
   omega
  ·rw [A14 hlow]; exact Nat.zero_le _
 ·have hmax:max (e+D) (-1074)=e+D:=by omega
  have hq:M / 2^D<2^53:=by
   rcases A2e D 63 with h | h
   ·exact (hD.stop h).1
   ·have:D=63:=by have:=hD.le; omega
    subst this
    exact A2j (Nat.div_le_of_le_mul (show M≤2^63*2 by omega)) (by decide)
  obtain ⟨c1,c2⟩:=Amn (M:=M) (D:=D) hs
  rw [A13 hlow,hmax]
  refine ⟨?_,?_,Aps hq⟩
  all_goals
   by_cases hD0:D=0∧s=0
   ·obtain ⟨rfl,rfl⟩:=hD0
    have hM0:M≠0:=by omega
    obtain ⟨s1,s2⟩:=Du M 2 e
    have e1:M*2^2=4*M+0:=by omega
    have e2:e-((2:Nat):Int)=e-2:=by omega
    rw [e1,e2] at s1 s2
    have hq0:qOf M 0 0=M:=by unfold qOf; simp
    have hle:Cj M e≤e:=by
     have:M.log2<53:=(A2x hM0).2 (by simpa using hq)
     unfold Cj; simp only [Int.natCast_zero,Int.add_zero] at hlow; omega
    first
    | (rw [s1,hq0]; simp; done)
    | (rw [s2,s1]
       unfold flagsOf exact Nd
       have z:(Cj M e-e).toNat=0:=by omega
       rw [A13 hM0,z]
       simp [Nat.mod_one])
   ·
    have hl:Cj (4*M+s) (e-2)=e+D:=by
     by_cases hM0:M=0
     ·subst hM0
      have hs1:s=1:=by omega
      subst hs1
      have hle:e+D=-1074:=by
       rcases Nat.eq_zero_or_pos D with rfl | hpos
       ·have:=hr rfl; omega
       ·have h:=hD.least (D-1) (by omega)
        simp only [Nat.zero_div] at h
        omega
      refine Z5 (.inr ⟨?_,hle⟩)
      have:(4*0+1:Nat).log2=0:=by decide
      rw [this]; omega
     ·have hlog:=Ang hs hM0
      have hub:M.log2<53+D:=by
       rw [A2x hM0,A16]; exact Aw1 hq
      have hcase:52+D≤M.log2∨e+D=-1074:=by
       rcases Nat.eq_zero_or_pos D with rfl | hpos
       ·have hs1:s=1:=by omega
        rcases hr hs1 with h | h
        ·left; rw [Nat.le_log2 hM0]; simpa using h
        ·right; simp only [Int.natCast_zero,Int.add_zero] at hlow ⊢; omega
       ·rcases hD.least (D-1) (by omega) with h | h
        ·left
         rw [Nat.le_log2 hM0]
         have:=Aq2 h
         have e1:2^(52+D)=2^53*2^(D-1):=by rw [← A16]; congr 1; omega
         rw [e1]; exact this
        ·right; omega
      refine Z5 ?_
      rw [hlog]
      rcases hcase with h | h
      ·left; omega
      ·right; omega
    have e1:(e+D-(e-2)).toNat=D+2:=by omega
    have e2:(-(e+(D:Int)-(e-2))).toNat=0:=by omega
    have hkept:kept (4*M+s) (e-2)=qOf M D s:=by
     unfold kept Ke
     rw [hl,e1,e2,A2f,A2q,c1]; rfl
    first
    | (have hbig:2^52≤qOf M D s∨e+D=-1074:=by
        rcases Nat.eq_zero_or_pos D with rfl | hpos
        ·have hs1:s=1:=by omega
         rcases hr hs1 with h | h
         ·left; exact A2o (by simpa using h) Apt
         ·right; simp only [Int.natCast_zero,Int.add_zero] at hlow ⊢; omega
        ·rcases hD.least (D-1) (by omega) with h | h
         ·left
          refine A2o ?_ Apt
          rw [Nat.le_div_iff_mul_le hA]
          have:=Aq2 h
          have e1:2^52*2^D=2^53*2^(D-1):=by rw [← A16,← A16]; congr 1; omega
          rw [e1]; exact this
         ·right; omega
       rw [Amd (Aps hq) (by omega) hbig]
       unfold Ca
       rw [A13 hV,hl,hkept]; done)
    | (unfold flagsOf exact Nd
       rw [A13 hV,hl,e1,e2,A2f,A2q]
       congr 1
       rw [A1x]
       simp only [A1o]
       exact c2)
theorem Wa (n:Bool) {r:Nat} (h:r<2^63):Db (Bc n r)=r / 2^52:=by
 unfold Db Bc; cases n
 ·simp only [Bool.false_eq_true,if_false]; omega
 ·simp only [if_true]; omega
theorem Tw (n:Bool) (r:Nat):Cm (Bc n r)=r%2^52:=by
 unfold Cm Bc; cases n
 ·rfl
 ·simp only [if_true]; omega
theorem Wo (n:Bool) {r:Nat} (h:r≤Dz):Ah (Bc n r)=if r=Dz then 3 else if 2^52≤r then 2 else if 0<r then 1 else 0:=by
 rw [Fb] at *
 unfold Ah
 rw [Wa n (by omega),Tw]
 by_cases h1:r=9218868437227405312
 ·subst h1; simp
 ·rw [A13 h1,A13 (by omega)]
  by_cases h2:2^52≤r
  ·rw [A14 h2,A14 (by omega)]
  ·rw [A13 h2,A13 (by omega)]
   by_cases h3:0<r
   ·rw [A14 h3,A14 (by omega)]
   ·rw [A13 h3,A13 (by omega)]
end Go.Rnd
namespace Go.Rnd
open Ieee
theorem Aw2 (neg:Bool) (V k:Nat):Toward.even.cut neg V k=Nm V k:=by
 unfold Toward.cut Nm
 simp only [Nat.shiftLeft_eq,Nat.one_mul]
 by_cases h:k≤V.log2+2
 ·rw [Nat.min_eq_left h]
  congr 1
  by_cases h1:2^k<2*(V%2^k)
  ·simp [h1]
  ·by_cases h2:2*(V%2^k)=2^k∧V / 2^k%2=1
   ·simp [h2.1,h2.2]
   ·simp [h1,h2]
    intro h3
    have:=Nat.mod_lt (V / 2^k) (show 0<2 by decide)
    omega
 ·rw [Nat.min_eq_right (by omega)]
  have hV:V<2^(V.log2+1):=Nat.lt_log2_self
  have e:2^(V.log2+2)=2*2^(V.log2+1):=by rw [Nat.pow_succ,A15]
  have hk:2^(V.log2+2)≤2^k:=A1w (by decide) (by omega)
  have d1:V / 2^(V.log2+2)=0:=Nat.div_eq_of_lt (by omega)
  have d2:V / 2^k=0:=Nat.div_eq_of_lt (by omega)
  have m1:V%2^(V.log2+2)=V:=A1u (by omega)
  have m2:V%2^k=V:=A1u (by omega)
  rw [d1,d2,m1,m2]
  have c1:¬ (2^(V.log2+2)<2*V):=by omega
  have c2:¬ (2^k<2*V):=by omega
  simp [c1,c2]
theorem Asm (neg:Bool) (r:Nat):Ieee.double.word neg r=Bc neg r:=rfl
theorem Aiz (neg:Bool) (M:Nat) (E:Int):Ieee.double.nearest neg M E=Bc neg (Ca M E):=by
 unfold Format.nearest Ca
 by_cases h:M=0
 ·rw [A14 h,A14 h]; rfl
 ·rw [A13 h,A13 h,Asm]
  have e1:Ieee.double.leastPlace=-1074:=by decide
  have e2:max (E+(M.log2:Int)-(Ieee.double.fractionBits:Int)) Ieee.double.leastPlace=Cj M E:=by rw [e1]; rfl
  rw [e2,e1,Aw2,Nat.shiftLeft_eq]
  unfold kept Ke
  have e3:(-(Cj M E-E)).toNat=(E-Cj M E).toNat:=by congr 1; omega
  have e4:Cj M E - -1074=Cj M E+1074:=by omega
  rw [e3,e4]
  rfl
theorem H4 (b:Nat):(Db b=2047∧Cm b=0∧Ah b=3)∨(Db b=2047∧Cm b≠0∧Ah b=4)∨(Db b<2047∧Ah b≠3∧Ah b≠4):=by
 have:=I9 b
 unfold Ah
 by_cases h1:Db b=2047
 ·by_cases h2:Cm b=0<;>simp [h1,h2]
 ·refine .inr (.inr ⟨by omega,?_⟩)
  rw [A13 h1]
  split
  ·decide
  ·split<;>decide
theorem Pr (b:Nat):b%2^63=Db b*2^52+Cm b:=by unfold Db Cm; omega
def O5 (b:Nat):Datum:=if Ah b=4 then .nan (Bk b) (Cm b) else if Ah b=3 then .infinity (Bk b) else .number (Bk b) (As b) (Ay b)
theorem I8 {b:Nat} (h:b<2^64):Ieee.double.read b=O5 b:=by
 unfold Format.read O5
 have e0:Ieee.double.signWeight=2^63:=rfl
 have e1:Ieee.double.leastPlace=-1074:=by decide
 have e2:Ieee.double.binade=2^52:=rfl
 have e3:Ieee.double.infRung=Dz:=rfl
 have hn:(b / 2^63%2==1)=Bk b:=by
  unfold Bk
  rw [A1x]
  simp only [beq_iff_eq,A1o]
  omega
 dsimp only
 rw [e0,e1,e2,e3,hn,Pr,Fb]
 have hf:Cm b<2^52:=Kh b
 rcases H4 b with ⟨h1,h2,h3⟩ | ⟨h1,h2,h3⟩ | ⟨h1,h2,h3⟩
 ·rw [A13 (by omega),A13 (by omega),A14 (by omega),A13 (by omega),A14 h3]
 ·rw [A13 (by omega),A13 (by omega),A13 (by omega),A14 h3]
  have e:Db b*2^52+Cm b-9218868437227405312=Cm b:=by omega
  rw [e]
 ·rw [A13 h3,A13 h2]
  by_cases h0:Db b=0
  ·rw [A14 (by omega)]
   unfold As Ay
   rw [A14 h0,A14 h0,h0,Nat.zero_mul,A2r]
  ·rw [A13 (by omega),A14 (by omega)]
   unfold As Ay
   rw [A13 h0,A13 h0]
   have m1:(Db b*2^52+Cm b)%2^52=Cm b:=by omega
   have m2:(Db b*2^52+Cm b) / 2^52=Db b:=by omega
   have e:(-1074:Int)+((Db b-1:Nat):Int)=(Db b:Int)-1075:=by omega
   rw [m1,m2,Nat.add_comm (2^52),e]
theorem Al1 (s:Bool):Ieee.double.write (.infinity s)=Bc s Dz:=rfl
theorem M4 (s:Bool) (m:Nat) (e:Int):Ieee.double.write (.number s m e)=Bc s (Ca m e):=Aiz s m e
theorem Ll {b:Nat} (h:b<2^64) (h3:Ah b=3):Bc (Bk b) Dz=b:=by
 rcases H4 b with ⟨h1,h2,_⟩ | ⟨_,_,h4⟩ | ⟨_,h4,_⟩
 ·have e:=Pr b
  rw [h1,h2] at e
  rw [Fb]
  unfold Bc Bk
  by_cases hb:2^63≤b
  ·simp [hb]; omega
  ·simp [hb]; omega
 ·omega
 ·omega
theorem G3 (s:Bool) {r:Nat} (h:r≤Dz):D3 (Bc s r)=Bc s r:=by
 unfold D3
 rw [A13]
 rw [Wo s h]
 split
 ·decide
 ·split
  ·decide
  ·split<;>decide
theorem R3 (s:Bool) (m up:Nat):Ieee.signed s m up=H9 s (m*2^up):=by
 unfold Ieee.signed H9
 rw [Nat.shiftLeft_eq]
theorem Hf {b:Nat} (h:Ah b=4):O5 b=.nan (Bk b) (Cm b):=A14 h
theorem Eo {b:Nat} (h:Ah b=3):O5 b=.infinity (Bk b):=by unfold O5; rw [A13 (by omega),A14 h]
theorem En {b:Nat} (h3:Ah b≠3) (h4:Ah b≠4):O5 b=.number (Bk b) (As b) (Ay b):=by unfold O5; rw [A13 h4,A13 h3]
theorem Asc {a b:Nat} (h:Ah a=4∨Ah b=4):Gd a b=(Le,0):=A14 h
theorem Ah1 {a b:Nat} (h4:¬ (Ah a=4∨Ah b=4)) (h:Ah a=3):Gd a b=(if Ah b=3∧a≠b then (Le,16) else (a,0)):=by unfold Gd; rw [A13 h4,A14 h]
theorem Ac2 {a b:Nat} (h4:¬ (Ah a=4∨Ah b=4)) (h:Ah a≠3) (h':Ah b=3):Gd a b=(b,0):=by unfold Gd; rw [A13 h4,A13 h,A14 h']
theorem Rt {a b:Nat} (h4:¬ (Ah a=4∨Ah b=4)) (h:Ah a≠3) (h':Ah b≠3) :
 Gd a b=Kd (Bc (Bk a&&Bk b) 0) (Fs a (min (Ay a) (Ay b))+Fs b (min (Ay a) (Ay b))) (min (Ay a) (Ay b)):=by
 unfold Gd; rw [A13 h4,A13 h,A13 h']
theorem As3 (s:Bool) (m:Nat) (i:Int) (t:Bool) (n:Nat) (j:Int):(Datum.number s m i).sum (Datum.number t n j) =
 some (.number (if H9 s (m*2^(i-min i j).toNat)+H9 t (n*2^(j-min i j).toNat)=0 then s&&t else H9 s (m*2^(i-min i j).toNat)+H9 t (n*2^(j-min i j).toNat)<0)
  (H9 s (m*2^(i-min i j).toNat)+H9 t (n*2^(j-min i j).toNat)).natAbs (min i j)):=by
 rw [← R3,← R3]
 rfl
theorem Afj {a b:Nat} (ha:a<2^64) (hb:b<2^64) {d:Nat} (hd:Ah d=4) :
 D3 ((((O5 a).sum (O5 b)).map Ieee.double.write).getD d)=(Gd a b).1:=by
 have cd:D3 d=Le:=A14 hd
 by_cases h4:Ah a=4∨Ah b=4
 ·rw [Asc h4]
  by_cases a4:Ah a=4
  ·rw [Hf a4]; exact cd
  ·have b4:=h4.resolve_left a4
   rw [Hf b4]
   by_cases a3:Ah a=3
   ·rw [Eo a3]; exact cd
   ·rw [En a3 a4]; exact cd
 ·have a4:Ah a≠4:=fun h=>h4 (.inl h)
  have b4:Ah b≠4:=fun h=>h4 (.inr h)
  by_cases a3:Ah a=3
  ·have wa:=Ll ha a3
   rw [Ah1 h4 a3,Eo a3]
   by_cases b3:Ah b=3
   ·have wb:=Ll hb b3
    rw [Eo b3]
    by_cases hs:Bk a=Bk b
    ·have hab:a=b:=by rw [← wa,← wb,hs]
     rw [A13 (fun h=>h.2 hab)]
     have:(Datum.infinity (Bk a)).sum (.infinity (Bk b))=some (.infinity (Bk a)):=A14 hs
     rw [this]
     show D3 (Bc (Bk a) Dz)=a
     rw [G3 _ (A2b _),wa]
    ·have hab:a≠b:=fun h=>hs (by rw [h])
     have:(Datum.infinity (Bk a)).sum (.infinity (Bk b))=none:=A13 hs
     rw [this,A14 ⟨b3,hab⟩]
     exact cd
   ·rw [En b3 b4,A13 (fun h=>b3 h.1)]
    show D3 (Bc (Bk a) Dz)=a
    rw [G3 _ (A2b _),wa]
  ·rw [En a3 a4]
   by_cases b3:Ah b=3
   ·have wb:=Ll hb b3
    rw [Ac2 h4 a3 b3,Eo b3]
    show D3 (Bc (Bk b) Dz)=b
    rw [G3 _ (A2b _),wb]
   ·rw [Rt h4 a3 b3,En b3 b4,As3]
    show D3 (Ieee.double.write (.number _ _ _))=_
    rw [M4,G3 _ (Jq _ _)]
    unfold Kd Fs
    by_cases h0:H9 (Bk a) (As a*2^(Ay a-min (Ay a) (Ay b)).toNat)+H9 (Bk b) (As b*2^(Ay b-min (Ay a) (Ay b)).toNat)=0
    ·rw [A14 h0,A14 h0,h0]
     have:Ca (Int.natAbs 0) (min (Ay a) (Ay b))=0:=A14 rfl
     rw [this]
    ·rw [A13 h0,A13 h0]
theorem Asa {a b:Nat} (ha:a<2^64) (hb:b<2^64) {d:Nat} (hd:Ah d=4):D3 ((Ieee.double.add a b).getD d)=(Gd a b).1:=by
 unfold Format.add
 rw [I8 ha,I8 hb]
 exact Afj ha hb hd
theorem Agh {b:Nat} (h:b<2^64):Bk (Gb b)=!(Bk b)∧Db (Gb b)=Db b∧Cm (Gb b)=Cm b:=by
 unfold Bk Db Cm Gb
 by_cases hb:2^63≤b
 ·rw [A14 hb]
  refine ⟨?_,by omega,by omega⟩
  have:¬ 2^63≤b-2^63:=by omega
  simp [hb,this]
 ·rw [A13 hb]
  refine ⟨?_,by omega,by omega⟩
  have:2^63≤b+2^63:=by omega
  simp [hb,this]
theorem Ai5 {b:Nat} (h:b<2^64):Gb b<2^64:=by unfold Gb; split<;>omega
theorem Aiv {b:Nat} (h:b<2^64):O5 (Gb b)=(O5 b).opposite:=by
 obtain ⟨h1,h2,h3⟩:=Agh h
 have hk:Ah (Gb b)=Ah b:=by unfold Ah; rw [h2,h3]
 have hm:As (Gb b)=As b:=by unfold As; rw [h2,h3]
 have he:Ay (Gb b)=Ay b:=by unfold Ay; rw [h2]
 by_cases b4:Ah b=4
 ·rw [Hf b4,Hf (by omega),h1,h3]; rfl
 ·by_cases b3:Ah b=3
  ·rw [Eo b3,Eo (by omega),h1]; rfl
  ·rw [En b3 b4,En (by omega) (by omega),h1,hm,he]; rfl
theorem Ao3 {a b:Nat} (ha:a<2^64) (hb:b<2^64) {d:Nat} (hd:Ah d=4):D3 ((Ieee.double.sub a b).getD d)=(As6 a b).1:=by
 unfold Format.sub
 rw [I8 ha,I8 hb,← Aiv hb]
 exact Afj ha (Ai5 hb) hd
theorem Zp (b:Nat):(Ieee.double.read b).isNaN=decide (Ah b=4):=by
 unfold Format.read
 have e0:Ieee.double.signWeight=2^63:=rfl
 have e2:Ieee.double.binade=2^52:=rfl
 have e3:Ieee.double.infRung=Dz:=rfl
 dsimp only
 rw [e0,e2,e3,Pr,Fb]
 have hf:Cm b<2^52:=Kh b
 rcases H4 b with ⟨h1,h2,h3⟩ | ⟨h1,h2,h3⟩ | ⟨h1,h2,h3⟩
 ·rw [A13 (by omega),A13 (by omega),A14 (by omega),A1m (by omega)]; rfl
 ·rw [A13 (by omega),A13 (by omega),A13 (by omega),A1i h3]; rfl
 ·rw [A1m h3]
  by_cases h0:Db b=0
  ·rw [A14 (by omega)]; rfl
  ·rw [A13 (by omega),A14 (by omega)]; rfl
end Go.Rnd
namespace Go.Rnd
open Ieee
theorem V8 {V W k:Nat} (h:V≤W):Nm V k≤Nm W k:=by
 unfold Nm
 have hA:=Cg k
 have hq:V / 2^k≤W / 2^k:=Nat.div_le_div_right h
 rcases A2e (V / 2^k) (W / 2^k) with h1 | h1
 ·split<;>split<;>omega
 ·have he:V / 2^k=W / 2^k:=by omega
  have v:=Nat.div_add_mod V (2^k)
  have w:=Nat.div_add_mod W (2^k)
  rw [he] at v ⊢
  have hr:V%2^k≤W%2^k:=by omega
  by_cases hc:2^k<2*(V%2^k)∨2*(V%2^k)=2^k∧W / 2^k%2=1
  ·have hc':2^k<2*(W%2^k)∨2*(W%2^k)=2^k∧W / 2^k%2=1:=by
    rcases hc with hc | ⟨hc,hd⟩
    ·exact .inl (by omega)
    ·rcases A2e (2^k) (2*(W%2^k)) with h2 | h2
     ·exact .inl h2
     ·exact .inr ⟨by omega,hd⟩
   rw [A14 hc,A14 hc']
   exact A2b _
  ·rw [A13 hc]
   exact Nat.le_add_right _ _
theorem Ate {V c k:Nat} (h:V≤c*2^k):Nm V k≤c:=by
 have h1:=V8 (k:=k) h
 have:Nm (c*2^k) k=c:=by
  have:=Uw c k 0
  rw [A2p,O6] at this
  exact this
 omega
theorem At6 {V c k:Nat} (h:c*2^k≤V):c≤Nm V k:=by
 have h1:=V8 (k:=k) h
 have:Nm (c*2^k) k=c:=by
  have:=Uw c k 0
  rw [A2p,O6] at this
  exact this
 omega
theorem Aiw {V W:Nat} {s:Int} (h:V≤W):Ke V s≤Ke W s:=V8 (A1t _ h)
theorem Ajf {V W:Nat} {E:Int} (hV:V≠0) (h:V≤W):Cj V E≤Cj W E:=by
 have:V.log2≤W.log2:=(Nat.le_log2 (by omega)).2 (A2o (Nat.log2_self_le hV) h)
 unfold Cj; omega
theorem At7 {V:Nat} {E:Int}:kept V E≤2^53:=by
 have hV:V<2^(V.log2+1):=Nat.lt_log2_self
 unfold kept Ke
 refine Ate ?_
 have hl:E+V.log2-52≤Cj V E:=by unfold Cj; omega
 rw [← A16]
 have h1:V*2^(-(Cj V E-E)).toNat≤2^(V.log2+1)*2^(-(Cj V E-E)).toNat:=A1t _ (Nat.le_of_lt hV)
 rw [← A16] at h1
 exact A2o h1 (A1w (by decide) (by omega))
theorem Aeg {V:Nat} {E:Int} (hV:V≠0) (hl:Cj V E=E+V.log2-52):2^52≤kept V E:=by
 have h1:2^V.log2≤V:=Nat.log2_self_le hV
 unfold kept Ke
 refine At6 ?_
 rw [← A16]
 have h2:2^V.log2*2^(-(Cj V E-E)).toNat≤V*2^(-(Cj V E-E)).toNat:=A1t _ h1
 rw [← A16] at h2
 exact A2o (A1w (by decide) (by omega)) h2
theorem Kz {V W:Nat} {E:Int} (h:V≤W):Ca V E≤Ca W E:=by
 unfold Ca
 by_cases hV:V=0
 ·rw [A14 hV]; exact Nat.zero_le _
 ·have hW:W≠0:=by omega
  rw [A13 hV,A13 hW]
  have hl:=Ajf (E:=E) hV h
  have key:(Cj V E+1074).toNat*2^52+kept V E≤(Cj W E+1074).toNat*2^52+kept W E:=by
   rcases Int.lt_or_eq_of_le hl with h1 | h1
   ·have hb:-1074≤Cj V E:=by unfold Cj; omega
    have hn:Cj W E=E+W.log2-52:=by unfold Cj at h1 hb ⊢; omega
    have k1:=At7 (V:=V) (E:=E)
    have k2:=Aeg hW hn
    have h2:(Cj V E+1074).toNat+1≤(Cj W E+1074).toNat:=by omega
    have h3:((Cj V E+1074).toNat+1)*2^52≤(Cj W E+1074).toNat*2^52:=A1t _ h2
    rw [A2l (Cj V E+1074).toNat 1 (2^52),Nat.one_mul] at h3
    omega
   ·unfold kept
    rw [h1]
    exact Nat.add_le_add_left (Aiw h) _
  omega
theorem O3 {b:Nat} (h4:Ah b≠4):Ca (As b) (Ay b)=b%2^63:=by
 have hf:Cm b<2^52:=Kh b
 have hr:=Pr b
 rw [hr]
 unfold As Ay
 by_cases h0:Db b=0
 ·rw [A14 h0,A14 h0,Y3 hf,h0,Nat.zero_mul,A2r]
 ·rw [A13 h0,A13 h0,M8 (by omega) (by omega) (by omega),Fb]
  have e:((Db b:Int)-1075+1074).toNat=Db b-1:=by omega
  rw [e]
  have h5:(Db b-1)*2^52+(Cm b+2^52)=Db b*2^52+Cm b:=by omega
  rw [h5]
  rcases H4 b with ⟨h1,h2,_⟩ | ⟨_,_,h⟩ | ⟨h1,_,_⟩
  ·rw [h1,h2]; decide
  ·exact absurd h h4
  ·omega
def Gw (b:Nat):Int:=H9 (Bk b) (b%2^63)
def Ie (b:Nat) (f:Int):Nat:=As b*2^(Ay b-f).toNat
theorem Nq {b:Nat} {f:Int} (h4:Ah b≠4) (hf:f≤Ay b):Ca (Ie b f) f=b%2^63:=by
 rw [← O3 h4]
 have h:=(Du (As b) (Ay b-f).toNat (Ay b)).1
 have e:Ay b-((Ay b-f).toNat:Int)=f:=by omega
 rw [e] at h
 exact h
theorem Aqo {a b:Nat} (h:a%2^63=b%2^63) (f:Int):Ie a f=Ie b f:=by
 have h1:Db a=Db b:=by unfold Db; omega
 have h2:Cm a=Cm b:=by unfold Cm; omega
 unfold Ie As Ay
 rw [h1,h2]
theorem Ai9 {a b:Nat} {f:Int} (ha:Ah a≠4) (hb:Ah b≠4) (hfa:f≤Ay a) (hfb:f≤Ay b):Ie a f<Ie b f↔a%2^63<b%2^63:=by
 constructor
 ·intro h
  have h1:=Kz (E:=f) (Nat.le_of_lt h)
  rw [Nq ha hfa,Nq hb hfb] at h1
  rcases Nat.lt_or_eq_of_le h1 with h2 | h2
  ·exact h2
  ·have:=Aqo h2 f; omega
 ·intro h
  rcases A2e (Ie a f) (Ie b f) with h1 | h1
  ·exact h1
  ·have h1:=Kz (E:=f) h1
   rw [Nq ha hfa,Nq hb hfb] at h1
   omega
theorem Agn (b:Nat) (f:Int):Ie b f=0↔b%2^63=0:=by
 have hp:=Cg (Ay b-f).toNat
 unfold Ie
 rw [Nat.mul_eq_zero,Pr]
 have h1:¬ (2^(Ay b-f).toNat=0):=by omega
 have h2:As b=0↔Db b*2^52+Cm b=0:=by unfold As; split<;>omega
 rw [h2]
 exact ⟨fun h=>h.resolve_right h1,.inl⟩
theorem Awa {s t:Bool} {m n m' n':Nat} (h1:m<n↔m'<n') (h2:n<m↔n'<m') (h3:m=0↔m'=0) (h4:n=0↔n'=0):H9 s m<H9 t n↔H9 s m'<H9 t n':=by
 unfold H9
 cases s<;>cases t<;>simp<;>omega
theorem Ac9 {a b:Nat} {f:Int} (ha:Ah a≠4) (hb:Ah b≠4) (hfa:f≤Ay a) (hfb:f≤Ay b):Fs a f<Fs b f↔Gw a<Gw b :=
 Awa (Ai9 ha hb hfa hfb) (Ai9 hb ha hfb hfa) (Agn a f) (Agn b f)
theorem An1 {x y x' y':Int} (h1:x<y↔x'<y') (h2:y<x↔y'<x'):compare x y=compare x' y':=by
 show compareOfLessAndEq x y=compareOfLessAndEq x' y'
 unfold compareOfLessAndEq
 by_cases h:x<y
 ·rw [A14 h,A14 (h1.1 h)]
 ·rw [A13 h,A13 (fun k=>h (h1.2 k))]
  by_cases e:x=y
  ·rw [A14 e,A14 (by omega)]
  ·rw [A13 e,A13 (by omega)]
theorem Awt {b:Nat} (h4:Ah b≠4):b%2^63≤Dz:=by
 rw [← O3 h4]; exact Jq _ _
theorem Sg {b:Nat} (h:Ah b=3):b%2^63=Dz:=by
 rw [Pr]
 rcases H4 b with ⟨h1,h2,_⟩ | ⟨_,_,h4⟩ | ⟨_,h4,_⟩
 ·rw [h1,h2]; rfl
 ·omega
 ·omega
theorem Vj {b:Nat} (h3:Ah b≠3) (h4:Ah b≠4):b%2^63<Dz:=by
 have hf:Cm b<2^52:=Kh b
 rw [Pr,Fb]
 rcases H4 b with ⟨_,_,h⟩ | ⟨_,_,h⟩ | ⟨h1,_,_⟩
 ·exact absurd h h3
 ·exact absurd h h4
 ·omega
theorem Ajt {x y:Int} (h:x<y):compare x y=.lt:=by
 show compareOfLessAndEq x y=_; unfold compareOfLessAndEq; rw [A14 h]
theorem Aju {x y:Int} (h:y<x):compare x y=.gt:=by
 show compareOfLessAndEq x y=_; unfold compareOfLessAndEq; rw [A13 (by omega),A13 (by omega)]
theorem Pb {a b:Nat} (ha:a<2^64) (hb:b<2^64) (a4:Ah a≠4) (b4:Ah b≠4):Ieee.double.order a b=some (compare (Gw a) (Gw b)):=by
 unfold Format.order
 rw [I8 ha,I8 hb]
 have hpos:0<Dz:=by decide
 by_cases a3:Ah a=3
 ·have ka:=Sg a3
  rw [Eo a3]
  by_cases b3:Ah b=3
  ·have kb:=Sg b3
   rw [Eo b3]
   show some (compare (Bk b).toNat (Bk a).toNat)=_
   unfold Gw
   rw [ka,kb]
   cases Bk a<;>cases Bk b<;>decide
  ·have kb:=Vj b3 b4
   rw [En b3 b4]
   show some (if Bk a then Ordering.lt else .gt)=_
   unfold Gw H9
   rw [ka]
   cases Bk a
   ·rw [Aju (by simp; split<;>omega)]; rfl
   ·rw [Ajt (by simp; split<;>omega)]; rfl
 ·have ka:=Vj a3 a4
  rw [En a3 a4]
  by_cases b3:Ah b=3
  ·have kb:=Sg b3
   rw [Eo b3]
   show some (if Bk b then Ordering.gt else .lt)=_
   unfold Gw H9
   rw [kb]
   cases Bk b
   ·rw [Ajt (by simp; split<;>omega)]; rfl
   ·rw [Aju (by simp; split<;>omega)]; rfl
  ·rw [En b3 b4]
   show some (compare (Ieee.signed _ _ _) (Ieee.signed _ _ _))=_
   rw [R3,R3]
   congr 1
   exact An1 (Ac9 a4 b4 (Int.min_le_left _ _) (Int.min_le_right _ _)) (Ac9 b4 a4 (Int.min_le_right _ _) (Int.min_le_left _ _))
theorem We {a b:Nat} (ha:a<2^64) (hb:b<2^64) (h:Ah a=4∨Ah b=4):Ieee.double.order a b=none:=by
 unfold Format.order
 rw [I8 ha,I8 hb]
 by_cases a4:Ah a=4
 ·rw [Hf a4]; cases O5 b<;>rfl
 ·rw [Hf (h.resolve_left a4)]; cases O5 a<;>rfl
def Af1 (S:Int) (f:Int):Int:=if S<0 then -(Ca S.natAbs f:Int) else Ca S.natAbs f
theorem Aip (S:Int) (k:Nat) (f:Int):Af1 (S*((2^k:Nat):Int)) (f-k)=Af1 S f:=by
 have hp:=Cg k
 have h0:S*((2^k:Nat):Int)<0↔S<0:=by
  constructor
  ·intro h
   rcases Int.lt_or_le S 0 with h1 | h1
   ·exact h1
   ·have:=Int.mul_nonneg h1 (Int.natCast_nonneg (2^k)); omega
  ·intro h
   exact Int.mul_neg_of_neg_of_pos h (by omega)
 unfold Af1
 rw [Int.natAbs_mul,Int.natAbs_natCast,(Du S.natAbs k f).1]
 by_cases h:S<0
 ·rw [A14 h,A14 (h0.2 h)]
 ·rw [A13 h,A13 (fun k=>h (h0.1 k))]
theorem Lx (s:Bool) {r:Nat} (h:r<2^63):Gw (Bc s r)=H9 s r:=by
 unfold Gw Bc Bk
 cases s
 ·have h1:¬ 2^63≤r:=by omega
  have h2:r%2^63=r:=A1u h
  simp only [Bool.false_eq_true,if_false,A1m h1,h2]
 ·have h1:2^63≤2^63+r:=by omega
  have h2:(2^63+r)%2^63=r:=by omega
  simp only [if_true,A1i h1,h2]
theorem Anl (s:Bool) (S f:Int):Gw (Kd (Bc s 0) S f).1=Af1 S f:=by
 unfold Kd Af1
 by_cases h:S=0
 ·subst h
  have e:Ca (Int.natAbs 0) f=0:=A14 rfl
  rw [A14 rfl,e,Lx s (by decide)]
  cases s<;>rfl
 ·rw [A13 h]
  show Gw (Bc _ _)=_
  rw [Lx _ (Ps _ _)]
  unfold H9
  by_cases h1:S<0
  ·rw [A14 h1,A1i h1,A14 rfl]
  ·rw [A13 h1,A1m h1,A13 (by decide)]
theorem Abi {b:Nat} {f g:Int} {k:Nat} (hk:g=f-k) (hf:f≤Ay b):Fs b g=Fs b f*((2^k:Nat):Int):=by
 unfold Fs
 have e:(Ay b-g).toNat=(Ay b-f).toNat+k:=by omega
 rw [e,A16,← A18]
 generalize As b*2^(Ay b-f).toNat=m
 generalize 2^k=p
 unfold H9
 cases Bk b
 ·exact A12 m p
 ·show -((m*p:Nat):Int)=-(m:Int)*(p:Int)
  rw [A12,Int.neg_mul]
theorem Alz {a c:Nat} (a3:Ah a≠3) (a4:Ah a≠4) (c3:Ah c≠3) (c4:Ah c≠4) {g:Int} (hg:g≤min (Ay a) (Ay c)) :
 Gw (Gd a c).1=Af1 (Fs a g+Fs c g) g:=by
 rw [Rt (fun h=>h.elim a4 c4) a3 c3,Anl]
 obtain ⟨k,hk⟩:∃ k:Nat,g=min (Ay a) (Ay c)-k:=⟨(min (Ay a) (Ay c)-g).toNat,by omega⟩
 rw [Abi (b:=a) hk (Int.min_le_left _ _),Abi (b:=c) hk (Int.min_le_right _ _),← Int.add_mul,hk,Aip]
end Go.Rnd
namespace Go.Rnd
def Jk (a b:Nat):Nat × Nat :=
 if Ah a=4∨Ah b=4 then (Le,0)
 else if Ah a=3∨Ah b=3 then (if Ah a=0∨Ah b=0 then (Le,16) else (Bc (Bk a !=Bk b) Dz,0))
 else (Bc (Bk a !=Bk b) (Ca (As a*As b) (Ay a+Ay b)),flagsOf (As a*As b) (Ay a+Ay b))
def F0 (X Y K:Nat):Nat:=2*(X*2^K / Y)+(if X*2^K%Y=0 then 0 else 1)
def T0 (a b:Nat):Nat × Nat :=
 if Ah a=4∨Ah b=4 then (Le,0)
 else if Ah a=Ah b∧(Ah a=3∨Ah a=0) then (Le,16)
 else if Ah a=3 then (Bc (Bk a !=Bk b) Dz,0)
 else if Ah b=3∨Ah a=0 then (Bc (Bk a !=Bk b) 0,0)
 else if Ah b=0 then (Bc (Bk a !=Bk b) Dz,8)
 else (Bc (Bk a !=Bk b) (Ca (F0 (As a) (As b) 120) (Ay a-Ay b-121)),flagsOf (F0 (As a) (As b) 120) (Ay a-Ay b-121))
theorem Wh (a b:Nat):Jk a b=Jk b a:=by
 have e:(Bk a !=Bk b)=(Bk b !=Bk a):=by cases Bk a<;>cases Bk b<;>rfl
 unfold Jk
 rw [e,A15 (As a),Int.add_comm (Ay a)]
 simp only [or_comm]
theorem Ai0 {V k:Nat} {E:Int} (hm:1≤V / 2^k) (hc:2^53≤V / 2^k∨E+k+1≤-1074) :
 Ca (4*(V / 2^k)+(if V%2^k=0 then 0 else 1)) (E+k-2)=Ca V E∧flagsOf (4*(V / 2^k)+(if V%2^k=0 then 0 else 1)) (E+k-2)=flagsOf V E:=by
 have hA:=Cg k
 have h1:=Nat.div_add_mod V (2^k)
 have h2:=Nat.mod_lt V hA
 generalize hq:V / 2^k=q at *
 generalize hr:V%2^k=r at *
 by_cases h0:r=0
 ·rw [A14 h0]
  obtain ⟨a1,a2⟩:=Du q k (E+k)
  obtain ⟨b1,b2⟩:=Du q 2 (E+k)
  have e1:E+(k:Int)-k=E:=by omega
  have e2:V=q*2^k:=by rw [A15]; omega
  have e3:q*2^2=4*q+0:=by omega
  have e4:E+(k:Int)-((2:Nat):Int)=E+k-2:=by omega
  rw [e1,← e2] at a1 a2
  rw [e3,e4] at b1 b2
  rw [a1,a2,b1,b2]
  exact ⟨rfl,rfl⟩
 ·rw [A13 h0]
  obtain ⟨d,rfl⟩:∃ d,k=d+1:=by
   cases k with
   | zero=>simp only [A2f] at h2; omega
   | succ d=>exact ⟨d,rfl⟩
  have hD:2^(d+1)=2*2^d:=by rw [Nat.pow_succ]; omega
  rw [hD] at h1 h2
  generalize hc2:2^d=c at *
  have p1:(2*q+1-1)*c=2*c*q:=by rw [Nat.add_sub_cancel,A15,Nat.mul_left_comm,A18]
  have p2:(2*q+1+1)*c=2*c*q+2*c:=by
   rw [show 2*q+1+1=2*(q+1) by omega,A18,A2l,Nat.mul_add,A15 q c,A18]; omega
  have lt1:(2*q+1-1)*2^d<V:=by rw [hc2,p1]; omega
  have lt2:V<(2*q+1+1)*2^d:=by rw [hc2,p2]; omega
  have od:(2*q+1)%2=1:=by omega
  have lV:=Q9 od (by omega) lt1 lt2
  have l4:(4*q+1).log2=(2*q+1).log2+1:=Q9 (d:=1) od (by omega) (by omega) (by omega)
  have hs:(2*q+1).log2≥54∨E+d+2≤-1074:=by
   rcases hc with h | h
   ·left; rw [ge_iff_le,Nat.le_log2 (by omega)]; omega
   ·right; omega
  have hk:E+d+2≤Cj (2*q+1) (E+d):=by unfold Cj; omega
  obtain ⟨a1,a2⟩:=Q2 (E:=E) od lt1 lt2 (by unfold Cj; rw [lV]; omega) hk
  have ee:E+((d+1:Nat):Int)-2+((1:Nat):Int)=E+d:=by omega
  obtain ⟨b1,b2⟩:=Q2 (V:=4*q+1) (d:=1) (E:=E+((d+1:Nat):Int)-2) od (by omega) (by omega) (by unfold Cj; rw [l4]; omega) (by rw [ee]; unfold Cj; omega)
  rw [ee] at b1 b2
  rw [a1,a2,b1,b2]
  exact ⟨rfl,rfl⟩
theorem U7 (n:Bool) {V k:Nat} {E e:Int} {s:Bool} (he:e=E+k) (hs:s=decide (V%2^k≠0)) (hm:1≤V / 2^k) (hc:2^53≤V / 2^k∨E+k+1≤-1074) :
 Gr n (V / 2^k) e s=(Bc n (Ca V E),flagsOf V E):=by
 obtain ⟨a,b⟩:=Ai0 hm hc
 have e1:s.toNat=if V%2^k=0 then 0 else 1:=by
  rw [hs]
  by_cases h:V%2^k=0
  ·rw [A1m (by omega),A14 h]; rfl
  ·rw [A1i h,A13 h]; rfl
 unfold Gr
 rw [he,e1,a,b]
theorem Yt {X Y K:Nat} (d:Nat) (E:Int) (hY:0<Y) (h:2^53≤X*2^K / Y) :
 Ca (F0 X Y (K+d)) (E-d)=Ca (F0 X Y K) E∧flagsOf (F0 X Y (K+d)) (E-d)=flagsOf (F0 X Y K) E:=by
 have hA:=Cg d
 unfold F0
 have e:X*2^(K+d)=X*2^K*2^d:=by rw [A16,A18]
 rw [e]
 generalize X*2^K=Z at *
 have h1:=Nat.div_add_mod Z Y
 have h2:=Nat.mod_lt Z hY
 by_cases h0:Z%Y=0
 ·obtain ⟨q,rfl⟩:=Nat.dvd_of_mod_eq_zero h0
  have e1:Y*q*2^d=Y*(q*2^d):=A18 _ _ _
  rw [e1,Nat.mul_mod_right,Nat.mul_mod_right,Nat.mul_div_cancel_left _ hY,Nat.mul_div_cancel_left _ hY,A14 rfl]
  have:=Du (2*q+0) d E
  rw [show (2*q+0)*2^d=2*(q*2^d)+0 by rw [A2p,A2p,A18]] at this
  exact this
 ·have h3:=Nat.div_add_mod (Z*2^d) Y
  have h4:=Nat.mod_lt (Z*2^d) hY
  rw [A13 h0]
  generalize hq:Z / Y=q at *
  generalize hr:Z%Y=r at *
  generalize hc:2^d=c at *
  have hz:Z*c=Y*(q*c)+r*c:=by rw [← h1,A2l,A18]
  have hrc:r*c<Y*c:=(Nat.mul_lt_mul_right hA).2 h2
  have hrc0:0<r*c:=Nat.mul_pos (by omega) hA
  have q1:q*c≤Z*c / Y:=by rw [Nat.le_div_iff_mul_le hY,A15 (q*c)]; omega
  have q2:Z*c / Y<(q+1)*c:=by
   rw [Nat.div_lt_iff_lt_mul hY,A2l,A2l,Nat.one_mul,A15 (q*c),A15 c Y]; omega
  have q3:Z*c / Y=q*c→Z*c%Y≠0:=fun h5 h6=>by rw [h5,h6] at h3; omega
  generalize hQ:Z*c / Y=Q at *
  have p1:(2*q+1-1)*c=2*(q*c):=by rw [Nat.add_sub_cancel,A18]
  have p2:(2*q+1+1)*c=2*((q+1)*c):=by rw [show 2*q+1+1=2*(q+1) by omega,A18]
  have od:(2*q+1)%2=1:=by omega
  generalize hV:2*Q+(if Z*c%Y=0 then 0 else 1)=V
  have v1:(2*q+1-1)*2^d<V:=by
   rw [hc,p1,← hV]
   by_cases h5:Q=q*c
   ·rw [A13 (q3 h5)]; omega
   ·split<;>omega
  have v2:V<(2*q+1+1)*2^d:=by
   rw [hc,p2,← hV]
   split<;>omega
  have lV:=Q9 od (by omega) v1 v2
  have hs:54≤(2*q+1).log2:=by rw [Nat.le_log2 (by omega)]; omega
  have ee:E-(d:Int)+d=E:=by omega
  have:=Q2 (E:=E-d) od v1 v2 (by unfold Cj; rw [lV]; omega) (by unfold Cj; omega)
  rw [ee] at this
  exact this
theorem Yu {X Y K L:Nat} {E F:Int} (hY:0<Y) (h1:2^53≤X*2^K / Y) (h2:2^53≤X*2^L / Y) (he:E+K=F+L) :
 Ca (F0 X Y K) E=Ca (F0 X Y L) F∧flagsOf (F0 X Y K) E=flagsOf (F0 X Y L) F:=by
 rcases Nat.le_total K L with h | h
 ·obtain ⟨d,rfl⟩:=Nat.exists_eq_add_of_le h
  have:=Yt d E hY h1
  rw [show E-(d:Int)=F by omega] at this
  exact ⟨this.1.symm,this.2.symm⟩
 ·obtain ⟨d,rfl⟩:=Nat.exists_eq_add_of_le h
  have:=Yt d F hY h2
  rw [show F-(d:Int)=E by omega] at this
  exact this
theorem Aie (X Y a K:Nat):F0 (X*2^a) Y K=F0 X Y (K+a):=by
 unfold F0
 have:X*2^a*2^K=X*2^(K+a):=by rw [A18,← A16,Nat.add_comm a K]
 rw [this]
theorem Afl (X Y b K:Nat):F0 X (Y*2^b) (K+b)=F0 X Y K:=by
 have hp:=Cg b
 unfold F0
 have:X*2^(K+b)=X*2^K*2^b:=by rw [A16,A18]
 rw [this,Nat.mul_div_mul_right _ _ hp,Nat.mul_mod_mul_right]
 have:(X*2^K%Y*2^b=0)↔(X*2^K%Y=0):=by
  constructor
  ·intro h
   rcases Nat.mul_eq_zero.1 h with h | h
   ·exact h
   ·omega
  ·intro h; rw [h,Nat.zero_mul]
 simp only [this]
theorem Apq {X Y K t:Nat} (hX:0<X) (hY0:0<Y) (hY:Y<2^t) (hK:53+t≤K):2^53≤X*2^K / Y:=by
 rw [Nat.le_div_iff_mul_le hY0]
 have h1:2^53*Y≤2^53*2^t:=Nat.mul_le_mul_left _ (by omega)
 have h2:2^(53+t)≤2^K:=A1w (by decide) hK
 have h3:1*2^K≤X*2^K:=A1t _ (by omega)
 rw [A16] at h2
 omega
theorem Am6 (n:Bool) {X Y K:Nat} {e E:Int} {s:Bool} (hs:s=decide (X*2^K%Y≠0)) (he:E=e-1) (hq:2^53≤X*2^K / Y) :
 Gr n (X*2^K / Y) e s=(Bc n (Ca (F0 X Y K) E),flagsOf (F0 X Y K) E):=by
 have e1:F0 X Y K / 2^1=X*2^K / Y:=by
  unfold F0
  split<;>omega
 have e2:decide (F0 X Y K%2^1≠0)=decide (X*2^K%Y≠0):=by
  unfold F0
  by_cases h:X*2^K%Y=0
  ·rw [A14 h,A1m (by omega),A1m (by omega)]
  ·rw [A13 h,A1i (by omega),A1i h]
 have:=U7 n (V:=F0 X Y K) (k:=1) (E:=E) (e:=e) (s:=s) (by omega) (by rw [e2]; exact hs) (by omega) (.inl (by omega))
 rw [e1] at this
 exact this
end Go.Rnd
namespace Go.Rnd
open Go.Den
def Co:List Int→Nat
 | []=>0
 | x::l=>x.toNat+4294967296*Co l
def digits:Nat→Nat→List Int
 | 0,_=>[]
 | k+1,v=>((v%4294967296:Nat):Int)::digits k (v / 4294967296)
def Dy (n:Nat):Nat:=if n=0 then 0 else n.log2 / 32+1
def Ra (n:Nat):List Int:=digits (Dy n) n
def Aq (v:Int):List Int:=Ra v.natAbs
def Bj (v:Int):Bool:=decide (v<0)
def wv (n:Bool) (l:List Int):Int:=H9 n (Co l)
def inL (l:List Int):Prop:=∀ x∈l,0≤x∧x<4294967296
def Ia (l:List Int):Bool:=Cz (l.length<1073741824∧inL l)
def Ju (n:Bool) (l:List Int):Bool:=Cz (l.length<268435456∧l=Ra (Co l)∧(n=true→l≠[]))
def Ya (n:Bool) (l:List Int):Bool:=Cz (l.length<134217728∧l=Ra (Co l)∧(n=true→l≠[]))
def Awj (k:Int):Bool:=Cz (-1000000≤k∧k≤1000000)
def Alb (k:Int):Bool:=Cz (-9223372036854775808≤k∧k≤9223372036854775807)
def Hh (l:List Int) (i:Int):Int:=if 0≤i then l.getD i.toNat 0 else 0
def Kf (a b:List Int):List Int:=digits (max a.length b.length+1) (Co a+Co b)
def Hz (a b:List Int):List Int:=digits a.length (Co a-Co b)
def leL (a b:List Int):Bool:=Cz (Co a≤Co b)
def Ww (a b:Nat):Int:=if a<b then -1 else if b<a then 1 else 0
def Xx (a b:Int):Int:=if a<b then -1 else if b<a then 1 else 0
def Lg (v:Int) (j:Nat):Int:=H9 (Bj v) (v.natAbs / 2^j)
def G8 (v k:Int):Int:=if 0≤k then v*((2^k.toNat:Nat):Int) else Lg v (-k).toNat
def Z3 (v:Int):Int:=if v=0 then 0 else (v.natAbs.log2:Int)+1
def Amu (v:Int):Bool:=decide (v%2=1)
theorem two32:2^32=4294967296:=by decide
theorem O7 (k:Nat):2^(32*(k+1))=4294967296*2^(32*k):=by
 rw [Nat.mul_add,A2q,A16,A15,two32]
theorem Fp:∀ (k v:Nat),(digits k v).length=k
 | 0,_=>rfl
 | k+1,v=>by rw [digits,List.length_cons,Fp k]
theorem Pl:∀ (k v:Nat),inL (digits k v)
 | 0,_=>fun x h=>by cases h
 | k+1,v=>fun x h=>by
   rw [digits,List.mem_cons] at h
   rcases h with rfl | h
   ·omega
   ·exact Pl k _ x h
theorem Ln:∀ (k v:Nat),Co (digits k v)=v%2^(32*k)
 | 0,v=>by rw [digits,Co,Nat.mul_zero,A2f,Nat.mod_one]
 | k+1,v=>by
   rw [digits,Co,Ln k,A1j,O7,Nat.mod_mul]
theorem N5:∀ {l:List Int},inL l→Co l<2^(32*l.length)
 | [],_=>by decide
 | x::l,h=>by
   have h1:=h x (A2w ..)
   have h2:=N5 (l:=l) (fun y hy=>h y (A2m _ hy))
   rw [Co,List.length_cons,O7]
   omega
theorem Ri:∀ {l:List Int},inL l→digits l.length (Co l)=l
 | [],_=>rfl
 | x::l,h=>by
   have h1:=h x (A2w ..)
   have h2:=Ri (l:=l) (fun y hy=>h y (A2m _ hy))
   rw [Co,List.length_cons,digits]
   have e1:(x.toNat+4294967296*Co l)%4294967296=x.toNat:=by omega
   have e2:(x.toNat+4294967296*Co l) / 4294967296=Co l:=by omega
   rw [e1,e2,h2]
   congr 1
   omega
theorem Mv (n:Nat):n<2^(32*Dy n):=by
 unfold Dy
 by_cases h:n=0
 ·rw [A14 h,h]; decide
 ·rw [A13 h]
  exact A2s Nat.lt_log2_self (A1w (by decide) (by omega))
theorem Og {n k:Nat} (h:n<2^(32*k)):Dy n≤k:=by
 unfold Dy
 by_cases h0:n=0
 ·rw [A14 h0]; exact Nat.zero_le _
 ·rw [A13 h0]
  have:=(A2x h0).2 h
  omega
theorem At3 {n k:Nat} (h:2^(32*k)≤n):k+1≤Dy n:=by
 have hp:=Cg (32*k)
 unfold Dy
 rw [A13 (by omega)]
 have:=(Nat.le_log2 (by omega)).2 h
 omega
theorem Nb {n m:Nat} (h:n≤m):Dy n≤Dy m:=Og (A2j h (Mv m))
theorem Tk (n:Nat):Co (Ra n)=n:=by
 unfold Ra
 rw [Ln,A1u (Mv n)]
theorem H2 (n:Nat):(Ra n).length=Dy n:=Fp _ _
theorem Ags (n:Nat):inL (Ra n):=Pl _ _
theorem Aas:∀ (k v i:Nat),i<k→(digits k v).getD i 0=((v / 2^(32*i)%4294967296:Nat):Int)
 | k+1,v,0,_=>by rw [digits,List.getD_cons_zero,Nat.mul_zero,A2f,Nat.div_one]
 | k+1,v,i+1,h=>by
   rw [digits,List.getD_cons_succ,Aas k _ i (by omega),O7,A2a]
theorem Si {l:List Int} (h:inL l) (i:Nat):l.getD i 0=((Co l / 2^(32*i)%4294967296:Nat):Int):=by
 by_cases hi:i<l.length
 ·have:=Aas l.length (Co l) i hi
  rw [Ri h] at this
  exact this
 ·have h1:=N5 h
  have h2:2^(32*l.length)≤2^(32*i):=A1w (by decide) (by omega)
  rw [Nat.div_eq_of_lt (by omega),A1r,A2z (by omega)]
  rfl
theorem H3 {l:List Int} (h:inL l) (i:Nat):Hh l (i:Int)=((Co l / 2^(32*i)%4294967296:Nat):Int):=by
 unfold Hh
 rw [A14 (by omega),A1j,Si h]
theorem Oj:∀ (k v:Nat),digits (k+1) v=digits k v++[((v / 2^(32*k)%4294967296:Nat):Int)]
 | 0,v=>by rw [digits,digits,digits,Nat.mul_zero,A2f,Nat.div_one]; rfl
 | k+1,v=>by
   rw [digits,Oj k,O7,← A2a]
   rfl
theorem Xn:∀ (j k v:Nat),j≤k→(digits k v).take j=digits j v
 | 0,_,_,_=>by rw [List.take_zero,digits]
 | j+1,k+1,v,h=>by rw [digits,List.take_succ_cons,Xn j k _ (by omega),digits]
theorem Ajd {l:List Int} (h:inL l):l.take (Dy (Co l))=Ra (Co l):=by
 have h1:=Xn (Dy (Co l)) l.length (Co l) (Og (N5 h))
 rw [Ri h] at h1
 exact h1
theorem Jn {n:Nat} (h:n≠0):0<Dy n:=by unfold Dy; rw [A13 h]; omega
theorem Ib (v:Int):wv (Bj v) (Aq v)=v:=by
 unfold wv Bj Aq H9
 rw [Tk]
 by_cases h:v<0
 ·rw [A1i h,A14 rfl]; omega
 ·rw [A1m h,A13 (by decide)]; omega
theorem Ot {l:List Int} (h:l.length<1073741824) (hi:inL l):Ia l=true:=Ar.2 ⟨h,hi⟩
theorem Li {l:List Int} (h:Ia l=true):l.length<1073741824∧inL l:=Ar.1 h
theorem Aho (v:Int):Aq v=Ra (Co (Aq v))∧(Bj v=true→Aq v≠[]):=by
 unfold Aq
 rw [Tk]
 refine ⟨rfl,fun h e=>?_⟩
 have h1:v<0:=A17 h
 have h2:=H2 v.natAbs
 rw [e] at h2
 have:=Jn (n:=v.natAbs) (by omega)
 rw [← h2] at this
 exact absurd this (by decide)
theorem Jt {v:Int} (h:Dy v.natAbs<268435456):Ju (Bj v) (Aq v)=true :=
 Ar.2 ⟨by unfold Aq; rw [H2]; exact h,Aho v⟩
theorem Ap2 {v:Int} (h:Dy v.natAbs<134217728):Ya (Bj v) (Aq v)=true :=
 Ar.2 ⟨by unfold Aq; rw [H2]; exact h,Aho v⟩
theorem Acu {n:Bool} {l:List Int} (h1:l=Ra (Co l)) (h2:n=true→l≠[]):n=Bj (wv n l)∧l=Aq (wv n l):=by
 have e:(wv n l).natAbs=Co l:=by unfold wv H9; split<;>omega
 refine ⟨?_,by unfold Aq; rw [e]; exact h1⟩
 unfold Bj wv H9
 cases n
 ·simp
 ·have h3:=h2 rfl
  have h4:Co l≠0:=fun h=>by
   rw [h] at h1
   exact h3 h1
  simp; omega
theorem Jr {n:Bool} {l:List Int} (h:Ju n l=true):∃ v,n=Bj v∧l=Aq v∧Dy v.natAbs<268435456:=by
 obtain ⟨h0,h1,h2⟩:=Ar.1 h
 obtain ⟨e1,e2⟩:=Acu h1 h2
 refine ⟨_,e1,e2,?_⟩
 have:=congrArg length e2
 unfold Aq at this
 rw [H2] at this
 omega
theorem P4 {n:Bool} {l:List Int} (h:Ya n l=true):∃ v,n=Bj v∧l=Aq v∧Dy v.natAbs<134217728:=by
 obtain ⟨h0,h1,h2⟩:=Ar.1 h
 obtain ⟨e1,e2⟩:=Acu h1 h2
 refine ⟨_,e1,e2,?_⟩
 have:=congrArg length e2
 unfold Aq at this
 rw [H2] at this
 omega
theorem Pc {v:Int} (h:Dy v.natAbs<1073741824):Ia (Aq v)=true :=
 Ot (by unfold Aq; rw [H2]; exact h) (Ags _)
theorem D7 (v:Int):Co (Aq v)=v.natAbs:=Tk _
theorem Cv (v:Int):(Aq v).length=Dy v.natAbs:=H2 _
theorem Avk (n:Bool) (l:List Int):wv (!n) l=- wv n l:=by
 unfold wv H9
 cases n<;>simp
theorem Amr {a b:List Int} (ha:inL a) (hb:inL b):Co (Kf a b)=Co a+Co b:=by
 unfold Kf
 rw [Ln,A1u]
 have h1:=N5 ha
 have h2:=N5 hb
 have h3:2^(32*a.length)≤2^(32*max a.length b.length):=A1w (by decide) (by omega)
 have h4:2^(32*b.length)≤2^(32*max a.length b.length):=A1w (by decide) (by omega)
 rw [O7]
 omega
theorem Ux (a b:List Int):(Kf a b).length=max a.length b.length+1:=Fp _ _
theorem Af9 (a b:List Int):inL (Kf a b):=Pl _ _
theorem Ai6 {a:List Int} (b:List Int) (ha:inL a):Co (Hz a b)=Co a-Co b:=by
 unfold Hz
 rw [Ln,A1u]
 have h1:=N5 ha
 omega
theorem Td (a b:List Int):(Hz a b).length=a.length:=Fp _ _
theorem Ab8 (a b:List Int):inL (Hz a b):=Pl _ _
theorem Mo (v:Int) (j:Nat):(Lg v j).natAbs=v.natAbs / 2^j:=by
 unfold Lg
 generalize v.natAbs / 2^j=m
 unfold H9; split<;>omega
theorem Uo {v:Int} (h:v<0) (m:Nat):H9 (Bj v) m=-(m:Int):=by
 unfold H9 Bj; rw [A1i h,A14 rfl]
theorem Un {v:Int} (h:¬ v<0) (m:Nat):H9 (Bj v) m=(m:Int):=by
 unfold H9 Bj; rw [A1m h,A13 (by decide)]
theorem Adq (v:Int) (i j:Nat):Lg (Lg v i) j=Lg v (i+j):=by
 have e:v.natAbs / 2^(i+j)=v.natAbs / 2^i / 2^j:=by rw [A16,A2a]
 have h1:=Mo v i
 by_cases hv:v<0
 ·have h2:Lg v i=-((v.natAbs / 2^i:Nat):Int):=Uo hv _
  rw [show Lg v (i+j)=-((v.natAbs / 2^(i+j):Nat):Int) from Uo hv _,e]
  by_cases h0:v.natAbs / 2^i=0
  ·rw [h2,h0]
   show Lg 0 j=_
   rw [Nat.zero_div]
   show H9 (Bj 0) (0 / 2^j)=_
   rw [Nat.zero_div]; rfl
  ·have h3:Lg v i<0:=by omega
   rw [show Lg (Lg v i) j=-(((Lg v i).natAbs / 2^j:Nat):Int) from Uo h3 _,h1]
 ·have h2:Lg v i=((v.natAbs / 2^i:Nat):Int):=Un hv _
  have h3:¬ Lg v i<0:=by omega
  rw [show Lg (Lg v i) j=(((Lg v i).natAbs / 2^j:Nat):Int) from Un h3 _,h1,show Lg v (i+j)=((v.natAbs / 2^(i+j):Nat):Int) from Un hv _,e]
theorem Afu (v:Int):Lg v 0=v:=by
 unfold Lg H9 Bj
 rw [A2f,Nat.div_one]
 by_cases h:v<0
 ·rw [A1i h,A14 rfl]; omega
 ·rw [A1m h,A13 (by decide)]; omega
theorem R6 (j:Nat):Lg 0 j=0:=by
 unfold Lg
 rw [show (Int.natAbs 0)=0 from rfl,Nat.zero_div]
 rfl
theorem Al3 {l:List Int} (h:inL l):Co (l.drop 1)=Co l / 4294967296:=by
 cases l with
 | nil=>rfl
 | cons x l =>
   have:=h x (A2w ..)
   show Co l=_
   rw [Co]; omega
theorem Ag1 {l:List Int} (h:inL l):inL (l.drop 1):=fun x hx=>h x (List.mem_of_mem_drop hx)
theorem Aq7 {l:List Int} (h:inL l):inL ([(0:Int)]++l):=fun x hx=>by
 rcases List.mem_cons.1 hx with rfl | hx
 ·omega
 ·exact h x hx
theorem Aqx (n:Nat):Dy (2*n)≤Dy n+1:=by
 refine Og ?_
 have h:=Mv n
 rw [O7]
 omega
theorem At2 (n:Nat):Dy (n*4294967296)≤Dy n+1:=by
 refine Og ?_
 have h:=Mv n
 rw [O7]
 omega
theorem Agq {n m:Nat} (h:2^m≤n):(n / 2^m).log2+m=n.log2:=by
 have hp:=Cg m
 have h0:n≠0:=by omega
 have hm:m≤n.log2:=(Nat.le_log2 h0).2 h
 have e:(n / 2^m).log2=n.log2-m:=by
  refine Vf ?_ ?_
  ·rw [Nat.le_div_iff_mul_le hp,← A16]
   exact A2o (A1w (by decide) (by omega)) (Nat.log2_self_le h0)
  ·rw [Nat.div_lt_iff_lt_mul hp,← A16]
   exact A2s Nat.lt_log2_self (A1w (by decide) (by omega))
 omega
end Go.Rnd
namespace Go.Rnd
open Go.Den
def S2 (n:Nat):Nat:=if h:n=0∨n%2=1 then 0 else S2 (n / 2)+1
termination_by n
decreasing_by omega
def mD (v:Int):Int:=Lg v (S2 v.natAbs)
def eD (v e:Int):Int:=if v=0 then 0 else e+S2 v.natAbs
def C6 (v e w f:Int):Int:=if v=0 then f else if w=0 then e else min e f
def Asb (v e w f:Int):Int:=G8 v (e-C6 v e w f)+G8 w (f-C6 v e w f)
def Ru (v e w f:Int):Int:=mD (Asb v e w f)
def Asf (v e w f:Int):Int:=eD (Asb v e w f) (C6 v e w f)
def Iv (v e:Int):Int:=if v=0 then 0 else Z3 v+e
def N1 (v:Int):Int:=if v<0 then -1 else if v=0 then 0 else 1
def Xy (v e w f:Int):Int:=Xx (G8 v (e-C6 v e w f)) (G8 w (f-C6 v e w f))
def Abb (e:Int):Bool:=Cz (-2000000≤e∧e≤2000000)
def Xu (e:Int):Bool:=Cz (-400000≤e∧e≤400000)
def Age (v e f:Int):Bool:=Cz (v=0∨(-1000000≤e-f∧e-f≤1000000))&&Cz (-400000≤e∧e≤400000∧-1000000≤f∧f≤1000000)
theorem Ah9 {n:Nat} (h:n=0∨n%2=1):S2 n=0:=by rw [S2,dif_pos h]
theorem Ake {n:Nat} (h0:n≠0) (h:n%2=0):S2 n=S2 (n / 2)+1:=by rw [S2,dif_neg (by omega)]
theorem Adc {n:Nat} (h:n≠0):∀ k,S2 (n*2^k)=k+S2 n
 | 0=>by rw [A2f,A2q,A2r]
 | k+1=>by
   have hp:=Cg k
   have h1:n*2^k≠0:=by
    intro e
    rcases Nat.mul_eq_zero.1 e with e | e<;>omega
   have e:n*2^(k+1)=n*2^k*2:=by rw [Nat.pow_succ,A18]
   rw [e,Ake (by omega) (by omega),Nat.mul_div_cancel _ (by decide),Adc h k]
   omega
theorem Akd (n:Nat) (h:n≠0):∃ m,n=m*2^S2 n∧m%2=1:=by
 induction n using Nat.strongRecOn with
 | _ n ih =>
   by_cases h2:n%2=1
   ·refine ⟨n,?_,h2⟩
    rw [Ah9 (.inr h2),A2f,A2q]
   ·obtain ⟨m,h3,h4⟩:=ih (n / 2) (by omega) (by omega)
    refine ⟨m,?_,h4⟩
    rw [Ake h (by omega),Nat.pow_succ,← A18,← h3]
    omega
theorem Au7 {n:Nat} (h:n≠0):S2 n≤n.log2:=by
 obtain ⟨m,h1,h2⟩:=Akd n h
 refine (Nat.le_log2 h).2 ?_
 have:1*2^S2 n≤m*2^S2 n:=A1t _ (by omega)
 omega
theorem Acb {n:Nat}:n.log2<32*Dy n+1:=by
 unfold Dy
 by_cases h:n=0
 ·rw [h]; decide
 ·rw [A13 h]; omega
theorem Aqp {v:Int} {k:Nat} (h:v.natAbs%2^k=0):mD (Lg v k)=mD v:=by
 unfold mD
 by_cases h0:v=0
 ·rw [h0,R6]
 ·have hp:=Cg k
  have hv:=Nat.div_add_mod v.natAbs (2^k)
  rw [h,A2p,A15] at hv
  have hq:v.natAbs / 2^k≠0:=by
   intro e; rw [e] at hv; omega
  have:=Adc hq k
  rw [hv] at this
  rw [Mo,Adq,this]
theorem Arm {v e:Int} {k:Nat} (h:v.natAbs%2^k=0) (h0:v≠0):eD (Lg v k) (e+k)=eD v e:=by
 unfold eD
 have hp:=Cg k
 have hv:=Nat.div_add_mod v.natAbs (2^k)
 rw [h,A2p,A15] at hv
 have hq:v.natAbs / 2^k≠0:=by
  intro e; rw [e] at hv; omega
 have ht:=Adc hq k
 rw [hv] at ht
 have ha:=Mo v k
 rw [A13 h0,A13 (by omega),ha,ht]
 omega
theorem Awo {v:Int} (h:v%2=1):mD v=v:=by
 unfold mD
 rw [Ah9 (.inr (by omega)),Afu]
theorem Awz {v:Int} (h:v%2=1) (e:Int):eD v e=e:=by
 unfold eD
 rw [Ah9 (.inr (by omega)),A13 (by omega)]
 omega
theorem Aqh {v:Int} (h:v≠0) (k:Nat):v*((2^k:Nat):Int)≠0:=by
 have hp:=Cg k
 intro e
 rcases Int.mul_eq_zero.1 e with e | e
 ·exact h e
 ·omega
theorem Yd (v:Int):v=mD v*((2^S2 v.natAbs:Nat):Int):=by
 by_cases h:v=0
 ·rw [h]
  show (0:Int)=Lg 0 _*_
  rw [R6,Int.zero_mul]
 ·obtain ⟨m,h1,h2⟩:=Akd v.natAbs (by omega)
  have hp:=Cg (S2 v.natAbs)
  have hq:v.natAbs / 2^S2 v.natAbs=m:=Nat.div_eq_of_eq_mul_left hp h1
  unfold mD Lg
  rw [hq]
  by_cases hv:v<0
  ·rw [Uo hv,Int.neg_mul,← A12,← h1]; omega
  ·rw [Un hv,← A12,← h1]; omega
theorem P8 {v:Int}:mD v=0↔v=0:=by
 constructor
 ·intro h
  have:=Yd v
  rw [h,Int.zero_mul] at this
  exact this
 ·intro h
  rw [h]
  exact R6 _
theorem Aca (v:Int):(mD v).natAbs≤v.natAbs:=by
 unfold mD
 rw [Mo]
 exact Nat.div_le_self _ _
end Go.Rnd
namespace Go.Rnd
open Go.Den
def vAt (v e g:Int):Int:=v*((2^(e-g).toNat:Nat):Int)
theorem Iu (e g:Int):vAt 0 e g=0:=Int.zero_mul _
theorem Abj {v e g h:Int} (h1:h≤e) (h2:g≤h):vAt v e g=vAt v e h*((2^(h-g).toNat:Nat):Int):=by
 unfold vAt
 rw [Int.mul_assoc,← A12,← A16]
 have:(e-h).toNat+(h-g).toNat=(e-g).toNat:=by omega
 rw [this]
theorem Aj8 {S l g:Int} (h:g≤l):vAt (mD S) (eD S l) g=vAt S l g:=by
 by_cases h0:S=0
 ·rw [h0,P8.2 rfl,Iu,Iu]
 ·have e:eD S l=l+S2 S.natAbs:=by unfold eD; rw [A13 h0]
  rw [e]
  unfold vAt
  have e1:(l+(S2 S.natAbs:Int)-g).toNat=S2 S.natAbs+(l-g).toNat:=by omega
  rw [e1,A16,A12,← Int.mul_assoc,← Yd]
theorem Akg {v e l:Int} (h:v≠0→l≤e):G8 v (e-l)=vAt v e l:=by
 by_cases h0:v=0
 ·rw [h0,Iu]
  unfold G8
  split
  ·exact Int.zero_mul _
  ·exact R6 _
 ·unfold G8 vAt
  rw [A14 (by have:=h h0; omega)]
theorem Awp {v e w f:Int}:(v≠0→C6 v e w f≤e)∧(w≠0→C6 v e w f≤f):=by
 unfold C6
 constructor
 ·intro h
  rw [A13 h]
  split<;>omega
 ·intro h
  split
  ·omega
  ·omega
theorem Avi {v e g:Int} (h:g≤e) (h0:v≠0):g≤eD v e:=by
 unfold eD
 rw [A13 h0]
 omega
theorem Arx (x y:Int) (k:Nat):Xx (x*((2^k:Nat):Int)) (y*((2^k:Nat):Int))=Xx x y:=by
 have hp:=Cg k
 have h1:x*((2^k:Nat):Int)<y*((2^k:Nat):Int)↔x<y:=Int.mul_lt_mul_right (by omega)
 have h2:y*((2^k:Nat):Int)<x*((2^k:Nat):Int)↔y<x:=Int.mul_lt_mul_right (by omega)
 unfold Xx
 simp only [h1,h2]
theorem Aup {v e w f g:Int} (h1:v≠0→g≤e) (h2:w≠0→g≤f):Xy v e w f=Xx (vAt v e g) (vAt w f g):=by
 obtain ⟨l1,l2⟩:=Awp (v:=v) (e:=e) (w:=w) (f:=f)
 unfold Xy
 rw [Akg l1,Akg l2]
 by_cases h0:v=0∧w=0
 ·rw [h0.1,h0.2,Iu,Iu,Iu,Iu]
 ·have hg:g≤C6 v e w f:=by
   unfold C6
   split
   ·rename_i hv
    exact h2 (fun k=>h0 ⟨hv,k⟩)
   ·split
    ·exact h1 (by assumption)
    ·have:=h1 (by assumption); have:=h2 (by assumption); omega
  have e1:vAt v e g=vAt v e (C6 v e w f)*((2^(C6 v e w f-g).toNat:Nat):Int):=by
   by_cases h0:v=0
   ·rw [h0,Iu,Iu,Int.zero_mul]
   ·exact Abj (l1 h0) hg
  have e2:vAt w f g=vAt w f (C6 v e w f)*((2^(C6 v e w f-g).toNat:Nat):Int):=by
   by_cases h0:w=0
   ·rw [h0,Iu,Iu,Int.zero_mul]
   ·exact Abj (l2 h0) hg
  rw [e1,e2,Arx]
def Ai (l:List Int):Bool:=Cz (∀ x∈l,Af x=true)
def Fc (x:Int):Int:=H9 (Bk x.toNat) (As x.toNat)
def S9 (n:Bool) (b:Int):Int:=if n then Cr b else b
end Go.Rnd
namespace Go.Rnd
open Go.Den
theorem Ah5 (s:Bool) {q:Nat} {L:Int} (hq:q<2^53) (hL:-1074≤L) (h:2^52≤q∨L=-1074) (hr:(L+1074).toNat*2^52+q<Dz) :
 As (Bc s ((L+1074).toNat*2^52+q))=q∧Ay (Bc s ((L+1074).toNat*2^52+q))=L:=by
 rw [Fb] at hr
 obtain ⟨t,ht⟩:∃ t:Nat,L=t-1074:=⟨(L+1074).toNat,by omega⟩
 have et:(L+1074).toNat=t:=by omega
 rw [et] at hr ⊢
 have hp:=Wa s (r:=t*2^52+q) (by omega)
 have hf:=Tw s (t*2^52+q)
 unfold As Ay
 by_cases h52:2^52≤q
 ·have e1:Db (Bc s (t*2^52+q))=t+1:=by rw [hp]; omega
  rw [e1,hf,A13 (by omega),A13 (by omega)]
  omega
 ·have t0:t=0:=by omega
  subst t0
  have e1:Db (Bc s (0*2^52+q))=0:=by rw [hp]; omega
  rw [e1,hf,A14 rfl,A14 rfl]
  omega
theorem sign_neg (s:Bool) {r:Nat} (h:r<2^63):Bk (Bc s r)=s:=by
 unfold Bk Bc
 cases s
 ·simp only [Bool.false_eq_true,if_false,A10]; omega
 ·simp only [if_true,A1o]; omega
theorem Ajp (s:Bool) {V:Nat} {E:Int} (h0:V≠0) (hE:Cj V E≤E) (hi:Ca V E<Dz) :
 flagsOf V E=0∧∃ k:Nat,As (Bc s (Ca V E))=V*2^k∧Ay (Bc s (Ca V E))=E-k:=by
 have hl2:V.log2=V.log2:=rfl
 have ek:kept V E=V*2^(E-Cj V E).toNat:=by
  unfold kept Ke
  have e1:(Cj V E-E).toNat=0:=by omega
  have e2:(-(Cj V E-E)).toNat=(E-Cj V E).toNat:=by omega
  rw [e1,e2,O6]
 have eex:exact V E=true:=by
  unfold exact Nd
  have e1:(Cj V E-E).toNat=0:=by omega
  rw [e1,A2f,Nat.mod_one]; rfl
 constructor
 ·unfold flagsOf flags
  rw [A13 h0,A13 (by omega),eex]; rfl
 ·have hr:Ca V E=(Cj V E+1074).toNat*2^52+kept V E:=by
   unfold Ca at hi ⊢
   rw [A13 h0] at hi ⊢
   omega
  have hk:kept V E<2^53:=by
   rw [ek,← A2x (Hy h0),Lw V _ h0]
   unfold Cj at hE ⊢
   omega
  have hb:2^52≤kept V E∨Cj V E=-1074:=by
   by_cases h:Cj V E=-1074
   ·exact .inr h
   ·left
    refine Aeg h0 ?_
    unfold Cj at h ⊢
    omega
  rw [hr] at hi
  obtain ⟨p1,p2⟩:=Ah5 s hk (by unfold Cj; omega) hb hi
  refine ⟨(E-Cj V E).toNat,?_,?_⟩
  ·rw [hr,p1,ek]
  ·rw [hr,p2]; omega
theorem Agy {V:Nat} {E:Int} (h:V<2^53) (hE:-1074≤E):Cj V E≤E:=by
 by_cases h0:V=0
 ·subst h0; unfold Cj; rw [Nat.log2_zero]; omega
 ·have:=(A2x h0).2 h
  unfold Cj; omega
end Go.Rnd
namespace Go.Rnd
open Go.Den
def Fa (x:Int):Int:=if x=0 then 0 else (x.toNat.log2:Int)+1
def Tc (x y:Int):Int:=((x.toNat*y.toNat / 18446744073709551616:Nat):Int)
def Ob (x y:Int):Int:=((x.toNat*y.toNat%18446744073709551616:Nat):Int)
def Aqe (a b:Int):Bool:=decide (A5 a=4)||decide (A5 b=4)
def Cd (b:Nat):Nat:=52-(As b).log2
def C4 (b:Int):Int:=((As b.toNat*2^Cd b.toNat:Nat):Int)
def Hw (b:Int):Int:=Ay b.toNat-Cd b.toNat
def Ms (b:Int):Bool:=Cz (As b.toNat≠0)
def Pp (m e:Int):Bool:=Cz (1152921504606846976≤m∧m<4611686018427387904∧-6000≤e∧e≤6000)
def C5 (a b:Int):Int:=(Jk a.toNat b.toNat).1
def Ay0 (a b:Int):Int:=(Jk a.toNat b.toNat).2
def E4 (a b:Int):Int:=(T0 a.toNat b.toNat).1
def Ay7 (a b:Int):Int:=(T0 a.toNat b.toNat).2
end Go.Rnd
namespace Go.Rnd
theorem Ac3 (a b:Nat):Gd a b=Gd b a:=by
 unfold Gd
 by_cases ha:Ah a=4
 ·simp only [ha,true_or,or_true,if_true]
 ·by_cases hb:Ah b=4
  ·simp only [hb,true_or,or_true,if_true]
  ·simp only [ha,hb,or_self,if_false]
   by_cases ha3:Ah a=3
   ·by_cases hb3:Ah b=3
    ·simp only [ha3,hb3,if_true,true_and]
     by_cases e:a=b
     ·subst e; rfl
     ·rw [A14 e,A14 (fun h=>e h.symm)]
    ·simp only [ha3,hb3,if_true,if_false,false_and]
   ·by_cases hb3:Ah b=3
    ·simp only [ha3,hb3,if_true,if_false,false_and]
    ·simp only [ha3,hb3,if_false]
     rw [Bool.and_comm,Int.min_comm,Int.add_comm]
theorem Af2 {Y D:Nat} (h:Y%2^D=0):F9 Y D=Y / 2^D:=by unfold F9; rw [A14 h]
theorem Aiq {Y D:Nat} (h:Y%2^D≠0):F9 Y D%2=1:=by unfold F9; rw [A13 h]; omega
theorem Af3 {Y d:Nat} (hY:Y<2^62) (h:Y%2^d≠0):(F9 Y (min d 63)-1)*2^d<Y∧Y<(F9 Y (min d 63)+1)*2^d∧F9 Y (min d 63)%2=1:=by
 have hA:=Cg d
 by_cases hd:d≤63
 ·rw [Nat.min_eq_left hd]
  refine ⟨?_,?_,Aiq h⟩
  all_goals
   unfold F9
   rw [A13 h]
   have h1:=Nat.div_add_mod Y (2^d)
   have h2:=Nat.mod_lt Y hA
   generalize Y / 2^d=q at *
   generalize Y%2^d=r at *
   generalize 2^d=c at *
   rw [A15] at h1
  ·have h3:(2*(q / 2)+1-1)*c≤q*c:=A1t c (by omega)
   omega
  ·have h3:(q+1)*c≤(2*(q / 2)+1+1)*c:=A1t c (by omega)
   rw [A2l,Nat.one_mul] at h3
   omega
 ·rw [Nat.min_eq_right (by omega)]
  have h63:Y%2^63=Y:=A1u (by omega)
  have hd0:Y / 2^63=0:=Nat.div_eq_of_lt (by omega)
  have hY0:Y≠0:=by intro e; rw [e] at h; simp at h
  have hr:F9 Y 63=1:=by unfold F9; rw [h63,A13 hY0,hd0]
  have hp:2^62≤2^d:=A1w (by decide) (by omega)
  rw [hr]
  refine ⟨by simp; omega,by omega,rfl⟩
theorem A0w {d M:Nat} (h:(M*2^9)%2^d≠0):10≤d:=by
 refine Nat.lt_of_not_le fun hle=>h ?_
 obtain ⟨k,hk⟩:∃ k,9=d+k:=⟨9-d,by omega⟩
 rw [hk,A16,A15 (2^d),← A18,Nat.mul_mod_left]
theorem Pn {V m d:Nat} {e f:Int} (hd:e=f+d) (h:V=m*2^d∨(m%2=1∧(m-1)*2^d<V∧V<(m+1)*2^d∧2^60≤m)) :
 Ca m (e-9)=Ca V (f-9)∧flagsOf m (e-9)=flagsOf V (f-9):=by
 rcases h with rfl | ⟨h1,h2,h3,h4⟩
 ·have:=Du m d (e-9)
  have e1:e-9-(d:Int)=f-9:=by omega
  rw [e1] at this
  exact ⟨this.1.symm,this.2.symm⟩
 ·have hm0:m≠0:=by omega
  have hlog:=Q9 h1 (by omega) h2 h3
  have hl60:60≤m.log2:=(Nat.le_log2 hm0).2 h4
  have e1:f-9+(d:Int)=e-9:=by omega
  have hle:Cj V (f-9)=Cj m (f-9+d):=by unfold Cj; rw [hlog]; congr 1; omega
  have hk:f-9+d+2≤Cj m (f-9+d):=by unfold Cj; omega
  obtain ⟨a1,a2⟩:=Q2 h1 h2 h3 hle hk
  rw [e1] at a1 a2
  exact ⟨a1.symm,a2.symm⟩
theorem Aih (V:Nat) (f:Int):Ca (V*2^9) (f-9)=Ca V f∧flagsOf (V*2^9) (f-9)=flagsOf V f:=Du V 9 f
structure Au4 (Mx My d:Nat) (e f:Int) (X r:Nat):Prop where
 plus:Ca (X+r) (e-9)=Ca (Mx*2^d+My) f∧flagsOf (X+r) (e-9)=flagsOf (Mx*2^d+My) f
 less:r<X→My<Mx*2^d∧Ca (X-r) (e-9)=Ca (Mx*2^d-My) f∧flagsOf (X-r) (e-9)=flagsOf (Mx*2^d-My) f
 more:X<r→Mx*2^d<My∧Ca (r-X) (e-9)=Ca (My-Mx*2^d) f∧flagsOf (r-X) (e-9)=flagsOf (My-Mx*2^d) f
 same:X=r→Mx*2^d=My
 small:r≤2^62
theorem Au1 {X My r d p:Nat} {e f:Int} (hd:e=f+d) (comm:X*2^d=p*2^9) (n1:(r-1)*2^d<My*2^9) (n2:My*2^9<r*2^d+2^d) (n3:r%2=1) (hX2:X%2=0) (hX:2^61≤X) (hr:r≤2^53) :
 (Ca (X+r) (e-9)=Ca (p+My) f∧flagsOf (X+r) (e-9)=flagsOf (p+My) f)∧My<p∧Ca (X-r) (e-9)=Ca (p-My) f∧flagsOf (X-r) (e-9)=flagsOf (p-My) f:=by
 have e1:(r-1)*2^d+2^d=r*2^d:=by
  obtain ⟨k,rfl⟩:∃ k,r=k+1:=⟨r-1,by omega⟩
  rw [Nat.add_sub_cancel,A2l,Nat.one_mul]
 have e2:(r+1)*2^d=r*2^d+2^d:=by rw [A2l,Nat.one_mul]
 have hXd:(r+1)*2^d≤X*2^d:=A1t _ (by omega)
 have hlt:My<p:=by rw [e2,comm] at hXd; omega
 have a1:Ca (X+r) (e-9)=Ca ((p+My)*2^9) (f-9)∧flagsOf (X+r) (e-9)=flagsOf ((p+My)*2^9) (f-9):=by
  refine Pn hd (.inr ⟨by omega,?_,?_,by omega⟩)
  ·have h1:X+r-1=X+(r-1):=by omega
   rw [h1,A2l X (r-1) (2^d),A2l p My (2^9),comm]
   exact Nat.add_lt_add_left n1 _
  ·have h1:X+r+1=X+(r+1):=by omega
   rw [h1,A2l X (r+1) (2^d),A2l p My (2^9),comm,e2]
   exact Nat.add_lt_add_left n2 _
 have a2:Ca (X-r) (e-9)=Ca ((p-My)*2^9) (f-9)∧flagsOf (X-r) (e-9)=flagsOf ((p-My)*2^9) (f-9):=by
  rw [e2,comm] at hXd
  refine Pn hd (.inr ⟨by omega,?_,?_,by omega⟩)
  ·have h1:X-r-1=X-(r+1):=by omega
   rw [h1,Nat.sub_mul X (r+1) (2^d),Nat.sub_mul p My (2^9),comm,e2]
   omega
  ·have h1:X-r+1=X-(r-1):=by omega
   rw [h1,Nat.sub_mul X (r-1) (2^d),Nat.sub_mul p My (2^9),comm]
   omega
 rw [(Aih _ f).1,(Aih _ f).2] at a1 a2
 exact ⟨a1,hlt,a2⟩
theorem Ahz {Mx My d:Nat} {e f:Int} (hd:e=f+d) (hx:Mx<2^53) (hy:My<2^53) (hbig:10≤d→2^52≤Mx) :
 Au4 Mx My d e f (Mx*2^9) (F9 (My*2^9) (min d 63)):=by
 have hA:=Cg d
 have hY:My*2^9<2^62:=by omega
 have comm:Mx*2^9*2^d=Mx*2^d*2^9:=by rw [A18,A15 (2^9),← A18]
 have s9:=fun V=>Aih V f
 by_cases hz:(My*2^9)%2^d=0
 ·
  have hr:∃ r,F9 (My*2^9) (min d 63)=r∧My*2^9=r*2^d:=by
   by_cases hd63:d≤63
   ·rw [Nat.min_eq_left hd63]
    exact ⟨_,rfl,by rw [Af2 hz]; exact (Nat.div_mul_cancel (Nat.dvd_of_mod_eq_zero hz)).symm⟩
   ·have hp:2^62≤2^d:=A1w (by decide) (by omega)
    have:My*2^9=0:=by rw [A1u (by omega)] at hz; exact hz
    rw [Nat.min_eq_right (by omega),this]
    exact ⟨0,by decide,by omega⟩
  obtain ⟨r,hr,hYr⟩:=hr
  rw [hr]
  have hle:r≤2^62:=by
   have:r*1≤r*2^d:=Nat.mul_le_mul_left r hA
   omega
  have cmp:∀ x y:Nat,x*2^d<y*2^d↔x<y:=fun x y=>Nat.mul_lt_mul_right hA
  refine ⟨?_,fun h=>?_,fun h=>?_,fun h=>?_,hle⟩
  ·rw [← (s9 _).1,← (s9 _).2]
   exact Pn hd (.inl (by rw [A2l (Mx*2^d) My (2^9),A2l (Mx*2^9) r (2^d),comm,hYr]))
  ·have h1:=(cmp r (Mx*2^9)).2 h
   refine ⟨by omega,?_⟩
   rw [← (s9 _).1,← (s9 _).2]
   exact Pn hd (.inl (by first | rw [Nat.sub_mul (Mx*2^d) My (2^9),Nat.sub_mul (Mx*2^9) r (2^d),comm,hYr] | rw [Nat.sub_mul My (Mx*2^d) (2^9),Nat.sub_mul r (Mx*2^9) (2^d),comm,hYr]))
  ·have h1:=(cmp (Mx*2^9) r).2 h
   refine ⟨by omega,?_⟩
   rw [← (s9 _).1,← (s9 _).2]
   exact Pn hd (.inl (by first | rw [Nat.sub_mul (Mx*2^d) My (2^9),Nat.sub_mul (Mx*2^9) r (2^d),comm,hYr] | rw [Nat.sub_mul My (Mx*2^d) (2^9),Nat.sub_mul r (Mx*2^9) (2^d),comm,hYr]))
  ·rw [← h] at hYr
   omega
 ·
  have hd10:=A0w hz
  have hMx:=hbig hd10
  obtain ⟨n1,n2,n3⟩:=Af3 hY hz
  have hrle:F9 (My*2^9) (min d 63)≤2^53:=by
   refine Nat.le_of_not_lt fun h=>?_
   have h1:2^53*2^d≤(F9 (My*2^9) (min d 63)-1)*2^d:=A1t _ (by omega)
   have h2:2^10≤2^d:=A1w (by decide) hd10
   have h3:2^53*2^10≤2^53*2^d:=Nat.mul_le_mul_left _ h2
   omega
  generalize F9 (My*2^9) (min d 63)=r at *
  have hr1:1≤r:=by omega
  have e1:(r-1)*2^d+2^d=r*2^d:=by
   obtain ⟨k,rfl⟩:∃ k,r=k+1:=⟨r-1,by omega⟩
   rw [Nat.add_sub_cancel,A2l,Nat.one_mul]
  have e2:(r+1)*2^d=r*2^d+2^d:=by rw [A2l,Nat.one_mul]
  rw [e2] at n2
  have hXr:r<Mx*2^9:=by omega
  have hXd:(r+1)*2^d≤Mx*2^9*2^d:=A1t _ (by omega)
  rw [e2,comm] at hXd
  obtain ⟨p1,p2,p3⟩:=Au1 hd comm n1 n2 n3 (by omega) (by omega) hrle
  exact ⟨p1,fun _=>⟨p2,p3⟩,fun h=>by omega,fun h=>by omega,by omega⟩
theorem Xg (n:Bool) (m:Nat) (e:Int):Gr n m e false=(Bc n (Ca m e),flagsOf m e):=by
 unfold Gr
 have:=Du m 2 e
 have e1:m*2^2=4*m+false.toNat:=by simp; omega
 have e2:e-((2:Nat):Int)=e-2:=by omega
 rw [e1,e2] at this
 rw [this.1,this.2]
theorem Ky (E:Int):Ca 0 E=0:=A14 rfl
theorem Qe (E:Int):flagsOf 0 E=0:=A14 rfl
theorem I3 {b:Nat} (h:Ig b=true):Ah b≠4∧Ah b≠3:=by
 unfold Ig at h
 simp only [A1o] at h
 unfold Ah
 rw [A13 (by omega)]
 split
 ·omega
 ·split<;>omega
theorem Ab1 {b:Nat} (h:-1064≤Ay b):2^52≤As b:=by
 unfold Ay at h
 unfold As
 split at h
 ·omega
 ·rw [A13 (by assumption)]; omega
theorem Px (z:Nat) (s:Bool) {V:Nat} (hV:V≠0) (f:Int):Kd z (H9 s V) f=(Bc s (Ca V f),flagsOf V f):=by
 unfold Kd H9
 cases s
 ·have h1:¬ (V:Int)=0:=by omega
  have h2:¬ (V:Int)<0:=by omega
  simp only [Bool.false_eq_true,if_false,h1,h2,decide_false,Int.natAbs_natCast]
 ·have h1:¬ -(V:Int)=0:=by omega
  have h2:-(V:Int)<0:=by omega
  simp only [if_true,h1,if_false,h2,decide_true,Int.natAbs_neg,Int.natAbs_natCast]
theorem Au2 {p q X r:Nat} {e f:Int} (s t:Bool)
 (plus:Ca (X+r) e=Ca (p+q) f∧flagsOf (X+r) e=flagsOf (p+q) f)
 (less:r<X→q<p∧Ca (X-r) e=Ca (p-q) f∧flagsOf (X-r) e=flagsOf (p-q) f)
 (more:X<r→p<q∧Ca (r-X) e=Ca (q-p) f∧flagsOf (r-X) e=flagsOf (q-p) f)
 (same:X=r→p=q) :
 Kd (Bc (s&&t) 0) (H9 s p+H9 t q) f=(if s=t then Gr s (X+r) e false
  else if r<X then Gr s (X-r) e false
  else if X<r then Gr t (r-X) e false
  else (0,0)):=by
 simp only [Xg]
 by_cases hs:s=t
 ·rw [A14 hs,← hs]
  have hsum:H9 s p+H9 s q=H9 s (p+q):=by unfold H9; cases s<;>simp<;>omega
  rw [hsum,plus.1,plus.2]
  by_cases h0:p+q=0
  ·rw [h0,Ky,Qe]
   unfold Kd
   have:H9 s 0=0:=by unfold H9; cases s<;>rfl
   rw [A14 this,A1n]
  ·exact Px _ _ h0 _
 ·rw [A13 hs]
  by_cases h1:r<X
  ·obtain ⟨c1,c2,c3⟩:=less h1
   rw [A14 h1,c2,c3]
   have hsum:H9 s p+H9 t q=H9 s (p-q):=by
    unfold H9; cases s<;>cases t<;>simp at hs ⊢<;>omega
   rw [hsum]
   exact Px _ _ (by omega) _
  ·rw [A13 h1]
   by_cases h2:X<r
   ·obtain ⟨c1,c2,c3⟩:=more h2
    rw [A14 h2,c2,c3]
    have hsum:H9 s p+H9 t q=H9 t (q-p):=by
     unfold H9; cases s<;>cases t<;>simp at hs ⊢<;>omega
    rw [hsum]
    exact Px _ _ (by omega) _
   ·rw [A13 h2]
    have c:=same (by omega)
    have hsum:H9 s p+H9 t q=0:=by
     unfold H9; cases s<;>cases t<;>simp at hs ⊢<;>omega
    have hz:(s&&t)=false:=by cases s<;>cases t<;>simp at hs ⊢
    rw [hsum,hz]
    rfl
theorem Asd {a b:Nat} (ha:Ig a=true) (hb:Ig b=true) :
 Gd a b=Kd (Bc (Bk a&&Bk b) 0) (Fs a (min (Ay a) (Ay b))+Fs b (min (Ay a) (Ay b))) (min (Ay a) (Ay b)):=by
 have k1:=I3 ha
 have k2:=I3 hb
 unfold Gd
 rw [A13 (fun h=>h.elim k1.1 k2.1),A13 k1.2,A13 k2.2]
theorem Ah6 (b:Nat):Fs b (Ay b)=H9 (Bk b) (As b):=by
 unfold Fs; rw [Int.sub_self,Int.toNat_zero,A2f,A2q]
theorem Aoo {b:Nat} {f:Int} {d:Nat} (h:Ay b=f+d):Fs b f=H9 (Bk b) (As b*2^d):=by
 unfold Fs
 have:(Ay b-f).toNat=d:=by omega
 rw [this]
theorem Ahy {a b:Nat} (ha:Ig a=true) (hb:Ig b=true) {d:Nat} (hd:Ay a=Ay b+d) :
 Gd a b=(if Bk a=Bk b then Gr (Bk a) (As a*2^9+F9 (As b*2^9) (min d 63)) (Ay a-9) false
  else if F9 (As b*2^9) (min d 63)<As a*2^9 then Gr (Bk a) (As a*2^9-F9 (As b*2^9) (min d 63)) (Ay a-9) false
  else if As a*2^9<F9 (As b*2^9) (min d 63) then Gr (Bk b) (F9 (As b*2^9) (min d 63)-As a*2^9) (Ay a-9) false
  else (0,0)):=by
 have hx:=Ff a
 have hy:=Ff b
 have C:=Ahz (Mx:=As a) (My:=As b) hd hx hy (fun h=>Ab1 (by have:=D6 b; omega))
 rw [Asd ha hb,Int.min_eq_right (by omega),Ah6,Aoo hd]
 exact Au2 _ _ C.plus C.less C.more C.same
theorem Sa {b:Nat} (h:b<2^64):Gb b<2^64:=by unfold Gb; split<;>omega
theorem Ajk (m:Nat) (e:Int):flagsOf m e<32:=by
 unfold flagsOf flags
 split
 ·decide
 ·split
  ·decide
  ·split
   ·decide
   ·split<;>decide
theorem Qp {a b:Nat} (ha:a<2^64) (hb:b<2^64):(Gd a b).1<2^64∧(Gd a b).2<32:=by
 unfold Gd
 split
 ·exact ⟨by decide,by decide⟩
 ·split
  ·split
   ·decide
   ·exact ⟨ha,(by decide:0<32)⟩
  ·split
   ·exact ⟨hb,(by decide:0<32)⟩
   ·unfold Kd
    split
    ·refine ⟨?_,(by decide:0<32)⟩
     unfold Bc; split<;>decide
    ·exact ⟨Ul _ _ _,Ajk _ _⟩
end Go.Rnd
namespace Go.Rnd
open Go.Den
def Bv (r c:Nat) (f:Nat→Nat→Int):List Int:=(List.range (r*c)).map fun j=>f (j / c) (j%c)
theorem Cc (r c:Nat) (f:Nat→Nat→Int):(Bv r c f).length=r*c:=by unfold Bv; rw [A2n,A2k]
theorem K3 {r c i k:Nat} (hi:i<r) (hk:k<c):i*c+k<r*c:=by
 have:(i+1)*c≤r*c:=A1t c hi
 rw [A2l,Nat.one_mul] at this
 omega
theorem Wb {c i k:Nat} (hk:k<c):(i*c+k) / c=i∧(i*c+k)%c=k:=by
 constructor
 ·rw [A15,Nat.mul_add_div (by omega),Nat.div_eq_of_lt hk,A2p]
 ·rw [A15,Nat.mul_add_mod,A1u hk]
theorem Im {r c:Nat} {f:Nat→Nat→Int} {j:Nat} (h:j<r*c):(Bv r c f)[j]?=some (f (j / c) (j%c)):=by
 unfold Bv
 rw [A2y,List.getElem?_range h]
 rfl
theorem Arb {r c i k:Nat} {f:Nat→Nat→Int} (hi:i<r) (hk:k<c):(Bv r c f).getD (i*c+k) 0=f i k:=by
 obtain ⟨d1,d2⟩:=Wb (i:=i) hk
 rw [A1r,Im (K3 hi hk),d1,d2]
 rfl
theorem Vg {l m:List Int} (h:l.length=m.length) (he:∀ j,j<l.length→l[j]?=m[j]?):l=m:=by
 refine List.ext_getElem? fun j=>?_
 by_cases hj:j<l.length
 ·exact he j hj
 ·rw [A2z (by omega),A2z (by omega)]
theorem Ed {r c:Nat} {f g:Nat→Nat→Int} (h:∀ i k,i<r→k<c→f i k=g i k):Bv r c f=Bv r c g:=by
 refine Vg (by rw [Cc,Cc]) fun j hj=>?_
 rw [Cc] at hj
 have hc:0<c:=by
  rcases Nat.eq_zero_or_pos c with h0 | h0
  ·subst h0; rw [Nat.mul_zero] at hj; omega
  ·exact h0
 rw [Im hj,Im hj,h (j / c) (j%c) ((Nat.div_lt_iff_lt_mul hc).2 hj) (Nat.mod_lt _ hc)]
theorem Ano {r c:Nat} {l:List Int} (h:l.length=r*c):l=Bv r c fun i k=>l.getD (i*c+k) 0:=by
 refine Vg (by rw [Cc,h]) fun j hj=>?_
 rw [Im (by omega)]
 have e:j / c*c+j%c=j:=by rw [A15]; exact Nat.div_add_mod j c
 rw [e,A1r,A1y hj]
 rfl
theorem Vl {r c i k:Nat} {f:Nat→Nat→Int} (hk:k<c) (x:Int) :
 (Bv r c f).set (i*c+k) x=Bv r c fun a b=>if a=i∧b=k then x else f a b:=by
 refine Vg (by rw [List.length_set,Cc,Cc]) fun j hj=>?_
 rw [List.length_set,Cc] at hj
 obtain ⟨d1,d2⟩:=Wb (i:=i) hk
 rw [Im hj,List.getElem?_set]
 by_cases h:i*c+k=j
 ·subst h
  rw [A14 rfl,A14 (by rw [Cc]; exact hj),d1,d2,A14 ⟨rfl,rfl⟩]
 ·rw [A13 h,Im hj,A13]
  rintro ⟨h1,h2⟩
  exact h (by rw [← h1,← h2,A15]; exact Nat.div_add_mod j c)
theorem Nc (r c:Nat) (f:Nat→Nat→Int):Bv (r+1) c f=Bv r c f++(List.range c).map (f r):=by
 unfold Bv
 rw [A2l,Nat.one_mul,List.range_add,List.map_append,List.map_map]
 congr 1
 refine List.map_congr_left fun k hk=>?_
 have hk:=List.mem_range.1 hk
 obtain ⟨d1,d2⟩:=Wb (i:=r) hk
 show f ((r*c+k) / c) ((r*c+k)%c)=f r k
 rw [d1,d2]
theorem K8 (c:Nat) (f:Nat→Nat→Int):Bv 0 c f=[]:=by
 unfold Bv; rw [Nat.zero_mul]; rfl
theorem He (k:Nat) (g:Nat→Int):(List.range (k+1)).map g=(List.range k).map g++[g k]:=by
 rw [List.range_succ,List.map_append]; rfl
theorem Qb (r c:Nat):Bv r c (fun _ _=>0)=List.replicate (r*c) 0:=by
 unfold Bv
 rw [List.map_const',A2k]
def Aar:Nat→List Int→List Int→Nat
 | s,x::xs,y::ys=>Aar (Gd s (Jk x.toNat y.toNat).1).1 xs ys
 | s,_,_=>s
def Je (x y:List Int):Int:=Aar 0 x y
theorem Oa {a b:Nat}:(Jk a b).1<2^64:=by
 unfold Jk
 split
 ·decide
 ·split
  ·split
   ·decide
   ·unfold Bc; split<;>decide
  ·exact Ul _ _ _
theorem Aen:∀ (x y:List Int) (s:Nat),s<2^64→Aar s x y<2^64
 | x::xs,y::ys,s,h=>Aen xs ys _ (Qp h Oa).1
 | [],_,_,h=>by unfold Aar; exact h
 | _::_,[],_,h=>by unfold Aar; exact h
end Go.Rnd
namespace Go.Rnd
open Go.Den
def Bh (n:Int):Bool:=decide (0≤n)&&decide (n≤6)
def A2 (r c:Int) (l:List Int):Bool:=(Bh r&&Bh c)&&decide ((l.length:Int)=r*c)
def Lb (r c:Int) (l:List Int):Int:=if A2 r c l=true then 0 else 1
def Yo (r c:Int) (l:List Int) (p q:Int) (m:List Int):Int:=if (A2 r c l&&A2 p q m)=true then 0 else 1
def C0 (_r c:Int) (l:List Int) (i k:Int):Bool:=Cz (0≤i∧i<10∧0≤k∧k<10∧0≤c∧c<10∧i*c+k<l.length∧l.length<1000)
def Eb (c:Int) (l:List Int) (i k:Int):Int:=l.getD (i*c+k).toNat 0
def N3 (i k:Int):Int:=if i=k then 4607182418800017408 else 0
def V3 (x y i k:Int):Bool:=Cz (0≤x∧x<10∧0≤y∧y<10∧0≤i∧i<10∧0≤k∧k<10)
def Ic (r c x y a b:Int):Bool:=decide (0≤x∧0≤y∧0≤a∧0≤b∧x≤r∧y≤c∧a≤r-x∧b≤c-y)
def Nj (r c:Int) (l:List Int) (p q:Int) (m:List Int) (i k:Int):Bool:=Cz (0≤r∧r<10∧0≤i∧i<20∧(if i<r then C0 r c l i k=true else C0 p q m (i-r) k=true))
def Ji (r c:Int) (l:List Int) (q:Int) (m:List Int) (i k:Int):Int:=if i<r then Eb c l i k else Eb q m (i-r) k
def Pw (r c:Int) (l:List Int) (i:Int):Bool:=A2 r c l&&Cz (0≤i∧i<r)
def Hj (r c:Int) (l:List Int) (k:Int):Bool:=A2 r c l&&Cz (0≤k∧k<c)
def Tr (r c:Int) (l:List Int) (p q:Int) (m:List Int) (i k:Int):Bool:=(Pw r c l i&&Hj p q m k)&&((Ai l&&Ai m)&&Cz (c=p))
def G6 (c:Int) (l:List Int) (i:Int):List Int:=List.drop (i*c).toNat (List.take ((i+1)*c).toNat l)
def Kv (r c:Int) (l:List Int) (k:Int):List Int:=(List.range r.toNat).map fun j:Nat=>Eb c l (j:Int) k
abbrev MX:=Int × Int × List Int × Int
def Ls (e:Int):MX:=(0,0,[],e)
def C1 (a b:Int):MX:=if (Bh a&&Bh b)=true then (a,b,Bv a.toNat b.toNat fun _ _=>0,0) else Ls 3
def Nt (n:Int):MX:=if Bh n=true then (n,n,Bv n.toNat n.toNat fun i k=>N3 i k,0) else Ls 3
def Fe (r c:Int) (l:List Int):MX:=if A2 r c l=true then (c,r,Bv c.toNat r.toNat fun i k=>Eb c l k i,0) else Ls 1
def Hu (r c:Int) (l:List Int) (x y a b:Int):MX :=
 if A2 r c l=true then (if Ic r c x y a b=true then (a,b,Bv a.toNat b.toNat fun i k=>Eb c l (x+i) (y+k),0) else Ls 3) else Ls 1
def N2 (r c:Int) (l:List Int) (p q:Int) (m:List Int):MX :=
 if (A2 r c l&&A2 p q m)=true then (if c=p then (r,q,Bv r.toNat q.toNat fun i k=>Je (G6 c l i) (Kv p q m k),0) else Ls 3) else Ls 1
def D5 (r c:Int) (l:List Int) (p q:Int) (m:List Int):MX :=
 if (A2 r c l&&A2 p q m)=true then (if c=q∧r+p≤6 then (r+p,c,Bv (r+p).toNat c.toNat fun i k=>Ji r c l q m i k,0) else Ls 3) else Ls 1
def Pk (x y:List Int):Bool:=decide (x.length=y.length)&&decide (x.length≤64)
def A04 (l:List Int):Bool:=Cz (l.length≤17592186044416)
theorem Iw {n:Int}:Bh n=true↔0≤n∧n≤6:=by unfold Bh; simp
theorem Il {r c:Int} {l:List Int}:A2 r c l=true↔(0≤r∧r≤6)∧(0≤c∧c≤6)∧(l.length:Int)=r*c:=by
 unfold A2
 rw [A1s,A1s,Iw,Iw,A1o,and_assoc]
theorem Ci {r c:Int} {l:List Int} (h:A2 r c l=true):∃ R C:Nat,r=R∧c=C∧R≤6∧C≤6∧l.length=R*C:=by
 obtain ⟨h1,h2,h3⟩:=Il.1 h
 refine ⟨r.toNat,c.toNat,by omega,by omega,by omega,by omega,?_⟩
 have:(((r.toNat*c.toNat:Nat)):Int)=r*c:=by rw [A12,Int.toNat_of_nonneg h1.1,Int.toNat_of_nonneg h2.1]
 omega
theorem Ew {n:Int} (h:Bh n=true):∃ R:Nat,n=R∧R≤6:=by
 have:=Iw.1 h
 exact ⟨n.toNat,by omega,by omega⟩
theorem Mn {n:Nat} (h:n≤6):Bh (n:Int)=true:=Iw.2 ⟨by omega,by omega⟩
theorem Ft {r c:Nat} {l:List Int} (hr:r≤6) (hc:c≤6) (hl:l.length=r*c):A2 (r:Int) (c:Int) l=true :=
 Il.2 ⟨⟨by omega,by omega⟩,⟨by omega,by omega⟩,by rw [hl,A12]⟩
theorem Sq (c:Nat) (l:List Int) (i k:Nat):Eb (c:Int) l (i:Int) (k:Int)=l.getD (i*c+k) 0:=by
 unfold Eb
 have:((i:Int)*(c:Int)+(k:Int)).toNat=i*c+k:=by
  rw [← A12,← Int.natCast_add,A1j]
 rw [this]
theorem D1 {r c i k:Nat} {R:Int} {l:List Int} (hr:r≤6) (hc:c≤6) (hl:l.length=r*c) (hi:i<r) (hk:k<c):C0 R (c:Int) l (i:Int) (k:Int)=true:=by
 have:=K3 hi hk
 have h36:=A2d hr hc
 refine Ar.2 ⟨by omega,by omega,by omega,by omega,by omega,by omega,?_,by omega⟩
 rw [← A12]
 omega
theorem Auc {r c i k:Nat} {f:Nat→Nat→Int} (hi:i<r) (hk:k<c):Eb (c:Int) (Bv r c f) (i:Int) (k:Int)=f i k:=by
 rw [Sq,Arb hi hk]
theorem Qa {r c:Nat} (f:Nat→Nat→Int) (hr:r≤6) (hc:c≤6):A2 (r:Int) (c:Int) (Bv r c f)=true:=Ft hr hc (Cc r c f)
theorem Wq {r c:Nat} {l:List Int} (h:l.length=r*c):(Bv r c fun i k=>Eb (c:Int) l (i:Int) (k:Int))=l:=by
 conv=>rhs; rw [Ano h]
 exact Ed fun i k _ _=>Sq c l i k
theorem Qm {l:List Int} (h:Ai l=true) {j:Nat} (hj:j<l.length):Af (l.getD j 0)=true:=by
 have h:=Ar.1 h
 rw [A1r,A1y hj]
 exact h _ (List.getElem_mem hj)
end Go.Rnd
namespace Go.Rnd
theorem M7 {b:Nat} (h:b<2^64):Bc (Bk b) (b%2^63)=b:=by
 unfold Bc Bk
 by_cases hb:2^63≤b
 ·simp only [hb,decide_true,if_true]; omega
 ·simp only [hb,decide_false,Bool.false_eq_true,if_false]; omega
theorem Aag {b:Nat} (h:b<2^64) (h4:Ah b≠4):Bc (Bk b) (Ca (As b) (Ay b))=b:=by
 rw [O3 h4,M7 h]
theorem Ans {b:Nat} (h3:Ah b≠3) (h4:Ah b≠4):flagsOf (As b) (Ay b)=0:=by
 by_cases h0:As b=0
 ·rw [h0]; exact Qe _
 ·have h1:=Ff b
  have h2:=D6 b
  have h5:=Vj h3 h4
  exact (Ajp false h0 (Agy (by omega) h2.1) (by rw [O3 h4]; exact h5)).1
theorem mul_pow {a p:Nat} (a3:Ah a≠3) (a4:Ah a≠4) (p3:Ah p≠3) (p4:Ah p≠4) (hp:As p=2^52) (hn:Bk p=false) :
 Jk a p=(Bc (Bk a) (Ca (As a) (Ay a+Ay p+52)),flagsOf (As a) (Ay a+Ay p+52)):=by
 obtain ⟨s1,s2⟩:=Du (As a) 52 (Ay a+Ay p+52)
 have e:Ay a+Ay p+52-((52:Nat):Int)=Ay a+Ay p:=by omega
 rw [e] at s1 s2
 have e2:(Bk a !=false)=Bk a:=by cases Bk a<;>rfl
 unfold Jk
 rw [A13 (by omega),A13 (by omega),hp,hn,s1,s2,e2]
theorem Apy:As 4607182418800017408=2^52∧Ay 4607182418800017408=-52∧Ah 4607182418800017408=2∧Bk 4607182418800017408=false:=by decide +kernel
theorem mul_one {a:Nat} (h:a<2^64) (a3:Ah a≠3) (a4:Ah a≠4):Jk a 4607182418800017408=(a,0):=by
 obtain ⟨o1,o2,o3,o4⟩:=Apy
 have e:Ay a+-52+52=Ay a:=by omega
 rw [mul_pow a3 a4 (by omega) (by omega) o1 o4,o2,e,Aag h a4,Ans a3 a4]
end Go.Rnd
namespace Go.Rnd
open Go.Den
theorem Ga (n:Bool):Ah (Bc n 0)=0∧As (Bc n 0)=0∧Ay (Bc n 0)=-1074:=by
 cases n<;>decide +kernel
theorem Qn {s:Nat} (hs:s<2^64) (k3:Ah s≠3) (k4:Ah s≠4) (hn:s≠2^63) (n:Bool):(Gd s (Bc n 0)).1=s:=by
 obtain ⟨z1,z2,z3⟩:=Ga n
 have he:=D6 s
 have em:min (Ay s) (Ay (Bc n 0))=-1074:=by rw [z3]; omega
 rw [Rt (by omega) k3 (by omega),em]
 have vz:Fs (Bc n 0) (-1074)=0:=by
  unfold Fs
  rw [z2,Nat.zero_mul]
  cases Bk (Bc n 0)<;>rfl
 rw [vz,Int.add_zero]
 have hw:=O3 k4
 by_cases h0:As s=0
 ·have vs:Fs s (-1074)=0:=by
   unfold Fs
   rw [h0,Nat.zero_mul]
   cases Bk s<;>rfl
  rw [h0,Ky] at hw
  have s0:s=0:=by omega
  unfold Kd
  rw [vs,A14 rfl,s0]
  cases n<;>rfl
 ·obtain ⟨d,hd⟩:∃ d:Nat,Ay s=-1074+(d:Int):=⟨(Ay s+1074).toNat,by omega⟩
  have e1:(Ay s - -1074).toNat=d:=by omega
  unfold Fs
  rw [e1,Px _ _ (Hy h0)]
  have:=(Du (As s) d (Ay s)).1
  have e2:Ay s-(d:Int)=-1074:=by omega
  rw [e2] at this
  rw [this]
  exact Aag hs k4
theorem Ai2 {b:Nat} (k3:Ah b≠3) (k4:Ah b≠4):(Jk 0 b).1=Bc (Bk b) 0:=by
 have z:Ah 0=0∧As 0=0∧Bk 0=false:=by decide
 unfold Jk
 rw [A13 (by omega),A13 (by omega),z.2.1,Nat.zero_mul,Ky,z.2.2]
 cases Bk b<;>rfl
structure Good (x:Int):Prop where
 word:Af x=true
 k3:Ah x.toNat≠3
 k4:Ah x.toNat≠4
 ne:x.toNat≠2^63
theorem Ub {x:Int} (h:Af x=true):x.toNat<2^64:=by
 have:=Ar.1 h
 omega
end Go.Rnd
namespace Go.Rnd
open Go.Den
theorem Wp (n:Nat):Ig n=!(decide (Ah n=3)||decide (Ah n=4)):=by
 have:=I9 n
 unfold Ig Ah
 by_cases h:Db n=2047
 ·by_cases h2:Cm n=0<;>simp [h,h2]
 ·have h3:Db n<2047:=by omega
  by_cases h4:0<Db n
  ·simp [h,h3,h4]
  ·by_cases h5:0<Cm n<;>simp [h,h3,h4,h5]
theorem Aki (s:Bool) (m:Nat):(H9 s m).natAbs=m:=by unfold H9; split<;>omega
end Go.Rnd
namespace Go.Rnd
open Go.Den
def pw (k:Nat):Nat:=(k+1023)*2^52
theorem Zg {k:Nat} (h:k≤1023):As (pw k)=2^52∧Ay (pw k)=(k:Int)-52∧Ah (pw k)=2∧pw k%2^63=pw k∧pw k<Dz:=by
 have hp:Db (pw k)=k+1023:=by unfold Db pw; omega
 have hf:Cm (pw k)=0:=by unfold Cm pw; omega
 refine ⟨?_,?_,?_,?_,?_⟩
 ·unfold As; rw [hp,hf,A13 (by omega)]
 ·unfold Ay; rw [hp,A13 (by omega)]; omega
 ·unfold Ah; rw [hp,A13 (by omega),A14 (by omega)]
 ·unfold pw; omega
 ·rw [Fb]; unfold pw; omega
def Agm (a:Nat):Nat:=Ie a (-1074)
theorem Akp {k:Nat} (h:k≤1023):Agm (pw k)=2^(k+1074):=by
 obtain ⟨h1,h2,_⟩:=Zg h
 unfold Agm Ie
 rw [h1,h2,← A16]
 congr 1; omega
theorem Ako {k:Nat} (h:k≤1023):Ca (2^(k+1074)) (-1074)=pw k:=by
 obtain ⟨h1,h2,h3,h4,_⟩:=Zg h
 have:=Nq (b:=pw k) (f:=-1074) (by omega) (by omega)
 rw [h4] at this
 rw [← this,← Akp h]; rfl
def Bd (k:Nat) (a:Nat):Prop:=Ah a≠3∧Ah a≠4∧Agm a≤2^(k+1074)
theorem Bd.Aky {k a:Nat} (hk:k≤1023) (h4:Ah a≠4) (h:a%2^63≤pw k):Bd k a:=by
 obtain ⟨p1,p2,p3,p4,p5⟩:=Zg hk
 have h3:Ah a≠3:=fun e=>by have:=Sg e; omega
 refine ⟨h3,h4,?_⟩
 have ha:=D6 a
 rcases A2e (Agm (pw k)) (Agm a) with g | g
 ·have:=(Ai9 (f:=-1074) (by omega) h4 (by omega) ha.1).1 g
  omega
 ·rw [Akp hk] at g; exact g
theorem Acf (s:Bool) (V:Nat) (E:Int):Ah (Bc s (Ca V E))≠4:=by
 have h:=Jq V E
 rw [Fb] at h
 have hp:=Wa s (r:=Ca V E) (by omega)
 have hf:=Tw s (Ca V E)
 unfold Ah
 rw [hp,hf]
 split
 ·split
  ·omega
  ·omega
 ·split
  ·omega
  ·split<;>omega
theorem Bd.Ca {k:Nat} (s:Bool) {V:Nat} {E:Int} (hk:k≤1023) (h:Ca V E≤pw k):Bd k (Bc s (Ca V E)):=by
 refine .Aky hk (Acf s V E) ?_
 have:=Ps V E
 have e:Bc s (Go.Rnd.Ca V E)%2^63=Go.Rnd.Ca V E:=by unfold Bc; split<;>omega
 rw [e]; exact h
theorem Bd.zero (s:Bool) (k:Nat):Bd k (Bc s 0):=by
 have:Ah (Bc s 0)=0∧Agm (Bc s 0)=0:=by cases s<;>decide +kernel
 exact ⟨by omega,by omega,by rw [this.2]; exact Nat.zero_le _⟩
theorem Agl (a:Nat):(Fs a (-1074)).natAbs=Agm a:=by
 unfold Fs Agm Ie
 rw [Aki]
theorem Bd.add {k a b:Nat} (hk:k+1≤1023) (ha:Bd k a) (hb:Bd k b):Bd (k+1) (Gd a b).1:=by
 obtain ⟨a3,a4,am⟩:=ha
 obtain ⟨b3,b4,bm⟩:=hb
 have pa:=D6 a
 have pb:=D6 b
 have ek:=Alz a3 a4 b3 b4 (g:=-1074) (by omega)
 have e4:Ah (Gd a b).1≠4:=by
  rw [Rt (by omega) a3 b3]
  unfold Kd
  split
  ·have:Ah (Bc (Bk a&&Bk b) 0)=0:=by cases (Bk a&&Bk b)<;>decide
   show Ah (Bc (Bk a&&Bk b) 0)≠4
   omega
  ·exact Acf _ _ _
 refine .Aky hk e4 ?_
 have hs:(Fs a (-1074)+Fs b (-1074)).natAbs≤2^(k+1+1074):=by
  have h1:=Agl a
  have h2:=Agl b
  have:2^(k+1+1074)=2^(k+1074)+2^(k+1074):=by rw [show k+1+1074=k+1074+1 by omega,Nat.pow_succ]; omega
  omega
 have hr:=Kz (E:=-1074) hs
 rw [Ako hk] at hr
 have hn:(Gw (Gd a b).1).natAbs=(Gd a b).1%2^63:=by unfold Gw; rw [Aki]
 rw [← hn,ek]
 unfold Af1
 split<;>omega
theorem Bd.any {a:Nat} (h:Ig a=true):Ah a≠3∧Ah a≠4:=⟨(I3 h).2,(I3 h).1⟩
end Go.Rnd
end
