/- A verified evaluator of the program's form and its use for this seat: Den33, Den34, Den35, Den36, Den37, Den38, Bits. -/
import Derived.Test.YtjbokjpbiobjpaaGreatTC
import Derived.KernelRfl
import Derived.Laws.StructEq
import Derived.Laws.Externs
import Derived.ChangeKeysEq
import Derived.IntWalk
set_option linter.unusedVariables false
set_option linter.unusedSimpArgs false
noncomputable section
open Int (toNat)
open List (length getD)
namespace Go.Den
open Go.RowKit (Below)
inductive AT where
 | b
 | i (k:IntKind)
 | s (k:IntKind)
 | fl
 | nb
 | st (l:List AT)
 | fn (g:FuncId) (l:List AT)
 | fm (g:FuncId) (l:List AT)
 | cp (l:List AT)
 | rs (sz:Nat) (l:List (List AT))
inductive Atom where
 | b (x:Bool)
 | i (x:Int)
 | l (x:List Int)
 | f (x:Nat)
def Ahh:AT→DV→Option Atom
 | .b,.bool x=>some (.b x)
 | .i k,.int k' x=>bif decide (k=k') then some (.i x) else none
 | .s _,.nil=>some (.l [])
 | .s k,.ints .arg k' l=>bif decide (k=k') then some (.l l) else none
 | .fl,.fl n=>some (.f n)
 | .nb,.nb n=>some (.f n)
 | _,_=>none
def Wu:List AT→List DV→Option (List Atom)
 | [],[]=>some []
 | t::ts,d::ds=>match Ahh t d with
   | some a=>match Wu ts ds with
     | some as=>some (a::as)
     | none=>none
   | none=>none
 | _,_=>none
def Sx:List AT→List DV→Option (List Atom)
 | [],[]=>some []
 | .cp l::ts,.cellp cs::ds=>match Wu l cs with
   | some as=>match Sx ts ds with
     | some bs=>some (as++bs)
     | none=>none
   | none=>none
 | .st l::ts,.agg cs::ds=>match Wu l cs with
   | some as=>match Sx ts ds with
     | some bs=>some (as++bs)
     | none=>none
   | none=>none
 | t::ts,d::ds=>match Ahh t d with
   | some a=>match Sx ts ds with
     | some bs=>some (a::bs)
     | none=>none
   | none=>none
 | _,_=>none
def Ael:List (List AT)→List (List DV)→Option (List Atom)
 | [],[]=>some []
 | l::ls,cs::rows=>match Wu l cs with
   | some as=>match Ael ls rows with
     | some bs=>some (as++bs)
     | none=>none
   | none=>none
 | _,_=>none
def Mu:List AT→List DV→Option (List Atom)
 | [],[]=>some []
 | .rs sz ls::ts,.recs .arg sz' rows::ds=>bif Nat.beq sz sz' then
  match Ael ls rows with
  | some as=>match Mu ts ds with
    | some bs=>some (as++bs)
    | none=>none
  | none=>none
   else none
 | .fm g l::ts,.fn g' fs []::ds=>bif Nat.beq g g' then
  match Sx l fs with
  | some as=>match Mu ts ds with
    | some bs=>some (as++bs)
    | none=>none
  | none=>none
   else none
 | .fn g l::ts,.fn g' [] cs::ds=>bif Nat.beq g g' then
  match Sx l cs with
  | some as=>match Mu ts ds with
    | some bs=>some (as++bs)
    | none=>none
  | none=>none
   else none
 | .cp l::ts,.cellp cs::ds=>match Sx l cs with
   | some as=>match Mu ts ds with
     | some bs=>some (as++bs)
     | none=>none
   | none=>none
 | .st l::ts,.agg cs::ds=>match Sx l cs with
   | some as=>match Mu ts ds with
     | some bs=>some (as++bs)
     | none=>none
   | none=>none
 | t::ts,d::ds=>match Ahh t d with
   | some a=>match Mu ts ds with
     | some bs=>some (a::bs)
     | none=>none
   | none=>none
 | _,_=>none
inductive F0:List AT→List Atom→List DV→Prop
 | nil:F0 [] [] []
 | b {ts as ds} (x:Bool):F0 ts as ds→F0 (.b::ts) (.b x::as) (.bool x::ds)
 | i {ts as ds} (k:IntKind) (x:Int):F0 ts as ds→F0 (.i k::ts) (.i x::as) (.int k x::ds)
 | s {ts as ds} (k:IntKind) (x:List Int):F0 ts as ds→F0 (.s k::ts) (.l x::as) (.ints .arg k x::ds)
 | fl {ts as ds} (x:Nat):F0 ts as ds→F0 (.fl::ts) (.f x::as) (.fl x::ds)
 | nb {ts as ds} (x:Nat):F0 ts as ds→F0 (.nb::ts) (.f x::as) (.nb x::ds)
 | st {l ts as cs bs ds}:F0 l as cs→F0 ts bs ds→F0 (.st l::ts) (as++bs) (.agg cs::ds)
 | fn {g l ts as cs bs ds}:F0 l as cs→F0 ts bs ds→F0 (.fn g l::ts) (as++bs) (.fn g [] cs::ds)
 | fm {g l ts as cs bs ds}:F0 l as cs→F0 ts bs ds→F0 (.fm g l::ts) (as++bs) (.fn g cs []::ds)
 | cp {l ts as cs bs ds}:F0 l as cs→F0 ts bs ds→F0 (.cp l::ts) (as++bs) (.cellp cs::ds)
 | rs0 {sz ts bs ds}:F0 ts bs ds→F0 (.rs sz []::ts) bs (.recs .arg sz []::ds)
 | rs1 {sz l ls ts as cs bs rows ds}:F0 l as cs→F0 (.rs sz ls::ts) bs (.recs .arg sz rows::ds)→F0 (.rs sz (l::ls)::ts) (as++bs) (.recs .arg sz (cs::rows)::ds)
theorem Apj {c:Ctx} {w:World} {k:IntKind} {v:Value} (h:As c w .nil v):As c w (.ints .arg k []) v:=by
 simp only [As] at h ⊢
 subst h
 exact ⟨none,0,rfl,A1y _,.inl trivial⟩
theorem Aem {t:AT} {d:DV} {a:Atom} (h:Ahh t d=some a):∃ d',(∀ ts as ds,F0 ts as ds→F0 (t::ts) (a::as) (d'::ds))∧∀ c w v,As c w d v→As c w d' v:=by
 unfold Ahh at h
 split at h
 ·simp only [A07] at h; subst h
  exact ⟨_,fun _ _ _ he=>.b _ he,fun _ _ _ h=>h⟩
 ·rename_i k k' x
  by_cases e:k=k'
  ·subst e
   simp only [decide_true,A04,A07] at h; subst h
   exact ⟨_,fun _ _ _ he=>.i _ _ he,fun _ _ _ h=>h⟩
  ·simp [e] at h
 ·rename_i k
  simp only [A07] at h; subst h
  exact ⟨_,fun _ _ _ he=>.s k _ he,fun _ _ _ h=>Apj h⟩
 ·rename_i k k' x
  by_cases e:k=k'
  ·subst e
   simp only [decide_true,A04,A07] at h; subst h
   exact ⟨_,fun _ _ _ he=>.s _ _ he,fun _ _ _ h=>h⟩
  ·simp [e] at h
 ·simp only [A07] at h; subst h
  exact ⟨_,fun _ _ _ he=>.fl _ he,fun _ _ _ h=>h⟩
 ·simp only [A07] at h; subst h
  exact ⟨_,fun _ _ _ he=>.nb _ he,fun _ _ _ h=>h⟩
 ·cases h
theorem X7:∀ {ts:List AT} {ds:List DV} {as:List Atom},Wu ts ds=some as→∃ ds',F0 ts as ds'∧∀ c w vs,Bi c w ds vs→Bi c w ds' vs
 | [],[],as,h=>by
   simp only [Wu,A07] at h; subst h
   exact ⟨[],.nil,fun _ _ _ h=>h⟩
 | t::ts,d::ds,as,h=>by
   simp only [Wu] at h
   cases h1:Ahh t d with
   | none=>rw [h1] at h; cases h
   | some a =>
     cases h2:Wu ts ds with
     | none=>rw [h1,h2] at h; cases h
     | some bs =>
       rw [h1,h2] at h
       simp only [A07] at h; subst h
       obtain ⟨d',i1,i2⟩:=Aem h1
       obtain ⟨ds',j1,j2⟩:=X7 h2
       refine ⟨d'::ds',i1 _ _ _ j1,fun c w vs hv=>?_⟩
       rw [Bi.C1] at hv ⊢
       obtain ⟨u,us,e,hu,hus⟩:=hv
       exact ⟨u,us,e,i2 _ _ _ hu,j2 _ _ _ hus⟩
 | [],_::_,as,h=>by simp [Wu] at h
 | _::_,[],as,h=>by simp [Wu] at h
theorem Qf:∀ {ts:List AT} {ds:List DV} {as:List Atom},Sx ts ds=some as→∃ ds',F0 ts as ds'∧∀ c w vs,Bi c w ds vs→Bi c w ds' vs
 | ts,ds,as,h=>by
   unfold Sx at h
   split at h
   ·simp only [A07] at h; subst h
    exact ⟨[],.nil,fun _ _ _ h=>h⟩
   ·rename_i l ts cs ds
    cases h1:Wu l cs with
    | none=>rw [h1] at h; cases h
    | some a =>
      cases h2:Sx ts ds with
      | none=>rw [h1,h2] at h; cases h
      | some bs =>
        rw [h1,h2] at h
        simp only [A07] at h; subst h
        obtain ⟨cs',i1,i2⟩:=X7 h1
        obtain ⟨ds',j1,j2⟩:=Qf h2
        refine ⟨.cellp cs'::ds',.cp i1 j1,fun c w vs hv=>?_⟩
        rw [Bi.C1] at hv ⊢
        obtain ⟨u,us,e,hu,hus⟩:=hv
        refine ⟨u,us,e,?_,j2 _ _ _ hus⟩
        simp only [As] at hu ⊢
        obtain ⟨b,o,vs,e,hb,hh,hc⟩:=hu
        exact ⟨b,o,vs,e,hb,i2 _ _ _ hh,hc⟩
   ·rename_i l ts cs ds
    cases h1:Wu l cs with
    | none=>rw [h1] at h; cases h
    | some a =>
      cases h2:Sx ts ds with
      | none=>rw [h1,h2] at h; cases h
      | some bs =>
        rw [h1,h2] at h
        simp only [A07] at h; subst h
        obtain ⟨cs',i1,i2⟩:=X7 h1
        obtain ⟨ds',j1,j2⟩:=Qf h2
        refine ⟨.agg cs'::ds',.st i1 j1,fun c w vs hv=>?_⟩
        rw [Bi.C1] at hv ⊢
        obtain ⟨u,us,e,hu,hus⟩:=hv
        refine ⟨u,us,e,?_,j2 _ _ _ hus⟩
        simp only [As] at hu ⊢
        obtain ⟨vs,e,hh⟩:=hu
        exact ⟨vs,e,i2 _ _ _ hh⟩
   ·rename_i t ts d ds _ _
    cases h1:Ahh t d with
    | none=>rw [h1] at h; cases h
    | some a =>
      cases h2:Sx ts ds with
      | none=>rw [h1,h2] at h; cases h
      | some bs =>
        rw [h1,h2] at h
        simp only [A07] at h; subst h
        obtain ⟨d',i1,i2⟩:=Aem h1
        obtain ⟨ds',j1,j2⟩:=Qf h2
        refine ⟨d'::ds',i1 _ _ _ j1,fun c w vs hv=>?_⟩
        rw [Bi.C1] at hv ⊢
        obtain ⟨u,us,e,hu,hus⟩:=hv
        exact ⟨u,us,e,i2 _ _ _ hu,j2 _ _ _ hus⟩
   ·cases h
theorem Ak5:∀ {ls:List (List AT)} {rows:List (List DV)} {as:List Atom},Ael ls rows=some as →
 ∃ rows',(∀ sz ts bs ds,F0 ts bs ds→F0 (.rs sz ls::ts) (as++bs) (.recs .arg sz rows'::ds))∧rows'.length=rows.length∧∀ c w vs,Dm c w rows vs→Dm c w rows' vs
 | [],[],as,h=>by
   simp only [Ael,A07] at h; subst h
   exact ⟨[],fun _ _ _ _ h=>.rs0 h,rfl,fun _ _ _ h=>h⟩
 | l::ls,cs::rows,as,h=>by
   simp only [Ael] at h
   cases h1:Wu l cs with
   | none=>rw [h1] at h; cases h
   | some a =>
     cases h2:Ael ls rows with
     | none=>rw [h1,h2] at h; cases h
     | some bs =>
       rw [h1,h2] at h
       simp only [A07] at h; subst h
       obtain ⟨cs',i1,i2⟩:=X7 h1
       obtain ⟨rows',j1,j2,j3⟩:=Ak5 h2
       refine ⟨cs'::rows',fun sz ts b ds he=>?_,by simp [j2],fun c w vs hv=>?_⟩
       ·rw [List.append_assoc]; exact .rs1 i1 (j1 _ _ _ _ he)
       ·simp only [Dm] at hv ⊢
        obtain ⟨u,us,e,hu,hus⟩:=hv
        exact ⟨u,us,e,i2 _ _ _ hu,j3 _ _ _ hus⟩
 | [],_::_,as,h=>by simp [Ael] at h
 | _::_,[],as,h=>by simp [Ael] at h
theorem Mt:∀ {ts:List AT} {ds:List DV} {as:List Atom},Mu ts ds=some as→∃ ds',F0 ts as ds'∧∀ c w vs,Bi c w ds vs→Bi c w ds' vs
 | ts,ds,as,h=>by
   unfold Mu at h
   split at h
   ·simp only [A07] at h; subst h
    exact ⟨[],.nil,fun _ _ _ h=>h⟩
   ·rename_i sz ls ts sz' rows ds
    cases hg:Nat.beq sz sz' with
    | false=>rw [hg] at h; cases h
    | true =>
    rw [hg,A04] at h
    obtain rfl:=A1m hg
    cases h1:Ael ls rows with
    | none=>rw [h1] at h; cases h
    | some a =>
      cases h2:Mu ts ds with
      | none=>rw [h1,h2] at h; cases h
      | some bs =>
        rw [h1,h2] at h
        simp only [A07] at h; subst h
        obtain ⟨rows',i1,i3,i2⟩:=Ak5 h1
        obtain ⟨ds',j1,j2⟩:=Mt h2
        refine ⟨.recs .arg sz rows'::ds',i1 _ _ _ _ j1,fun c w vs hv=>?_⟩
        rw [Bi.C1] at hv ⊢
        obtain ⟨u,us,e,hu,hus⟩:=hv
        refine ⟨u,us,e,?_,j2 _ _ _ hus⟩
        simp only [As] at hu ⊢
        obtain ⟨a,cap,e,hc,hh⟩:=hu
        refine ⟨a,cap,by rw [i3]; exact e,by rw [i3]; exact hc,hh.imp (fun h=>?_) fun ⟨b,o,rs,e1,e2,e3,e4,e5⟩=>⟨b,o,rs,e1,e2,i2 _ _ _ e3,e4,e5⟩⟩
        rw [h] at i3
        exact A15 i3
   ·rename_i g l ts g' cs ds
    cases hg:Nat.beq g g' with
    | false=>rw [hg] at h; cases h
    | true =>
    rw [hg,A04] at h
    obtain rfl:=A1m hg
    cases h1:Sx l cs with
    | none=>rw [h1] at h; cases h
    | some a =>
      cases h2:Mu ts ds with
      | none=>rw [h1,h2] at h; cases h
      | some bs =>
        rw [h1,h2] at h
        simp only [A07] at h; subst h
        obtain ⟨cs',i1,i2⟩:=Qf h1
        obtain ⟨ds',j1,j2⟩:=Mt h2
        refine ⟨.fn g cs' []::ds',.fm i1 j1,fun c w vs hv=>?_⟩
        rw [Bi.C1] at hv ⊢
        obtain ⟨u,us,e,hu,hus⟩:=hv
        refine ⟨u,us,e,?_,j2 _ _ _ hus⟩
        simp only [As] at hu ⊢
        obtain ⟨fs',vs,e,hf,hh⟩:=hu
        exact ⟨fs',vs,e,i2 _ _ _ hf,hh⟩
   ·rename_i g l ts g' cs ds
    cases hg:Nat.beq g g' with
    | false=>rw [hg] at h; cases h
    | true =>
    rw [hg,A04] at h
    obtain rfl:=A1m hg
    cases h1:Sx l cs with
    | none=>rw [h1] at h; cases h
    | some a =>
      cases h2:Mu ts ds with
      | none=>rw [h1,h2] at h; cases h
      | some bs =>
        rw [h1,h2] at h
        simp only [A07] at h; subst h
        obtain ⟨cs',i1,i2⟩:=Qf h1
        obtain ⟨ds',j1,j2⟩:=Mt h2
        refine ⟨.fn g [] cs'::ds',.fn i1 j1,fun c w vs hv=>?_⟩
        rw [Bi.C1] at hv ⊢
        obtain ⟨u,us,e,hu,hus⟩:=hv
        refine ⟨u,us,e,?_,j2 _ _ _ hus⟩
        simp only [As] at hu ⊢
        obtain ⟨fs',vs,e,hf,hh⟩:=hu
        exact ⟨fs',vs,e,hf,i2 _ _ _ hh⟩
   ·rename_i l ts cs ds
    cases h1:Sx l cs with
    | none=>rw [h1] at h; cases h
    | some a =>
      cases h2:Mu ts ds with
      | none=>rw [h1,h2] at h; cases h
      | some bs =>
        rw [h1,h2] at h
        simp only [A07] at h; subst h
        obtain ⟨cs',i1,i2⟩:=Qf h1
        obtain ⟨ds',j1,j2⟩:=Mt h2
        refine ⟨.cellp cs'::ds',.cp i1 j1,fun c w vs hv=>?_⟩
        rw [Bi.C1] at hv ⊢
        obtain ⟨u,us,e,hu,hus⟩:=hv
        refine ⟨u,us,e,?_,j2 _ _ _ hus⟩
        simp only [As] at hu ⊢
        obtain ⟨b,o,vs,e,hb,hh,hc⟩:=hu
        exact ⟨b,o,vs,e,hb,i2 _ _ _ hh,hc⟩
   ·rename_i l ts cs ds
    cases h1:Sx l cs with
    | none=>rw [h1] at h; cases h
    | some a =>
      cases h2:Mu ts ds with
      | none=>rw [h1,h2] at h; cases h
      | some bs =>
        rw [h1,h2] at h
        simp only [A07] at h; subst h
        obtain ⟨cs',i1,i2⟩:=Qf h1
        obtain ⟨ds',j1,j2⟩:=Mt h2
        refine ⟨.agg cs'::ds',.st i1 j1,fun c w vs hv=>?_⟩
        rw [Bi.C1] at hv ⊢
        obtain ⟨u,us,e,hu,hus⟩:=hv
        refine ⟨u,us,e,?_,j2 _ _ _ hus⟩
        simp only [As] at hu ⊢
        obtain ⟨vs,e,hh⟩:=hu
        exact ⟨vs,e,i2 _ _ _ hh⟩
   ·rename_i t ts d ds _ _ _ _ _
    cases h1:Ahh t d with
    | none=>rw [h1] at h; cases h
    | some a =>
      cases h2:Mu ts ds with
      | none=>rw [h1,h2] at h; cases h
      | some bs =>
        rw [h1,h2] at h
        simp only [A07] at h; subst h
        obtain ⟨d',i1,i2⟩:=Aem h1
        obtain ⟨ds',j1,j2⟩:=Mt h2
        refine ⟨d'::ds',i1 _ _ _ j1,fun c w vs hv=>?_⟩
        rw [Bi.C1] at hv ⊢
        obtain ⟨u,us,e,hu,hus⟩:=hv
        exact ⟨u,us,e,i2 _ _ _ hu,j2 _ _ _ hus⟩
   ·cases h
def entry (ts:List AT) (pre:List Atom→Bool) (out:List Atom→DV):Entry where
 pre:=fun args=>match Mu ts args with
  | some as=>pre as
  | none=>false
 out:=fun args=>match Mu ts args with
  | some as=>out as
  | none=>.undef
inductive Wk (drops:List Nat):DV→DV→Prop
 | refl {d:DV} (h:Fa 1 [] d=true) (ho:∀ i e k l,d≠.ints (.own i e) k l) (hr:∀ i e k l,d≠.recs (.own i e) k l):Wk drops d d
 | nil (g:Ahx) (k:IntKind):Wk drops .nil (.ints g k [])
 | fresh (k:IntKind) (l:List Int):Wk drops (.ints .fresh k l) (.ints .arg k l)
 | keep (i:Nat) (e:TypeId) (k:IntKind) (l:List Int) (h:i ∉ drops):Wk drops (.ints (.own i e) k l) (.ints (.own i e) k l)
 | keepR (i:Nat) (e:TypeId) (sz:Nat) (l:List (List DV)) (h:i ∉ drops):Wk drops (.recs (.own i e) sz l) (.recs (.own i e) sz l)
 | nilR (g:Ahx) (sz:Nat):Wk drops .nil (.recs g sz [])
 | dropR (i:Nat) (e:TypeId) (sz:Nat) (l:List (List DV)) (h:i∈drops):Wk drops (.recs (.own i e) sz l) (.recs .fresh sz l)
 | drop (i:Nat) (e:TypeId) (k:IntKind) (l:List Int) (h:i∈drops):Wk drops (.ints (.own i e) k l) (.ints .fresh k l)
 | dropA (i:Nat) (e:TypeId) (k:IntKind) (l:List Int) (h:i∈drops):Wk drops (.ints (.own i e) k l) (.ints .arg k l)
 | agg {l l':List DV} (h:l.length=l'.length) (hw:∀ (j:Nat) d d',l[j]?=some d→l'[j]?=some d'→Wk drops d d'):Wk drops (.agg l) (.agg l')
 | tup {l l':List DV} (h:l.length=l'.length) (hw:∀ (j:Nat) d d',l[j]?=some d→l'[j]?=some d'→Wk drops d d'):Wk drops (.tup l) (.tup l')
def Is (drops:List Nat) (own:Nat→Option Nat) (i:Nat):Option Nat:=if i∈drops then none else own i
theorem Lw {drops:List Nat} {own:Nat→Option Nat} {i b:Nat} (h:Is drops own i=some b):own i=some b∧i ∉ drops:=by
 unfold Is at h
 split at h
 ·cases h
 ·exact ⟨h,‹_›⟩
theorem S4 {w:World} {base:Nat} {e:TypeId} {k:IntKind} {l:List Int} {v:Value} (ho:w.ownsRow base e 1 v l.length (l.map (Value.int k))) {ok:Nat→Prop} (hok:∀ b,v.ownBlock=some b→ok b) :
 ∃ a cap,v=.slice a l.length cap∧l.length≤cap∧(l=[]∨∃ b o,a=some ⟨b,o,none⟩∧ok b∧∀ (i:Nat) n,l[i]?=some n→w.cell? ⟨b,o+i,none⟩=some (.int k n)):=by
 have:=K7 (p:=⟨.live,.row v 1⟩) rfl ho (Gh ho) (ok:=ok) hok
 simp only [List.drop_zero,List.take_length] at this
 exact this
theorem Wk.rel {drops:List Nat} {d d':DV} (h:Wk drops d d') {I:Nat→Prop} {own:Nat→Option Nat} {w w':World} (ho:Ali own w w'):∀ v,As (D6 I own w w') w' d v→As (D6 I (Is drops own) w w') w' d' v:=by
 have hok:∀ b,(D6 I own w w').ok b→(D6 I (Is drops own) w w').ok b:=by
  rintro b ⟨h1,h2,h3⟩
  exact ⟨h1,h2,fun i hi=>h3 i (Lw hi).1⟩
 have hblk:∀ i b,i∈drops→own i=some b→(D6 I (Is drops own) w w').ok b∧w.heap.size≤b:=by
  intro i b hi hb
  obtain ⟨h1,h2⟩:=ho.lt i b hb
  refine ⟨⟨h2,.inr h1,fun j hj=>?_⟩,h1⟩
  obtain ⟨h3,h4⟩:=Lw hj
  rw [ho.inj j i b h3 hb] at h4
  exact h4 hi
 induction h with
 | @refl d h h1 h2 =>
   intro v hv
   have hl:L4 (({ D6 I own w w' with own:=fun _=>none }:Ctx).only []) w' (D6 I (Is drops own) w w') w' :=
    ⟨hok,rfl,rfl,fun _ _ h=>(by cases h),fun n p hp=>(by simp [Ctx.only] at hp),fun _ _ _=>rfl,fun _ _ h=>(by cases h)⟩
   refine As.D1 hl d v (Ads [] 1 d v h ?_)
   cases d with
   | ints g k l =>
     cases g with
     | own i e=>exact absurd rfl (h1 i e k l)
     | _=>simp only [As] at hv ⊢; exact hv
   | recs g k l =>
     cases g with
     | own i e=>exact absurd rfl (h2 i e k l)
     | _=>simp only [As] at hv ⊢; exact hv
   | agg l =>
     cases l with
     | nil=>simp only [As] at hv ⊢; simpa [Bi] using hv
     | cons a l=>simp [Fa] at h
   | tup l =>
     cases l with
     | nil=>simp only [As] at hv ⊢; simpa [Bi] using hv
     | cons a l=>simp [Fa] at h
   | fn g a c =>
     cases a with
     | cons _ _=>simp [Fa] at h
     | nil =>
       cases c with
       | cons _ _=>simp [Fa] at h
       | nil=>simp only [As] at hv ⊢; simpa [Bi] using hv
   | gd c d=>simp [Fa] at h
   | oref n=>simp [Fa] at h
   | sref n o m=>simp [Fa] at h
   | ptr n i j=>simp [Fa] at h
   | undef=>simp only [As]
   | _=>simp only [As] at hv ⊢; exact hv
 | nil g k =>
   intro v hv
   simp only [As] at hv
   subst hv
   cases g with
   | own i e=>simp only [As]; exact ⟨World.ownsRow_nil w' _ e 1,fun b hb=>by cases hb⟩
   | _=>simp only [As]; exact ⟨none,0,rfl,A1y _,.inl trivial⟩
 | nilR g sz =>
   intro v hv
   simp only [As] at hv
   subst hv
   cases g with
   | own i e=>simp only [As]; exact ⟨[],by simp [Dm],by simp,World.ownsRow_nil w' _ e sz,fun b hb=>by cases hb⟩
   | _=>simp only [As]; exact ⟨none,0,rfl,A1y _,.inl trivial⟩
 | dropR i e sz l h =>
   intro v hv
   simp only [As] at hv ⊢
   obtain ⟨rows,h1,h2,h3,h4⟩:=hv
   have hr:=Dm.D1 (c:=(D6 I own w w').bare) (c':=(D6 I (Is drops own) w w').bare) ⟨hok,rfl,rfl,fun _ _ h=>(by cases h),fun _ _ h=>(by cases h),fun _ _ _=>rfl,fun _ _ h=>(by cases h)⟩ _ _ h1
   have:=K6 (p:=⟨.live,.row v sz⟩) rfl hr h2 h3 (by have:=Gh h3; exact this) (ok:=fun b=>(D6 I (Is drops own) w w').ok b∧w.heap.size≤b) (fun b hb=>hblk i b h (h4 b hb))
   simp only [List.drop_zero,List.take_length] at this
   obtain ⟨a,cap,e1,e2,e3⟩:=this
   exact ⟨a,cap,e1,e2,e3.imp id fun ⟨b,o,rows',e4,e5,e6,e7,e8⟩=>⟨b,o,rows',e4,⟨e5.1,rfl,e5.2⟩,e6,e7,e8⟩⟩
 | fresh k l =>
   intro v hv
   simp only [As] at hv ⊢
   obtain ⟨a,cap,e,h1,h2⟩:=hv
   exact ⟨a,cap,e,h1,h2.imp id fun ⟨b,o,h3,h4,h5⟩=>⟨b,o,h3,hok b h4.1,h5⟩⟩
 | keep i e k l h =>
   intro v hv
   simp only [As] at hv ⊢
   exact ⟨hv.1,fun b hb=>by show Is drops own i=some b; unfold Is; rw [A1q h]; exact hv.2 b hb⟩
 | keepR i e sz l h =>
   intro v hv
   simp only [As] at hv ⊢
   obtain ⟨rows,h1,h2,h3,h4⟩:=hv
   refine ⟨rows,?_,h2,h3,fun b hb=>by show Is drops own i=some b; unfold Is; rw [A1q h]; exact h4 b hb⟩
   exact Dm.D1 (c:=(D6 I own w w').bare) (c':=(D6 I (Is drops own) w w').bare) ⟨hok,rfl,rfl,fun _ _ h=>(by cases h),fun _ _ h=>(by cases h),fun _ _ _=>rfl,fun _ _ h=>(by cases h)⟩ _ _ h1
 | drop i e k l h =>
   intro v hv
   simp only [As] at hv ⊢
   exact S4 hv.1 fun b hb=>⟨(hblk i b h (hv.2 b hb)).1,rfl,(hblk i b h (hv.2 b hb)).2⟩
 | dropA i e k l h =>
   intro v hv
   simp only [As] at hv ⊢
   exact S4 hv.1 fun b hb=>(hblk i b h (hv.2 b hb)).1
 | @agg l l' h hw ih =>
   intro v hv
   simp only [As] at hv ⊢
   obtain ⟨vs,e,hl⟩:=hv
   refine ⟨vs,e,Bi.L9 (by rw [← h]; exact hl.length) fun j d v hd hv=>?_⟩
   have hlt:j<l.length:=by rw [h]; exact (List.getElem?_eq_some_iff.1 hd).1
   obtain ⟨u,hu,hr⟩:=hl.get j _ (A1l hlt)
   rw [hv] at hu; cases hu
   exact ih j _ d (A1l hlt) hd v hr
 | @tup l l' h hw ih =>
   intro v hv
   simp only [As] at hv ⊢
   obtain ⟨vs,e,hl⟩:=hv
   refine ⟨vs,e,Bi.L9 (by rw [← h]; exact hl.length) fun j d v hd hv=>?_⟩
   have hlt:j<l.length:=by rw [h]; exact (List.getElem?_eq_some_iff.1 hd).1
   obtain ⟨u,hu,hr⟩:=hl.get j _ (A1l hlt)
   rw [hv] at hu; cases hu
   exact ih j _ d (A1l hlt) hd v hr
theorem Ot.Yb {P:Program} {f:FuncId} {args:List DV} {out out':DV} (h:Ot P f args out) {drops:List Nat} (hw:Wk drops out out'):Ot P f args out':=by
 intro w vals I hI hv
 refine (h w vals I hI hv).mono ?_
 rintro e w' ⟨v,own,he,hb,ho,hr⟩
 refine ⟨v,Is drops own,he,hb,⟨fun i b hi=>ho.lt i b (Lw hi).1,fun i j b hi hj=>ho.inj i j b (Lw hi).1 (Lw hj).1⟩,hw.rel ho v hr⟩
theorem Ot.args {P:Program} {f:FuncId} {args args':List DV} {out:DV} (h:Ot P f args out) (ha:∀ c w vs,Bi c w args' vs→Bi c w args vs):Ot P f args' out :=
 fun w vals I hI hv=>h w vals I hI (ha _ _ _ hv)
theorem Rb {P:Program} {E:Env} (he:Ke P E) {f:FuncId} {fn:Func} {body:Code} (hf:P.funcs[f]?=some fn) (hb:fn.body=some body) {ts:List AT} {pre:List Atom→Bool} {out:List Atom→DV}
 (h:∀ as ds,F0 ts as ds→pre as=true→∃ fuel d drops,Bu E fuel fn body ds=some d∧Wk drops d (out as)):Xn P f (entry ts pre out):=by
 intro args ha
 simp only [entry] at ha ⊢
 cases hd:Mu ts args with
 | none=>rw [hd] at ha; cases ha
 | some as =>
   rw [hd] at ha
   simp only at ha ⊢
   obtain ⟨ds,h1,h2⟩:=Mt hd
   obtain ⟨fuel,d,drops,h3,h4⟩:=h as ds h1 ha
   exact ((Awa he hf hb h3).Yb h4).args h2
end Go.Den
namespace Go.Den
structure Pt (β:Type) where
 b:Nat
 c:Code
 Kn:St→Option β
 Kx:Nat→St→Option β
 Kr:St→Option β
def descend {β:Type} (E:Env) (n:Nat):List Nat→List Nat→Nat→Code→(St→Option β)→(Nat→St→Option β)→(St→Option β)→Pt β
 | 0::p,ms,b,.seq x y,Kn,Kx,Kr=>descend E n p ms b x (fun st'=>den E n b y st' Kn Kx Kr) Kx Kr
 | _::p,ms,b,.seq _ y,Kn,Kx,Kr=>descend E n p ms b y Kn Kx Kr
 | 0::p,ms,b,.cond _ x _,Kn,Kx,Kr=>descend E n p ms b x Kn Kx Kr
 | _::p,ms,b,.cond _ _ y,Kn,Kx,Kr=>descend E n p ms b y Kn Kx Kr
 | _::p,ms,_,.block id c,Kn,Kx,Kr=>descend E n p ms id c Kn (fun id' st'=>bif id'==id then Kn st' else Kx id' st') Kr
 | _::p,ms,b,.scope c,Kn,Kx,Kr=>descend E n p ms b c Kn Kx Kr
 | _::p,m::ms,b,.loop c,_,Kx,Kr=>descend E n p ms b c (fun st2=>match canon (E.hint b) st2 with | some st3=>Zv (E.hint b) (den E n b c) m st3 Kx Kr | none=>none) Kx Kr
 | _,_,b,c,Kn,Kx,Kr=>⟨b,c,Kn,Kx,Kr⟩
def cutAt (E:Env) (n:Nat) (fn:Func) (body:Code) (p ms:List Nat) (st:St):Option DV :=
 match descend E n p ms 0 body (fun st=>Aay E fn st) (fun _ _=>none) (fun st=>Aay E fn st) with
 | ⟨b,.seq (.region _ ops draw) y,Kn,Kx,Kr⟩=>Ac4 (Afx E ops draw (fun st'=>den E n b y st' Kn Kx Kr)) st
 | ⟨_,.region _ ops draw,Kn,_,_⟩=>Ac4 (Afx E ops draw Kn) st
 | _=>none
def Aq6 (E:Env) (n:Nat) (fn:Func) (body:Code) (p ms:List Nat) (st:St):Option DV :=
 match descend E n p ms 0 body (fun st=>Aay E fn st) (fun _ _=>none) (fun st=>Aay E fn st) with
 | ⟨b,.seq (.region _ ops draw) y,Kn,Kx,Kr⟩=>Afx E ops draw (fun st'=>den E n b y st' Kn Kx Kr) st
 | ⟨_,.region _ ops draw,Kn,_,_⟩=>Afx E ops draw Kn st
 | _=>none
theorem Dt (E:Env) (n:Nat) (fn:Func) (body:Code) (p ms:List Nat) (st:St):cutAt E n fn body p ms st=Aq6 E n fn body p ms st:=by
 unfold cutAt Aq6
 split<;>simp only [Abh]
def Bx (E:Env) (n:Nat) (fn:Func) (body:Code) (p ms:List Nat) (m:Nat) (st:St):Option DV :=
 match descend E n p ms 0 body (fun st=>Aay E fn st) (fun _ _=>none) (fun st=>Aay E fn st) with
 | ⟨b,.loop c,_,Kx,Kr⟩=>Zv (E.hint b) (den E n b c) m st Kx Kr
 | _=>none
def atL (i:Nat):List (Nat × DV)→DV
 | []=>.undef
 | (j,d)::l=>bif Nat.beq i j then d else atL i l
def Aym (l:List (Nat × DV)):Nat→Nat→List DV
 | 0,_=>[]
 | k+1,i=>atL i l::Aym l k (i+1)
def E5 (n:Nat) (l:List (Nat × DV)):List DV:=Aym l n 0
end Go.Den
namespace Go.Den
open Go.RowKit (Below)
def Ab (x:Int):Int:=IntKind.i64.wrap x
def Bm (x:Int):Int:=IntKind.u64.wrap x
def Jm (x:Int):Int:=IntKind.u32.wrap x
def E6 (k:IntKind) (x y:Int):Int:=k.wrap (BitVec.ofInt k.bits x &&& BitVec.ofInt k.bits y).toNat
def Iu (k:IntKind) (x y:Int):Int:=k.wrap (BitVec.ofInt k.bits x ||| BitVec.ofInt k.bits y).toNat
def Aub (k:IntKind) (x y:Int):Int:=k.wrap (BitVec.ofInt k.bits x ^^^ BitVec.ofInt k.bits y).toNat
def G5 (k:IntKind) (x y:Int):Int:=k.wrap (BitVec.ofInt k.bits x &&& ~~~(BitVec.ofInt k.bits y)).toNat
def B9 (k:IntKind) (x y:Int):Int:=k.wrap (x*2^(min y.toNat k.bits))
def Dy (k:IntKind) (x y:Int):Int:=x.fdiv (2^(min y.toNat k.bits))
def Co (p:Prop):Bool:=@decide p (Classical.propDecidable p)
theorem Au {p:Prop}:Co p=true↔p:=by unfold Co; exact @decide_eq_true_iff p (Classical.propDecidable p)
def Am (f:Func):Code:=f.body.getD .skip
def Bb:List (Nat × Entry)→Nat→Option Entry
 | [],_=>none
 | (m,e)::l,n=>bif Nat.beq m n then some e else Bb l n
def Aoe:List (Nat × TI)→Nat→Option TI
 | [],_=>none
 | (m,e)::l,n=>bif Nat.beq m n then some e else Aoe l n
theorem ifT {α:Type} {R:Bool} {A A' B:α} (h:R=true) (ha:A=A'):(bif R then A else B)=A':=by rw [h,ha]; rfl
theorem Ax {α:Type} {R:Bool} {A A':Option α} (h:R=true) (ha:A=A'):(bif R then A else none)=A':=ifT h ha
theorem Cp {α:Type} {R S:Bool} {A A' B B':α} (h:R=S) (ha:A=A') (hb:B=B'):(bif R then A else B)=bif S then A' else B':=by rw [h,ha,hb]
theorem Ec {α:Type} {R:Bool} {A A' B B':α} (ha:A=A') (hb:B=B'):(bif R then A else B)=bif R then A' else B':=by rw [ha,hb]
structure A7 (P:Program) (g:FuncId) (e:Entry):Prop where
 meets:Xn P g e
 call:∀ (args:Array Value) (w:World),(callFunc g args).run P w=.ok (.enter g args) w
inductive A1 (P:Program):List (Nat × Entry)→Prop
 | nil:A1 P []
 | cons {g e l}:A7 P g e→A1 P l→A1 P ((g,e)::l)
theorem A1.get {P:Program} {l:List (Nat × Entry)} (h:A1 P l) {g:Nat} {e:Entry} (hg:Bb l g=some e):A7 P g e:=by
 induction h with
 | nil=>cases hg
 | @cons g' e' l h1 h2 ih =>
   simp only [Bb] at hg
   cases hb:Nat.beq g' g with
   | true =>
     rw [hb] at hg
     simp only [A04,A07] at hg
     have:=A1m hb
     subst this hg
     exact h1
   | false=>rw [hb] at hg; exact ih hg
theorem Qh {P:Program} {f:FuncId} {fn:Func} {body:Code} (hf:P.funcs[f]?=some fn) (hn:(fn.name== "runtime.NumGoroutine")=false) (hb:fn.body=some body) (args:Array Value) (w:World) :
 (callFunc f args).run P w=.ok (.enter f args) w:=by
 have h1:fn.name≠ "runtime.NumGoroutine":=by simpa using hn
 simp [callFunc,hf,h1,hb]
inductive Sn (P:Program):List (Nat × TI)→Prop
 | nil:Sn P []
 | cons {t ti l}:Cc P t ti→Sn P l→Sn P ((t,ti)::l)
theorem Sn.get {P:Program} {l:List (Nat × TI)} (h:Sn P l) {t:Nat} {ti:TI} (hg:Aoe l t=some ti):Cc P t ti:=by
 induction h with
 | nil=>cases hg
 | @cons t' ti' l h1 h2 ih =>
   simp only [Aoe] at hg
   cases hb:Nat.beq t' t with
   | true =>
     rw [hb] at hg
     simp only [A04,A07] at hg
     have:=A1m hb
     subst this hg
     exact h1
   | false=>rw [hb] at hg; exact ih hg
theorem Cg {P:Program} {t:TypeId} {ti:TI} {z:Value} (h:(P.info? t).map (fun i=>(i.zero,i.size,i.bytes))=some (some z,ti.size,ti.bytes)) (hz:Aeu ti.zero z.cells.toList) (hs:z.cells.size=ti.size)
 (h1:∀ u∈z.cells.toList,u.oneCell'=true) (hd:Cl P t ti.kind):Cc P t ti:=by
 cases hi:P.info? t with
 | none=>rw [hi] at h; cases h
 | some i =>
   rw [hi] at h
   simp only [Option.map_some,A07,A1d] at h
   exact ⟨⟨i,z,hi,h.2.1,h.2.2,h.1,hz,hs,h1⟩,hd⟩
def Amb (ts:List AT) (pre:List Atom→Bool) (out:List Atom→DV) (mu:List Atom→Nat) (n:Nat):Entry:=entry ts (fun as=>pre as&&Co (mu as<n)) out
theorem Aiy {P:Program} {E:Nat→Env} {f:FuncId} {fn:Func} {body:Code} (hf:P.funcs[f]?=some fn) (hb:fn.body=some body) {ts:List AT} {pre:List Atom→Bool} {out:List Atom→DV} (mu:List Atom→Nat)
 (he:∀ n,Xn P f (Amb ts pre out mu n)→Ke P (E n))
 (h:∀ n as ds,F0 ts as ds→pre as=true→mu as<n+1→∃ fuel d drops,Bu (E n) fuel fn body ds=some d∧Wk drops d (out as)):Xn P f (entry ts pre out):=by
 have key:∀ n,Xn P f (Amb ts pre out mu n):=by
  intro n
  induction n with
  | zero =>
    intro args ha
    simp only [Amb,entry] at ha
    split at ha
    ·simp only [A1f,Au] at ha; omega
    ·cases ha
  | succ n ih =>
    refine Rb (he n ih) hf hb fun as ds hd hp=>?_
    simp only [A1f,Au] at hp
    exact h n as ds hd hp.1 hp.2
 intro args ha
 simp only [entry] at ha
 cases hd:Mu ts args with
 | none=>rw [hd] at ha; cases ha
 | some as =>
   rw [hd] at ha
   have:=key (mu as+1) args (by simp only [Amb,entry,hd,A1f,Au]; exact ⟨ha,Nat.lt_succ_self _⟩)
   simp only [Amb,entry] at this ⊢
   exact this
theorem Mk {P:Program} (w:World) {t:TypeId} {ti:TI} (hf:Cc P t ti) (ha:ti.agg=false) {xs:Array Value} {i:Nat} {v:Value} (hv:xs[i]?=some v):(part t xs i).run P w=.ok v w:=by
 simp [part,hf.Uw w,ha,hv]
theorem Yo {z:Bool} {l m:List DV} (h:sameShape (.bool z::l) m=true):∃ b m',m=.bool b::m'∧sameShape l m'=true:=by
 cases m with
 | nil=>simp [sameShape] at h
 | cons d m'=>cases d<;>simp [sameShape] at h; exact ⟨_,_,rfl,h⟩
theorem J5 {k:IntKind} {z:Int} {l m:List DV} (h:sameShape (.int k z::l) m=true):∃ b m',m=.int k b::m'∧sameShape l m'=true:=by
 cases m with
 | nil=>simp [sameShape] at h
 | cons d m'=>cases d<;>simp [sameShape] at h; obtain ⟨rfl,h⟩:=h; exact ⟨_,_,rfl,h⟩
theorem R4 {m:List DV} (h:sameShape [] m=true):m=[]:=by
 cases m with
 | nil=>rfl
 | cons d m'=>cases d<;>simp [sameShape] at h
theorem Awk {P:Program} {g:FuncId} {e:Entry} (h:A7 P g e) {vals:Array Value} {w:World} {args:List DV} {I:Nat→Prop} (hI:∀ b,I b→b<w.heap.size) (ha:Bi (Kw I) w args vals.toList)
 (hp:e.pre args=true) (ho:e.out args=.bool true):Calls P g vals w fun e w'=>e=.returned (.bool true)∧Below w.heap.size w w':=by
 refine (h.meets args hp w vals I hI ha).mono ?_
 rintro e w' ⟨v,own,he,hb,_,hv⟩
 rw [ho] at hv
 simp only [As] at hv
 subst hv
 exact ⟨he,hb⟩
end Go.Den
namespace Go.Den
open Go.RowKit (Below)
end Go.Den
namespace Go.Den
def Awn (ts:List AT) (e1 e2:Entry):Entry where
 pre:=fun args=>match Mu ts args with
  | some _=>e1.pre args
  | none=>e2.pre args
 out:=fun args=>match Mu ts args with
  | some _=>e1.out args
  | none=>e2.out args
theorem A7.alt {P:Program} {g:FuncId} {ts:List AT} {e1 e2:Entry} (h1:A7 P g e1) (h2:A7 P g e2):A7 P g (Awn ts e1 e2):=by
 refine ⟨fun args ha=>?_,h1.call⟩
 simp only [Awn] at ha ⊢
 cases hd:Mu ts args with
 | none=>rw [hd] at ha; exact h2.meets args ha
 | some x=>rw [hd] at ha; exact h1.meets args ha
theorem A7.Yb {P:Program} {g:FuncId} {ts:List AT} {pre pre':List Atom→Bool} {out out':List Atom→DV} (h:A7 P g (entry ts pre out)) (drops:List Nat)
 (hw:∀ ats,pre' ats=true→pre ats=true∧Wk drops (out ats) (out' ats)):A7 P g (entry ts pre' out'):=by
 refine ⟨fun args ha=>?_,h.call⟩
 simp only [entry] at ha ⊢
 cases hd:Mu ts args with
 | none=>rw [hd] at ha; cases ha
 | some x =>
   rw [hd] at ha
   have:=h.meets args (by simp only [entry,hd]; exact (hw x ha).1)
   simp only [entry,hd] at this
   exact this.Yb (hw x ha).2
end Go.Den
namespace Go.Den
def Aq8 (K:List (List DV)→List DV→Prop):List DV→Prop
 | .recs .arg _ rows::ds=>K rows ds
 | _=>True
def L6:Nat→List AT→(List Atom→List DV→Prop)→Prop
 | 0,_,_=>False
 | _+1,[],K=>K [] []
 | n+1,.b::ts,K=>∀ x:Bool,L6 n ts fun as ds=>K (.b x::as) (.bool x::ds)
 | n+1,.i k::ts,K=>∀ x:Int,L6 n ts fun as ds=>K (.i x::as) (.int k x::ds)
 | n+1,.s k::ts,K=>∀ x:List Int,L6 n ts fun as ds=>K (.l x::as) (.ints .arg k x::ds)
 | n+1,.fl::ts,K=>∀ x:Nat,L6 n ts fun as ds=>K (.f x::as) (.fl x::ds)
 | n+1,.nb::ts,K=>∀ x:Nat,L6 n ts fun as ds=>K (.f x::as) (.nb x::ds)
 | n+1,.st l::ts,K=>L6 n l fun as cs=>L6 n ts fun bs ds=>K (as++bs) (.agg cs::ds)
 | n+1,.fn g l::ts,K=>L6 n l fun as cs=>L6 n ts fun bs ds=>K (as++bs) (.fn g [] cs::ds)
 | n+1,.fm g l::ts,K=>L6 n l fun as cs=>L6 n ts fun bs ds=>K (as++bs) (.fn g cs []::ds)
 | n+1,.cp l::ts,K=>L6 n l fun as cs=>L6 n ts fun bs ds=>K (as++bs) (.cellp cs::ds)
 | n+1,.rs sz []::ts,K=>L6 n ts fun as ds=>K as (.recs .arg sz []::ds)
 | n+1,.rs sz (l::ls)::ts,K=>L6 n l fun as cs=>L6 n (.rs sz ls::ts) fun bs ds=>Aq8 (fun rows ds=>K (as++bs) (.recs .arg sz (cs::rows)::ds)) ds
theorem L6.go:∀ (n:Nat) {ts:List AT} {as:List Atom} {ds:List DV} {K:List Atom→List DV→Prop},L6 n ts K→F0 ts as ds→K as ds:=by
 intro n
 induction n with
 | zero=>intro ts as ds K h _; exact h.elim
 | succ n ih =>
   intro ts as ds K h e
   cases e with
   | nil=>exact h
   | b x e=>exact ih (K:=fun as ds=>K (.b x::as) (.bool x::ds)) (h x) e
   | i k x e=>exact ih (K:=fun as ds=>K (.i x::as) (.int k x::ds)) (h x) e
   | s k x e=>exact ih (K:=fun as ds=>K (.l x::as) (.ints .arg k x::ds)) (h x) e
   | fl x e=>exact ih (K:=fun as ds=>K (.f x::as) (.fl x::ds)) (h x) e
   | nb x e=>exact ih (K:=fun as ds=>K (.f x::as) (.nb x::ds)) (h x) e
   | @st _ _ a c _ _ e1 e2=>exact ih (K:=fun bs ds=>K (a++bs) (.agg c::ds)) (ih (K:=fun as cs=>L6 n _ fun bs ds=>K (as++bs) (.agg cs::ds)) h e1) e2
   | @fn g _ _ a c _ _ e1 e2=>exact ih (K:=fun bs ds=>K (a++bs) (.fn g [] c::ds)) (ih (K:=fun as cs=>L6 n _ fun bs ds=>K (as++bs) (.fn g [] cs::ds)) h e1) e2
   | @fm g _ _ a c _ _ e1 e2=>exact ih (K:=fun bs ds=>K (a++bs) (.fn g c []::ds)) (ih (K:=fun as cs=>L6 n _ fun bs ds=>K (as++bs) (.fn g cs []::ds)) h e1) e2
   | @cp _ _ a c _ _ e1 e2=>exact ih (K:=fun bs ds=>K (a++bs) (.cellp c::ds)) (ih (K:=fun as cs=>L6 n _ fun bs ds=>K (as++bs) (.cellp cs::ds)) h e1) e2
   | rs0 e=>exact ih (K:=fun as ds=>K as (.recs .arg _ []::ds)) h e
   | @rs1 sz _ _ _ a c _ _ _ e1 e2 =>
     have:=ih (K:=fun bs ds=>Aq8 (fun rows ds=>K (a++bs) (.recs .arg sz (c::rows)::ds)) ds) (ih (K:=fun as cs=>L6 n _ fun bs ds=>Aq8 (fun rows ds=>K (as++bs) (.recs .arg sz (cs::rows)::ds)) ds) h e1) e2
     exact this
abbrev Art (E:Env) (fn:Func) (ds:List DV) (out:DV):Prop:=∃ N dv drops,Bu E N fn (Am fn) ds=some dv∧Wk drops dv out
abbrev Hyp (E:Env) (fn:Func) (ts:List AT) (pre:List Atom→Bool) (out:List Atom→DV):Prop:=L6 40 ts fun as ds=>pre as=true→Art E fn ds (out as)
theorem Al {P:Program} {E:Env} (he:Ke P E) {f:FuncId} {fn:Func} (hf:P.funcs[f]?=some fn) (hb:fn.body=some (Am fn)) (hn:(fn.name== "runtime.NumGoroutine")=false) {ts:List AT} {pre:List Atom→Bool} {out:List Atom→DV}
 (h:L6 40 ts fun as ds=>pre as=true→Art E fn ds (out as)):A7 P f (entry ts pre out) :=
 ⟨Rb he hf hb fun _ _ e hp=>L6.go 40 h e hp,Qh hf hn hb⟩
end Go.Den
namespace Go.Den
theorem An {x:Int} (h1:-9223372036854775808≤x) (h2:x≤9223372036854775807):Ab x=x:=Go.IntWalk.i64_in x ⟨h1,h2⟩
theorem Ow (x:Int):Bm x=x%18446744073709551616:=by unfold Bm IntKind.wrap; simp [IntKind.bits,IntKind.signed]
theorem An5 (x:Int):Jm x=x%4294967296:=by unfold Jm IntKind.wrap; simp [IntKind.bits,IntKind.signed]
theorem Dh {x:Int} (h1:0≤x) (h2:x<18446744073709551616):Bm x=x:=by rw [Ow]; omega
theorem Jl {x:Int} (h1:0≤x) (h2:x<4294967296):Jm x=x:=by rw [An5]; omega
theorem Auc (k:IntKind) (x y:Int):Dy k x y=x / 2^(min y.toNat k.bits):=by
 unfold Dy
 exact Int.fdiv_eq_ediv_of_nonneg _ (Int.le_of_lt (Int.pow_pos (by decide)))
theorem Ii (k:IntKind) (n s:Nat) (h:s≤k.bits):Dy k n s=((n / 2^s:Nat):Int):=by
 rw [Auc,A06,Nat.min_eq_left h]
 push_cast
 rfl
theorem Fw (n s:Nat) (h:s≤64):B9 .u64 n s=((n*2^s%2^64:Nat):Int):=by
 unfold B9
 rw [A06,show IntKind.u64.bits=64 from rfl,Nat.min_eq_left h]
 show Bm _=_
 rw [Ow]
 show _=((n*2^s%18446744073709551616:Nat):Int)
 rw [Int.natCast_emod,A1p,Int.natCast_pow]
 rfl
theorem Jd (b n:Nat):(BitVec.ofInt b n).toNat=n%2^b:=by
 rw [BitVec.toNat_ofInt]
 rw [show ((n:Int)%(2^b:Nat))=((n%2^b:Nat):Int) by push_cast; rfl,A06]
theorem Ui {n:Nat} (h:n<2^64):IntKind.u64.wrap n=n:=by
 show Bm _=_
 rw [Ow]
 omega
theorem Ahl {a b:Nat} (ha:a<2^64) (hb:b<2^64):E6 .u64 a b=((a &&& b:Nat):Int):=by
 unfold E6
 rw [BitVec.toNat_and,Jd,Jd,show IntKind.u64.bits=64 from rfl,A1h ha,A1h hb]
 exact Ui (A16 Nat.and_le_left ha)
theorem Vx {a b:Nat} (ha:a<2^64) (hb:b<2^64):Iu .u64 a b=((a ||| b:Nat):Int):=by
 unfold Iu
 rw [BitVec.toNat_or,Jd,Jd,show IntKind.u64.bits=64 from rfl,A1h ha,A1h hb]
 exact Ui (Nat.or_lt_two_pow ha hb)
theorem Ari {a b:Nat} (ha:a<2^64) (hb:b<2^64):Aub .u64 a b=((a ^^^ b:Nat):Int):=by
 unfold Aub
 rw [BitVec.toNat_xor,Jd,Jd,show IntKind.u64.bits=64 from rfl,A1h ha,A1h hb]
 exact Ui (Nat.xor_lt_two_pow ha hb)
theorem Ji {a:Nat} (k:Nat) (ha:a<2^64) (hk:k≤64):E6 .u64 a ((2^k-1:Nat):Int)=((a%2^k:Nat):Int):=by
 rw [Ahl ha (by have:=A1j (n:=2) (by decide) hk; have:=Nat.pow_pos (a:=2) (n:=k) (by decide); omega),Nat.and_two_pow_sub_one_eq_mod]
theorem Nk {a b k:Nat} (hb:b<2^k):b ||| (a*2^k)=a*2^k+b:=by
 rw [Nat.or_comm,A1s,Nat.two_pow_add_eq_or_of_lt hb]
theorem Ans {a b k:Nat} (hb:b<2^k) (h:a*2^k+b<2^64):Iu .u64 b ((a*2^k:Nat):Int)=((a*2^k+b:Nat):Int):=by
 rw [Vx (by omega) (by omega),Nk hb]
theorem Nu {a b k:Nat} (hb:b<2^k) (h:a*2^k+b<2^64):Iu .u64 ((a*2^k:Nat):Int) b=((a*2^k+b:Nat):Int):=by
 rw [Vx (by omega) (by omega),Nat.or_comm,Nk hb]
theorem Ya {r:Nat} (hr:r<2^63):(2^63+r) ^^^ 2^63=r∧r ^^^ 2^63=2^63+r:=by
 have e2:=Nat.two_pow_add_eq_or_of_lt hr 1
 rw [A2d] at e2
 have a1:r ^^^ 2^63=2^63+r:=by
  rw [e2]
  apply Nat.eq_of_testBit_eq
  intro i
  rw [Nat.testBit_xor,Nat.testBit_or,Nat.testBit_two_pow]
  by_cases hi:63=i
  ·subst hi
   rw [Nat.testBit_lt_two_pow hr]; simp
  ·simp [hi]
 refine ⟨?_,a1⟩
 rw [← a1,Nat.xor_assoc,Nat.xor_self,Nat.xor_zero]
theorem Arz {a:Nat} (ha:a<2^64):a ^^^ 2^63=if 2^63≤a then a-2^63 else a+2^63:=by
 by_cases h:2^63≤a
 ·rw [A1r h]
  obtain ⟨r,rfl⟩:∃ r,a=2^63+r:=⟨a-2^63,by omega⟩
  rw [(Ya (by omega)).1]; omega
 ·rw [A1q h,(Ya (by omega)).2]; omega
def Ak (x:Int):Bool:=Co (0≤x∧x<18446744073709551616)
theorem Bo {x:Int} (h:Ak x=true):∃ n:Nat,x=n∧n<2^64:=by
 unfold Ak at h
 rw [Au] at h
 exact ⟨x.toNat,by omega,by omega⟩
theorem Ce {n:Nat} (h:n<2^64):Ak n=true:=by
 unfold Ak
 rw [Au]
 omega
inductive WkL (drops:List Nat):List DV→List DV→Prop
 | nil:WkL drops [] []
 | cons {d d' l l'}:Wk drops d d'→WkL drops l l'→WkL drops (d::l) (d'::l')
theorem WkL.length {drops:List Nat} {l l':List DV} (h:WkL drops l l'):l.length=l'.length:=by
 induction h with
 | nil=>rfl
 | cons _ _ ih=>simp [ih]
theorem WkL.get {drops:List Nat} {l l':List DV} (h:WkL drops l l'):∀ (j:Nat) d d',l[j]?=some d→l'[j]?=some d'→Wk drops d d':=by
 induction h with
 | nil=>intro j d d' h; cases h
 | cons h1 _ ih =>
   intro j d d' h2 h3
   cases j with
   | zero=>cases h2; cases h3; exact h1
   | succ j=>exact ih j d d' h2 h3
theorem Wk.Gy {drops:List Nat} {l l':List DV} (h:WkL drops l l'):Wk drops (.agg l) (.agg l'):=.agg h.length h.get
theorem Wk.Gv {drops:List Nat} {l l':List DV} (h:WkL drops l l'):Wk drops (.tup l) (.tup l'):=.tup h.length h.get
theorem Wk.bool {drops:List Nat} {b:Bool}:Wk drops (.bool b) (.bool b):=.refl rfl (by intros; simp) (by intros; simp)
theorem Wk.int {drops:List Nat} {k:IntKind} {x:Int}:Wk drops (.int k x) (.int k x):=.refl rfl (by intros; simp) (by intros; simp)
theorem Wk.fl {drops:List Nat} {x:Nat}:Wk drops (.fl x) (.fl x):=.refl rfl (by intros; simp) (by intros; simp)
theorem Wk.nb {drops:List Nat} {x:Nat}:Wk drops (.nb x) (.nb x):=.refl rfl (by intros; simp) (by intros; simp)
theorem Wk.Qv {drops:List Nat} {k:IntKind} {l:List Int}:Wk drops (.ints .arg k l) (.ints .arg k l):=.refl rfl (by intros; simp) (by intros; simp)
theorem Wk.Mb {drops:List Nat} {k:IntKind} {l:List Int}:Wk drops (.ints .fresh k l) (.ints .fresh k l):=.refl rfl (by intros; simp) (by intros; simp)
theorem F0.X1 {as:List Atom} {ds:List DV} (h:F0 [] as ds):as=[]∧ds=[]:=by cases h; exact ⟨rfl,rfl⟩
theorem F0.Ayw {ts:List AT} {as:List Atom} {ds:List DV} (h:F0 (.b::ts) as ds):∃ x as' ds',as=.b x::as'∧ds=.bool x::ds'∧F0 ts as' ds':=by
 cases h with | b x h=>exact ⟨x,_,_,rfl,rfl,h⟩
theorem F0.Aqj {k:IntKind} {ts:List AT} {as:List Atom} {ds:List DV} (h:F0 (.i k::ts) as ds):∃ x as' ds',as=.i x::as'∧ds=.int k x::ds'∧F0 ts as' ds':=by
 cases h with | i k x h=>exact ⟨x,_,_,rfl,rfl,h⟩
theorem F0.Aul {k:IntKind} {ts:List AT} {as:List Atom} {ds:List DV} (h:F0 (.s k::ts) as ds):∃ x as' ds',as=.l x::as'∧ds=.ints .arg k x::ds'∧F0 ts as' ds':=by
 cases h with | s k x h=>exact ⟨x,_,_,rfl,rfl,h⟩
theorem F0.Avy {ts:List AT} {as:List Atom} {ds:List DV} (h:F0 (.nb::ts) as ds):∃ x as' ds',as=.f x::as'∧ds=.nb x::ds'∧F0 ts as' ds':=by
 cases h with | nb x h=>exact ⟨x,_,_,rfl,rfl,h⟩
end Go.Den
end
