/- A verified evaluator of the program's form and its use for this seat: Den33, Den34, Den35, Den36, Den37, Den38, Bits. -/
import Derived.Test.YtclmlepbdjafdaaGreatTC
import Derived.KernelRfl
import Derived.Laws.StructEq
import Derived.Laws.Externs
import Derived.ChangeKeysEq
import Derived.IntWalk
set_option linter.unusedVariables false
set_option linter.unusedSimpArgs false
noncomputable section
open Int (toNat)
open List (length getD)
namespace Go.Den
open Go.RowKit (Below)
inductive AT where
 | b
 | i (k:IntKind)
 | s (k:IntKind)
 | fl
 | nb
 | st (l:List AT)
 | fn (g:FuncId) (l:List AT)
 | fm (g:FuncId) (l:List AT)
 | cp (l:List AT)
 | rs (sz:Nat) (l:List (List AT))
inductive Atom where
 | b (x:Bool)
 | i (x:Int)
 | l (x:List Int)
 | f (x:Nat)
def Aat:AT→DV→Option Atom
 | .b,.bool x=>some (.b x)
 | .i k,.int k' x=>bif decide (k=k') then some (.i x) else none
 | .s _,.nil=>some (.l [])
 | .s k,.ints .arg k' l=>bif decide (k=k') then some (.l l) else none
 | .fl,.fl n=>some (.f n)
 | .nb,.nb n=>some (.f n)
 | _,_=>none
def Sa:List AT→List DV→Option (List Atom)
 | [],[]=>some []
 | t::ts,d::ds=>match Aat t d with
   | some a=>match Sa ts ds with
     | some as=>some (a::as)
     | none=>none
   | none=>none
 | _,_=>none
def O0:List AT→List DV→Option (List Atom)
 | [],[]=>some []
 | .cp l::ts,.cellp cs::ds=>match Sa l cs with
   | some as=>match O0 ts ds with
     | some bs=>some (as++bs)
     | none=>none
   | none=>none
 | .st l::ts,.agg cs::ds=>match Sa l cs with
   | some as=>match O0 ts ds with
     | some bs=>some (as++bs)
     | none=>none
   | none=>none
 | t::ts,d::ds=>match Aat t d with
   | some a=>match O0 ts ds with
     | some bs=>some (a::bs)
     | none=>none
   | none=>none
 | _,_=>none
def Yj:List (List AT)→List (List DV)→Option (List Atom)
 | [],[]=>some []
 | l::ls,cs::rows=>match Sa l cs with
   | some as=>match Yj ls rows with
     | some bs=>some (as++bs)
     | none=>none
   | none=>none
 | _,_=>none
def Jt:List AT→List DV→Option (List Atom)
 | [],[]=>some []
 | .rs sz ls::ts,.recs .arg sz' rows::ds=>bif Nat.beq sz sz' then
  match Yj ls rows with
  | some as=>match Jt ts ds with
    | some bs=>some (as++bs)
    | none=>none
  | none=>none
   else none
 | .fm g l::ts,.fn g' fs []::ds=>bif Nat.beq g g' then
  match O0 l fs with
  | some as=>match Jt ts ds with
    | some bs=>some (as++bs)
    | none=>none
  | none=>none
   else none
 | .fn g l::ts,.fn g' [] cs::ds=>bif Nat.beq g g' then
  match O0 l cs with
  | some as=>match Jt ts ds with
    | some bs=>some (as++bs)
    | none=>none
  | none=>none
   else none
 | .cp l::ts,.cellp cs::ds=>match O0 l cs with
   | some as=>match Jt ts ds with
     | some bs=>some (as++bs)
     | none=>none
   | none=>none
 | .st l::ts,.agg cs::ds=>match O0 l cs with
   | some as=>match Jt ts ds with
     | some bs=>some (as++bs)
     | none=>none
   | none=>none
 | t::ts,d::ds=>match Aat t d with
   | some a=>match Jt ts ds with
     | some bs=>some (a::bs)
     | none=>none
   | none=>none
 | _,_=>none
inductive Ek:List AT→List Atom→List DV→Prop
 | nil:Ek [] [] []
 | b {ts as ds} (x:Bool):Ek ts as ds→Ek (.b::ts) (.b x::as) (.bool x::ds)
 | i {ts as ds} (k:IntKind) (x:Int):Ek ts as ds→Ek (.i k::ts) (.i x::as) (.int k x::ds)
 | s {ts as ds} (k:IntKind) (x:List Int):Ek ts as ds→Ek (.s k::ts) (.l x::as) (.ints .arg k x::ds)
 | fl {ts as ds} (x:Nat):Ek ts as ds→Ek (.fl::ts) (.f x::as) (.fl x::ds)
 | nb {ts as ds} (x:Nat):Ek ts as ds→Ek (.nb::ts) (.f x::as) (.nb x::ds)
 | st {l ts as cs bs ds}:Ek l as cs→Ek ts bs ds→Ek (.st l::ts) (as++bs) (.agg cs::ds)
 | fn {g l ts as cs bs ds}:Ek l as cs→Ek ts bs ds→Ek (.fn g l::ts) (as++bs) (.fn g [] cs::ds)
 | fm {g l ts as cs bs ds}:Ek l as cs→Ek ts bs ds→Ek (.fm g l::ts) (as++bs) (.fn g cs []::ds)
 | cp {l ts as cs bs ds}:Ek l as cs→Ek ts bs ds→Ek (.cp l::ts) (as++bs) (.cellp cs::ds)
 | rs0 {sz ts bs ds}:Ek ts bs ds→Ek (.rs sz []::ts) bs (.recs .arg sz []::ds)
 | rs1 {sz l ls ts as cs bs rows ds}:Ek l as cs→Ek (.rs sz ls::ts) bs (.recs .arg sz rows::ds)→Ek (.rs sz (l::ls)::ts) (as++bs) (.recs .arg sz (cs::rows)::ds)
theorem Ahg {c:Ctx} {w:World} {k:IntKind} {v:Value} (h:Ak c w .nil v):Ak c w (.ints .arg k []) v:=by
 simp only [Ak] at h ⊢
 subst h
 exact ⟨none,0,rfl,Asm _,.inl trivial⟩
theorem Yk {t:AT} {d:DV} {a:Atom} (h:Aat t d=some a):∃ d',(∀ ts as ds,Ek ts as ds→Ek (t::ts) (a::as) (d'::ds))∧∀ c w v,Ak c w d v→Ak c w d' v:=by
 unfold Aat at h
 split at h
 ·simp only [Aru] at h; subst h
  exact ⟨_,fun _ _ _ he=>.b _ he,fun _ _ _ h=>h⟩
 ·rename_i k k' x
  by_cases e:k=k'
  ·subst e
   simp only [decide_true,Arr,Aru] at h; subst h
   exact ⟨_,fun _ _ _ he=>.i _ _ he,fun _ _ _ h=>h⟩
  ·simp [e] at h
 ·rename_i k
  simp only [Aru] at h; subst h
  exact ⟨_,fun _ _ _ he=>.s k _ he,fun _ _ _ h=>Ahg h⟩
 ·rename_i k k' x
  by_cases e:k=k'
  ·subst e
   simp only [decide_true,Arr,Aru] at h; subst h
   exact ⟨_,fun _ _ _ he=>.s _ _ he,fun _ _ _ h=>h⟩
  ·simp [e] at h
 ·simp only [Aru] at h; subst h
  exact ⟨_,fun _ _ _ he=>.fl _ he,fun _ _ _ h=>h⟩
 ·simp only [Aru] at h; subst h
  exact ⟨_,fun _ _ _ he=>.nb _ he,fun _ _ _ h=>h⟩
 ·cases h
theorem Tk:∀ {ts:List AT} {ds:List DV} {as:List Atom},Sa ts ds=some as→∃ ds',Ek ts as ds'∧∀ c w vs,A5 c w ds vs→A5 c w ds' vs
 | [],[],as,h=>by
   simp only [Sa,Aru] at h; subst h
   exact ⟨[],.nil,fun _ _ _ h=>h⟩
 | t::ts,d::ds,as,h=>by
   simp only [Sa] at h
   cases h1:Aat t d with
   | none=>rw [h1] at h; cases h
   | some a =>
     cases h2:Sa ts ds with
     | none=>rw [h1,h2] at h; cases h
     | some bs =>
       rw [h1,h2] at h
       simp only [Aru] at h; subst h
       obtain ⟨d',i1,i2⟩:=Yk h1
       obtain ⟨ds',j1,j2⟩:=Tk h2
       refine ⟨d'::ds',i1 _ _ _ j1,fun c w vs hv=>?_⟩
       rw [A5.Ca] at hv ⊢
       obtain ⟨u,us,e,hu,hus⟩:=hv
       exact ⟨u,us,e,i2 _ _ _ hu,j2 _ _ _ hus⟩
 | [],_::_,as,h=>by simp [Sa] at h
 | _::_,[],as,h=>by simp [Sa] at h
theorem Mf:∀ {ts:List AT} {ds:List DV} {as:List Atom},O0 ts ds=some as→∃ ds',Ek ts as ds'∧∀ c w vs,A5 c w ds vs→A5 c w ds' vs
 | ts,ds,as,h=>by
   unfold O0 at h
   split at h
   ·simp only [Aru] at h; subst h
    exact ⟨[],.nil,fun _ _ _ h=>h⟩
   ·rename_i l ts cs ds
    cases h1:Sa l cs with
    | none=>rw [h1] at h; cases h
    | some a =>
      cases h2:O0 ts ds with
      | none=>rw [h1,h2] at h; cases h
      | some bs =>
        rw [h1,h2] at h
        simp only [Aru] at h; subst h
        obtain ⟨cs',i1,i2⟩:=Tk h1
        obtain ⟨ds',j1,j2⟩:=Mf h2
        refine ⟨.cellp cs'::ds',.cp i1 j1,fun c w vs hv=>?_⟩
        rw [A5.Ca] at hv ⊢
        obtain ⟨u,us,e,hu,hus⟩:=hv
        refine ⟨u,us,e,?_,j2 _ _ _ hus⟩
        simp only [Ak] at hu ⊢
        obtain ⟨b,o,vs,e,hb,hh,hc⟩:=hu
        exact ⟨b,o,vs,e,hb,i2 _ _ _ hh,hc⟩
   ·rename_i l ts cs ds
    cases h1:Sa l cs with
    | none=>rw [h1] at h; cases h
    | some a =>
      cases h2:O0 ts ds with
      | none=>rw [h1,h2] at h; cases h
      | some bs =>
        rw [h1,h2] at h
        simp only [Aru] at h; subst h
        obtain ⟨cs',i1,i2⟩:=Tk h1
        obtain ⟨ds',j1,j2⟩:=Mf h2
        refine ⟨.agg cs'::ds',.st i1 j1,fun c w vs hv=>?_⟩
        rw [A5.Ca] at hv ⊢
        obtain ⟨u,us,e,hu,hus⟩:=hv
        refine ⟨u,us,e,?_,j2 _ _ _ hus⟩
        simp only [Ak] at hu ⊢
        obtain ⟨vs,e,hh⟩:=hu
        exact ⟨vs,e,i2 _ _ _ hh⟩
   ·rename_i t ts d ds _ _
    cases h1:Aat t d with
    | none=>rw [h1] at h; cases h
    | some a =>
      cases h2:O0 ts ds with
      | none=>rw [h1,h2] at h; cases h
      | some bs =>
        rw [h1,h2] at h
        simp only [Aru] at h; subst h
        obtain ⟨d',i1,i2⟩:=Yk h1
        obtain ⟨ds',j1,j2⟩:=Mf h2
        refine ⟨d'::ds',i1 _ _ _ j1,fun c w vs hv=>?_⟩
        rw [A5.Ca] at hv ⊢
        obtain ⟨u,us,e,hu,hus⟩:=hv
        exact ⟨u,us,e,i2 _ _ _ hu,j2 _ _ _ hus⟩
   ·cases h
theorem Adw:∀ {ls:List (List AT)} {rows:List (List DV)} {as:List Atom},Yj ls rows=some as →
 ∃ rows',(∀ sz ts bs ds,Ek ts bs ds→Ek (.rs sz ls::ts) (as++bs) (.recs .arg sz rows'::ds))∧rows'.length=rows.length∧∀ c w vs,Cl c w rows vs→Cl c w rows' vs
 | [],[],as,h=>by
   simp only [Yj,Aru] at h; subst h
   exact ⟨[],fun _ _ _ _ h=>.rs0 h,rfl,fun _ _ _ h=>h⟩
 | l::ls,cs::rows,as,h=>by
   simp only [Yj] at h
   cases h1:Sa l cs with
   | none=>rw [h1] at h; cases h
   | some a =>
     cases h2:Yj ls rows with
     | none=>rw [h1,h2] at h; cases h
     | some bs =>
       rw [h1,h2] at h
       simp only [Aru] at h; subst h
       obtain ⟨cs',i1,i2⟩:=Tk h1
       obtain ⟨rows',j1,j2,j3⟩:=Adw h2
       refine ⟨cs'::rows',fun sz ts b ds he=>?_,by simp [j2],fun c w vs hv=>?_⟩
       ·rw [List.append_assoc]; exact .rs1 i1 (j1 _ _ _ _ he)
       ·simp only [Cl] at hv ⊢
        obtain ⟨u,us,e,hu,hus⟩:=hv
        exact ⟨u,us,e,i2 _ _ _ hu,j3 _ _ _ hus⟩
 | [],_::_,as,h=>by simp [Yj] at h
 | _::_,[],as,h=>by simp [Yj] at h
theorem Js:∀ {ts:List AT} {ds:List DV} {as:List Atom},Jt ts ds=some as→∃ ds',Ek ts as ds'∧∀ c w vs,A5 c w ds vs→A5 c w ds' vs
 | ts,ds,as,h=>by
   unfold Jt at h
   split at h
   ·simp only [Aru] at h; subst h
    exact ⟨[],.nil,fun _ _ _ h=>h⟩
   ·rename_i sz ls ts sz' rows ds
    cases hg:Nat.beq sz sz' with
    | false=>rw [hg] at h; cases h
    | true =>
    rw [hg,Arr] at h
    obtain rfl:=Ar9 hg
    cases h1:Yj ls rows with
    | none=>rw [h1] at h; cases h
    | some a =>
      cases h2:Jt ts ds with
      | none=>rw [h1,h2] at h; cases h
      | some bs =>
        rw [h1,h2] at h
        simp only [Aru] at h; subst h
        obtain ⟨rows',i1,i3,i2⟩:=Adw h1
        obtain ⟨ds',j1,j2⟩:=Js h2
        refine ⟨.recs .arg sz rows'::ds',i1 _ _ _ _ j1,fun c w vs hv=>?_⟩
        rw [A5.Ca] at hv ⊢
        obtain ⟨u,us,e,hu,hus⟩:=hv
        refine ⟨u,us,e,?_,j2 _ _ _ hus⟩
        simp only [Ak] at hu ⊢
        obtain ⟨a,cap,e,hc,hh⟩:=hu
        refine ⟨a,cap,by rw [i3]; exact e,by rw [i3]; exact hc,hh.imp (fun h=>?_) fun ⟨b,o,rs,e1,e2,e3,e4,e5⟩=>⟨b,o,rs,e1,e2,i2 _ _ _ e3,e4,e5⟩⟩
        rw [h] at i3
        exact Ast i3
   ·rename_i g l ts g' cs ds
    cases hg:Nat.beq g g' with
    | false=>rw [hg] at h; cases h
    | true =>
    rw [hg,Arr] at h
    obtain rfl:=Ar9 hg
    cases h1:O0 l cs with
    | none=>rw [h1] at h; cases h
    | some a =>
      cases h2:Jt ts ds with
      | none=>rw [h1,h2] at h; cases h
      | some bs =>
        rw [h1,h2] at h
        simp only [Aru] at h; subst h
        obtain ⟨cs',i1,i2⟩:=Mf h1
        obtain ⟨ds',j1,j2⟩:=Js h2
        refine ⟨.fn g cs' []::ds',.fm i1 j1,fun c w vs hv=>?_⟩
        rw [A5.Ca] at hv ⊢
        obtain ⟨u,us,e,hu,hus⟩:=hv
        refine ⟨u,us,e,?_,j2 _ _ _ hus⟩
        simp only [Ak] at hu ⊢
        obtain ⟨fs',vs,e,hf,hh⟩:=hu
        exact ⟨fs',vs,e,i2 _ _ _ hf,hh⟩
   ·rename_i g l ts g' cs ds
    cases hg:Nat.beq g g' with
    | false=>rw [hg] at h; cases h
    | true =>
    rw [hg,Arr] at h
    obtain rfl:=Ar9 hg
    cases h1:O0 l cs with
    | none=>rw [h1] at h; cases h
    | some a =>
      cases h2:Jt ts ds with
      | none=>rw [h1,h2] at h; cases h
      | some bs =>
        rw [h1,h2] at h
        simp only [Aru] at h; subst h
        obtain ⟨cs',i1,i2⟩:=Mf h1
        obtain ⟨ds',j1,j2⟩:=Js h2
        refine ⟨.fn g [] cs'::ds',.fn i1 j1,fun c w vs hv=>?_⟩
        rw [A5.Ca] at hv ⊢
        obtain ⟨u,us,e,hu,hus⟩:=hv
        refine ⟨u,us,e,?_,j2 _ _ _ hus⟩
        simp only [Ak] at hu ⊢
        obtain ⟨fs',vs,e,hf,hh⟩:=hu
        exact ⟨fs',vs,e,hf,i2 _ _ _ hh⟩
   ·rename_i l ts cs ds
    cases h1:O0 l cs with
    | none=>rw [h1] at h; cases h
    | some a =>
      cases h2:Jt ts ds with
      | none=>rw [h1,h2] at h; cases h
      | some bs =>
        rw [h1,h2] at h
        simp only [Aru] at h; subst h
        obtain ⟨cs',i1,i2⟩:=Mf h1
        obtain ⟨ds',j1,j2⟩:=Js h2
        refine ⟨.cellp cs'::ds',.cp i1 j1,fun c w vs hv=>?_⟩
        rw [A5.Ca] at hv ⊢
        obtain ⟨u,us,e,hu,hus⟩:=hv
        refine ⟨u,us,e,?_,j2 _ _ _ hus⟩
        simp only [Ak] at hu ⊢
        obtain ⟨b,o,vs,e,hb,hh,hc⟩:=hu
        exact ⟨b,o,vs,e,hb,i2 _ _ _ hh,hc⟩
   ·rename_i l ts cs ds
    cases h1:O0 l cs with
    | none=>rw [h1] at h; cases h
    | some a =>
      cases h2:Jt ts ds with
      | none=>rw [h1,h2] at h; cases h
      | some bs =>
        rw [h1,h2] at h
        simp only [Aru] at h; subst h
        obtain ⟨cs',i1,i2⟩:=Mf h1
        obtain ⟨ds',j1,j2⟩:=Js h2
        refine ⟨.agg cs'::ds',.st i1 j1,fun c w vs hv=>?_⟩
        rw [A5.Ca] at hv ⊢
        obtain ⟨u,us,e,hu,hus⟩:=hv
        refine ⟨u,us,e,?_,j2 _ _ _ hus⟩
        simp only [Ak] at hu ⊢
        obtain ⟨vs,e,hh⟩:=hu
        exact ⟨vs,e,i2 _ _ _ hh⟩
   ·rename_i t ts d ds _ _ _ _ _
    cases h1:Aat t d with
    | none=>rw [h1] at h; cases h
    | some a =>
      cases h2:Jt ts ds with
      | none=>rw [h1,h2] at h; cases h
      | some bs =>
        rw [h1,h2] at h
        simp only [Aru] at h; subst h
        obtain ⟨d',i1,i2⟩:=Yk h1
        obtain ⟨ds',j1,j2⟩:=Js h2
        refine ⟨d'::ds',i1 _ _ _ j1,fun c w vs hv=>?_⟩
        rw [A5.Ca] at hv ⊢
        obtain ⟨u,us,e,hu,hus⟩:=hv
        exact ⟨u,us,e,i2 _ _ _ hu,j2 _ _ _ hus⟩
   ·cases h
def entry (ts:List AT) (pre:List Atom→Bool) (out:List Atom→DV):Entry where
 pre:=fun args=>match Jt ts args with
  | some as=>pre as
  | none=>false
 out:=fun args=>match Jt ts args with
  | some as=>out as
  | none=>.undef
inductive Wk (drops:List Nat):DV→DV→Prop
 | refl {d:DV} (h:Ds 1 [] d=true) (ho:∀ i e k l,d≠.ints (.own i e) k l) (hr:∀ i e k l,d≠.recs (.own i e) k l):Wk drops d d
 | nil (g:Aa5) (k:IntKind):Wk drops .nil (.ints g k [])
 | fresh (k:IntKind) (l:List Int):Wk drops (.ints .fresh k l) (.ints .arg k l)
 | keep (i:Nat) (e:TypeId) (k:IntKind) (l:List Int) (h:i ∉ drops):Wk drops (.ints (.own i e) k l) (.ints (.own i e) k l)
 | keepR (i:Nat) (e:TypeId) (sz:Nat) (l:List (List DV)) (h:i ∉ drops):Wk drops (.recs (.own i e) sz l) (.recs (.own i e) sz l)
 | nilR (g:Aa5) (sz:Nat):Wk drops .nil (.recs g sz [])
 | dropR (i:Nat) (e:TypeId) (sz:Nat) (l:List (List DV)) (h:i∈drops):Wk drops (.recs (.own i e) sz l) (.recs .fresh sz l)
 | drop (i:Nat) (e:TypeId) (k:IntKind) (l:List Int) (h:i∈drops):Wk drops (.ints (.own i e) k l) (.ints .fresh k l)
 | dropA (i:Nat) (e:TypeId) (k:IntKind) (l:List Int) (h:i∈drops):Wk drops (.ints (.own i e) k l) (.ints .arg k l)
 | agg {l l':List DV} (h:l.length=l'.length) (hw:∀ (j:Nat) d d',l[j]?=some d→l'[j]?=some d'→Wk drops d d'):Wk drops (.agg l) (.agg l')
 | tup {l l':List DV} (h:l.length=l'.length) (hw:∀ (j:Nat) d d',l[j]?=some d→l'[j]?=some d'→Wk drops d d'):Wk drops (.tup l) (.tup l')
def F8 (drops:List Nat) (own:Nat→Option Nat) (i:Nat):Option Nat:=if i∈drops then none else own i
theorem I3 {drops:List Nat} {own:Nat→Option Nat} {i b:Nat} (h:F8 drops own i=some b):own i=some b∧i ∉ drops:=by
 unfold F8 at h
 split at h
 ·cases h
 ·exact ⟨h,‹_›⟩
theorem O4 {w:World} {base:Nat} {e:TypeId} {k:IntKind} {l:List Int} {v:Value} (ho:w.ownsRow base e 1 v l.length (l.map (Value.int k))) {ok:Nat→Prop} (hok:∀ b,v.ownBlock=some b→ok b) :
 ∃ a cap,v=.slice a l.length cap∧l.length≤cap∧(l=[]∨∃ b o,a=some ⟨b,o,none⟩∧ok b∧∀ (i:Nat) n,l[i]?=some n→w.cell? ⟨b,o+i,none⟩=some (.int k n)):=by
 have:=H9 (p:=⟨.live,.row v 1⟩) rfl ho (El ho) (ok:=ok) hok
 simp only [List.drop_zero,List.take_length] at this
 exact this
theorem Wk.rel {drops:List Nat} {d d':DV} (h:Wk drops d d') {I:Nat→Prop} {own:Nat→Option Nat} {w w':World} (ho:Ad3 own w w'):∀ v,Ak (C2 I own w w') w' d v→Ak (C2 I (F8 drops own) w w') w' d' v:=by
 have hok:∀ b,(C2 I own w w').ok b→(C2 I (F8 drops own) w w').ok b:=by
  rintro b ⟨h1,h2,h3⟩
  exact ⟨h1,h2,fun i hi=>h3 i (I3 hi).1⟩
 have hblk:∀ i b,i∈drops→own i=some b→(C2 I (F8 drops own) w w').ok b∧w.heap.size≤b:=by
  intro i b hi hb
  obtain ⟨h1,h2⟩:=ho.lt i b hb
  refine ⟨⟨h2,.inr h1,fun j hj=>?_⟩,h1⟩
  obtain ⟨h3,h4⟩:=I3 hj
  rw [ho.inj j i b h3 hb] at h4
  exact h4 hi
 induction h with
 | @refl d h h1 h2 =>
   intro v hv
   have hl:I7 (({ C2 I own w w' with own:=fun _=>none }:Ctx).only []) w' (C2 I (F8 drops own) w w') w' :=
    ⟨hok,rfl,rfl,fun _ _ h=>(by cases h),fun n p hp=>(by simp [Ctx.only] at hp),fun _ _ _=>rfl,fun _ _ h=>(by cases h)⟩
   refine Ak.Cv hl d v (Xu [] 1 d v h ?_)
   cases d with
   | ints g k l =>
     cases g with
     | own i e=>exact absurd rfl (h1 i e k l)
     | _=>simp only [Ak] at hv ⊢; exact hv
   | recs g k l =>
     cases g with
     | own i e=>exact absurd rfl (h2 i e k l)
     | _=>simp only [Ak] at hv ⊢; exact hv
   | agg l =>
     cases l with
     | nil=>simp only [Ak] at hv ⊢; simpa [A5] using hv
     | cons a l=>simp [Ds] at h
   | tup l =>
     cases l with
     | nil=>simp only [Ak] at hv ⊢; simpa [A5] using hv
     | cons a l=>simp [Ds] at h
   | fn g a c =>
     cases a with
     | cons _ _=>simp [Ds] at h
     | nil =>
       cases c with
       | cons _ _=>simp [Ds] at h
       | nil=>simp only [Ak] at hv ⊢; simpa [A5] using hv
   | gd c d=>simp [Ds] at h
   | oref n=>simp [Ds] at h
   | sref n o m=>simp [Ds] at h
   | ptr n i j=>simp [Ds] at h
   | undef=>simp only [Ak]
   | _=>simp only [Ak] at hv ⊢; exact hv
 | nil g k =>
   intro v hv
   simp only [Ak] at hv
   subst hv
   cases g with
   | own i e=>simp only [Ak]; exact ⟨World.ownsRow_nil w' _ e 1,fun b hb=>by cases hb⟩
   | _=>simp only [Ak]; exact ⟨none,0,rfl,Asm _,.inl trivial⟩
 | nilR g sz =>
   intro v hv
   simp only [Ak] at hv
   subst hv
   cases g with
   | own i e=>simp only [Ak]; exact ⟨[],by simp [Cl],by simp,World.ownsRow_nil w' _ e sz,fun b hb=>by cases hb⟩
   | _=>simp only [Ak]; exact ⟨none,0,rfl,Asm _,.inl trivial⟩
 | dropR i e sz l h =>
   intro v hv
   simp only [Ak] at hv ⊢
   obtain ⟨rows,h1,h2,h3,h4⟩:=hv
   have hr:=Cl.Cv (c:=(C2 I own w w').bare) (c':=(C2 I (F8 drops own) w w').bare) ⟨hok,rfl,rfl,fun _ _ h=>(by cases h),fun _ _ h=>(by cases h),fun _ _ _=>rfl,fun _ _ h=>(by cases h)⟩ _ _ h1
   have:=H8 (p:=⟨.live,.row v sz⟩) rfl hr h2 h3 (by have:=El h3; exact this) (ok:=fun b=>(C2 I (F8 drops own) w w').ok b∧w.heap.size≤b) (fun b hb=>hblk i b h (h4 b hb))
   simp only [List.drop_zero,List.take_length] at this
   obtain ⟨a,cap,e1,e2,e3⟩:=this
   exact ⟨a,cap,e1,e2,e3.imp id fun ⟨b,o,rows',e4,e5,e6,e7,e8⟩=>⟨b,o,rows',e4,⟨e5.1,rfl,e5.2⟩,e6,e7,e8⟩⟩
 | fresh k l =>
   intro v hv
   simp only [Ak] at hv ⊢
   obtain ⟨a,cap,e,h1,h2⟩:=hv
   exact ⟨a,cap,e,h1,h2.imp id fun ⟨b,o,h3,h4,h5⟩=>⟨b,o,h3,hok b h4.1,h5⟩⟩
 | keep i e k l h =>
   intro v hv
   simp only [Ak] at hv ⊢
   exact ⟨hv.1,fun b hb=>by show F8 drops own i=some b; unfold F8; rw [Asd h]; exact hv.2 b hb⟩
 | keepR i e sz l h =>
   intro v hv
   simp only [Ak] at hv ⊢
   obtain ⟨rows,h1,h2,h3,h4⟩:=hv
   refine ⟨rows,?_,h2,h3,fun b hb=>by show F8 drops own i=some b; unfold F8; rw [Asd h]; exact h4 b hb⟩
   exact Cl.Cv (c:=(C2 I own w w').bare) (c':=(C2 I (F8 drops own) w w').bare) ⟨hok,rfl,rfl,fun _ _ h=>(by cases h),fun _ _ h=>(by cases h),fun _ _ _=>rfl,fun _ _ h=>(by cases h)⟩ _ _ h1
 | drop i e k l h =>
   intro v hv
   simp only [Ak] at hv ⊢
   exact O4 hv.1 fun b hb=>⟨(hblk i b h (hv.2 b hb)).1,rfl,(hblk i b h (hv.2 b hb)).2⟩
 | dropA i e k l h =>
   intro v hv
   simp only [Ak] at hv ⊢
   exact O4 hv.1 fun b hb=>(hblk i b h (hv.2 b hb)).1
 | @agg l l' h hw ih =>
   intro v hv
   simp only [Ak] at hv ⊢
   obtain ⟨vs,e,hl⟩:=hv
   refine ⟨vs,e,A5.Jb (by rw [← h]; exact hl.length) fun j d v hd hv=>?_⟩
   have hlt:j<l.length:=by rw [h]; exact (List.getElem?_eq_some_iff.1 hd).1
   obtain ⟨u,hu,hr⟩:=hl.get j _ (Ar8 hlt)
   rw [hv] at hu; cases hu
   exact ih j _ d (Ar8 hlt) hd v hr
 | @tup l l' h hw ih =>
   intro v hv
   simp only [Ak] at hv ⊢
   obtain ⟨vs,e,hl⟩:=hv
   refine ⟨vs,e,A5.Jb (by rw [← h]; exact hl.length) fun j d v hd hv=>?_⟩
   have hlt:j<l.length:=by rw [h]; exact (List.getElem?_eq_some_iff.1 hd).1
   obtain ⟨u,hu,hr⟩:=hl.get j _ (Ar8 hlt)
   rw [hv] at hu; cases hu
   exact ih j _ d (Ar8 hlt) hd v hr
theorem La.Abb {P:Program} {f:FuncId} {args:List DV} {out out':DV} (h:La P f args out) {drops:List Nat} (hw:Wk drops out out'):La P f args out':=by
 intro w vals I hI hv
 refine (h w vals I hI hv).mono ?_
 rintro e w' ⟨v,own,he,hb,ho,hr⟩
 refine ⟨v,F8 drops own,he,hb,⟨fun i b hi=>ho.lt i b (I3 hi).1,fun i j b hi hj=>ho.inj i j b (I3 hi).1 (I3 hj).1⟩,hw.rel ho v hr⟩
theorem La.args {P:Program} {f:FuncId} {args args':List DV} {out:DV} (h:La P f args out) (ha:∀ c w vs,A5 c w args' vs→A5 c w args vs):La P f args' out :=
 fun w vals I hI hv=>h w vals I hI (ha _ _ _ hv)
theorem Sr {P:Program} {E:Env} (he:Hz P E) {f:FuncId} {fn:Func} {body:Code} (hf:P.funcs[f]?=some fn) (hb:fn.body=some body) {ts:List AT} {pre:List Atom→Bool} {out:List Atom→DV}
 (h:∀ as ds,Ek ts as ds→pre as=true→∃ fuel d drops,Bw E fuel fn body ds=some d∧Wk drops d (out as)):Vr P f (entry ts pre out):=by
 intro args ha
 simp only [entry] at ha ⊢
 cases hd:Jt ts args with
 | none=>rw [hd] at ha; cases ha
 | some as =>
   rw [hd] at ha
   simp only at ha ⊢
   obtain ⟨ds,h1,h2⟩:=Js hd
   obtain ⟨fuel,d,drops,h3,h4⟩:=h as ds h1 ha
   exact ((Anj he hf hb h3).Abb h4).args h2
end Go.Den
namespace Go.Den
structure Pt (β:Type) where
 b:Nat
 c:Code
 Kn:St→Option β
 Kx:Nat→St→Option β
 Kr:St→Option β
def descend {β:Type} (E:Env) (n:Nat):List Nat→List Nat→Nat→Code→(St→Option β)→(Nat→St→Option β)→(St→Option β)→Pt β
 | 0::p,ms,b,.seq x y,Kn,Kx,Kr=>descend E n p ms b x (fun st'=>den E n b y st' Kn Kx Kr) Kx Kr
 | _::p,ms,b,.seq _ y,Kn,Kx,Kr=>descend E n p ms b y Kn Kx Kr
 | 0::p,ms,b,.cond _ x _,Kn,Kx,Kr=>descend E n p ms b x Kn Kx Kr
 | _::p,ms,b,.cond _ _ y,Kn,Kx,Kr=>descend E n p ms b y Kn Kx Kr
 | _::p,ms,_,.block id c,Kn,Kx,Kr=>descend E n p ms id c Kn (fun id' st'=>bif id'==id then Kn st' else Kx id' st') Kr
 | _::p,ms,b,.scope c,Kn,Kx,Kr=>descend E n p ms b c Kn Kx Kr
 | _::p,m::ms,b,.loop c,_,Kx,Kr=>descend E n p ms b c (fun st2=>match canon (E.hint b) st2 with | some st3=>U0 (E.hint b) (den E n b c) m st3 Kx Kr | none=>none) Kx Kr
 | _,_,b,c,Kn,Kx,Kr=>⟨b,c,Kn,Kx,Kr⟩
def cutAt (E:Env) (n:Nat) (fn:Func) (body:Code) (p ms:List Nat) (st:St):Option DV :=
 match descend E n p ms 0 body (fun st=>Vt E fn st) (fun _ _=>none) (fun st=>Vt E fn st) with
 | ⟨b,.seq (.region _ ops draw) y,Kn,Kx,Kr⟩=>Xl (Zo E ops draw (fun st'=>den E n b y st' Kn Kx Kr)) st
 | ⟨_,.region _ ops draw,Kn,_,_⟩=>Xl (Zo E ops draw Kn) st
 | _=>none
def Aiw (E:Env) (n:Nat) (fn:Func) (body:Code) (p ms:List Nat) (st:St):Option DV :=
 match descend E n p ms 0 body (fun st=>Vt E fn st) (fun _ _=>none) (fun st=>Vt E fn st) with
 | ⟨b,.seq (.region _ ops draw) y,Kn,Kx,Kr⟩=>Zo E ops draw (fun st'=>den E n b y st' Kn Kx Kr) st
 | ⟨_,.region _ ops draw,Kn,_,_⟩=>Zo E ops draw Kn st
 | _=>none
theorem Nt (E:Env) (n:Nat) (fn:Func) (body:Code) (p ms:List Nat) (st:St):cutAt E n fn body p ms st=Aiw E n fn body p ms st:=by
 unfold cutAt Aiw
 split<;>simp only [V9]
def B3 (E:Env) (n:Nat) (fn:Func) (body:Code) (p ms:List Nat) (m:Nat) (st:St):Option DV :=
 match descend E n p ms 0 body (fun st=>Vt E fn st) (fun _ _=>none) (fun st=>Vt E fn st) with
 | ⟨b,.loop c,_,Kx,Kr⟩=>U0 (E.hint b) (den E n b c) m st Kx Kr
 | _=>none
def atL (i:Nat):List (Nat × DV)→DV
 | []=>.undef
 | (j,d)::l=>bif Nat.beq i j then d else atL i l
def Ao5 (l:List (Nat × DV)):Nat→Nat→List DV
 | 0,_=>[]
 | k+1,i=>atL i l::Ao5 l k (i+1)
def G8 (n:Nat) (l:List (Nat × DV)):List DV:=Ao5 l n 0
end Go.Den
namespace Go.Den
open Go.RowKit (Below)
def Ab (x:Int):Int:=IntKind.i64.wrap x
def Bb (x:Int):Int:=IntKind.u64.wrap x
def Hk (x:Int):Int:=IntKind.u32.wrap x
def Dq (k:IntKind) (x y:Int):Int:=k.wrap (BitVec.ofInt k.bits x &&& BitVec.ofInt k.bits y).toNat
def F9 (k:IntKind) (x y:Int):Int:=k.wrap (BitVec.ofInt k.bits x ||| BitVec.ofInt k.bits y).toNat
def Aln (k:IntKind) (x y:Int):Int:=k.wrap (BitVec.ofInt k.bits x ^^^ BitVec.ofInt k.bits y).toNat
def E0 (k:IntKind) (x y:Int):Int:=k.wrap (BitVec.ofInt k.bits x &&& ~~~(BitVec.ofInt k.bits y)).toNat
def Bq (k:IntKind) (x y:Int):Int:=k.wrap (x*2^(min y.toNat k.bits))
def Ct (k:IntKind) (x y:Int):Int:=x.fdiv (2^(min y.toNat k.bits))
def Br (p:Prop):Bool:=@decide p (Classical.propDecidable p)
theorem Al {p:Prop}:Br p=true↔p:=by unfold Br; exact @decide_eq_true_iff p (Classical.propDecidable p)
def Aq (f:Func):Code:=f.body.getD .skip
def Bg:List (Nat × Entry)→Nat→Option Entry
 | [],_=>none
 | (m,e)::l,n=>bif Nat.beq m n then some e else Bg l n
def Agf:List (Nat × TI)→Nat→Option TI
 | [],_=>none
 | (m,e)::l,n=>bif Nat.beq m n then some e else Agf l n
theorem ifT {α:Type} {R:Bool} {A A' B:α} (h:R=true) (ha:A=A'):(bif R then A else B)=A':=by rw [h,ha]; rfl
theorem Aw {α:Type} {R:Bool} {A A':Option α} (h:R=true) (ha:A=A'):(bif R then A else none)=A':=ifT h ha
theorem Df {α:Type} {R S:Bool} {A A' B B':α} (h:R=S) (ha:A=A') (hb:B=B'):(bif R then A else B)=bif S then A' else B':=by rw [h,ha,hb]
theorem Eu {α:Type} {R:Bool} {A A' B B':α} (ha:A=A') (hb:B=B'):(bif R then A else B)=bif R then A' else B':=by rw [ha,hb]
structure A6 (P:Program) (g:FuncId) (e:Entry):Prop where
 meets:Vr P g e
 call:∀ (args:Array Value) (w:World),(callFunc g args).run P w=.ok (.enter g args) w
inductive Ay (P:Program):List (Nat × Entry)→Prop
 | nil:Ay P []
 | cons {g e l}:A6 P g e→Ay P l→Ay P ((g,e)::l)
theorem Ay.get {P:Program} {l:List (Nat × Entry)} (h:Ay P l) {g:Nat} {e:Entry} (hg:Bg l g=some e):A6 P g e:=by
 induction h with
 | nil=>cases hg
 | @cons g' e' l h1 h2 ih =>
   simp only [Bg] at hg
   cases hb:Nat.beq g' g with
   | true =>
     rw [hb] at hg
     simp only [Arr,Aru] at hg
     have:=Ar9 hb
     subst this hg
     exact h1
   | false=>rw [hb] at hg; exact ih hg
theorem P0 {P:Program} {f:FuncId} {fn:Func} {body:Code} (hf:P.funcs[f]?=some fn) (hn:(fn.name== "runtime.NumGoroutine")=false) (hb:fn.body=some body) (args:Array Value) (w:World) :
 (callFunc f args).run P w=.ok (.enter f args) w:=by
 have h1:fn.name≠ "runtime.NumGoroutine":=by simpa using hn
 simp [callFunc,hf,h1,hb]
inductive Ow (P:Program):List (Nat × TI)→Prop
 | nil:Ow P []
 | cons {t ti l}:B7 P t ti→Ow P l→Ow P ((t,ti)::l)
theorem Ow.get {P:Program} {l:List (Nat × TI)} (h:Ow P l) {t:Nat} {ti:TI} (hg:Agf l t=some ti):B7 P t ti:=by
 induction h with
 | nil=>cases hg
 | @cons t' ti' l h1 h2 ih =>
   simp only [Agf] at hg
   cases hb:Nat.beq t' t with
   | true =>
     rw [hb] at hg
     simp only [Arr,Aru] at hg
     have:=Ar9 hb
     subst this hg
     exact h1
   | false=>rw [hb] at hg; exact ih hg
theorem Cw {P:Program} {t:TypeId} {ti:TI} {z:Value} (h:(P.info? t).map (fun i=>(i.zero,i.size,i.bytes))=some (some z,ti.size,ti.bytes)) (hz:Yv ti.zero z.cells.toList) (hs:z.cells.size=ti.size)
 (h1:∀ u∈z.cells.toList,u.oneCell'=true) (hd:Ck P t ti.kind):B7 P t ti:=by
 cases hi:P.info? t with
 | none=>rw [hi] at h; cases h
 | some i =>
   rw [hi] at h
   simp only [Option.map_some,Aru,Ar0] at h
   exact ⟨⟨i,z,hi,h.2.1,h.2.2,h.1,hz,hs,h1⟩,hd⟩
def Aen (ts:List AT) (pre:List Atom→Bool) (out:List Atom→DV) (mu:List Atom→Nat) (n:Nat):Entry:=entry ts (fun as=>pre as&&Br (mu as<n)) out
theorem Ab5 {P:Program} {E:Nat→Env} {f:FuncId} {fn:Func} {body:Code} (hf:P.funcs[f]?=some fn) (hb:fn.body=some body) {ts:List AT} {pre:List Atom→Bool} {out:List Atom→DV} (mu:List Atom→Nat)
 (he:∀ n,Vr P f (Aen ts pre out mu n)→Hz P (E n))
 (h:∀ n as ds,Ek ts as ds→pre as=true→mu as<n+1→∃ fuel d drops,Bw (E n) fuel fn body ds=some d∧Wk drops d (out as)):Vr P f (entry ts pre out):=by
 have key:∀ n,Vr P f (Aen ts pre out mu n):=by
  intro n
  induction n with
  | zero =>
    intro args ha
    simp only [Aen,entry] at ha
    split at ha
    ·simp only [Ar2,Al] at ha; omega
    ·cases ha
  | succ n ih =>
    refine Sr (he n ih) hf hb fun as ds hd hp=>?_
    simp only [Ar2,Al] at hp
    exact h n as ds hd hp.1 hp.2
 intro args ha
 simp only [entry] at ha
 cases hd:Jt ts args with
 | none=>rw [hd] at ha; cases ha
 | some as =>
   rw [hd] at ha
   have:=key (mu as+1) args (by simp only [Aen,entry,hd,Ar2,Al]; exact ⟨ha,Nat.lt_succ_self _⟩)
   simp only [Aen,entry] at this ⊢
   exact this
theorem Ly {P:Program} (w:World) {t:TypeId} {ti:TI} (hf:B7 P t ti) (ha:ti.agg=false) {xs:Array Value} {i:Nat} {v:Value} (hv:xs[i]?=some v):(part t xs i).run P w=.ok v w:=by
 simp [part,hf.Qi w,ha,hv]
theorem T0 {z:Bool} {l m:List DV} (h:sameShape (.bool z::l) m=true):∃ b m',m=.bool b::m'∧sameShape l m'=true:=by
 cases m with
 | nil=>simp [sameShape] at h
 | cons d m'=>cases d<;>simp [sameShape] at h; exact ⟨_,_,rfl,h⟩
theorem N9 {k:IntKind} {z:Int} {l m:List DV} (h:sameShape (.int k z::l) m=true):∃ b m',m=.int k b::m'∧sameShape l m'=true:=by
 cases m with
 | nil=>simp [sameShape] at h
 | cons d m'=>cases d<;>simp [sameShape] at h; obtain ⟨rfl,h⟩:=h; exact ⟨_,_,rfl,h⟩
theorem Wd {m:List DV} (h:sameShape [] m=true):m=[]:=by
 cases m with
 | nil=>rfl
 | cons d m'=>cases d<;>simp [sameShape] at h
theorem Anr {P:Program} {g:FuncId} {e:Entry} (h:A6 P g e) {vals:Array Value} {w:World} {args:List DV} {I:Nat→Prop} (hI:∀ b,I b→b<w.heap.size) (ha:A5 (Ht I) w args vals.toList)
 (hp:e.pre args=true) (ho:e.out args=.bool true):Calls P g vals w fun e w'=>e=.returned (.bool true)∧Below w.heap.size w w':=by
 refine (h.meets args hp w vals I hI ha).mono ?_
 rintro e w' ⟨v,own,he,hb,_,hv⟩
 rw [ho] at hv
 simp only [Ak] at hv
 subst hv
 exact ⟨he,hb⟩
end Go.Den
namespace Go.Den
open Go.RowKit (Below)
end Go.Den
namespace Go.Den
def Anw (ts:List AT) (e1 e2:Entry):Entry where
 pre:=fun args=>match Jt ts args with
  | some _=>e1.pre args
  | none=>e2.pre args
 out:=fun args=>match Jt ts args with
  | some _=>e1.out args
  | none=>e2.out args
theorem A6.alt {P:Program} {g:FuncId} {ts:List AT} {e1 e2:Entry} (h1:A6 P g e1) (h2:A6 P g e2):A6 P g (Anw ts e1 e2):=by
 refine ⟨fun args ha=>?_,h1.call⟩
 simp only [Anw] at ha ⊢
 cases hd:Jt ts args with
 | none=>rw [hd] at ha; exact h2.meets args ha
 | some x=>rw [hd] at ha; exact h1.meets args ha
theorem A6.Abb {P:Program} {g:FuncId} {ts:List AT} {pre pre':List Atom→Bool} {out out':List Atom→DV} (h:A6 P g (entry ts pre out)) (drops:List Nat)
 (hw:∀ ats,pre' ats=true→pre ats=true∧Wk drops (out ats) (out' ats)):A6 P g (entry ts pre' out'):=by
 refine ⟨fun args ha=>?_,h.call⟩
 simp only [entry] at ha ⊢
 cases hd:Jt ts args with
 | none=>rw [hd] at ha; cases ha
 | some x =>
   rw [hd] at ha
   have:=h.meets args (by simp only [entry,hd]; exact (hw x ha).1)
   simp only [entry,hd] at this
   exact this.Abb (hw x ha).2
end Go.Den
namespace Go.Den
def Aiy (K:List (List DV)→List DV→Prop):List DV→Prop
 | .recs .arg _ rows::ds=>K rows ds
 | _=>True
def I8:Nat→List AT→(List Atom→List DV→Prop)→Prop
 | 0,_,_=>False
 | _+1,[],K=>K [] []
 | n+1,.b::ts,K=>∀ x:Bool,I8 n ts fun as ds=>K (.b x::as) (.bool x::ds)
 | n+1,.i k::ts,K=>∀ x:Int,I8 n ts fun as ds=>K (.i x::as) (.int k x::ds)
 | n+1,.s k::ts,K=>∀ x:List Int,I8 n ts fun as ds=>K (.l x::as) (.ints .arg k x::ds)
 | n+1,.fl::ts,K=>∀ x:Nat,I8 n ts fun as ds=>K (.f x::as) (.fl x::ds)
 | n+1,.nb::ts,K=>∀ x:Nat,I8 n ts fun as ds=>K (.f x::as) (.nb x::ds)
 | n+1,.st l::ts,K=>I8 n l fun as cs=>I8 n ts fun bs ds=>K (as++bs) (.agg cs::ds)
 | n+1,.fn g l::ts,K=>I8 n l fun as cs=>I8 n ts fun bs ds=>K (as++bs) (.fn g [] cs::ds)
 | n+1,.fm g l::ts,K=>I8 n l fun as cs=>I8 n ts fun bs ds=>K (as++bs) (.fn g cs []::ds)
 | n+1,.cp l::ts,K=>I8 n l fun as cs=>I8 n ts fun bs ds=>K (as++bs) (.cellp cs::ds)
 | n+1,.rs sz []::ts,K=>I8 n ts fun as ds=>K as (.recs .arg sz []::ds)
 | n+1,.rs sz (l::ls)::ts,K=>I8 n l fun as cs=>I8 n (.rs sz ls::ts) fun bs ds=>Aiy (fun rows ds=>K (as++bs) (.recs .arg sz (cs::rows)::ds)) ds
theorem I8.go:∀ (n:Nat) {ts:List AT} {as:List Atom} {ds:List DV} {K:List Atom→List DV→Prop},I8 n ts K→Ek ts as ds→K as ds:=by
 intro n
 induction n with
 | zero=>intro ts as ds K h _; exact h.elim
 | succ n ih =>
   intro ts as ds K h e
   cases e with
   | nil=>exact h
   | b x e=>exact ih (K:=fun as ds=>K (.b x::as) (.bool x::ds)) (h x) e
   | i k x e=>exact ih (K:=fun as ds=>K (.i x::as) (.int k x::ds)) (h x) e
   | s k x e=>exact ih (K:=fun as ds=>K (.l x::as) (.ints .arg k x::ds)) (h x) e
   | fl x e=>exact ih (K:=fun as ds=>K (.f x::as) (.fl x::ds)) (h x) e
   | nb x e=>exact ih (K:=fun as ds=>K (.f x::as) (.nb x::ds)) (h x) e
   | @st _ _ a c _ _ e1 e2=>exact ih (K:=fun bs ds=>K (a++bs) (.agg c::ds)) (ih (K:=fun as cs=>I8 n _ fun bs ds=>K (as++bs) (.agg cs::ds)) h e1) e2
   | @fn g _ _ a c _ _ e1 e2=>exact ih (K:=fun bs ds=>K (a++bs) (.fn g [] c::ds)) (ih (K:=fun as cs=>I8 n _ fun bs ds=>K (as++bs) (.fn g [] cs::ds)) h e1) e2
   | @fm g _ _ a c _ _ e1 e2=>exact ih (K:=fun bs ds=>K (a++bs) (.fn g c []::ds)) (ih (K:=fun as cs=>I8 n _ fun bs ds=>K (as++bs) (.fn g cs []::ds)) h e1) e2
   | @cp _ _ a c _ _ e1 e2=>exact ih (K:=fun bs ds=>K (a++bs) (.cellp c::ds)) (ih (K:=fun as cs=>I8 n _ fun bs ds=>K (as++bs) (.cellp cs::ds)) h e1) e2
   | rs0 e=>exact ih (K:=fun as ds=>K as (.recs .arg _ []::ds)) h e
   | @rs1 sz _ _ _ a c _ _ _ e1 e2 =>
     have:=ih (K:=fun bs ds=>Aiy (fun rows ds=>K (a++bs) (.recs .arg sz (c::rows)::ds)) ds) (ih (K:=fun as cs=>I8 n _ fun bs ds=>Aiy (fun rows ds=>K (as++bs) (.recs .arg sz (cs::rows)::ds)) ds) h e1) e2
     exact this
abbrev Amc (E:Env) (fn:Func) (ds:List DV) (out:DV):Prop:=∃ N dv drops,Bw E N fn (Aq fn) ds=some dv∧Wk drops dv out
abbrev Hyp (E:Env) (fn:Func) (ts:List AT) (pre:List Atom→Bool) (out:List Atom→DV):Prop:=I8 40 ts fun as ds=>pre as=true→Amc E fn ds (out as)
theorem Am {P:Program} {E:Env} (he:Hz P E) {f:FuncId} {fn:Func} (hf:P.funcs[f]?=some fn) (hb:fn.body=some (Aq fn)) (hn:(fn.name== "runtime.NumGoroutine")=false) {ts:List AT} {pre:List Atom→Bool} {out:List Atom→DV}
 (h:I8 40 ts fun as ds=>pre as=true→Amc E fn ds (out as)):A6 P f (entry ts pre out) :=
 ⟨Sr he hf hb fun _ _ e hp=>I8.go 40 h e hp,P0 hf hn hb⟩
end Go.Den
namespace Go.Den
theorem Ao {x:Int} (h1:-9223372036854775808≤x) (h2:x≤9223372036854775807):Ab x=x:=Go.IntWalk.i64_in x ⟨h1,h2⟩
theorem P7 (x:Int):Bb x=x%18446744073709551616:=by unfold Bb IntKind.wrap; simp [IntKind.bits,IntKind.signed]
theorem Af9 (x:Int):Hk x=x%4294967296:=by unfold Hk IntKind.wrap; simp [IntKind.bits,IntKind.signed]
theorem Cu {x:Int} (h1:0≤x) (h2:x<18446744073709551616):Bb x=x:=by rw [P7]; omega
theorem Ip {x:Int} (h1:0≤x) (h2:x<4294967296):Hk x=x:=by rw [Af9]; omega
theorem Alo (k:IntKind) (x y:Int):Ct k x y=x / 2^(min y.toNat k.bits):=by
 unfold Ct
 exact Int.fdiv_eq_ediv_of_nonneg _ (Int.le_of_lt (Int.pow_pos (by decide)))
theorem F4 (k:IntKind) (n s:Nat) (h:s≤k.bits):Ct k n s=((n / 2^s:Nat):Int):=by
 rw [Alo,Art,Nat.min_eq_left h]
 push_cast
 rfl
theorem D8 (n s:Nat) (h:s≤64):Bq .u64 n s=((n*2^s%2^64:Nat):Int):=by
 unfold Bq
 rw [Art,show IntKind.u64.bits=64 from rfl,Nat.min_eq_left h]
 show Bb _=_
 rw [P7]
 show _=((n*2^s%18446744073709551616:Nat):Int)
 rw [Int.natCast_emod,Asc,Int.natCast_pow]
 rfl
theorem Gq (b n:Nat):(BitVec.ofInt b n).toNat=n%2^b:=by
 rw [BitVec.toNat_ofInt]
 rw [show ((n:Int)%(2^b:Nat))=((n%2^b:Nat):Int) by push_cast; rfl,Art]
theorem P8 {n:Nat} (h:n<2^64):IntKind.u64.wrap n=n:=by
 show Bb _=_
 rw [P7]
 omega
theorem Aay {a b:Nat} (ha:a<2^64) (hb:b<2^64):Dq .u64 a b=((a &&& b:Nat):Int):=by
 unfold Dq
 rw [BitVec.toNat_and,Gq,Gq,show IntKind.u64.bits=64 from rfl,Ar4 ha,Ar4 hb]
 exact P8 (Asu Nat.and_le_left ha)
theorem Rd {a b:Nat} (ha:a<2^64) (hb:b<2^64):F9 .u64 a b=((a ||| b:Nat):Int):=by
 unfold F9
 rw [BitVec.toNat_or,Gq,Gq,show IntKind.u64.bits=64 from rfl,Ar4 ha,Ar4 hb]
 exact P8 (Nat.or_lt_two_pow ha hb)
theorem Ai8 {a b:Nat} (ha:a<2^64) (hb:b<2^64):Aln .u64 a b=((a ^^^ b:Nat):Int):=by
 unfold Aln
 rw [BitVec.toNat_xor,Gq,Gq,show IntKind.u64.bits=64 from rfl,Ar4 ha,Ar4 hb]
 exact P8 (Nat.xor_lt_two_pow ha hb)
theorem Gt {a:Nat} (k:Nat) (ha:a<2^64) (hk:k≤64):Dq .u64 a ((2^k-1:Nat):Int)=((a%2^k:Nat):Int):=by
 rw [Aay ha (by have:=Ar6 (n:=2) (by decide) hk; have:=Nat.pow_pos (a:=2) (n:=k) (by decide); omega),Nat.and_two_pow_sub_one_eq_mod]
theorem Ka {a b k:Nat} (hb:b<2^k):b ||| (a*2^k)=a*2^k+b:=by
 rw [Nat.or_comm,Asf,Nat.two_pow_add_eq_or_of_lt hb]
theorem Afy {a b k:Nat} (hb:b<2^k) (h:a*2^k+b<2^64):F9 .u64 b ((a*2^k:Nat):Int)=((a*2^k+b:Nat):Int):=by
 rw [Rd (by omega) (by omega),Ka hb]
theorem Kg {a b k:Nat} (hb:b<2^k) (h:a*2^k+b<2^64):F9 .u64 ((a*2^k:Nat):Int) b=((a*2^k+b:Nat):Int):=by
 rw [Rd (by omega) (by omega),Nat.or_comm,Ka hb]
theorem Tp {r:Nat} (hr:r<2^63):(2^63+r) ^^^ 2^63=r∧r ^^^ 2^63=2^63+r:=by
 have e2:=Nat.two_pow_add_eq_or_of_lt hr 1
 rw [As1] at e2
 have a1:r ^^^ 2^63=2^63+r:=by
  rw [e2]
  apply Nat.eq_of_testBit_eq
  intro i
  rw [Nat.testBit_xor,Nat.testBit_or,Nat.testBit_two_pow]
  by_cases hi:63=i
  ·subst hi
   rw [Nat.testBit_lt_two_pow hr]; simp
  ·simp [hi]
 refine ⟨?_,a1⟩
 rw [← a1,Nat.xor_assoc,Nat.xor_self,Nat.xor_zero]
theorem Ajm {a:Nat} (ha:a<2^64):a ^^^ 2^63=if 2^63≤a then a-2^63 else a+2^63:=by
 by_cases h:2^63≤a
 ·rw [Ase h]
  obtain ⟨r,rfl⟩:∃ r,a=2^63+r:=⟨a-2^63,by omega⟩
  rw [(Tp (by omega)).1]; omega
 ·rw [Asd h,(Tp (by omega)).2]; omega
def Aj (x:Int):Bool:=Br (0≤x∧x<18446744073709551616)
theorem Bt {x:Int} (h:Aj x=true):∃ n:Nat,x=n∧n<2^64:=by
 unfold Aj at h
 rw [Al] at h
 exact ⟨x.toNat,by omega,by omega⟩
theorem B6 {n:Nat} (h:n<2^64):Aj n=true:=by
 unfold Aj
 rw [Al]
 omega
inductive WkL (drops:List Nat):List DV→List DV→Prop
 | nil:WkL drops [] []
 | cons {d d' l l'}:Wk drops d d'→WkL drops l l'→WkL drops (d::l) (d'::l')
theorem WkL.length {drops:List Nat} {l l':List DV} (h:WkL drops l l'):l.length=l'.length:=by
 induction h with
 | nil=>rfl
 | cons _ _ ih=>simp [ih]
theorem WkL.get {drops:List Nat} {l l':List DV} (h:WkL drops l l'):∀ (j:Nat) d d',l[j]?=some d→l'[j]?=some d'→Wk drops d d':=by
 induction h with
 | nil=>intro j d d' h; cases h
 | cons h1 _ ih =>
   intro j d d' h2 h3
   cases j with
   | zero=>cases h2; cases h3; exact h1
   | succ j=>exact ih j d d' h2 h3
theorem Wk.I5 {drops:List Nat} {l l':List DV} (h:WkL drops l l'):Wk drops (.agg l) (.agg l'):=.agg h.length h.get
theorem Wk.E5 {drops:List Nat} {l l':List DV} (h:WkL drops l l'):Wk drops (.tup l) (.tup l'):=.tup h.length h.get
theorem Wk.bool {drops:List Nat} {b:Bool}:Wk drops (.bool b) (.bool b):=.refl rfl (by intros; simp) (by intros; simp)
theorem Wk.int {drops:List Nat} {k:IntKind} {x:Int}:Wk drops (.int k x) (.int k x):=.refl rfl (by intros; simp) (by intros; simp)
theorem Wk.fl {drops:List Nat} {x:Nat}:Wk drops (.fl x) (.fl x):=.refl rfl (by intros; simp) (by intros; simp)
theorem Wk.Afz {drops:List Nat} {k:IntKind} {l:List Int}:Wk drops (.ints .arg k l) (.ints .arg k l):=.refl rfl (by intros; simp) (by intros; simp)
theorem Wk.Nn {drops:List Nat} {k:IntKind} {l:List Int}:Wk drops (.ints .fresh k l) (.ints .fresh k l):=.refl rfl (by intros; simp) (by intros; simp)
theorem Ek.X0 {as:List Atom} {ds:List DV} (h:Ek [] as ds):as=[]∧ds=[]:=by cases h; exact ⟨rfl,rfl⟩
theorem Ek.Apc {ts:List AT} {as:List Atom} {ds:List DV} (h:Ek (.b::ts) as ds):∃ x as' ds',as=.b x::as'∧ds=.bool x::ds'∧Ek ts as' ds':=by
 cases h with | b x h=>exact ⟨x,_,_,rfl,rfl,h⟩
theorem Ek.Aib {k:IntKind} {ts:List AT} {as:List Atom} {ds:List DV} (h:Ek (.i k::ts) as ds):∃ x as' ds',as=.i x::as'∧ds=.int k x::ds'∧Ek ts as' ds':=by
 cases h with | i k x h=>exact ⟨x,_,_,rfl,rfl,h⟩
theorem Ek.Anb {ts:List AT} {as:List Atom} {ds:List DV} (h:Ek (.nb::ts) as ds):∃ x as' ds',as=.f x::as'∧ds=.nb x::ds'∧Ek ts as' ds':=by
 cases h with | nb x h=>exact ⟨x,_,_,rfl,rfl,h⟩
end Go.Den
end
