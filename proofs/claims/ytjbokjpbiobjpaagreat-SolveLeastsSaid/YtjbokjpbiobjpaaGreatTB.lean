/- A verified evaluator of the program's form and its use for this seat: Den9, Den10, Den11, Den12, Den13, Den14, Den15, Den16, Den17. -/
import Derived.Test.YtjbokjpbiobjpaaGreatTA
set_option linter.unusedVariables false
set_option linter.unusedSimpArgs false
namespace Go.Den
def G4 : Option Int → Option Value → Prop
  | none, v => v = none
  | some x, v => ∃ k, v = some (.int k x)
theorem Vy {α : Type} (lo hi : Option Int) (l : List α) : Su lo hi l = (l.take (hi.getD l.length).toNat).drop (lo.getD 0).toNat := by
  cases lo <;> cases hi <;> simp [Su]
theorem Ps {lo hi mx : Option Int} {len : Nat} (h : okB lo hi mx len = true) :
    0 ≤ lo.getD 0 ∧ lo.getD 0 ≤ hi.getD len ∧ 0 ≤ hi.getD len ∧ hi.getD len ≤ mx.getD len ∧ (∀ m, mx = some m → 0 ≤ m ∧ m ≤ len ∧ hi.isSome = true) := by
  unfold okB at h
  cases lo <;> cases hi <;> cases mx <;> simp at h ⊢ <;> omega
theorem Ls {α : Type} {sz : Nat} : ∀ {rows : List (List α)}, (∀ r ∈ rows, r.length = sz) → ∀ (n : Nat), (rows.take n).flatten = rows.flatten.take (n * sz)
  | [], _, n => by simp
  | r0 :: rows, hl, n => by
    have h0 : r0.length = sz := hl r0 (by simp)
    cases n with
    | zero => simp
    | succ n =>
      simp only [List.take_succ_cons, List.flatten_cons]
      rw [Ls (rows := rows) (fun r hr => hl r (by simp [hr])) n, Nat.succ_mul, List.take_append, List.take_of_length_le (l := r0) (by omega), h0, Nat.add_sub_cancel]
theorem O3 {α : Type} {sz : Nat} : ∀ {rows : List (List α)}, (∀ r ∈ rows, r.length = sz) → ∀ (n : Nat), (rows.drop n).flatten = rows.flatten.drop (n * sz)
  | [], _, n => by simp
  | r0 :: rows, hl, n => by
    have h0 : r0.length = sz := hl r0 (by simp)
    cases n with
    | zero => simp
    | succ n =>
      simp only [List.drop_succ_cons, List.flatten_cons]
      rw [O3 (rows := rows) (fun r hr => hl r (by simp [hr])) n, Nat.succ_mul, List.drop_append, List.drop_eq_nil_of_le (as := r0) (by omega), h0, Nat.add_sub_cancel, List.nil_append]
theorem Fk {w : World} {base : Nat} {e : TypeId} {size n : Nat} {v : Value} {xs : List Value} (h : w.ownsRow base e size v n xs) : Mo v size 0 n v := by
  rcases Fl h with ⟨rfl, rfl⟩ | ⟨g, cap, rfl, hc⟩
  · simp [Mo]
  · simp only [Mo]; exact ⟨by omega, _, _, rfl, hc, .inr (by simp)⟩
section
variable {P : Program} {w : World}
theorem L5 (k : IntKind) {x : Int} {y : Nat} (h0 : 0 ≤ x) (h1 : x ≤ y) (code : BoundsCode) : (Instr.sliceBound (.int k x) y code).run P w = .ok x.toNat w := by
  simp [Instr.sliceBound, asIntOf, h0, h1]
theorem Afg {lo hi mx : Option Int} {vlo vhi vmx : Option Value} {len cap : Nat} (h : okB lo hi mx len = true) (hc : len ≤ cap) (h1 : G4 lo vlo) (h2 : G4 hi vhi) (h3 : G4 mx vmx) :
    (Instr.sliceBounds true len cap vlo vhi vmx).run P w = .ok ((lo.getD 0).toNat, (hi.getD len).toNat, (mx.getD cap).toNat) w := by
  obtain ⟨a1, a2, a3, a4, a5⟩ := Ps h
  cases mx with
  | none =>
    simp only [G4] at h3; subst h3
    simp only [Option.getD_none] at a4
    cases hi with
    | none =>
      simp only [G4] at h2; subst h2
      cases lo with
      | none => simp only [G4] at h1; subst h1; simp [Instr.sliceBounds]
      | some x =>
        obtain ⟨k, rfl⟩ := h1
        simp only [Option.getD_some, Option.getD_none] at a1 a2
        simp [Instr.sliceBounds, L5 k a1 a2]
    | some y =>
      obtain ⟨k', rfl⟩ := h2
      simp only [Option.getD_some] at a2 a3 a4
      have hy := L5 (P := P) (w := w) k' a3 (show y ≤ (cap : Int) by omega) .sliceAcap
      cases lo with
      | none => simp only [G4] at h1; subst h1; simp [Instr.sliceBounds, hy]
      | some x =>
        obtain ⟨k, rfl⟩ := h1
        simp only [Option.getD_some] at a1 a2
        have hx := L5 (P := P) (w := w) k a1 (show x ≤ (y.toNat : Int) by omega) .sliceB
        simp [Instr.sliceBounds, hy, hx]
  | some m =>
    obtain ⟨k'', rfl⟩ := h3
    obtain ⟨b1, b2, b3⟩ := a5 m rfl
    have hm := L5 (P := P) (w := w) k'' b1 (show m ≤ (cap : Int) by omega) .slice3Acap
    cases hi with
    | none => cases b3
    | some y =>
      obtain ⟨k', rfl⟩ := h2
      simp only [Option.getD_some] at a2 a3 a4
      have hy := L5 (P := P) (w := w) k' a3 (show y ≤ (m.toNat : Int) by omega) .slice3B
      cases lo with
      | none => simp only [G4] at h1; subst h1; simp [Instr.sliceBounds, hm, hy]
      | some x =>
        obtain ⟨k, rfl⟩ := h1
        simp only [Option.getD_some] at a1 a2
        have hx := L5 (P := P) (w := w) k a1 (show x ≤ (y.toNat : Int) by omega) .slice3C
        simp [Instr.sliceBounds, hm, hy, hx]
theorem Kv {t e : TypeId} {es : Nat} (hu : P.underlying t = some (.slice e)) (hes : (sizeOf e).run P w = .ok es w) {lo hi mx : Option Int} {vlo vhi vmx : Option Value} {a : Option Addr} {len cap : Nat} (h : okB lo hi mx len = true) (hc : len ≤ cap) (h1 : G4 lo vlo) (h2 : G4 hi vhi) (h3 : G4 mx vmx) :
    (Instr.sliceAt t (.slice a len cap) vlo vhi vmx).run P w = .ok (.slice (if (mx.getD cap).toNat = (lo.getD 0).toNat then a else a.map (·.add ((lo.getD 0).toNat * es))) ((hi.getD len).toNat - (lo.getD 0).toNat) ((mx.getD cap).toNat - (lo.getD 0).toNat)) w := by
  have hb := Afg (P := P) (w := w) h hc h1 h2 h3
  simp [Instr.sliceAt, Instr.slice, run_underlying hu, hb, hes]
variable {E : Env} {I0 : Nat → Prop} {B : Nat} {A : Nat → Option Place} {h : Dn} {t : TypeId}
theorem Tg {lo hi mx : Option Int} {len cap : Nat} (h : okB lo hi mx len = true) (hc : len ≤ cap) : (lo.getD 0).toNat ≤ (hi.getD len).toNat ∧ (hi.getD len).toNat ≤ len ∧ (hi.getD len).toNat ≤ (mx.getD cap).toNat := by
  obtain ⟨a1, a2, a3, a4, a5⟩ := Ps h
  cases mx with
  | none => simp only [Option.getD_none] at *; omega
  | some m => obtain ⟨b1, b2, b3⟩ := a5 m rfl; simp only [Option.getD_some] at *; omega
theorem Vx {n : Nat} {p : Place} (hp : A n = some p) {sv : Value} {sz : Nat} (hk : p.kind = .row sv sz) {e : TypeId} {es : Nat} (hu : P.underlying t = some (.slice e)) (hes : (sizeOf e).run P w = .ok es w) (h1 : es = sz)
    {off len : Nat} {va : Value} (hs : Mo sv sz off len va) {lo hi mx : Option Int} {vlo vhi vmx : Option Value} (hq : okB lo hi mx len = true) (hlo : G4 lo vlo) (hhi : G4 hi vhi) (hmx : G4 mx vmx) :
    ∃ v, (Instr.sliceAt t va vlo vhi vmx).run P w = .ok v w ∧ Ao (Bs I0 B A w) w (.sref n (off + (lo.getD 0).toNat) ((hi.getD len) - (lo.getD 0)).toNat) v := by
  obtain ⟨a1, a2, a3, a4, a5⟩ := Ps hq
  have hsub : ((hi.getD len) - (lo.getD 0)).toNat = (hi.getD len).toNat - (lo.getD 0).toNat := by omega
  unfold Mo at hs
  split at hs
  · rename_i g nn cc
    obtain ⟨hle, a', cap, rfl, hcap, ha'⟩ := hs
    obtain ⟨c1, c2, c3⟩ := Tg hq hcap
    refine ⟨_, Kv hu hes hq hcap hlo hhi hmx, ?_⟩
    simp only [Ao]
    refine ⟨rfl, p, hp, .inr ⟨_, sz, hk, ?_⟩⟩
    unfold Mo
    rw [hsub]
    refine ⟨by omega, ?_⟩
    by_cases hm : (mx.getD ↑cap).toNat = (lo.getD 0).toNat
    · rw [if_pos hm]
      exact ⟨a', _, rfl, by omega, .inl (by omega)⟩
    · rw [if_neg hm]
      refine ⟨_, _, rfl, by omega, ?_⟩
      by_cases h0 : len = 0
      · exact .inl (by omega)
      · have ha' := ha'.resolve_left h0
        subst ha'
        refine .inr ?_
        show (⟨g, off * sz, none⟩ : Addr).add _ = _
        rw [Addr.add_lit, h1, Nat.add_mul]
  · obtain ⟨rfl, rfl, rfl⟩ := hs
    obtain ⟨c1, c2, c3⟩ := Tg hq (Nat.le_refl 0)
    refine ⟨_, Kv hu hes hq (Nat.le_refl 0) hlo hhi hmx, ?_⟩
    simp only [Ao]
    refine ⟨rfl, p, hp, .inr ⟨_, sz, hk, ?_⟩⟩
    unfold Mo
    rw [hsub]
    have hmz : (mx.getD ((0 : Nat) : Int)).toNat = 0 := by
      cases mx with
      | none => rfl
      | some m => have := a5 m rfl; simp only [Option.getD_some]; omega
    refine ⟨by omega, by omega, ?_⟩
    have e1 : (lo.getD 0).toNat = 0 := by omega
    have e2 : (hi.getD ((0 : Nat) : Int)).toNat = 0 := by omega
    rw [hmz, e1, e2]
    rfl
  · exact hs.elim
theorem Aic (hty : ∀ t ti, E.ty t = some ti → B8 P t ti) (hm : Mem I0 B A h w) {a : DV} {va : Value} {lo hi mx : Option Int} {vlo vhi vmx : Option Value} {r : R} (ha : Ao (Bs I0 B A w) w a va) (hlo : G4 lo vlo) (hhi : G4 hi vhi) (hmx : G4 mx vmx) (hl : Aaz E h t a lo hi mx = some r) (hr : r.req = true) :
    ∃ v, (Instr.sliceAt t va vlo vhi vmx).run P w = .ok v w ∧ Ao (Bs I0 B A w) w r.v v := by
  unfold Aaz at hl
  split at hl
  · rename_i e _ hT
    have hu := (hty _ _ hT).desc
    simp only [Cc] at hu
    cases hE : E.ty e with
    | none => simp [hE] at hl
    | some ei =>
    simp only [hE, Ata] at hl
    have hes := (hty _ _ hE).Hz w
    split at hl
    · cases lo <;> cases hi <;> cases mx <;> simp at hl
      subst hl
      simp only [G4] at hlo hhi hmx
      subst hlo; subst hhi; subst hmx
      simp only [Ao] at ha; subst ha
      have := Kv (P := P) (w := w) (lo := none) (hi := none) (mx := none) (vlo := none) (vhi := none) (vmx := none) (a := none) (len := 0) (cap := 0) hu hes rfl (Nat.le_refl 0) rfl rfl rfl
      exact ⟨_, this, by simp [Ao]⟩
    · cases hl
    · rename_i g kk l hg
      by_cases h1 : ei.size = 1
      · simp only [h1, beq_self_eq_true, As2, As5] at hl; subst hl
        rw [h1] at hes
        have hmain : ∃ ad cap, va = .slice ad l.length cap ∧ l.length ≤ cap ∧ (l = [] ∨ ∃ b o, ad = some ⟨b, o, none⟩ ∧ (Bs I0 B A w).F9 g b ∧ ∀ (i : Nat) n, l[i]? = some n → w.cell? ⟨b, o + i, none⟩ = some (.int kk n)) := by
          cases g with
          | own i e => exact absurd rfl (hg i e)
          | arg => simpa only [Ao] using ha
          | fresh => simpa only [Ao] using ha
        obtain ⟨ad, cap, rfl, hcap, hh⟩ := hmain
        obtain ⟨c1, c2, c3⟩ := Tg hr hcap
        obtain ⟨a1, a2, a3, a4, a5⟩ := Ps hr
        refine ⟨_, Kv hu hes hr hcap hlo hhi hmx, ?_⟩
        have hlen : (Su lo hi l).length = (hi.getD l.length).toNat - (lo.getD 0).toNat := by
          rw [Vy]; simp; omega
        have goal : ∃ a' cap', (Value.slice (if (mx.getD cap).toNat = (lo.getD 0).toNat then ad else ad.map (·.add ((lo.getD 0).toNat * 1))) ((hi.getD l.length).toNat - (lo.getD 0).toNat) ((mx.getD cap).toNat - (lo.getD 0).toNat)) = .slice a' (Su lo hi l).length cap' ∧ (Su lo hi l).length ≤ cap' ∧ ((Su lo hi l) = [] ∨ ∃ b o, a' = some ⟨b, o, none⟩ ∧ (Bs I0 B A w).F9 g b ∧ ∀ (i : Nat) n, (Su lo hi l)[i]? = some n → w.cell? ⟨b, o + i, none⟩ = some (.int kk n)) := by
          rw [hlen]
          refine ⟨_, _, rfl, by omega, ?_⟩
          by_cases h0 : (hi.getD l.length).toNat - (lo.getD 0).toNat = 0
          · exact .inl (List.eq_nil_of_length_eq_zero (by omega))
          · rcases hh with rfl | ⟨b, o, rfl, hb, hrd⟩
            · simp only [List.length_nil] at *; omega
            · refine .inr ⟨b, o + (lo.getD 0).toNat, ?_, hb, fun i n hi' => ?_⟩
              · rw [if_neg (by omega)]
                simp only [Option.map_some, Nat.mul_one]
                rw [Addr.add_lit]
              · rw [Vy, List.getElem?_drop] at hi'
                have hlt : (lo.getD 0).toNat + i < (hi.getD l.length).toNat := by
                  rcases Nat.lt_or_ge ((lo.getD 0).toNat + i) (hi.getD l.length).toNat with h' | h'
                  · exact h'
                  · rw [List.getElem?_take_eq_none h'] at hi'; cases hi'
                rw [List.getElem?_take_of_lt hlt] at hi'
                rw [Nat.add_assoc]
                exact hrd _ _ hi'
        cases g with
        | own i e => exact absurd rfl (hg i e)
        | arg => simpa only [Ao] using goal
        | fresh => simpa only [Ao] using goal
      · rw [show (ei.size == 1) = false by simpa using h1] at hl; simp at hl
    · cases hl
    · rename_i g sz l hg
      by_cases h1 : ei.size = sz
      · simp only [h1, beq_self_eq_true, As2, As5] at hl; subst hl
        rw [h1] at hes
        have hmain : ∃ ad cap, va = .slice ad l.length cap ∧ l.length ≤ cap ∧ (l = [] ∨ ∃ b o rows, ad = some ⟨b, o, none⟩ ∧ (Bs I0 B A w).F9 g b ∧ C2 (Bs I0 B A w).bare w l rows ∧ (∀ r ∈ rows, r.length = sz ∧ ∀ u ∈ r, u.oneCell' = true) ∧ ∀ (i : Nat) u, rows.flatten[i]? = some u → w.cell? ⟨b, o + i, none⟩ = some u) := by
          cases g with
          | own i e => exact absurd rfl (hg i e)
          | arg => simpa only [Ao] using ha
          | fresh => simpa only [Ao] using ha
        obtain ⟨ad, cap, rfl, hcap, hh⟩ := hmain
        obtain ⟨c1, c2, c3⟩ := Tg hr hcap
        obtain ⟨a1, a2, a3, a4, a5⟩ := Ps hr
        refine ⟨_, Kv hu hes hr hcap hlo hhi hmx, ?_⟩
        have hlen : (Su lo hi l).length = (hi.getD l.length).toNat - (lo.getD 0).toNat := by
          rw [Vy]; simp; omega
        have goal : ∃ a' cap', (Value.slice (if (mx.getD cap).toNat = (lo.getD 0).toNat then ad else ad.map (·.add ((lo.getD 0).toNat * sz))) ((hi.getD l.length).toNat - (lo.getD 0).toNat) ((mx.getD cap).toNat - (lo.getD 0).toNat)) = .slice a' (Su lo hi l).length cap' ∧ (Su lo hi l).length ≤ cap' ∧ ((Su lo hi l) = [] ∨ ∃ b o rows, a' = some ⟨b, o, none⟩ ∧ (Bs I0 B A w).F9 g b ∧ C2 (Bs I0 B A w).bare w (Su lo hi l) rows ∧ (∀ r ∈ rows, r.length = sz ∧ ∀ u ∈ r, u.oneCell' = true) ∧ ∀ (i : Nat) u, rows.flatten[i]? = some u → w.cell? ⟨b, o + i, none⟩ = some u) := by
          rw [hlen]
          refine ⟨_, _, rfl, by omega, ?_⟩
          by_cases h0 : (hi.getD l.length).toNat - (lo.getD 0).toNat = 0
          · exact .inl (List.eq_nil_of_length_eq_zero (by omega))
          · rcases hh with rfl | ⟨b, o, rows, rfl, hb, hrr, hlr, hrd⟩
            · simp only [List.length_nil] at *; omega
            · refine .inr ⟨b, o + (lo.getD 0).toNat * sz, (rows.take (hi.getD l.length).toNat).drop (lo.getD 0).toNat, ?_, hb, ?_, ?_, ?_⟩
              · rw [if_neg (by omega)]
                simp only [Option.map_some]
                rw [Addr.add_lit]
              · rw [Vy]; exact (hrr.take _).drop _
              · exact fun r hr' => hlr r (List.mem_of_mem_take (List.mem_of_mem_drop hr'))
              · intro i u hi'
                rw [Nat.add_assoc]
                refine hrd _ _ ?_
                rw [O3 (fun r hr' => (hlr r (List.mem_of_mem_take hr')).1), List.getElem?_drop, Ls (fun r hr' => (hlr r hr').1)] at hi'
                rcases Nat.lt_or_ge ((lo.getD 0).toNat * sz + i) ((hi.getD l.length).toNat * sz) with h' | h'
                · rwa [List.getElem?_take_of_lt h'] at hi'
                · rw [List.getElem?_take_eq_none h'] at hi'; cases hi'
        cases g with
        | own i e => exact absurd rfl (hg i e)
        | arg => simpa only [Ao] using goal
        | fresh => simpa only [Ao] using goal
      · rw [show (ei.size == sz) = false by simpa using h1] at hl; simp at hl
    · rename_i n
      simp only [Ao] at ha
      obtain ⟨_, p, hp, hd⟩ := ha
      split at hl
      · rename_i e' kk l hlk
        obtain ⟨hst, sv, hk, ho⟩ := D9 hm hp hlk
        obtain ⟨size, hk'⟩ := hd.resolve_left (B1 hst)
        rw [hk] at hk'; cases hk'
        by_cases h1 : ei.size = 1
        · simp only [h1, beq_self_eq_true, As2, As5] at hl; subst hl
          have := Vx (I0 := I0) (B := B) (A := A) (off := 0) (len := l.length) hp hk hu hes h1 (va := va) (Fk ho) hr hlo hhi hmx
          simpa using this
        · rw [show (ei.size == 1) = false by simpa using h1] at hl; simp at hl
      · rename_i e' sz l hlk
        obtain ⟨hst, _, sv, rows, hk, hrr, hlen, ho⟩ := El hm hp hlk
        obtain ⟨size, hk'⟩ := hd.resolve_left (B1 hst)
        rw [hk] at hk'; cases hk'
        by_cases h1 : ei.size = sz
        · simp only [h1, beq_self_eq_true, As2, As5] at hl; subst hl
          have := Vx (I0 := I0) (B := B) (A := A) (off := 0) (len := l.length) hp hk hu hes h1 (va := va) (Fk ho) hr hlo hhi hmx
          simpa using this
        · rw [show (ei.size == sz) = false by simpa using h1] at hl; simp at hl
      · cases hl
    · rename_i n off len
      simp only [Ao] at ha
      obtain ⟨_, p, hp, hd⟩ := ha
      split at hl
      · rename_i e' kk l hlk
        obtain ⟨hst, sv, hk, ho⟩ := D9 hm hp hlk
        obtain ⟨sv', size, hk', hs⟩ := hd.resolve_left (B1 hst)
        rw [hk] at hk'; cases hk'
        by_cases h1 : ei.size = 1
        · simp only [h1, beq_self_eq_true, As2, As5] at hl; subst hl
          exact Vx hp hk hu hes h1 hs hr hlo hhi hmx
        · rw [show (ei.size == 1) = false by simpa using h1] at hl; simp at hl
      · rename_i e' sz l hlk
        obtain ⟨hst, _, sv, rows, hk, hrr, hlen, ho⟩ := El hm hp hlk
        obtain ⟨sv', size, hk', hs⟩ := hd.resolve_left (B1 hst)
        rw [hk] at hk'; cases hk'
        by_cases h1 : ei.size = sz
        · simp only [h1, beq_self_eq_true, As2, As5] at hl; subst hl
          exact Vx hp hk hu hes h1 hs hr hlo hhi hmx
        · rw [show (ei.size == sz) = false by simpa using h1] at hl; simp at hl
      · cases hl
    · cases hl
  · cases hl
end
end Go.Den
namespace Go.Den
def J2 (I : Nat → Prop) : Ctx := { ok := I, B := 0, fr := false, own := fun _ => none, at_ := fun _ => none }
def Dk (I : Nat → Prop) (own : Nat → Option Nat) (w w' : World) : Ctx :=
  { ok := fun b => b < w'.heap.size ∧ (I b ∨ w.heap.size ≤ b) ∧ ∀ i, own i ≠ some b, B := w.heap.size, fr := true, own := own, at_ := fun _ => none }
structure Ah3 (own : Nat → Option Nat) (w w' : World) : Prop where
  lt : ∀ i b, own i = some b → w.heap.size ≤ b ∧ b < w'.heap.size
  inj : ∀ i j b, own i = some b → own j = some b → i = j
def Nn (P : Program) (f : FuncId) (args : List DV) (out : DV) : Prop :=
  ∀ (w : World) (vals : Array Value) (I : Nat → Prop), (∀ b, I b → b < w.heap.size) → A8 (J2 I) w args vals.toList →
    Calls P f vals w fun e w' => ∃ v own, e = .returned v ∧ Go.RowKit.Below w.heap.size w w' ∧ Ah3 own w w' ∧ Ao (Dk I own w w') w' out v
structure Aj9 (P : Program) (g : FuncId) (e : TypeId) : Prop where
  call : ∀ (args : Array Value) (w : World), (callFunc g args).run P w = .ok (.enter g args) w
  run : ∀ (w : World) (r c : Int) (v : Value) (l : List Int), w.ownsRow 0 e 1 v l.length (l.map (Value.int .u64)) →
    Calls P g #[.agg #[.int .i64 r, .int .i64 c, v]] w fun en w' => (∃ u, en = .returned u) ∧ Go.RowKit.Below 0 w w' ∧ ∀ b, b < w.heap.size → v.ownBlock ≠ some b → w'.heap[b]? = w.heap[b]?
def Yr (P : Program) (g : FuncId) (e : Entry) : Prop := ∀ args, e.pre args = true → Nn P g args (e.out args)
def seen (I0 : Nat → Prop) (B : Nat) (A : Nat → Option Place) (w : World) (ns : List Nat) (b : Nat) : Prop :=
  (Bs I0 B A w).ok b ∨ ∃ n p, n ∈ ns ∧ A n = some p ∧ p.st ≠ .dead ∧ p.F9 = some b
theorem seen.mono {I0 : Nat → Prop} {B : Nat} {A : Nat → Option Place} {w : World} {ns ms : List Nat} (h : ∀ n ∈ ns, n ∈ ms) {b : Nat} : seen I0 B A w ns b → seen I0 B A w ms b := fun hb =>
  hb.imp id fun ⟨n, p, hn, r⟩ => ⟨n, p, h n hn, r⟩
theorem Np {I I' : Nat → Prop} (h : ∀ b, I b → I' b) : J4 (J2 I) (J2 I') := ⟨h, rfl, fun _ => rfl, fun _ => rfl⟩
def I5 (h : Dn) (f : Nat) (l : List DV) : Option (List DV × List Nat) :=
  l.foldr (fun d acc => (lower h f d).bind fun (x, ns) => acc.bind fun (xs, ms) => some (x :: xs, ns ++ ms)) (some ([], []))
theorem Adq (h : Dn) (f : Nat) (d : DV) (l : List DV) : I5 h f (d :: l) = (lower h f d).bind fun (x, ns) => (I5 h f l).bind fun (xs, ms) => some (x :: xs, ns ++ ms) := rfl
theorem Uv {h : Dn} {f : Nat} {d : DV} {l : List DV} {r : List DV × List Nat} (hh : I5 h f (d :: l) = some r) :
    ∃ x ns xs ms, lower h f d = some (x, ns) ∧ I5 h f l = some (xs, ms) ∧ r = (x :: xs, ns ++ ms) := by
  rw [Adq] at hh
  cases h1 : lower h f d with
  | none => simp [h1] at hh
  | some a =>
    obtain ⟨x, ns⟩ := a
    cases h2 : I5 h f l with
    | none => simp [h1, h2] at hh
    | some b =>
      obtain ⟨xs, ms⟩ := b
      simp only [h1, h2, Ata, As5] at hh
      exact ⟨x, ns, xs, ms, rfl, rfl, hh.symm⟩
section
variable {I0 : Nat → Prop} {B : Nat} {A : Nat → Option Place} {h : Dn} {w : World}
theorem N5 {f : Nat} (ih : ∀ (d : DV) (v : Value) d' ns, lower h f d = some (d', ns) → Ao (Bs I0 B A w) w d v → Ao (J2 (seen I0 B A w ns)) w d' v) :
    ∀ (l : List DV) (vs : List Value) l' ns, I5 h f l = some (l', ns) → A8 (Bs I0 B A w) w l vs → A8 (J2 (seen I0 B A w ns)) w l' vs
  | [], vs, l', ns, hl, hv => by
    simp only [I5, List.foldr_nil, As5, Atb] at hl
    obtain ⟨rfl, rfl⟩ := hl
    rw [A8.Fy] at hv ⊢; exact hv
  | d :: l, vs, l', ns, hl, hv => by
    obtain ⟨x, n1, xs, ms, h1, h2, e⟩ := Uv hl
    cases e
    rw [A8.Co] at hv ⊢
    obtain ⟨u, us, rfl, hu, hus⟩ := hv
    exact ⟨u, us, rfl, Ao.E2 (Np fun b => seen.mono (fun n hn => List.mem_append.2 (.inl hn))) _ _ (ih d u _ _ h1 hu),
      A8.E2 (Np fun b => seen.mono (fun n hn => List.mem_append.2 (.inr hn))) _ _ (N5 ih l us xs ms h2 hus)⟩
theorem U8 {sv : Value} {sz off len : Nat} {v : Value} (hs : Mo sv sz off len v) : ∃ a cap, v = .slice a len cap ∧ len ≤ cap ∧ (len = 0 ∨ ∃ g n c, sv = .slice (some ⟨g, 0, none⟩) n c ∧ a = some ⟨g, off * sz, none⟩ ∧ off + len ≤ n) := by
  unfold Mo at hs
  split at hs
  · rename_i g n c
    obtain ⟨hle, a, cap, rfl, hc, ha⟩ := hs
    exact ⟨some a, cap, rfl, hc, ha.imp id fun e => ⟨g, n, c, rfl, by rw [e], hle⟩⟩
  · obtain ⟨rfl, rfl, rfl⟩ := hs; exact ⟨none, 0, rfl, Nat.le_refl _, .inl rfl⟩
  · exact hs.elim
theorem Kc {p : Place} {sv : Value} (hk : p.kind = .row sv 1) {e : TypeId} {k : IntKind} {l : List Int} (ho : w.ownsRow B e 1 sv l.length (l.map (Value.int k))) {off len : Nat} {v : Value} (hs : Mo sv 1 off len v) {ok : Nat → Prop} (hok : ∀ b, p.F9 = some b → ok b) :
    ∃ a cap, v = .slice a ((l.drop off).take len).length cap ∧ ((l.drop off).take len).length ≤ cap ∧ ((l.drop off).take len = [] ∨ ∃ b o, a = some ⟨b, o, none⟩ ∧ ok b ∧ ∀ (i : Nat) n, ((l.drop off).take len)[i]? = some n → w.cell? ⟨b, o + i, none⟩ = some (.int k n)) := by
  obtain ⟨a, cap, rfl, hc, hcase⟩ := U8 hs
  rcases hcase with rfl | ⟨g, n, c, rfl, rfl, hle⟩
  · simp only [List.take_zero, List.length_nil]; exact ⟨a, cap, rfl, hc, .inl trivial⟩
  · have hn : n = l.length := by
      rcases Fl ho with ⟨e, _⟩ | ⟨_, _, e, _⟩ <;> cases e; rfl
    have hlen : ((l.drop off).take len).length = len := by simp; omega
    rw [hlen]
    refine ⟨_, cap, rfl, hc, ?_⟩
    by_cases h0 : len = 0
    · subst h0; simp
    · obtain ⟨g', c', e', _, hrd⟩ := Fm ho (by omega)
      cases e'
      refine .inr ⟨g, off * 1, rfl, hok g (by unfold Place.F9; rw [hk]; rfl), fun i m hi => ?_⟩
      have hlt : i < len := by
        rcases Nat.lt_or_ge i len with h' | h'
        · exact h'
        · rw [List.getElem?_take_eq_none h'] at hi; cases hi
      rw [List.getElem?_take_of_lt hlt, List.getElem?_drop] at hi
      have := hrd (off + i) (.int k m) (by rw [List.getElem?_map, hi]; rfl)
      rw [Nat.zero_add] at this
      rw [Nat.mul_one]; exact this
theorem Kb {p : Place} {sv : Value} {sz : Nat} (hk : p.kind = .row sv sz) {e : TypeId} {l : List (List DV)} {rows : List (List Value)} {c : Ctx} (hrr : C2 c w l rows) (hlen : ∀ r ∈ rows, r.length = sz ∧ ∀ u ∈ r, u.oneCell' = true) (ho : w.ownsRow B e sz sv l.length rows.flatten) {off len : Nat} {v : Value} (hs : Mo sv sz off len v) {ok : Nat → Prop} (hok : ∀ b, p.F9 = some b → ok b) :
    ∃ a cap, v = .slice a ((l.drop off).take len).length cap ∧ ((l.drop off).take len).length ≤ cap ∧ ((l.drop off).take len = [] ∨ ∃ b o rows', a = some ⟨b, o, none⟩ ∧ ok b ∧ C2 c w ((l.drop off).take len) rows' ∧ (∀ r ∈ rows', r.length = sz ∧ ∀ u ∈ r, u.oneCell' = true) ∧ ∀ (i : Nat) u, rows'.flatten[i]? = some u → w.cell? ⟨b, o + i, none⟩ = some u) := by
  obtain ⟨a, cap, rfl, hc, hcase⟩ := U8 hs
  rcases hcase with rfl | ⟨g, n, cc, rfl, rfl, hle⟩
  · simp only [List.take_zero, List.length_nil]; exact ⟨a, cap, rfl, hc, .inl trivial⟩
  · have hn : n = l.length := by
      rcases Fl ho with ⟨e, _⟩ | ⟨_, _, e, _⟩ <;> cases e; rfl
    have hlen' : ((l.drop off).take len).length = len := by simp; omega
    rw [hlen']
    refine ⟨_, cap, rfl, hc, ?_⟩
    by_cases h0 : len = 0
    · subst h0; simp
    · obtain ⟨g', c', e', _, hrd⟩ := Fm ho (by omega)
      cases e'
      refine .inr ⟨g, off * sz, (rows.drop off).take len, rfl, hok g (by unfold Place.F9; rw [hk]; rfl), (hrr.drop off).take len, fun r hr => hlen r (List.mem_of_mem_drop (List.mem_of_mem_take hr)), fun i u hi => ?_⟩
      rw [Ls (fun r hr => (hlen r (List.mem_of_mem_drop hr)).1), O3 (fun r hr => (hlen r hr).1)] at hi
      have hlt : i < len * sz := by
        rcases Nat.lt_or_ge i (len * sz) with h' | h'
        · exact h'
        · rw [List.getElem?_take_eq_none h'] at hi; cases hi
      rw [List.getElem?_take_of_lt hlt, List.getElem?_drop] at hi
      have := hrd _ _ hi
      rwa [Nat.zero_add] at this
theorem S6 {n : Nat} {p : Place} (hp : A n = some p) (hnd : p.st ≠ .dead) {ns : List Nat} (hn : n ∈ ns) : ∀ b, p.F9 = some b → seen I0 B A w ns b :=
  fun _ hb => .inr ⟨n, p, hn, hp, hnd, hb⟩
theorem Xk (hm : Mem I0 B A h w) : ∀ (f : Nat) (d : DV) (v : Value) d' ns, lower h f d = some (d', ns) → Ao (Bs I0 B A w) w d v → Ao (J2 (seen I0 B A w ns)) w d' v := by
  intro f
  induction f with
  | zero => intro d v d' ns hl; simp [lower] at hl
  | succ f ih =>
    intro d v d' ns hl hv
    have hL := N5 ih
    cases d with
    | undef => simp only [lower, As5, Atb] at hl; obtain ⟨rfl, rfl⟩ := hl; simp [Ao]
    | nil => simp only [lower, As5, Atb] at hl; obtain ⟨rfl, rfl⟩ := hl; simpa only [Ao] using hv
    | bool b => simp only [lower, As5, Atb] at hl; obtain ⟨rfl, rfl⟩ := hl; simpa only [Ao] using hv
    | int k n => simp only [lower, As5, Atb] at hl; obtain ⟨rfl, rfl⟩ := hl; simpa only [Ao] using hv
    | fl n => simp only [lower, As5, Atb] at hl; obtain ⟨rfl, rfl⟩ := hl; simpa only [Ao] using hv
    | nb n => simp only [lower, As5, Atb] at hl; obtain ⟨rfl, rfl⟩ := hl; simpa only [Ao] using hv
    | agg l =>
      have e : lower h (f + 1) (.agg l) = (I5 h f l).bind fun (l, ns) => some (.agg l, ns) := rfl
      rw [e] at hl
      cases h1 : I5 h f l with
      | none => simp [h1] at hl
      | some a =>
        obtain ⟨l', ns'⟩ := a
        simp only [h1, Ata, As5, Atb] at hl; obtain ⟨rfl, rfl⟩ := hl
        simp only [Ao] at hv ⊢
        obtain ⟨vs, rfl, hls⟩ := hv
        exact ⟨vs, rfl, hL l _ _ _ h1 hls⟩
    | tup l => simp [lower] at hl
    | ints g k l =>
      cases g with
      | own i e => simp [lower] at hl
      | arg =>
        simp only [lower, As5, Atb] at hl; obtain ⟨rfl, rfl⟩ := hl
        simp only [Ao] at hv ⊢
        obtain ⟨a, cap, rfl, hc, hh⟩ := hv
        exact ⟨a, cap, rfl, hc, hh.imp id fun ⟨b, o, e, hb, hr⟩ => ⟨b, o, e, .inl hb, hr⟩⟩
      | fresh =>
        simp only [lower, As5, Atb] at hl; obtain ⟨rfl, rfl⟩ := hl
        simp only [Ao] at hv ⊢
        obtain ⟨a, cap, rfl, hc, hh⟩ := hv
        exact ⟨a, cap, rfl, hc, hh.imp id fun ⟨b, o, e, hb, hr⟩ => ⟨b, o, e, .inl hb.1, hr⟩⟩
    | recs g sz l =>
      have wd : J4 (Bs I0 B A w).bare (J2 (seen I0 B A w [])).bare := ⟨fun b hb => .inl hb, rfl, fun _ => rfl, fun _ => rfl⟩
      cases g with
      | own i e => simp [lower] at hl
      | arg =>
        simp only [lower, As5, Atb] at hl; obtain ⟨rfl, rfl⟩ := hl
        simp only [Ao] at hv ⊢
        obtain ⟨a, cap, rfl, hc, hh⟩ := hv
        exact ⟨a, cap, rfl, hc, hh.imp id fun ⟨b, o, rows, e, hb, hrr, hlen, hr⟩ => ⟨b, o, rows, e, .inl hb, C2.E2 wd _ _ hrr, hlen, hr⟩⟩
      | fresh =>
        simp only [lower, As5, Atb] at hl; obtain ⟨rfl, rfl⟩ := hl
        simp only [Ao] at hv ⊢
        obtain ⟨a, cap, rfl, hc, hh⟩ := hv
        exact ⟨a, cap, rfl, hc, hh.imp id fun ⟨b, o, rows, e, hb, hrr, hlen, hr⟩ => ⟨b, o, rows, e, .inl hb.1, C2.E2 wd _ _ hrr, hlen, hr⟩⟩
    | oref n =>
      simp only [Ao] at hv
      obtain ⟨_, p, hp, hd⟩ := hv
      simp only [lower] at hl
      split at hl
      · rename_i fz e k l hlk
        simp only [As5, Atb] at hl; obtain ⟨rfl, rfl⟩ := hl
        obtain ⟨hst, sv, hk, ho⟩ := D9 hm hp hlk
        obtain ⟨size, hk'⟩ := hd.resolve_left (B1 hst)
        rw [hk] at hk'; cases hk'
        have := Kc hk ho (Fk ho) (S6 (I0 := I0) (B := B) (A := A) (w := w) hp (B1 hst) (List.mem_singleton.2 rfl))
        simp only [List.drop_zero, List.take_length] at this
        simp only [Ao]
        exact this
      · rename_i fz e sz l hlk
        simp only [As5, Atb] at hl; obtain ⟨rfl, rfl⟩ := hl
        obtain ⟨hst, _, sv, rows, hk, hrr, hlen, ho⟩ := El hm hp hlk
        obtain ⟨size, hk'⟩ := hd.resolve_left (B1 hst)
        rw [hk] at hk'; cases hk'
        have wd : J4 (Bs I0 B A w).bare (J2 (seen I0 B A w [n])).bare := ⟨fun b hb => .inl hb, rfl, fun _ => rfl, fun _ => rfl⟩
        have := Kb hk (C2.E2 wd _ _ hrr) hlen ho (Fk ho) (S6 (I0 := I0) (B := B) (A := A) (w := w) hp (B1 hst) (List.mem_singleton.2 rfl))
        simp only [List.drop_zero, List.take_length] at this
        simp only [Ao]
        exact this
      · cases hl
    | sref n off len =>
      simp only [Ao] at hv
      obtain ⟨_, p, hp, hd⟩ := hv
      simp only [lower] at hl
      split at hl
      · rename_i fz e k l hlk
        simp only [As5, Atb] at hl; obtain ⟨rfl, rfl⟩ := hl
        obtain ⟨hst, sv, hk, ho⟩ := D9 hm hp hlk
        obtain ⟨sv', size, hk', hs⟩ := hd.resolve_left (B1 hst)
        rw [hk] at hk'; cases hk'
        simp only [Ao]
        exact Kc hk ho hs (S6 (I0 := I0) (B := B) (A := A) (w := w) hp (B1 hst) (List.mem_singleton.2 rfl))
      · rename_i fz e sz l hlk
        simp only [As5, Atb] at hl; obtain ⟨rfl, rfl⟩ := hl
        obtain ⟨hst, _, sv, rows, hk, hrr, hlen, ho⟩ := El hm hp hlk
        obtain ⟨sv', size, hk', hs⟩ := hd.resolve_left (B1 hst)
        rw [hk] at hk'; cases hk'
        have wd : J4 (Bs I0 B A w).bare (J2 (seen I0 B A w [n])).bare := ⟨fun b hb => .inl hb, rfl, fun _ => rfl, fun _ => rfl⟩
        simp only [Ao]
        exact Kb hk (C2.E2 wd _ _ hrr) hlen ho hs (S6 (I0 := I0) (B := B) (A := A) (w := w) hp (B1 hst) (List.mem_singleton.2 rfl))
      · cases hl
    | ptr n i j =>
      cases i with
      | succ i => simp [lower] at hl
      | zero =>
      have e : lower h (f + 1) (.ptr n 0 j) = match look h n with | some (_, .box cs) => (I5 h f (cs.drop j)).bind fun (l, ns) => some (.cellp l, n :: ns) | _ => none := rfl
      rw [e] at hl
      simp only [Ao] at hv
      obtain ⟨_, p, hp, hd⟩ := hv
      split at hl
      · rename_i fz cs hlk
        obtain ⟨hst, b, e, cells, hk, hh, hls⟩ := Ow hm hp hlk
        have hd := hd.resolve_left (B1 hst)
        unfold Iu at hd; rw [hk] at hd
        obtain ⟨_, rfl⟩ := hd
        cases h1 : I5 h f (cs.drop j) with
        | none => simp [h1] at hl
        | some a =>
          obtain ⟨l', ns'⟩ := a
          simp only [h1, Ata, As5, Atb] at hl; obtain ⟨rfl, rfl⟩ := hl
          simp only [Ao]
          refine ⟨b, j, cells.toList.drop j, rfl, .inr ⟨n, p, by simp, hp, B1 hst, by unfold Place.F9; rw [hk]⟩, ?_, ?_⟩
          · exact A8.E2 (Np fun b => seen.mono (fun n hn => List.mem_cons_of_mem _ hn)) _ _ (hL _ _ _ _ h1 (hls.drop j))
          · have := (Aae hh).drop j
            rw [Nat.zero_add] at this
            exact this
      · cases hl
    | cellp cs =>
      simp only [lower, As5, Atb] at hl; obtain ⟨rfl, rfl⟩ := hl
      have wd : J4 (Bs I0 B A w).bare (J2 (seen I0 B A w [])).bare := ⟨fun b hb => .inl hb, rfl, fun _ => rfl, fun _ => rfl⟩
      simp only [Ao] at hv ⊢
      obtain ⟨b, o, vs, rfl, hb, hls, hrd⟩ := hv
      exact ⟨b, o, vs, rfl, .inl hb, A8.E2 wd _ _ hls, hrd⟩
    | fn g a c =>
      have e : lower h (f + 1) (.fn g a c) = (I5 h f a).bind fun (a, ns) => (I5 h f c).bind fun (c, ms) => some (.fn g a c, ns ++ ms) := rfl
      rw [e] at hl
      cases h1 : I5 h f a with
      | none => simp [h1] at hl
      | some x =>
        obtain ⟨a', n1⟩ := x
        cases h2 : I5 h f c with
        | none => simp [h1, h2] at hl
        | some y =>
          obtain ⟨c', n2⟩ := y
          simp only [h1, h2, Ata, As5, Atb] at hl; obtain ⟨rfl, rfl⟩ := hl
          simp only [Ao] at hv ⊢
          obtain ⟨fs', cs', rfl, hf, hcs⟩ := hv
          exact ⟨fs', cs', rfl, A8.E2 (Np fun b => seen.mono (fun n hn => List.mem_append.2 (.inl hn))) _ _ (hL a _ _ _ h1 hf),
            A8.E2 (Np fun b => seen.mono (fun n hn => List.mem_append.2 (.inr hn))) _ _ (hL c _ _ _ h2 hcs)⟩
    | gd g d => simp [lower] at hl
end
end Go.Den
namespace Go.Den
open Go.RowKit (Below)
section
variable {I0 I : Nat → Prop} {B : Nat} {own : Nat → Option Nat} {w w' : World} {ad : Bool}
structure Good (I0 I : Nat → Prop) (B : Nat) (own : Nat → Option Nat) (w w' : World) (ad : Bool) (A : Nat → Option Place) : Prop where
  ok : ∀ b, (Dk I own w w').ok b → (Bs I0 B A w').ok b
  own : ad = false → ∀ i b, own i = some b → w.heap.size ≤ b → (Bs I0 B A w').ok b
  hB : B ≤ w.heap.size
theorem R3 {w : World} {base base' : Nat} {e : TypeId} {size n : Nat} {v : Value} {xs : List Value} (h : w.ownsRow base e size v n xs) (hb : base' ≤ base) : w.ownsRow base' e size v n xs := by
  obtain ⟨h1, h2⟩ := h
  refine ⟨h1, ?_⟩
  rcases h2 with h2 | ⟨g, cap, cur, hv, hg, r⟩
  · exact Or.inl h2
  · exact Or.inr ⟨g, cap, cur, hv, Nat.le_trans hb hg, r⟩
theorem Gq {w : World} {base : Nat} {e : TypeId} {size n : Nat} {v : Value} {xs : List Value} (h : w.ownsRow base e size v n xs) : v.oneCell' = true := by
  rcases h.2 with ⟨rfl, _⟩ | ⟨g, cap, cur, rfl, _⟩ <;> rfl
theorem Ov {w : World} {base : Nat} {e : TypeId} {size n : Nat} {v : Value} {xs : List Value} (h : w.ownsRow base e size v n xs) {b : Nat} (hb : v.ownBlock = some b) : base ≤ b := by
  rcases h.2 with ⟨rfl, _⟩ | ⟨g, cap, cur, rfl, hg, _⟩
  · cases hb
  · cases hb; exact hg
def F6 (I0 I : Nat → Prop) (B : Nat) (own : Nat → Option Nat) (w w' : World) (ad : Bool) (os : List (Nat × OB)) (is : List Nat) (G : Ctx → Prop) : Prop :=
  ∃ ps : List (Nat × Place), ps.map (·.1) = os.map (·.1) ∧ is.length = ps.length ∧
    (∀ (j : Nat) n p, ps[j]? = some (n, p) → p.st = .live ∧ ∃ i, is[j]? = some i ∧ ∀ b, p.F9 = some b → own i = some b) ∧
    ∀ A, Good I0 I B own w w' ad A → (∀ n p, (n, p) ∈ ps → A n = some p) →
      G (Bs I0 B A w') ∧ ∀ (j : Nat) n p ob, ps[j]? = some (n, p) → os[j]? = some (n, ob) → C1 (Bs I0 B A w') w' p (false, ob)
theorem F6.none {G : Ctx → Prop} (h : ∀ A, Good I0 I B own w w' ad A → G (Bs I0 B A w')) : F6 I0 I B own w w' ad [] [] G :=
  ⟨[], rfl, rfl, fun j n p hj => by simp at hj, fun A hA _ => ⟨h A hA, fun j n p ob hj => by simp at hj⟩⟩
theorem F6.append {os os' : List (Nat × OB)} {is is' : List Nat} {G G' : Ctx → Prop} (h : F6 I0 I B own w w' ad os is G) (h' : F6 I0 I B own w w' ad os' is' G') :
    F6 I0 I B own w w' ad (os ++ os') (is ++ is') (fun c => G c ∧ G' c) := by
  obtain ⟨ps, h1, h2, h3, h4⟩ := h
  obtain ⟨ps', h1', h2', h3', h4'⟩ := h'
  have hl : os.length = ps.length := by have := congrArg List.length h1; simpa using this.symm
  refine ⟨ps ++ ps', by simp [h1, h1'], by simp [h2, h2'], ?_, ?_⟩
  · intro j n p hj
    rcases Nat.lt_or_ge j ps.length with hlt | hge
    · rw [List.getElem?_append_left hlt] at hj
      obtain ⟨a, i, b, c⟩ := h3 j n p hj
      exact ⟨a, i, by rw [List.getElem?_append_left (by omega)]; exact b, c⟩
    · rw [List.getElem?_append_right hge] at hj
      obtain ⟨a, i, b, c⟩ := h3' _ n p hj
      exact ⟨a, i, by rw [List.getElem?_append_right (by omega), h2]; exact b, c⟩
  · intro A hA hps
    obtain ⟨a, b⟩ := h4 A hA fun n p hn => hps n p (List.mem_append.2 (.inl hn))
    obtain ⟨a', b'⟩ := h4' A hA fun n p hn => hps n p (List.mem_append.2 (.inr hn))
    refine ⟨⟨a, a'⟩, fun j n p ob hj ho => ?_⟩
    rcases Nat.lt_or_ge j ps.length with hlt | hge
    · rw [List.getElem?_append_left hlt] at hj
      rw [List.getElem?_append_left (by omega)] at ho
      exact b j n p ob hj ho
    · rw [List.getElem?_append_right hge] at hj
      rw [List.getElem?_append_right (by omega), hl] at ho
      exact b' _ n p ob hj ho
theorem F6.mono {os : List (Nat × OB)} {is : List Nat} {G G' : Ctx → Prop} (h : F6 I0 I B own w w' ad os is G) (hG : ∀ c, G c → G' c) : F6 I0 I B own w w' ad os is G' := by
  obtain ⟨ps, h1, h2, h3, h4⟩ := h
  exact ⟨ps, h1, h2, h3, fun A hA hps => let ⟨a, b⟩ := h4 A hA hps; ⟨hG _ a, b⟩⟩
theorem Qk {g : Nat → DV → Option (DV × List (Nat × OB) × List Nat)}
    (ih : ∀ nm d v d' os is, Ao (Dk I own w w') w' d v → g nm d = some (d', os, is) → F6 I0 I B own w w' ad os is (fun c => Ao c w' d' v)) :
    ∀ (l : List DV) nm (vs : List Value) l' os is, A8 (Dk I own w w') w' l vs → J3 g nm l = some (l', os, is) → F6 I0 I B own w w' ad os is (fun c => A8 c w' l' vs)
  | [], nm, vs, l', os, is, hl, h => by
    simp only [J3, As5, Atb] at h
    obtain ⟨rfl, rfl, rfl⟩ := h
    rw [A8.Fy] at hl
    exact F6.none fun A _ => by rw [A8.Fy]; exact hl
  | d :: l, nm, vs, l', os, is, hl, h => by
    rw [A8.Co] at hl
    obtain ⟨u, us, rfl, hu, hus⟩ := hl
    simp only [J3] at h
    split at h
    · rename_i x os1 is1 hg
      split at h
      · rename_i xs os2 is2 hg2
        simp only [As5, Atb] at h
        obtain ⟨rfl, rfl, rfl⟩ := h
        exact ((ih nm d u x os1 is1 hu hg).append (Qk ih l _ us xs os2 is2 hus hg2)).mono fun c hc => by
          rw [A8.Co]; exact ⟨u, us, rfl, hc.1, hc.2⟩
      · cases h
    · cases h
theorem Mh {A : Nat → Option Place} (h : Good I0 I B own w w' ad A) : J4 (Dk I own w w').bare (Bs I0 B A w').bare :=
  ⟨h.ok, rfl, fun _ => rfl, fun _ => rfl⟩
theorem Aj6 : ∀ (f : Nat) nm d v d' os is, Ao (Dk I own w w') w' d v → E1 ad f nm d = some (d', os, is) → F6 I0 I B own w w' ad os is (fun c => Ao c w' d' v) := by
  intro f
  induction f with
  | zero => intro nm d v d' os is hv h; simp [E1] at h
  | succ f ih =>
    intro nm d v d' os is hv h
    have plain : (∀ A, Good I0 I B own w w' ad A → Ao (Bs I0 B A w') w' d v) → E1 ad (f + 1) nm d = some (d, [], []) → F6 I0 I B own w w' ad os is (fun c => Ao c w' d' v) := by
      intro hp he
      rw [he] at h
      simp only [As5, Atb] at h
      obtain ⟨rfl, rfl, rfl⟩ := h
      exact F6.none hp
    cases d with
    | undef => exact plain (fun A _ => by simp [Ao]) rfl
    | nil => exact plain (fun A _ => by simpa only [Ao] using hv) rfl
    | bool b => exact plain (fun A _ => by simpa only [Ao] using hv) rfl
    | int k n => exact plain (fun A _ => by simpa only [Ao] using hv) rfl
    | fl n => exact plain (fun A _ => by simpa only [Ao] using hv) rfl
    | nb n => exact plain (fun A _ => by simpa only [Ao] using hv) rfl
    | agg l =>
      simp only [E1] at h
      split at h
      · rename_i l' os' is' hg
        simp only [As5, Atb] at h
        obtain ⟨rfl, rfl, rfl⟩ := h
        simp only [Ao] at hv
        obtain ⟨vs, rfl, hl⟩ := hv
        exact (Qk ih l nm _ l' os' is' hl hg).mono fun c hc => by simp only [Ao]; exact ⟨vs, rfl, hc⟩
      · cases h
    | tup l =>
      simp only [E1] at h
      split at h
      · rename_i l' os' is' hg
        simp only [As5, Atb] at h
        obtain ⟨rfl, rfl, rfl⟩ := h
        simp only [Ao] at hv
        obtain ⟨vs, rfl, hl⟩ := hv
        exact (Qk ih l nm _ l' os' is' hl hg).mono fun c hc => by simp only [Ao]; exact ⟨vs, rfl, hc⟩
      · cases h
    | ints g k l =>
      cases g with
      | arg =>
        refine plain (fun A hA => ?_) rfl
        simp only [Ao] at hv ⊢
        obtain ⟨a, cap, rfl, hc, hh⟩ := hv
        exact ⟨a, cap, rfl, hc, hh.imp id fun ⟨b, o, e, hb, hr⟩ => ⟨b, o, e, hA.ok _ hb, hr⟩⟩
      | fresh =>
        refine plain (fun A hA => ?_) rfl
        simp only [Ao] at hv ⊢
        obtain ⟨a, cap, rfl, hc, hh⟩ := hv
        exact ⟨a, cap, rfl, hc, hh.imp id fun ⟨b, o, e, hb, hr⟩ => ⟨b, o, e, ⟨hA.ok _ hb.1, rfl, Nat.le_trans hA.hB hb.2.2⟩, hr⟩⟩
      | own i e =>
        simp only [Ao] at hv
        obtain ⟨ho, hob⟩ := hv
        cases ad with
        | true =>
          simp only [E1, As2, As5, Atb] at h
          obtain ⟨rfl, rfl, rfl⟩ := h
          refine ⟨[(nm, ⟨.live, .row v 1⟩)], rfl, rfl, ?_, ?_⟩
          · intro j n p hj
            cases j with
            | zero => simp at hj; obtain ⟨rfl, rfl⟩ := hj; exact ⟨rfl, i, rfl, fun b hb => hob b hb⟩
            | succ j => simp at hj
          · intro A hA hps
            refine ⟨by simp only [Ao]; exact ⟨Gq ho, ⟨.live, .row v 1⟩, hps nm _ (by simp), .inr ⟨1, rfl⟩⟩, fun j n p ob hj hob' => ?_⟩
            cases j with
            | zero =>
              simp only [List.getElem?_cons_zero, As5, Atb] at hj hob'; obtain ⟨rfl, rfl⟩ := hj; obtain ⟨_, rfl⟩ := hob'
              unfold C1
              exact ⟨rfl, v, rfl, R3 ho hA.hB⟩
            | succ j => simp at hj
        | false =>
          simp only [E1, As6, As5, Atb] at h
          obtain ⟨rfl, rfl, rfl⟩ := h
          refine F6.none fun A hA => ?_
          simp only [Ao]
          rcases Fl ho with ⟨rfl, h0⟩ | ⟨g, cap, rfl, hc⟩
          · have : l = [] := List.eq_nil_of_length_eq_zero h0
            subst this
            exact ⟨none, 0, rfl, Nat.le_refl _, .inl rfl⟩
          · refine ⟨_, cap, rfl, hc, .inr ⟨g, 0, rfl, ⟨hA.own rfl i g (hob g rfl) (Ov ho rfl), rfl, Nat.le_trans hA.hB (Ov ho rfl)⟩, fun j n hj => ?_⟩⟩
            have := ho.cells (g := g) rfl j (.int k n) (by rw [List.getElem?_map, hj]; rfl)
            rw [Addr.add_lit] at this
            exact this
    | recs g sz l =>
      cases g with
      | arg =>
        refine plain (fun A hA => ?_) rfl
        simp only [Ao] at hv ⊢
        obtain ⟨a, cap, rfl, hc, hh⟩ := hv
        exact ⟨a, cap, rfl, hc, hh.imp id fun ⟨b, o, rows, e, hb, hrr, hlen, hr⟩ => ⟨b, o, rows, e, hA.ok _ hb, C2.E2 (Mh hA) _ _ hrr, hlen, hr⟩⟩
      | fresh =>
        refine plain (fun A hA => ?_) rfl
        simp only [Ao] at hv ⊢
        obtain ⟨a, cap, rfl, hc, hh⟩ := hv
        exact ⟨a, cap, rfl, hc, hh.imp id fun ⟨b, o, rows, e, hb, hrr, hlen, hr⟩ => ⟨b, o, rows, e, ⟨hA.ok _ hb.1, rfl, Nat.le_trans hA.hB hb.2.2⟩, C2.E2 (Mh hA) _ _ hrr, hlen, hr⟩⟩
      | own i e =>
        simp only [Ao] at hv
        obtain ⟨rows, hrr, hlen, ho, hob⟩ := hv
        cases ad with
        | true =>
          by_cases hsz : 0 < sz
          · simp only [E1, hsz, decide_true, Bool.and_true, As2, As5, Atb] at h
            obtain ⟨rfl, rfl, rfl⟩ := h
            refine ⟨[(nm, ⟨.live, .row v sz⟩)], rfl, rfl, ?_, ?_⟩
            · intro j n p hj
              cases j with
              | zero => simp at hj; obtain ⟨rfl, rfl⟩ := hj; exact ⟨rfl, i, rfl, fun b hb => hob b hb⟩
              | succ j => simp at hj
            · intro A hA hps
              refine ⟨by simp only [Ao]; exact ⟨Gq ho, ⟨.live, .row v sz⟩, hps nm _ (by simp), .inr ⟨sz, rfl⟩⟩, fun j n p ob hj hob' => ?_⟩
              cases j with
              | zero =>
                simp only [List.getElem?_cons_zero, As5, Atb] at hj hob'; obtain ⟨rfl, rfl⟩ := hj; obtain ⟨_, rfl⟩ := hob'
                unfold C1
                exact ⟨rfl, hsz, v, rows, rfl, C2.E2 (Mh hA) _ _ hrr, hlen, R3 ho hA.hB⟩
              | succ j => simp at hj
          · simp [E1, hsz] at h
        | false =>
          simp only [E1, Bool.false_and, As6, As5, Atb] at h
          obtain ⟨rfl, rfl, rfl⟩ := h
          refine F6.none fun A hA => ?_
          simp only [Ao]
          rcases Fl ho with ⟨rfl, h0⟩ | ⟨g, cap, rfl, hc⟩
          · have : l = [] := List.eq_nil_of_length_eq_zero h0
            subst this
            exact ⟨none, 0, rfl, Nat.le_refl _, .inl rfl⟩
          · refine ⟨_, cap, rfl, hc, .inr ⟨g, 0, rows, rfl, ⟨hA.own rfl i g (hob g rfl) (Ov ho rfl), rfl, Nat.le_trans hA.hB (Ov ho rfl)⟩, C2.E2 (Mh hA) _ _ hrr, hlen, fun j u hj => ?_⟩⟩
            have := ho.cells (g := g) rfl j u hj
            rw [Addr.add_lit] at this
            exact this
    | oref n => simp [E1] at h
    | sref n off len => simp [E1] at h
    | ptr n i j => simp [E1] at h
    | cellp cs =>
      refine plain (fun A hA => ?_) rfl
      simp only [Ao] at hv ⊢
      obtain ⟨b, o, vs, rfl, hb, hls, hrd⟩ := hv
      exact ⟨b, o, vs, rfl, hA.ok _ hb, A8.E2 (Mh hA) _ _ hls, hrd⟩
    | fn g a c => simp [E1] at h
    | gd g d => simp [E1] at h
end
end Go.Den
namespace Go.Den
open Go.RowKit (Below)
def Ec (P : Program) (s : Sem Next) (w : World) (K : Value → World → Prop) : Prop :=
  match s.run P w with
  | .ok (.value v) w' => K v w'
  | .ok (.enter f args) w' => Calls P f args w' fun e w'' => ∃ v, e = .returned v ∧ K v w''
  | _ => False
theorem Ec.value {P : Program} {s : Sem Next} {w w' : World} {v : Value} {K : Value → World → Prop} (h : s.run P w = .ok (.value v) w') (hk : K v w') : Ec P s w K := by
  unfold Ec; rw [h]; exact hk
theorem Ec.lift {P : Program} {s : Sem Value} {w w' : World} {v : Value} {K : Value → World → Prop} (h : s.run P w = .ok v w') (hk : K v w') : Ec P (do pure (.value (← s))) w K :=
  Ec.value (by simp [h]) hk
def Y3 (frz : List Nat) (n : Nat) (p : Place) : Place := { p with st := if p.st = .live ∧ n ∈ frz then .frozen else p.st }
structure Jj (I0 : Nat → Prop) (B : Nat) (A : Nat → Option Place) (w : World) (objs : List (Nat × OB)) (frz : List Nat) (A' : Nat → Option Place) (w' : World) : Prop where
  below : Below w.heap.size w w'
  old : ∀ n p, A n = some p → A' n = some (Y3 frz n p)
  new : ∀ n p, A n = none → A' n = some p → p.st = .live ∧ (∀ b, p.F9 = some b → w.heap.size ≤ b ∧ b < w'.heap.size) ∧ ∃ ob, (n, ob) ∈ objs ∧ C1 (Bs I0 B A' w') w' p (false, ob)
  inj : ∀ n m p q b, A n = none → A m = none → A' n = some p → A' m = some q → p.F9 = some b → q.F9 = some b → n = m
theorem Apb (n : Nat) (p : Place) : Y3 [] n p = p := by cases p; simp [Y3]
theorem K2 {frz : List Nat} {n : Nat} {p : Place} : (Y3 frz n p).st = .dead ↔ p.st = .dead := by
  unfold Y3; dsimp only; split
  · rename_i h; simp [h.1]
  · rfl
theorem Ob {frz : List Nat} {n : Nat} {p : Place} (h : (Y3 frz n p).st = .live) : p.st = .live ∧ n ∉ frz := by
  unfold Y3 at h; dsimp only at h; split at h
  · cases h
  · rename_i hn; exact ⟨h, fun hm => hn ⟨h, hm⟩⟩
section
variable {I0 : Nat → Prop} {B : Nat} {A A' : Nat → Option Place} {h : Dn} {w w' : World} {objs : List (Nat × OB)} {frz : List Nat}
theorem Jj.refl (hd : Aal w w') : Jj I0 B A w [] [] A w' where
  below := by rcases hd with rfl | rfl; exact Below.refl _ _; exact (Below.refl _ _).drew
  old := fun n p hp => by rw [Apb]; exact hp
  new := fun n p h1 h2 => by rw [h1] at h2; cases h2
  inj := fun n m p q b h1 _ h2 => by rw [h1] at h2; cases h2
theorem Jj.Ap6 (hg : Jj I0 B A w objs frz A' w') : Ij A w A' w' where
  size := hg.below.size
  names := fun n p hp => by
    refine ⟨_, hg.old n p hp, ?_⟩
    by_cases hd : p.st = .dead
    · exact .inl (K2.2 hd)
    · exact .inr ⟨hd, rfl⟩
  live := fun n p b hp hl hb hlt => by
    cases hA : A n with
    | none => have := ((hg.new n p hA hp).2.1 b hb).1; omega
    | some q =>
      have := hg.old n q hA
      rw [this] at hp; cases hp
      exact ⟨n, q, hA, (Ob hl).1, hb⟩
  kept := fun b hb _ => hg.below.block b hb
theorem C1.fz {c : Ctx} {w : World} {p : Place} {n : Nat} {frz : List Nat} : ∀ {fo : Bool × OB}, C1 c w p fo → C1 c w (Y3 frz n p) (fo.1 || decide (n ∈ frz), fo.2)
  | (fz, .dead), hr => by unfold C1 at *; exact K2.2 hr
  | (fz, .box cs), hr => by
    unfold C1 at *
    refine ⟨?_, hr.2⟩
    have := hr.1
    unfold Y3; dsimp only
    cases fz <;> simp at this <;> by_cases hn : n ∈ frz <;> simp [this, hn]
  | (fz, .ints e k l), hr => by
    unfold C1 at *
    refine ⟨?_, hr.2⟩
    have := hr.1
    unfold Y3; dsimp only
    cases fz <;> simp at this <;> by_cases hn : n ∈ frz <;> simp [this, hn]
  | (fz, .recs e sz l), hr => by
    unfold C1 at *
    refine ⟨?_, hr.2⟩
    have := hr.1
    unfold Y3; dsimp only
    cases fz <;> simp at this <;> by_cases hn : n ∈ frz <;> simp [this, hn]
theorem Jj.mem (hm : Mem I0 B A h w) (hg : Jj I0 B A w objs frz A' w') {h' : Dn}
    (ho : ∀ n p fo', A n = some p → look h' n = some fo' → ∃ fo, look h n = some fo ∧ fo' = (fo.1 || decide (n ∈ frz), fo.2))
    (hn : ∀ n ob fo', (n, ob) ∈ objs → A n = none → look h' n = some fo' → fo' = (false, ob)) : Mem I0 B A' h' w' where
  hB := Nat.le_trans hm.hB hg.below.size
  I0lt := hm.I0lt
  obj := fun n p fo' hp hl => by
    cases hA : A n with
    | none =>
      obtain ⟨_, _, ob, hob, hr⟩ := hg.new n p hA hp
      rw [hn n ob fo' hob hA hl]; exact hr
    | some q =>
      have := hg.old n q hA
      rw [this] at hp; cases hp
      obtain ⟨fo, hfo, rfl⟩ := ho n q fo' hA hl
      have h1 := hm.obj n q fo hA hfo
      refine C1.fz ?_
      by_cases hd : q.st = .dead
      · obtain ⟨fz, ob⟩ := fo
        cases ob with
        | dead => exact hd
        | box cs => exact absurd hd (B1 (Ow hm hA hfo).1)
        | ints e k l => exact absurd hd (B1 (D9 hm hA hfo).1)
        | recs e sz l => exact absurd hd (B1 (El hm hA hfo).1)
      · exact C1.Dd hg.Ap6.Dd rfl rfl (fun b hb => hg.below.block b (hm.blkB n q b hA hd hb).2) fo h1
  blkB := fun n p b hp hd hb => by
    cases hA : A n with
    | none => have := (hg.new n p hA hp).2.1 b hb; have := hm.hB; omega
    | some q =>
      have := hg.old n q hA
      rw [this] at hp; cases hp
      have h1 := hm.blkB n q b hA (fun e => hd (K2.2 e)) hb
      have := hg.below.size
      omega
  inj := fun n m p q b hp hq hdp hdq hbp hbq => by
    cases hA : A n with
    | none =>
      have h1 := (hg.new n p hA hp).2.1 b hbp
      cases hA2 : A m with
      | none => exact hg.inj n m p q b hA hA2 hp hq hbp hbq
      | some q' =>
        have := hg.old m q' hA2
        rw [this] at hq; cases hq
        have h2 := hm.blkB m q' b hA2 (fun e => hdq (K2.2 e)) hbq
        omega
    | some p' =>
      have := hg.old n p' hA
      rw [this] at hp; cases hp
      have h1 := hm.blkB n p' b hA (fun e => hdp (K2.2 e)) hbp
      cases hA2 : A m with
      | none => have h2 := (hg.new m q hA2 hq).2.1 b hbq; omega
      | some q' =>
        have := hg.old m q' hA2
        rw [this] at hq; cases hq
        exact hm.inj n m p' q' b hA hA2 (fun e => hdp (K2.2 e)) (fun e => hdq (K2.2 e)) hbp hbq
def Ub (A : Nat → Option Place) (frz : List Nat) (n : Nat) (p : Place) : Nat → Option Place := fun m => if m = n then some p else (A m).map (Y3 frz m)
theorem Yq {A : Nat → Option Place} {frz : List Nat} {n m : Nat} {p q : Place} (hn : A n = none) (hm : A m = some q) : Ub A frz n p m = some (Y3 frz m q) := by
  unfold Ub; rw [if_neg (fun e => by rw [e, hn] at hm; cases hm), hm]; rfl
theorem Qm {A : Nat → Option Place} {frz : List Nat} {n m : Nat} {p q : Place} (h : Ub A frz n p m = some q) : (m = n ∧ q = p) ∨ ∃ r, A m = some r ∧ q = Y3 frz m r := by
  unfold Ub at h
  split at h
  · cases h; exact .inl ⟨‹_›, rfl⟩
  · cases hA : A m with
    | none => simp [hA] at h
    | some r => simp only [hA, Option.map_some, As5] at h; exact .inr ⟨r, rfl, h.symm⟩
theorem Jj.alloc {nm : Nat} (hnm : A nm = none) {cells : Array Value} {e : TypeId} {p : Place} {ob : OB} (hst : p.st = .live) (hblk : ∀ b, p.F9 = some b → b = w.heap.size)
    (hrel : Ij A w (Ub A frz nm p) (w.alloc (.cells cells e)) → C1 (Bs I0 B (Ub A frz nm p) (w.alloc (.cells cells e))) (w.alloc (.cells cells e)) p (false, ob)) :
    Jj I0 B A w [(nm, ob)] frz (Ub A frz nm p) (w.alloc (.cells cells e)) := by
  have hmv : Ij A w (Ub A frz nm p) (w.alloc (.cells cells e)) := by
    refine ⟨by simp, fun n q hq => ?_, fun n q b hq hl hb hlt => ?_, fun b hb _ => Below.heap_alloc _ _ _ hb⟩
    · refine ⟨_, Yq hnm hq, ?_⟩
      by_cases hd : q.st = .dead
      · exact .inl (K2.2 hd)
      · exact .inr ⟨hd, rfl⟩
    · rcases Qm hq with ⟨rfl, rfl⟩ | ⟨r, hr, rfl⟩
      · have := hblk b hb; omega
      · exact ⟨n, r, hr, (Ob hl).1, hb⟩
  refine ⟨(Below.refl _ _).alloc (Nat.le_refl _) _, fun n q hq => Yq hnm hq, fun n q h1 h2 => ?_, fun n m q r b h1 h2 h3 h4 _ _ => ?_⟩
  · rcases Qm h2 with ⟨rfl, rfl⟩ | ⟨r, hr, rfl⟩
    · exact ⟨hst, fun b hb => by rw [hblk b hb]; simp, ob, by simp, hrel hmv⟩
    · rw [h1] at hr; cases hr
  · rcases Qm h3 with ⟨rfl, rfl⟩ | ⟨r, hr, rfl⟩
    · rcases Qm h4 with ⟨rfl, rfl⟩ | ⟨r, hr, rfl⟩
      · rfl
      · rw [h2] at hr; cases hr
    · rw [h1] at hr; cases hr
end
end Go.Den
namespace Go.Den
open Go.RowKit (Below)
theorem Ad8 {c : Ctx} {w : World} {d : DV} {v : Value} (hf : Rv d = true) (h : Ao c w d v) : v.oneCell' = true := by
  cases d <;> simp only [Rv, Bool.false_eq_true] at hf <;> try simp only [Ao] at h
  case nil => subst h; rfl
  case bool => subst h; rfl
  case int => subst h; rfl
  case fl => obtain ⟨m, rfl, _⟩ := h; rfl
  case nb => obtain ⟨m, rfl, _⟩ := h; rfl
  case ints g k l =>
    cases g with
    | own i e => simp only [Ao] at h; exact Gq h.1
    | arg => simp only [Ao] at h; obtain ⟨a, cap, rfl, _⟩ := h; rfl
    | fresh => simp only [Ao] at h; obtain ⟨a, cap, rfl, _⟩ := h; rfl
  case recs g sz l =>
    cases g with
    | own i e => simp only [Ao] at h; obtain ⟨rows, _, _, ho, _⟩ := h; exact Gq ho
    | arg => simp only [Ao] at h; obtain ⟨a, cap, rfl, _⟩ := h; rfl
    | fresh => simp only [Ao] at h; obtain ⟨a, cap, rfl, _⟩ := h; rfl
  case oref => exact h.1
  case sref => exact h.1
  case ptr => exact h.1
  case cellp => obtain ⟨b, o, vs, rfl, _⟩ := h; rfl
  case fn => obtain ⟨fs, cs, rfl, _⟩ := h; rfl
theorem Ajy {v : Value} (h : v.oneCell' = true) : v.cells = #[v] := by
  cases v <;> simp [Value.oneCell'] at h <;> rfl
theorem Acg {d : DV} (hd : ∀ l, d ≠ .agg l) (h : Nf d = true) : Rv d = true := by
  cases d <;> first | exact h | exact absurd rfl (hd _)
theorem Agi {d : DV} (hd : ∀ l, d ≠ .agg l) : cells d = [d] := by
  cases d <;> first | rfl | exact absurd rfl (hd _)
theorem U4 {c : Ctx} {w : World} {d : DV} {v : Value} (hf : Nf d = true) (h : Ao c w d v) : A8 c w (cells d) v.cells.toList := by
  by_cases hd : ∃ l, d = .agg l
  · obtain ⟨l, rfl⟩ := hd
    simp only [Ao] at h
    obtain ⟨vs, rfl, hl⟩ := h
    exact hl
  · have hd' : ∀ l, d ≠ .agg l := fun l e => hd ⟨l, e⟩
    rw [Ajy (Ad8 (Acg hd' hf) h), Agi hd']
    simp only [A8]
    exact ⟨v, [], rfl, h, rfl⟩
theorem Ab5 {c : Ctx} {w : World} : ∀ {ds : List DV} {vs : List Value}, ds.all Rv = true → A8 c w ds vs → ∀ v ∈ vs, v.oneCell' = true
  | [], vs, _, h, v, hv => by rw [A8.Fy] at h; subst h; cases hv
  | d :: ds, vs, hf, h, v, hv => by
    rw [A8.Co] at h
    obtain ⟨u, us, rfl, h1, h2⟩ := h
    simp only [List.all_cons, Atd] at hf
    cases hv with
    | head => exact Ad8 hf.1 h1
    | tail _ hm => exact Ab5 hf.2 h2 v hm
theorem Ru {c : Ctx} {w : World} (off : Nat) : ∀ (ds : List DV) (vs : List Value) (k : Nat) (cs : List DV) (cells : Array Value), A8 c w ds vs → A8 c w cs cells.toList →
    A8 c w ((ds.zipIdx k).foldl (fun cs (c, j) => cs.set (off + j) c) cs) ((vs.zipIdx k).foldl (fun cs (c, j) => cs.setIfInBounds (off + j) c) cells).toList
  | [], vs, k, cs, cells, h, hc => by rw [A8.Fy] at h; subst h; simpa using hc
  | d :: ds, vs, k, cs, cells, h, hc => by
    rw [A8.Co] at h
    obtain ⟨u, us, rfl, h1, h2⟩ := h
    simp only [List.zipIdx_cons, List.foldl_cons]
    exact Ru off ds us (k + 1) _ _ h2 (by rw [Array.toList_setIfInBounds]; exact hc.set _ h1)
inductive J5 (c : Ctx) (w : World) : List (Nat × DV) → List (Nat × Value) → Prop
  | nil : J5 c w [] []
  | cons {i : Nat} {d : DV} {v : Value} {ds : List (Nat × DV)} {vs : List (Nat × Value)} : Ao c w d v → J5 c w ds vs → J5 c w ((i, d) :: ds) ((i, v) :: vs)
theorem Abr {c : Ctx} {w : World} {pl : Nat → Option (Nat × Nat)} {pl' : Nat → Option (Nat × Nat)} (hpl : ∀ i x, pl i = some x → pl' i = some x) :
    ∀ {ps : List (Nat × DV)} {vs : List (Nat × Value)}, J5 c w ps vs → ∀ (cs cs' : List DV) (cells : Array Value), A8 c w cs cells.toList → T1 pl cs ps = some cs' →
      ∃ cells', Instr.fill pl' cells vs = some cells' ∧ A8 c w cs' cells'.toList := by
  intro ps vs h
  induction h with
  | nil => intro cs cs' cells hc hf; simp only [T1, As5] at hf; subst hf; exact ⟨cells, rfl, hc⟩
  | @cons i d v ds vs hd _ ih =>
    intro cs cs' cells hc hf
    simp only [T1] at hf
    cases hp : pl i with
    | none => simp [hp] at hf
    | some x =>
      obtain ⟨off, size⟩ := x
      simp only [hp] at hf
      by_cases hq : (Nf d && (Go.Den.cells d).length == size && decide (off + (Go.Den.cells d).length ≤ cs.length)) = true
      · rw [hq, As2] at hf
        simp only [Atd, beq_iff_eq, As9] at hq
        obtain ⟨⟨hw, hs⟩, hb⟩ := hq
        have hr := U4 hw hd
        have hlen := hr.length
        have hcl := hc.length
        have hset := Ru off _ _ 0 cs cells hr hc
        obtain ⟨cells', h1, h2⟩ := ih _ _ _ hset hf
        refine ⟨cells', ?_, h2⟩
        simp only [Instr.fill, hpl i _ hp]
        have e1 : ¬ (v.cells.size ≠ size || decide (off + v.cells.size > cells.size)) = true := by
          simp only [Array.length_toList] at hlen hcl
          simp; omega
        rw [if_neg (by simpa using e1)]
        rw [← h1]
        congr 1
        rw [← Array.foldl_toList, Array.toList_zipIdx]
      · simp only [Bool.not_eq_true] at hq
        rw [hq] at hf; simp at hf
section
variable {P : Program} {E : Env} {I0 : Nat → Prop} {B : Nat} {A : Nat → Option Place} {h : Dn} {w : World} {t : TypeId}
theorem run_places (hty : ∀ t ti, E.ty t = some ti → B8 P t ti) : ∀ (gs : List Field) (l : List (Nat × Nat)), Tb E (gs.map fun f => (f.offset, f.type)) = some l →
    (gs.mapM (fun f => (do pure (f.offset, ← sizeOf f.type) : Sem (Nat × Nat)))).run P w = .ok l w
  | [], l, h => by simp only [List.map_nil, Tb, As5] at h; subst h; rfl
  | f :: gs, l, h => by
    simp only [List.map_cons, Tb] at h
    split at h
    · rename_i ti hT
      split at h
      · rename_i l' hl
        simp only [As5] at h; subst h
        have ih := run_places hty gs l' hl
        simp only [List.mapM_cons, Sem.run_bind, (hty _ _ hT).Hz w, Result.andThen_ok, Sem.run_pure, ih]
      · cases h
    · cases h
theorem Ang (hty : ∀ t ti, E.ty t = some ti → B8 P t ti) {c : Ctx} {ti : TI} (hT : E.ty t = some ti) {pl : Nat → Option (Nat × Nat)} (hp : V2 E t = some pl)
    {ps : List (Nat × DV)} {vs : Array (Nat × Value)} (hr : J5 c w ps vs.toList) {cs : List DV} (hf : T1 pl ti.zero ps = some cs) :
    ∃ v, (Instr.build t vs).run P w = .ok v w ∧ Ao c w (.agg cs) v := by
  obtain ⟨z, hz, hzr, _, _⟩ := (hty _ _ hT).Wv w
  unfold V2 at hp
  split at hp
  · rename_i fs _ hT'
    have hd := (hty _ _ hT').desc
    simp only [Cc] at hd
    obtain ⟨gs, hu, hg⟩ := hd
    split at hp
    · rename_i l hl
      simp only [As5] at hp; subst hp
      rw [← hg] at hl
      have hm := run_places (P := P) (w := w) hty gs.toList l hl
      obtain ⟨cells', h1, h2⟩ := Abr (pl' := fun i => l.toArray[i]?) (fun i x hx => by simpa using hx) hr _ _ _ (hzr c w) hf
      refine ⟨.agg cells', ?_, by simp only [Ao]; exact ⟨_, rfl, h2⟩⟩
      have hm' : (gs.mapM (fun f => (do pure (f.offset, ← sizeOf f.type) : Sem (Nat × Nat)))).run P w = .ok l.toArray w := by
        rw [Array.mapM_eq_mapM_toList]
        simp only [Sem.run_map, hm, Result.andThen_ok]
      simp only [Instr.build, Sem.run_bind, hz, Result.andThen_ok, run_underlying hu, hm', h1, Sem.run_pure]
    · cases hp
  · rename_i n e _ hT'
    have hu := (hty _ _ hT').desc
    simp only [Cc] at hu
    split at hp
    · rename_i ei hE
      simp only [As5] at hp; subst hp
      have hes := (hty _ _ hE).Hz w
      obtain ⟨cells', h1, h2⟩ := Abr (pl' := fun i => some (i * ei.size, ei.size)) (fun i x hx => hx) hr _ _ _ (hzr c w) hf
      refine ⟨.agg cells', ?_, by simp only [Ao]; exact ⟨_, rfl, h2⟩⟩
      simp only [Instr.build, Sem.run_bind, hz, Result.andThen_ok, run_underlying hu, hes, h1, Sem.run_pure]
    · cases hp
  · cases hp
end
end Go.Den
namespace Go.Den
open Go.RowKit (Below)
theorem Xy {c : Ctx} {w : World} {k : IntKind} : ∀ {cs : List DV} {l : List Int} {vs : List Value}, Q5 k cs = some l → A8 c w cs vs → vs = l.map (Value.int k)
  | [], l, vs, h, hr => by simp only [Q5, As5] at h; subst h; rw [A8.Fy] at hr; simpa using hr
  | d :: cs, l, vs, h, hr => by
    rw [A8.Co] at hr
    obtain ⟨u, us, rfl, h1, h2⟩ := hr
    cases d <;> simp only [Q5, reduceCtorEq] at h
    rename_i k' n
    split at h
    · rename_i hk
      split at h
      · rename_i l' hl
        simp only [As5] at h; subst h
        simp only [Ao] at h1
        subst h1
        have : k = k' := by simpa using hk
        subst this
        rw [Xy hl h2]; rfl
      · cases h
    · cases h
theorem Aab {c : Ctx} {w : World} {sz : Nat} : ∀ (n : Nat) (ds : List DV) (vs : List Value), A8 c w ds vs → vs.length = n * sz → (∀ v ∈ vs, v.oneCell' = true) →
    ∃ rows : List (List Value), rows.flatten = vs ∧ C2 c w (chunk sz n ds) rows ∧ (∀ r ∈ rows, r.length = sz ∧ ∀ u ∈ r, u.oneCell' = true)
  | 0, ds, vs, h, hl, _ => by
    have : vs = [] := List.eq_nil_of_length_eq_zero (by omega)
    subst this
    exact ⟨[], rfl, by simp [chunk, C2], by simp⟩
  | n + 1, ds, vs, h, hl, h1 => by
    rw [Nat.succ_mul] at hl
    obtain ⟨rows, e1, e2, e3⟩ := Aab (sz := sz) n (ds.drop sz) (vs.drop sz) (h.drop sz) (by rw [List.length_drop]; omega) (fun v hv => h1 v (List.mem_of_mem_drop hv))
    refine ⟨vs.take sz :: rows, by rw [List.flatten_cons, e1, List.take_append_drop], ?_, ?_⟩
    · simp only [chunk, C2]
      exact ⟨_, _, rfl, h.take sz, e2⟩
    · intro r hr
      cases hr with
      | head => exact ⟨by rw [List.length_take]; omega, fun u hu => h1 u (List.mem_of_mem_take hu)⟩
      | tail _ hm => exact e3 r hm
theorem T5 (sz : Nat) : ∀ (n : Nat) (ds : List DV), (chunk sz n ds).length = n
  | 0, _ => rfl
  | n + 1, ds => by simp [chunk, T5 sz n]
section
variable {P : Program} {E : Env} {I0 : Nat → Prop} {B : Nat} {A : Nat → Option Place} {h : Dn} {w : World} {t : TypeId}
theorem Td (hB : B ≤ w.heap.size) (cells : Array Value) (e : TypeId) (n sz : Nat) (hl : cells.size = n * sz) (hm : n ≤ maxLen) :
    (w.alloc (.cells cells e)).ownsRow B e sz (.slice (some ⟨w.heap.size, 0, none⟩) n n) n cells.toList :=
  ⟨by rw [Array.length_toList]; exact hl, .inr ⟨w.heap.size, n, cells, rfl, hB, heap_alloc_new w _, Nat.le_refl _, hm, hl, by rw [← hl, ← Array.length_toList, List.take_length]⟩⟩
theorem Vn {α : Type} [Inhabited α] (z : Array α) (len : Nat) (hz : 0 < z.size) : ((Array.range (len * z.size)).map (z[· % z.size]!)).toList = (List.replicate len z.toList).flatten := by
  apply List.ext_getElem?
  intro i
  by_cases hi : i < len * z.size
  · have h1 : ((Array.range (len * z.size)).map (z[· % z.size]!)).toList[i]? = some (z[i % z.size]!) := by
      simp [hi]
    rw [h1]
    have h2 := M8 (sz := z.size) (rows := List.replicate len z.toList) (fun r hr => by rw [(List.mem_replicate.1 hr).2]; simp) (i / z.size) z.toList (by rw [List.getElem?_replicate, if_pos (Nat.div_lt_of_lt_mul (by rw [Nat.mul_comm]; exact hi))]) (i % z.size) (z[i % z.size]!) (by
      have := Nat.mod_lt i hz
      simp [this])
    rw [Nat.div_add_mod'] at h2
    exact h2.symm
  · rw [List.getElem?_eq_none (by simpa using hi), List.getElem?_eq_none]
    simp
    simpa using hi
theorem Vj {c : Ctx} {w : World} {ds : List DV} {vs : List Value} (h : A8 c w ds vs) : ∀ n, A8 c w (List.replicate n ds).flatten (List.replicate n vs).flatten
  | 0 => by simp [A8]
  | n + 1 => by simp only [List.replicate_succ, List.flatten_cons]; exact h.append (Vj h n)
theorem P6 (off : Nat) : ∀ (l : List (Value × Nat)) (cells : Array Value), (l.foldl (fun cs (c, j) => cs.setIfInBounds (off + j) c) cells).size = cells.size
  | [], _ => rfl
  | x :: l, cells => by simp only [List.foldl_cons]; rw [P6 off l]; simp
theorem Z4 {pl : Nat → Option (Nat × Nat)} : ∀ {vs : List (Nat × Value)} {cells cells' : Array Value}, Instr.fill pl cells vs = some cells' → cells'.size = cells.size
  | [], cells, cells', h => by simp only [Instr.fill, As5] at h; rw [h]
  | (i, v) :: vs, cells, cells', h => by
    simp only [Instr.fill] at h
    split at h
    · cases h
    · split at h
      · cases h
      · rw [Z4 h, ← Array.foldl_toList]
        exact P6 _ _ _
theorem Aoc (hm : Mem I0 B A h w) {A' : Nat → Option Place} {w' : World} (hmv : Ij A w A' w') {ns : List Nat} (hf : ∀ n ∈ ns, ∀ p, A n = some p → ∃ q, A' n = some q ∧ q.st ≠ .live)
    (hinj : ∀ n m p q b, A' n = some p → p.st = .live → p.F9 = some b → b < w.heap.size → A m = some q → q.st ≠ .dead → q.F9 = some b → n = m) {b : Nat} (hb : seen I0 B A w ns b) : (Bs I0 B A' w').ok b := by
  rcases hb with hb | ⟨n, p, hn, hp, hnd, hpb⟩
  · exact hmv.Dd.ok b hb
  · obtain ⟨h1, h2⟩ := hm.blkB n p b hp hnd hpb
    refine ⟨Nat.lt_of_lt_of_le h2 hmv.size, .inr h1, fun m q hq hl hqb => ?_⟩
    have := hinj m n q p b hq hl hqb h2 hp hnd hpb
    subst this
    obtain ⟨q', hq', hnl⟩ := hf m hn p hp
    rw [hq] at hq'; cases hq'
    exact hnl hl
theorem K6.Aop {A' : Nat → Option Place} {w' : World} {ns : List Nat} (hm : Mem I0 B A h w) (hB : Below w.heap.size w w') (hok : ∀ b, seen I0 B A w ns b → (Bs I0 B A' w').ok b) : K6 (J2 (seen I0 B A w ns)) w (Bs I0 B A' w').bare w' where
  ok := hok
  B := rfl
  fr := rfl
  own := fun _ _ h => by cases h
  at_ := fun _ _ h => by cases h
  cell := fun b o hb => World.cell?_of_block (hB.block b (by
    rcases hb with hb | ⟨n, p, hn, hp, hnd, hpb⟩
    · exact hb.1
    · exact (hm.blkB n p b hp hnd hpb).2))
  ownc := fun _ _ h => by cases h
theorem Yk (hty : ∀ t ti, E.ty t = some ti → B8 P t ti) (hm : Mem I0 B A h w) {nm len : Nat} {ps : List (Nat × DV)} {vs : Array (Nat × Value)}
    (hr : J5 (Bs I0 B A w) w ps vs.toList) {r : R2} (hl : Qg E h nm t len ps = some r) (hnew : ∀ n ob, (n, ob) ∈ r.objs → A n = none) :
    ∃ v w' A', (Instr.buildSlice t len vs).run P w = .ok v w' ∧ Jj I0 B A w r.objs r.frz A' w' ∧ Ao (Bs I0 B A' w') w' r.v v := by
  unfold Qg at hl
  split at hl
  · rename_i e _ hT
    have hu := (hty _ _ hT).desc
    simp only [Cc] at hu
    cases hE : E.ty e with
    | none => simp [hE] at hl
    | some ei =>
    simp only [hE, Ata] at hl
    by_cases hq : (decide (len * ei.size ≤ 4096) && decide (0 < ei.size)) = true
    · rw [hq, As2] at hl
      simp only [Atd, As9] at hq
      obtain ⟨hq1, hq2⟩ := hq
      obtain ⟨z, hz, hzr, hzs, hz1⟩ := (hty _ _ hE).Wv w
      have hes := (hty _ _ hE).Hz w
      cases hfd : T1 (fun i => some (i * ei.size, ei.size)) (List.replicate len ei.zero).flatten ps with
      | none => simp [hfd] at hl
      | some cs =>
      simp only [hfd, Ata] at hl
      have hzz : A8 (Bs I0 B A w) w (List.replicate len ei.zero).flatten ((Array.range (len * ei.size)).map (z.cells[· % z.cells.size]!)).toList := by
        rw [← hzs, Vn _ _ (by omega)]
        exact Vj (hzr _ _) len
      obtain ⟨cells', h1, h2⟩ := Abr (pl' := fun i => some (i * ei.size, ei.size)) (fun i x hx => hx) hr _ _ _ hzz hfd
      have hsz : cells'.size = len * ei.size := by
        rw [Z4 h1]; simp
      have hrun : (Instr.buildSlice t len vs).run P w = .ok (.slice (some ⟨w.heap.size, 0, none⟩) len len) (w.alloc (.cells cells' e)) := by
        have hnb : ¬ len * ei.size > 2 ^ 24 := by omega
        simp only [Instr.buildSlice, Sem.run_bind, run_underlying hu, Result.andThen_ok, hes, if_neg hnb]
        by_cases h0 : len * ei.size = 0
        · have h1' : Instr.fill (fun i => some (i * ei.size, ei.size)) #[] vs.toList = some cells' := by rw [← h1, h0, show Array.range 0 = #[] from rfl, Array.map_empty]
          have e0 : (Array.map (fun x => (#[] : Array Value)[x % (#[] : Array Value).size]!) (Array.range 0)) = #[] := by rw [show Array.range 0 = #[] from rfl, Array.map_empty]
          simp only [h0, if_true, Sem.run_bind, Sem.run_pure, Result.andThen_ok, e0, h1']
          simp [newRow]
        · simp only [if_neg h0, Sem.run_bind, hz, Result.andThen_ok, Sem.run_pure, h1]
          simp [newRow]
      have hlm : len ≤ maxLen := by
        unfold maxLen
        have := Nat.mul_le_mul_left len (show 1 ≤ ei.size by omega)
        omega
      have hone : (Value.slice (some ⟨w.heap.size, 0, none⟩) len len).ownBlock = some w.heap.size := rfl
      split at hl
      · rename_i k hk
        by_cases hs1 : ei.size = 1
        · simp only [hs1, beq_self_eq_true, As2] at hl
          cases hI : Q5 k cs with
          | none => simp [hI] at hl
          | some l =>
            simp only [hI, Ata, As5] at hl; subst hl
            have hnm : A nm = none := hnew nm _ (List.mem_singleton.2 rfl)
            have hv := Xy hI h2
            have hll : l.length = len := by
              have := congrArg List.length hv
              rw [Array.length_toList, hsz, hs1] at this
              simpa using this.symm
            refine ⟨_, _, Ub A [] nm ⟨.live, .row (.slice (some ⟨w.heap.size, 0, none⟩) len len) 1⟩, hrun, Jj.alloc hnm rfl (fun b hb => by cases hb; rfl) (fun _ => ?_), ?_⟩
            · unfold C1
              refine ⟨rfl, _, rfl, ?_⟩
              rw [← hv, hll]
              exact Td hm.hB cells' e len 1 (by rw [hsz, hs1]) hlm
            · simp only [Ao]
              exact ⟨rfl, _, if_pos rfl, .inr ⟨1, rfl⟩⟩
        · rw [show (ei.size == 1) = false by simpa using hs1] at hl; simp at hl
      · by_cases hfl : cs.all Rv = true
        · rw [hfl, As2] at hl
          cases hlo : Kz h cs with
          | none => simp [hlo] at hl
          | some a =>
          obtain ⟨cs', ns⟩ := a
          simp only [hlo, Ata, As5] at hl; subst hl
          have hnm : A nm = none := hnew nm _ (List.mem_singleton.2 rfl)
          have hlow := N5 (Xk hm 8) cs _ cs' ns hlo h2
          obtain ⟨rows, e1, e2, e3⟩ := Aab (sz := ei.size) len cs' cells'.toList hlow (by rw [Array.length_toList, hsz]) (Ab5 hfl h2)
          refine ⟨_, _, Ub A ns nm ⟨.live, .row (.slice (some ⟨w.heap.size, 0, none⟩) len len) ei.size⟩, hrun, Jj.alloc hnm rfl (fun b hb => by cases hb; rfl) (fun hmv => ?_), ?_⟩
          · unfold C1
            refine ⟨rfl, hq2, _, rows, rfl, ?_, e3, ?_⟩
            · have hlat := K6.Aop (ns := ns) hm ((Below.refl w.heap.size w).alloc (Nat.le_refl _) (.cells cells' e)) (fun b hb => Aoc hm hmv (fun n hn p hp => ⟨_, Yq hnm hp, fun hl => (Ob hl).2 hn⟩) (fun n m p q b h1 h2 h3 h4 h5 h6 h7 => by
                  rcases Qm h1 with ⟨rfl, rfl⟩ | ⟨r, hr, rfl⟩
                  · have : w.heap.size = b := Option.some.inj h3
                    omega
                  · exact hm.inj n m r q b hr h5 (by rw [(Ob h2).1]; simp) h6 h3 h7) hb)
              exact C2.Dd hlat _ _ e2
            · rw [T5, e1]
              exact Td hm.hB cells' e len ei.size hsz hlm
          · simp only [Ao]
            exact ⟨rfl, _, if_pos rfl, .inr ⟨_, rfl⟩⟩
        · simp only [Bool.not_eq_true] at hfl; rw [hfl] at hl; simp at hl
    · simp only [Bool.not_eq_true] at hq; rw [hq] at hl; simp at hl
  · cases hl
theorem Xp {n b : Nat} (h : n ≤ Mg b) : n ≤ maxLen := by have := Xq h; unfold maxLen; omega
theorem Y1 (hty : ∀ t ti, E.ty t = some ti → B8 P t ti) (hm : Mem I0 B A h w) {nm : Nat} {a c : DV} {va vc : Value} (ha : Ao (Bs I0 B A w) w a va) (hc : Ao (Bs I0 B A w) w c vc)
    {r : R2} (hl : Sa E nm t a c = some r) (hr : r.req = true) (hnew : ∀ n ob, (n, ob) ∈ r.objs → A n = none) :
    ∃ v w' A', (Instr.makeSlice t va vc).run P w = .ok v w' ∧ Jj I0 B A w r.objs r.frz A' w' ∧ Ao (Bs I0 B A' w') w' r.v v := by
  unfold Sa at hl
  split at hl
  · rename_i e _ k1 x k2 y hT
    have hu := (hty _ _ hT).desc
    simp only [Cc] at hu
    simp only [Ao] at ha hc
    subst ha; subst hc
    cases hE : E.ty e with
    | none => simp [hE] at hl
    | some ei =>
    simp only [hE, Ata] at hl
    by_cases hq : (decide (ei.bytes ≤ 128) && decide (0 < ei.size)) = true
    · rw [hq, As2] at hl
      simp only [Atd, As9] at hq
      obtain ⟨hq1, hq2⟩ := hq
      obtain ⟨i, z, hi, hs, hb, hz, hzr, hzs, hz1⟩ := (hty _ _ hE).info
      have key : (0 ≤ x ∧ x ≤ y ∧ y ≤ Mg ei.bytes) → (Instr.makeSlice t (.int k1 x) (.int k2 y)).run P w = .ok (.slice (some ⟨w.heap.size, 0, none⟩) x.toNat y.toNat) (w.alloc (.cells (madeCells z.cells (y.toNat * ei.size)) e)) ∧
          (w.alloc (.cells (madeCells z.cells (y.toNat * ei.size)) e)).ownsRow B e ei.size (.slice (some ⟨w.heap.size, 0, none⟩) x.toNat y.toNat) x.toNat (List.replicate x.toNat z.cells.toList).flatten := by
        intro ⟨h0, h1, h2⟩
        have hbi : (i.bytes : Int) * y ≤ 281474976710656 := by
          have hy : y.toNat ≤ Mg ei.bytes := by omega
          have hm := Vg hy hq1
          have e1 : (i.bytes : Int) * y = ((y.toNat * ei.bytes : Nat) : Int) := by
            rw [Atn, Int.toNat_of_nonneg (by omega), hb, Int.mul_comm]
          rw [e1]; omega
        refine ⟨by rw [← hs]; exact run_make w t e i z hu hi hz k1 k2 x y h0 h1 hbi (by have := Xq (show y.toNat ≤ Mg ei.bytes by omega); omega), ?_⟩
        refine ⟨by rw [Jx (sz := ei.size) (fun r hr => by rw [(List.mem_replicate.1 hr).2, Array.length_toList, hzs])]; simp, .inr ⟨w.heap.size, y.toNat, _, rfl, hm.hB, heap_alloc_new w _, by omega, Xp (show y.toNat ≤ Mg ei.bytes by omega), by rw [size_madeCells], ?_⟩⟩
        unfold madeCells
        rw [← hzs, Vn _ _ (by omega)]
        have e1 := Ls (sz := z.cells.size) (rows := List.replicate y.toNat z.cells.toList) (fun r hr => by rw [(List.mem_replicate.1 hr).2]; simp) x.toNat
        rw [← e1, List.take_replicate, Nat.min_eq_left (by omega)]
      split at hl
      · rename_i k hk
        split at hl
        · rename_i k' z0 hz0
          by_cases hs1 : (ei.size == 1 && decide (k = k')) = true
          · rw [hs1, As2, As5] at hl; subst hl
            have hnm : A nm = none := hnew nm _ (List.mem_singleton.2 rfl)
            simp only [Atd, As9, beq_iff_eq] at hr hs1
            obtain ⟨hs1, rfl⟩ := hs1
            obtain ⟨hrun, hown⟩ := key ⟨hr.1.1, hr.1.2, hr.2⟩
            refine ⟨_, _, Ub A [] nm ⟨.live, .row (.slice (some ⟨w.heap.size, 0, none⟩) x.toNat y.toNat) 1⟩, hrun, Jj.alloc hnm rfl (fun b hb => by cases hb; rfl) (fun _ => ?_), ?_⟩
            · unfold C1
              refine ⟨rfl, _, rfl, ?_⟩
              have hzc : z.cells.toList = [.int k z0] := by
                have := hzr (Bs I0 B A w) w
                rw [hz0] at this
                simp only [A8, Ao] at this
                obtain ⟨u, us, e1, rfl, rfl⟩ := this
                exact e1
              rw [hzc] at hown
              have : (List.replicate x.toNat [Value.int k z0]).flatten = (List.replicate x.toNat z0).map (Value.int k) := by simp
              rw [this] at hown
              simp only [hs1] at hown ⊢
              rw [List.length_replicate]
              exact hown
            · simp only [Ao]
              exact ⟨rfl, _, if_pos rfl, .inr ⟨1, rfl⟩⟩
          · simp only [Bool.not_eq_true] at hs1; rw [hs1] at hl; simp at hl
        · cases hl
      · simp only [As5] at hl; subst hl
        have hnm : A nm = none := hnew nm _ (List.mem_singleton.2 rfl)
        simp only [Atd, As9] at hr
        obtain ⟨hrun, hown⟩ := key ⟨hr.1.1, hr.1.2, hr.2⟩
        refine ⟨_, _, Ub A [] nm ⟨.live, .row (.slice (some ⟨w.heap.size, 0, none⟩) x.toNat y.toNat) ei.size⟩, hrun, Jj.alloc hnm rfl (fun b hb => by cases hb; rfl) (fun _ => ?_), ?_⟩
        · unfold C1
          refine ⟨rfl, hq2, _, List.replicate x.toNat z.cells.toList, rfl, ?_, ?_, by rw [List.length_replicate]; exact hown⟩
          · refine C2.La (by simp) fun i d r h1 h2 => ?_
            simp [List.getElem?_replicate] at h1 h2
            obtain ⟨_, rfl⟩ := h1
            obtain ⟨_, rfl⟩ := h2
            exact hzr _ _
          · intro r hr'
            rw [(List.mem_replicate.1 hr').2]
            exact ⟨by rw [Array.length_toList, hzs], hz1⟩
        · simp only [Ao]
          exact ⟨rfl, _, if_pos rfl, .inr ⟨_, rfl⟩⟩
    · simp only [Bool.not_eq_true] at hq; rw [hq] at hl; simp at hl
  · cases hl
end
end Go.Den
namespace Go.Den
open Go.RowKit (Below)
def lk {α : Type} : List (Nat × α) → Nat → Option α
  | [], _ => none
  | (m, x) :: l, n => if m = n then some x else lk l n
theorem Af0 {α : Type} : ∀ {l : List (Nat × α)} {n : Nat} {x : α}, lk l n = some x → (n, x) ∈ l
  | [], n, x, h => by cases h
  | (m, y) :: l, n, x, h => by
    simp only [lk] at h
    split at h
    · rename_i e; cases h; subst e; exact List.mem_cons_self
    · exact List.mem_cons_of_mem _ (Af0 h)
theorem Q3 {α : Type} : ∀ {l : List (Nat × α)} {n : Nat} {x : α}, (l.map (·.1)).Nodup → (n, x) ∈ l → lk l n = some x
  | [], n, x, _, h => by cases h
  | (m, y) :: l, n, x, hn, h => by
    simp only [List.map_cons, List.nodup_cons] at hn
    simp only [lk]
    cases h with
    | head => rw [if_pos rfl]
    | tail _ h =>
      rw [if_neg (fun e => hn.1 (by rw [e]; exact List.mem_map_of_mem (f := fun x : Nat × α => x.1) h))]
      exact Q3 hn.2 h
theorem Jc : ∀ {l : List Nat}, Lb l = true → l.Nodup
  | [], _ => List.nodup_nil
  | a :: l, h => by
    simp only [Lb, Atd, Bool.not_eq_true'] at h
    rw [List.nodup_cons]
    exact ⟨by simpa using h.1, Jc h.2⟩
theorem Mn {g : Nat → DV → Option (DV × List (Nat × OB) × List Nat)} (ih : ∀ nm d d' os is, g nm d = some (d', os, is) → os = []) :
    ∀ (l : List DV) nm l' os is, J3 g nm l = some (l', os, is) → os = []
  | [], nm, l', os, is, h => by simp only [J3, As5, Atb] at h; exact h.2.1.symm
  | d :: l, nm, l', os, is, h => by
    simp only [J3] at h
    split at h
    · rename_i x os1 is1 hg
      split at h
      · rename_i xs os2 is2 hg2
        simp only [As5, Atb] at h
        rw [← h.2.1, ih _ _ _ _ _ hg, Mn ih l _ _ _ _ hg2]; rfl
      · cases h
    · cases h
theorem Ab6 : ∀ (f : Nat) nm d d' os is, E1 false f nm d = some (d', os, is) → os = [] := by
  intro f
  induction f with
  | zero => intro nm d d' os is h; simp [E1] at h
  | succ f ih =>
    intro nm d d' os is h
    cases d with
    | agg l =>
      simp only [E1] at h
      split at h
      · rename_i l' os' is' hg
        simp only [As5, Atb] at h
        rw [← h.2.1]; exact Mn ih l _ _ _ _ hg
      · cases h
    | tup l =>
      simp only [E1] at h
      split at h
      · rename_i l' os' is' hg
        simp only [As5, Atb] at h
        rw [← h.2.1]; exact Mn ih l _ _ _ _ hg
      · cases h
    | ints g k l => cases g <;> simp [E1] at h <;> exact h.2.1
    | recs g sz l => cases g <;> simp [E1] at h <;> exact h.2.1
    | _ => simp [E1] at h <;> exact h.2.1
section
variable {I : Nat → Prop} {own : Nat → Option Nat} {w w' : World}
theorem Xc {f : Nat} (ih : ∀ d v, aliases f d = false → Ao (Dk I own w w') w' d v → Ao (Dk (fun _ => False) own w w') w' d v) :
    ∀ (l : List DV) (vs : List Value), l.any (aliases f) = false → A8 (Dk I own w w') w' l vs → A8 (Dk (fun _ => False) own w w') w' l vs
  | [], vs, _, h => by rw [A8.Fy] at h ⊢; exact h
  | d :: l, vs, ha, h => by
    rw [A8.Co] at h ⊢
    simp only [List.any_cons, Bool.or_eq_false_iff] at ha
    obtain ⟨u, us, rfl, h1, h2⟩ := h
    exact ⟨u, us, rfl, ih d u ha.1 h1, Xc ih l us ha.2 h2⟩
theorem Aor : ∀ (f : Nat) (d : DV) (v : Value), aliases f d = false → Ao (Dk I own w w') w' d v → Ao (Dk (fun _ => False) own w w') w' d v := by
  intro f
  induction f with
  | zero => intro d v h; simp [aliases] at h
  | succ f ih =>
    intro d v ha hv
    cases d with
    | agg l => simp only [aliases] at ha; simp only [Ao] at hv ⊢; obtain ⟨vs, rfl, hl⟩ := hv; exact ⟨vs, rfl, Xc ih l _ ha hl⟩
    | tup l => simp only [aliases] at ha; simp only [Ao] at hv ⊢; obtain ⟨vs, rfl, hl⟩ := hv; exact ⟨vs, rfl, Xc ih l _ ha hl⟩
    | ints g k l =>
      cases g with
      | arg => simp [aliases] at ha
      | own i e => simp only [Ao] at hv ⊢; exact hv
      | fresh =>
        simp only [Ao] at hv ⊢
        obtain ⟨a, cap, rfl, hc, hh⟩ := hv
        exact ⟨a, cap, rfl, hc, hh.imp id fun ⟨b, o, e, hb, hr⟩ => ⟨b, o, e, ⟨⟨hb.1.1, .inr hb.2.2, hb.1.2.2⟩, rfl, hb.2.2⟩, hr⟩⟩
    | recs g sz l => simp [aliases] at ha
    | undef => simp [aliases] at ha
    | cellp cs => simp [aliases] at ha
    | fn g a c => simp [aliases] at ha
    | nil => simpa only [Ao] using hv
    | bool b => simpa only [Ao] using hv
    | int k n => simpa only [Ao] using hv
    | fl n => simpa only [Ao] using hv
    | nb n => simpa only [Ao] using hv
    | oref n => simp only [Ao] at hv; obtain ⟨_, p, hp, _⟩ := hv; cases hp
    | sref n o l => simp only [Ao] at hv; obtain ⟨_, p, hp, _⟩ := hv; cases hp
    | ptr n i j => simp only [Ao] at hv; obtain ⟨_, p, hp, _⟩ := hv; cases hp
    | gd g d => simp [aliases] at ha
end
section
variable {P : Program} {E : Env} {I0 : Nat → Prop} {B : Nat} {A : Nat → Option Place} {h : Dn} {w : World}
theorem Apo (hm : Mem I0 B A h w) (htab : ∀ g e, E.A7 g = some e → Yr P g e) {nm : Nat} {ad : Bool} {g : FuncId} {args : List DV} {r : R2} (hl : Ahx E h nm ad g args = some r) (hreq : r.req = true)
    (hnew : ∀ n ob, (n, ob) ∈ r.objs → A n = none) (hnd : (r.objs.map (·.1)).Nodup) {vals : Array Value} (hv : A8 (Bs I0 B A w) w args vals.toList) :
    Calls P g vals w fun e w' => ∃ v, e = .returned v ∧ ∃ A', Jj I0 B A w r.objs r.frz A' w' ∧ Ao (Bs I0 B A' w') w' r.v v := by
  unfold Ahx at hl
  cases h1 : Kz h args with
  | none => simp [h1] at hl
  | some a =>
  obtain ⟨as, ns⟩ := a
  cases h2 : E.A7 g with
  | none => simp [h1, h2] at hl
  | some e =>
  cases h3 : E1 ad 6 nm (e.out as) with
  | none => simp [h1, h2, h3] at hl
  | some x =>
  obtain ⟨d, os, is⟩ := x
  simp only [h1, h2, h3, Ata] at hl
  cases h4 : Lb is with
  | false => simp [h4] at hl
  | true =>
  simp only [h4, As2, As5] at hl
  subst hl
  dsimp only at hreq hnew hnd ⊢
  have hargs := N5 (Xk hm 8) args vals.toList as ns h1 hv
  have hIlt : ∀ b, seen I0 B A w ns b → b < w.heap.size := by
    intro b hb
    rcases hb with hb | ⟨n, p, hn, hp, hdd, hpb⟩
    · exact hb.1
    · exact (hm.blkB n p b hp hdd hpb).2
  refine (htab g e h2 as hreq w vals _ hIlt hargs).mono fun en w' hpost => ?_
  obtain ⟨v, own, rfl, hbel, hown, hres⟩ := hpost
  refine ⟨v, rfl, ?_⟩
  have hisn := Jc h4
  have main : ∀ (J : Nat → Prop), (∀ b, J b → seen I0 B A w ns b) → ((bif aliases 6 (e.out as) then ns else []) = ns ∨ ∀ b, ¬ J b) → Ao (Dk J own w w') w' (e.out as) v →
      ∃ A', Jj I0 B A w os (bif aliases 6 (e.out as) then ns else []) A' w' ∧ Ao (Bs I0 B A' w') w' d v := by
    intro J hJ hcase hresJ
    generalize hfr : (bif aliases 6 (e.out as) then ns else []) = frz at hcase ⊢
    obtain ⟨ps, q1, q2, q3, q4⟩ := Aj6 (I0 := I0) (B := B) 6 nm _ v d os is hresJ h3
    have hpn : (ps.map (·.1)).Nodup := by rw [q1]; exact hnd
    have hAnone : ∀ n p, (n, p) ∈ ps → A n = none := by
      intro n p hn
      have : n ∈ os.map (·.1) := by rw [← q1]; exact List.mem_map_of_mem (f := fun x : Nat × Place => x.1) hn
      obtain ⟨⟨n', ob⟩, hm', e'⟩ := List.mem_map.1 this
      dsimp only at e'
      subst e'
      exact hnew n' ob hm'
    let A' : Nat → Option Place := fun m => match lk ps m with | some p => some p | none => (A m).map (Y3 frz m)
    have hA'new : ∀ n p, (n, p) ∈ ps → A' n = some p := by
      intro n p hn
      show (match lk ps n with | some p => some p | none => (A n).map (Y3 frz n)) = some p
      rw [Q3 hpn hn]
    have hA'old : ∀ n p, A n = some p → A' n = some (Y3 frz n p) := by
      intro n p hp
      show (match lk ps n with | some p => some p | none => (A n).map (Y3 frz n)) = _
      cases hq : lk ps n with
      | some p' => rw [hAnone n p' (Af0 hq)] at hp; cases hp
      | none => rw [hp]; rfl
    have hA'inv : ∀ n p, A' n = some p → (n, p) ∈ ps ∨ ∃ q, A n = some q ∧ p = Y3 frz n q := by
      intro n p hp
      have hp : (match lk ps n with | some p => some p | none => (A n).map (Y3 frz n)) = some p := hp
      cases hq : lk ps n with
      | some p' => rw [hq] at hp; cases hp; exact .inl (Af0 hq)
      | none =>
        rw [hq] at hp
        cases hA : A n with
        | none => rw [hA] at hp; cases hp
        | some q => rw [hA] at hp; cases hp; exact .inr ⟨q, rfl, rfl⟩
    have hpown : ∀ n p b, (n, p) ∈ ps → p.F9 = some b → ∃ i, own i = some b := by
      intro n p b hn hb
      obtain ⟨j, hj⟩ := List.getElem?_of_mem hn
      obtain ⟨_, i, _, hi⟩ := q3 j n p hj
      exact ⟨i, hi b hb⟩
    have good : Good I0 J B own w w' ad A' := by
      refine ⟨fun b ⟨hb1, hb2, hb3⟩ => ⟨hb1, ?_, fun n p hp hl hpb => ?_⟩, fun had i b hi hge => ⟨(hown.lt i b hi).2, .inr (Nat.le_trans hm.hB hge), fun n p hp hl hpb => ?_⟩, hm.hB⟩
      · rcases hb2 with hb2 | hb2
        · rcases hJ b hb2 with hb2 | ⟨n, p, hn, hp, hdd, hpb⟩
          · exact hb2.2.1
          · exact .inr (hm.blkB n p b hp hdd hpb).1
        · exact .inr (Nat.le_trans hm.hB hb2)
      · rcases hA'inv n p hp with hn | ⟨q, hq, rfl⟩
        · obtain ⟨i, hi⟩ := hpown n p b hn hpb
          exact hb3 i hi
        · obtain ⟨hql, hnf⟩ := Ob hl
          have hqb := hm.blkB n q b hq (by rw [hql]; simp) hpb
          rcases hb2 with hb2 | hb2
          · rcases hcase with hc | hc
            · rcases hJ b hb2 with hs | ⟨m, p', hm', hp', hdd, hpb'⟩
              · exact hs.2.2 n q hq hql hpb
              · have := hm.inj n m q p' b hq hp' (by rw [hql]; simp) hdd hpb hpb'
                subst this
                exact hnf (by rw [hc]; exact hm')
            · exact hc b hb2
          · omega
      · subst had
        have hos := Ab6 6 nm _ _ _ _ h3
        rw [hos] at q1
        have hps : ps = [] := by simpa using q1
        rcases hA'inv n p hp with hn | ⟨q, hq, rfl⟩
        · rw [hps] at hn; cases hn
        · have hqb := hm.blkB n q b hq (by rw [(Ob hl).1]; simp) hpb
          omega
    obtain ⟨hvr, hobj⟩ := q4 A' good hA'new
    refine ⟨A', ⟨hbel, hA'old, fun n p hn hp => ?_, fun n m p q b hn hm' hp hq hpb hqb => ?_⟩, hvr⟩
    · rcases hA'inv n p hp with hmem | ⟨q, hq, rfl⟩
      · obtain ⟨j, hj⟩ := List.getElem?_of_mem hmem
        obtain ⟨hl, i, hi, hio⟩ := q3 j n p hj
        refine ⟨hl, fun b hb => hown.lt i b (hio b hb), ?_⟩
        have hlen : os.length = ps.length := by have := congrArg List.length q1; simpa using this.symm
        have hjlt : j < os.length := by rw [hlen]; exact (List.getElem?_eq_some_iff.1 hj).1
        have hoj : os[j]? = some os[j] := Atj hjlt
        have hname : os[j].1 = n := by
          have e1 : (ps.map (·.1))[j]? = some n := by rw [List.getElem?_map, hj]; rfl
          rw [q1, List.getElem?_map, hoj] at e1
          simpa using e1
        refine ⟨os[j].2, ?_, hobj j n p _ hj (by rw [hoj, ← hname])⟩
        rw [← hname]; exact List.mem_of_getElem? hoj
      · rw [hn] at hq; cases hq
    · rcases hA'inv n p hp with hmem | ⟨q', hq', rfl⟩
      · rcases hA'inv m q hq with hmem' | ⟨q', hq', rfl⟩
        · obtain ⟨j, hj⟩ := List.getElem?_of_mem hmem
          obtain ⟨j', hj'⟩ := List.getElem?_of_mem hmem'
          obtain ⟨_, i, hi, hio⟩ := q3 j n p hj
          obtain ⟨_, i', hi', hio'⟩ := q3 j' m q hj'
          have hii := hown.inj i i' b (hio b hpb) (hio' b hqb)
          subst hii
          have hjl : j < is.length := (List.getElem?_eq_some_iff.1 hi).1
          have hjj := (List.getElem?_inj hjl hisn).1 (hi.trans hi'.symm)
          subst hjj
          rw [hj] at hj'; cases hj'; rfl
        · rw [hm'] at hq'; cases hq'
      · rw [hn] at hq'; cases hq'
  cases hal : aliases 6 (e.out as) with
  | true =>
    have := main (seen I0 B A w ns) (fun _ h => h) (.inl (by rw [hal]; rfl)) hres
    rw [hal] at this
    exact this
  | false =>
    have := main (fun _ => False) (fun _ h => h.elim) (.inr fun _ h => h) (Aor 6 _ v hal hres)
    rw [hal] at this
    exact this
end
end Go.Den
namespace Go.Den
open Go.RowKit (Below)
def Wl : Array Value → Sem Value := fun args => do
  let (x, y, b) ← Extern.MathBitsCarry.three "Sub64" args
  pure (Extern.MathBitsCarry.pair ((x + Extern.MathBitsCarry.m64 - y - b) % Extern.MathBitsCarry.m64) (if x < y + b then 1 else 0))
theorem Aii {P : Program} (x y b : Int) (hb : b ≤ 1) (w : World) :
    (Wl #[.int .u64 x, .int .u64 y, .int .u64 b]).run P w = .ok (.tuple #[.int .u64 (Mz x y b), .int .u64 (Ge x y b)]) w := by
  cases b with
  | ofNat n =>
    have : n = 0 ∨ n = 1 := by have : ((n : Nat) : Int) ≤ 1 := hb; omega
    rcases this with rfl | rfl <;> rfl
  | negSucc n => rfl
def Se : Ext → Array Value → Sem Value
  | .bitsN => Extern.MathFloatBits.float64bits
  | .bits => Extern.MathFloatBits.float64bits
  | .frombits => Extern.MathFloatBits.float64frombits
  | .sqrt => Extern.MathSqrt.sqrt
  | .sub64 => Wl
structure J6 (P : Program) (E : Env) : Prop where
  ty : ∀ t ti, E.ty t = some ti → B8 P t ti
  A7 : ∀ g e, E.A7 g = some e → Yr P g e
  call : ∀ g e, E.A7 g = some e → ∀ (args : Array Value) (w : World), (callFunc g args).run P w = .ok (.enter g args) w
  ext : ∀ g x, E.ext g = some x → ∀ (args : Array Value) (w : World), (callFunc g args).run P w = ((Se x args).run P w).andThen fun v w' => .ok (.value v) w'
  eqs : ∀ t ti, E.eqs t = true → E.ty t = some ti → Aca P t ti
  mixed : P.follows .mixedOrders = true
  spoil : ∀ g e, E.spoil g = some e → Aj9 P g e := by intro g e h; change none = some e at h; cases h
def Ops (c : Ctx) (w : World) (ρ : Operand → DV) (σ : Operand → Value) (op : Op) : Prop := ∀ x ∈ op.operands.toList, Ao c w (ρ x) (σ x)
section
variable {P : Program} {E : Env} {I0 : Nat → Prop} {B : Nat} {A : Nat → Option Place} {h : Dn} {w : World}
theorem Apg {c : Ctx} {x : Ext} {args : List DV} {vals : Array Value} {r : R2} (hr : Ari x args = some r) (hreq : r.req = true) (hv : A8 c w args vals.toList) :
    ∃ v w', (Se x vals).run P w = .ok v w' ∧ Aal w w' ∧ Any r.v v ∧ r.objs = [] ∧ r.frz = [] := by
  unfold Ari at hr
  split at hr
  · rename_i n
    simp only [As5] at hr; subst hr
    simp only [A8] at hv
    obtain ⟨u, us, e, hu, rfl⟩ := hv
    simp only [Ao] at hu
    obtain ⟨m, rfl, f⟩ := hu
    have : vals = #[.float .f64 m] := by apply Array.toList_inj.1; simpa using e
    subst this
    exact ⟨_, w, rfl, .inl rfl, fun _ _ => by simp only [Ao]; exact ⟨m, rfl, f⟩, rfl, rfl⟩
  · rename_i n
    simp only [As5] at hr; subst hr
    simp only [A8] at hv
    obtain ⟨u, us, e, hu, rfl⟩ := hv
    simp only [Ao] at hu
    obtain ⟨m, rfl, f⟩ := hu
    have : vals = #[.float .f64 m] := by apply Array.toList_inj.1; simpa using e
    subst this
    have hnm : n = m := by
      rcases f with f | f
      · exact f
      · dsimp only at hreq
        rw [f.1] at hreq; cases hreq
    subst hnm
    exact ⟨_, w, rfl, .inl rfl, fun _ _ => by simp only [Ao], rfl, rfl⟩
  · rename_i n
    simp only [As5] at hr; subst hr
    simp only [A8] at hv
    obtain ⟨u, us, e, hu, rfl⟩ := hv
    simp only [Ao] at hu
    subst hu
    have : vals = #[.int .u64 n] := by apply Array.toList_inj.1; simpa using e
    subst this
    exact ⟨_, w, rfl, .inl rfl, fun _ _ => by simp only [Ao]; exact ⟨_, rfl, .inl rfl⟩, rfl, rfl⟩
  · rename_i n
    simp only [As5] at hr; subst hr
    simp only [A8] at hv
    obtain ⟨u, us, e, hu, rfl⟩ := hv
    simp only [Ao] at hu
    obtain ⟨m, rfl, f⟩ := hu
    have : vals = #[.int .u64 m] := by apply Array.toList_inj.1; simpa using e
    subst this
    exact ⟨_, w, rfl, .inl rfl, fun _ _ => by simp only [Ao]; exact ⟨_, rfl, by simpa using f⟩, rfl, rfl⟩
  · rename_i n
    simp only [As5] at hr; subst hr
    simp only [A8] at hv
    obtain ⟨u, us, e, hu, rfl⟩ := hv
    simp only [Ao] at hu
    obtain ⟨m, rfl, f⟩ := hu
    have : vals = #[.float .f64 m] := by apply Array.toList_inj.1; simpa using e
    subst this
    have hs : FloatKind.f64.format.sqrt m = Ieee.double.sqrt n := Pj.sqrt f
    have hrun : Se .sqrt #[.float .f64 m] = (match FloatKind.f64.format.sqrt m with | some r => pure (.float .f64 r) | none => do pure (.float .f64 (← choose (.nanBits .f64 m m))) : Sem Value) := rfl
    rw [hrun, hs]
    cases hq : Ieee.double.sqrt n with
    | some k => exact ⟨_, w, rfl, .inl rfl, Any.fl (.inl rfl), rfl, rfl⟩
    | none =>
      refine ⟨.float .f64 ((Question.nanBits .f64 m m).cut (w.tape w.drawn (.nanBits .f64 m m))), w.drew, ?_, .inr rfl, Any.fl (.inr ⟨Rs, Ahf _ _ _⟩), rfl, rfl⟩
      simp only [Sem.run_bind, run_choose, Question.forced, Result.andThen_ok, Sem.run_pure, Bool.false_eq_true, if_false]
      rfl
  · rename_i x y b
    simp only [As5] at hr; subst hr
    dsimp only at hreq
    simp only [A8] at hv
    obtain ⟨u, us, e, hu, u2, us2, rfl, hu2, u3, us3, rfl, hu3, rfl⟩ := hv
    simp only [Ao] at hu hu2 hu3
    subst hu hu2 hu3
    have : vals = #[.int .u64 x, .int .u64 y, .int .u64 b] := by apply Array.toList_inj.1; simpa using e
    subst this
    refine ⟨_, w, Aii x y b (of_decide_eq_true hreq) w, .inl rfl, fun _ _ => ?_, rfl, rfl⟩
    simp only [Ao]
    exact ⟨_, rfl, by simp [A8, Ao]⟩
  · cases hr
theorem Afo {c : Ctx} {ρ : Operand → DV} {σ : Operand → Value} {o : Option Operand} (hv : ∀ x ∈ o.toArray.toList, Ao c w (ρ x) (σ x)) {lo : Option Int}
    (h : Oy ρ o = some lo) : G4 lo (o.map σ) := by
  cases o with
  | none => simp only [Oy, As5] at h; subst h; rfl
  | some y =>
    have := hv y (by simp)
    simp only [Oy] at h
    cases hd : ρ y <;> simp only [hd, intOf, Option.bind_none, Ata, reduceCtorEq, As5] at h
    subst h
    rename_i k n
    rw [hd] at this
    simp only [Ao] at this
    exact ⟨k, by simp [this]⟩
theorem Xz {d : DV} {i : Int} (h : intOf d = some i) : ∃ k, d = .int k i := by
  cases d <;> simp only [intOf, reduceCtorEq, As5] at h
  subst h; exact ⟨_, rfl⟩
theorem Q2 {c : Ctx} {ρ : Operand → DV} {σ : Operand → Value} : ∀ {l : List Operand}, (∀ x ∈ l, Ao c w (ρ x) (σ x)) → A8 c w (l.map ρ) (l.map σ)
  | [], _ => by simp [A8]
  | x :: l, h => by
    simp only [List.map_cons]; rw [A8.Co]
    exact ⟨_, _, rfl, h x (by simp), Q2 fun y hy => h y (List.mem_cons_of_mem _ hy)⟩
theorem Uo {c : Ctx} {ρ : Operand → DV} {σ : Operand → Value} : ∀ {l : List (Nat × Operand)}, (∀ x ∈ l.map (·.2), Ao c w (ρ x) (σ x)) → J5 c w (l.map fun (i, x) => (i, ρ x)) (l.map fun (i, x) => (i, σ x))
  | [], _ => .nil
  | (i, x) :: l, h => .cons (h x (by simp)) (Uo fun y hy => h y (by simp only [List.map_cons]; exact List.mem_cons_of_mem _ hy))
theorem Aox {c : Ctx} {a b d : DV} {va vb : Value} (ha : Ao c w a va) (hb : Ao c w b vb) {gt : Bool} (h : maxD gt a b = some d) :
    ∃ v, ((if gt then Builtin.max2 va vb else Builtin.min2 va vb) : Sem Value).run P w = .ok v w ∧ Ao c w d v := by
  cases a <;> cases b <;> simp only [maxD, reduceCtorEq, As5] at h
  subst h
  simp only [Ao] at ha hb
  subst ha; subst hb
  rename_i k x k' y
  cases gt
  · refine ⟨_, rfl, ?_⟩
    simp only [Ao, As6]
    congr 1; omega
  · refine ⟨_, rfl, ?_⟩
    simp only [Ao, As2]
    congr 1; omega
theorem X3 {c : Ctx} {gt : Bool} : ∀ (l : List DV) (us : List Value) (a d : DV) (va : Value), Ao c w a va → A8 c w l us → Vh gt a l = some d →
    ∃ v, (us.foldlM (fun x y => if gt then Builtin.max2 x y else Builtin.min2 x y) va : Sem Value).run P w = .ok v w ∧ Ao c w d v
  | [], us, a, d, va, ha, hl, h => by
    simp only [Vh, As5] at h; subst h
    rw [A8.Fy] at hl; subst hl
    exact ⟨va, rfl, ha⟩
  | b :: l, us, a, d, va, ha, hl, h => by
    rw [A8.Co] at hl
    obtain ⟨u, us, rfl, hu, hus⟩ := hl
    simp only [Vh] at h
    cases hm : maxD gt a b with
    | none => simp [hm] at h
    | some c' =>
      simp only [hm, Ata] at h
      obtain ⟨v, h1, h2⟩ := Aox (P := P) ha hu hm
      obtain ⟨v', h3, h4⟩ := X3 l us c' d v h2 hus h
      exact ⟨v', by simp only [List.foldlM_cons, Sem.run_bind, h1, Result.andThen_ok, h3], h4⟩
end
end Go.Den
namespace Go.Den
open Go.RowKit (Below)
theorem Ami {k : CK} {d : DV} {c : Ctx} {w : World} {v : Value} (h : isC k d = true) (hv : Ao c w d v) : Ao c w (asC k d) v := by
  unfold isC at h
  split at h
  · have := of_decide_eq_true h
    subst this
    exact hv
  · have := of_decide_eq_true h
    subst this
    exact hv
  · simp only [asC, Lc, Ao] at hv ⊢
    subst hv
    exact ⟨none, 0, rfl, Nat.le_refl _, .inl trivial⟩
  · exact hv
  · exact hv
  · cases h
theorem Amh {c : Ctx} {w : World} : ∀ (ks : List CK) (i : Nat) (row : List DV) (vs : List Value), (row.drop i).length = ks.length → isL ks i row = true → A8 c w (row.drop i) vs → A8 c w (asL ks i row) vs
  | [], i, row, vs, hl, _, hv => by
    have : row.drop i = [] := List.eq_nil_of_length_eq_zero hl
    rw [this] at hv
    exact hv
  | k :: ks, i, row, vs, hl, h, hv => by
    simp only [isL, Atd] at h
    have hi : i < row.length := by
      rw [List.length_drop, List.length_cons] at hl; omega
    have he : row.drop i = row.getD i .undef :: row.drop (i + 1) := by
      rw [List.drop_eq_getElem_cons hi, Atc, Atj hi]; rfl
    rw [he] at hv
    rw [A8.Co] at hv
    obtain ⟨u, us, rfl, h1, h2⟩ := hv
    simp only [asL]
    rw [A8.Co]
    refine ⟨u, us, rfl, Ami h.1 h1, Amh ks (i + 1) row us ?_ h.2 h2⟩
    rw [List.length_drop] at hl ⊢
    rw [List.length_cons] at hl
    omega
theorem Ajz {ag : Bool} {adv : List CK} {r : R} (h : (Vl ag adv r).req = true) : r.req = true ∧ (Vl ag adv r).objs = [] ∧ (Vl ag adv r).frz = [] := by
  unfold Vl at h ⊢
  split at h
  · exact ⟨h, rfl, rfl⟩
  · cases ag with
    | true =>
      rw [As2] at h ⊢
      split at h
      · simp only [Atd] at h
        exact ⟨h.1, rfl, rfl⟩
      · exact ⟨h, rfl, rfl⟩
    | false =>
      rw [As6] at h ⊢
      simp only [Atd] at h
      exact ⟨h.1, rfl, rfl⟩
theorem Ane {ag : Bool} {adv : List CK} {r : R} {c : Ctx} {w : World} {v : Value} (h : (Vl ag adv r).req = true) (hv : Ao c w r.v v) : Ao c w (Vl ag adv r).v v := by
  unfold Vl at h ⊢
  split at h
  · exact hv
  · cases ag with
    | true =>
      rw [As2] at h ⊢
      split at h
      · rename_i l hr
        rw [hr] at hv
        simp only [Atd, As9] at h
        simp only [Ao] at hv ⊢
        obtain ⟨vs, e, hl⟩ := hv
        exact ⟨vs, e, Amh _ 0 l _ (by rw [List.drop_zero]; exact h.2.1) h.2.2 (by rw [List.drop_zero]; exact hl)⟩
      · exact hv
    | false =>
      rw [As6] at h ⊢
      simp only [Atd] at h
      exact Ami h.2 hv
section
variable {P : Program} {E : Env} {I0 : Nat → Prop} {B : Nat} {A : Nat → Option Place} {h : Dn} {w : World}
theorem Anj {t : TypeId} {ti : TI} (hf : B8 P t ti) {nm : Nat} (hnm : A nm = none) :
    ∃ w' A', (Instr.alloc t true (.tuple #[])).run P w = .ok (.pointer (some ⟨w.heap.size, 0, none⟩)) w' ∧ Jj I0 B A w [(nm, .box ti.zero)] [] A' w' ∧ Ao (Bs I0 B A' w') w' (.ptr nm 0 0) (.pointer (some ⟨w.heap.size, 0, none⟩)) := by
  obtain ⟨z, hz, hzr, _, _⟩ := hf.Wv w
  refine ⟨w.alloc (.cells z.cells t), Ub A [] nm ⟨.live, .box w.heap.size⟩, ?_, Jj.alloc hnm rfl (fun b hb => by cases hb; rfl) (fun _ => ?_), ?_⟩
  · simp [Instr.alloc, hz, newVar, newRow]
  · unfold C1
    exact ⟨rfl, w.heap.size, t, z.cells, rfl, heap_alloc_new w _, hzr _ _⟩
  · simp only [Ao]
    exact ⟨rfl, _, if_pos rfl, .inr (by unfold Iu; exact ⟨rfl, rfl⟩)⟩
theorem Arp {t : TypeId} {nm : Nat} (hnm : A nm = none) {d : DV} {v : Value} (hw : Nf d = true) (hv : Ao (Bs I0 B A w) w d v) :
    ∃ w' A', (Instr.box t v).run P w = .ok (.pointer (some ⟨w.heap.size, 0, none⟩)) w' ∧ Jj I0 B A w [(nm, .box (cells d))] [] A' w' ∧ Ao (Bs I0 B A' w') w' (.ptr nm 0 0) (.pointer (some ⟨w.heap.size, 0, none⟩)) := by
  refine ⟨w.alloc (.cells v.cells t), Ub A [] nm ⟨.live, .box w.heap.size⟩, ?_, Jj.alloc hnm rfl (fun b hb => by cases hb; rfl) (fun hmv => ?_), ?_⟩
  · simp [Instr.box, newVar, newRow]
  · unfold C1
    exact ⟨rfl, w.heap.size, t, v.cells, rfl, heap_alloc_new w _, A8.Dd hmv.Dd _ _ (U4 hw hv)⟩
  · simp only [Ao]
    exact ⟨rfl, _, if_pos rfl, .inr (by unfold Iu; exact ⟨rfl, rfl⟩)⟩
theorem Air (he : J6 P E) (hm : Mem I0 B A h w) {o : Oper} {nm : Nat} {ρ : Operand → DV} {σ : Operand → Value} (hops : Ops (Bs I0 B A w) w ρ σ o.op) {r : R2} (hq : D5 E h nm ρ o.op = some r) (hreq : r.req = true)
    (hnew : ∀ n ob, (n, ob) ∈ r.objs → A n = none) (hnd : (r.objs.map (·.1)).Nodup) {K : Value → World → Prop}
    (hK : ∀ v w' A', Jj I0 B A w r.objs r.frz A' w' → Ao (Bs I0 B A' w') w' r.v v → K v w') : Ec P (execOp σ o) w K := by
  obtain ⟨dst, op, ty, pos, after, guard⟩ := o
  dsimp only at hops hq
  have same : ∀ {d : DV} {v : Value}, r.v = d → r.objs = [] → r.frz = [] → Ao (Bs I0 B A w) w d v → K v w := by
    intro d v h1 h2 h3 h4
    exact hK v w A (by rw [h2, h3]; exact Jj.refl (.inl rfl)) (by rw [h1]; exact h4)
  cases op
  case move x =>
    simp only [D5, As5] at hq; subst hq
    exact Ec.value rfl (same rfl rfl rfl (hops x (by simp [Op.operands])))
  case assign x =>
    simp only [D5, As5] at hq; subst hq
    exact Ec.value rfl (same rfl rfl rfl (hops x (by simp [Op.operands])))
  case alloc t =>
    simp only [D5] at hq
    cases hT : E.ty t with
    | none => simp [hT] at hq
    | some ti =>
      simp only [hT, Ata, As5] at hq; subst hq
      obtain ⟨w', A', h1, h2, h3⟩ := Anj (P := P) (I0 := I0) (B := B) (w := w) (he.ty _ _ hT) (hnew nm _ (List.mem_singleton.2 rfl))
      exact Ec.lift h1 (hK _ w' A' h2 h3)
  case box t x =>
    simp only [D5] at hq
    cases hT : E.ty t with
    | none => simp [hT] at hq
    | some ti =>
      simp only [hT, Ata] at hq
      by_cases hc : (Nf (ρ x) && (cells (ρ x)).length == ti.size) = true
      · rw [hc, As2, As5] at hq; subst hq
        simp only [Atd] at hc
        obtain ⟨w', A', h1, h2, h3⟩ := Arp (P := P) (t := t) (hnew nm _ (List.mem_singleton.2 rfl)) hc.1 (hops x (by simp [Op.operands]))
        exact Ec.lift h1 (hK _ w' A' h2 h3)
      · simp only [Bool.not_eq_true] at hc; rw [hc] at hq; simp at hq
  case build t parts =>
    simp only [D5] at hq
    cases hT : E.ty t with
    | none => simp [hT] at hq
    | some ti =>
    cases hp : V2 E t with
    | none => simp [hT, hp] at hq
    | some pl =>
    cases hfd : T1 pl ti.zero (parts.toList.map fun (i, x) => (i, ρ x)) with
    | none => simp [hT, hp, hfd] at hq
    | some cs =>
      simp only [hT, hp, hfd, Ata, As5] at hq; subst hq
      have hpr : J5 (Bs I0 B A w) w (parts.toList.map fun (i, x) => (i, ρ x)) (parts.map fun (i, x) => (i, σ x)).toList := by
        rw [Array.toList_map]
        exact Uo (fun x hx => hops x (by simpa [Op.operands] using hx))
      obtain ⟨v, h1, h2⟩ := Ang (P := P) he.ty hT hp hpr hfd
      exact Ec.lift h1 (same rfl rfl rfl h2)
  case buildSlice t len parts =>
    simp only [D5] at hq
    have hpr : J5 (Bs I0 B A w) w (parts.toList.map fun (i, x) => (i, ρ x)) (parts.map fun (i, x) => (i, σ x)).toList := by
      rw [Array.toList_map]
      exact Uo (fun x hx => hops x (by simpa [Op.operands] using hx))
    obtain ⟨v, w', A', h1, h2, h3⟩ := Yk (P := P) he.ty hm hpr hq hnew
    exact Ec.lift h1 (hK _ w' A' h2 h3)
  case load t a =>
    simp only [D5] at hq
    cases hT : E.ty t with
    | none => simp [hT] at hq
    | some ti =>
    cases hl : Zy h ti (ρ a) with
    | none => simp [hT, hl] at hq
    | some r' =>
      simp only [hT, hl, Ata, As5] at hq; subst hq
      obtain ⟨hr0, ho, hf⟩ := Ajz hreq
      obtain ⟨v, h1, h2⟩ := Adt (P := P) hm (he.ty _ _ hT) (hops a (by simp [Op.operands])) hl hr0
      exact Ec.lift h1 (same rfl ho hf (Ane hreq h2))
  case nilCheck x =>
    have hx := hops x (by simp [Op.operands])
    simp only [D5] at hq
    split at hq
    · rename_i n i j hd
      cases hal : Nm h n with
      | false => simp [hal] at hq
      | true =>
      simp only [hal, As2, As5] at hq; subst hq
      rw [hd] at hx
      have hx' := hx
      simp only [Ao] at hx
      obtain ⟨_, p, hp, hdd⟩ := hx
      have hdd := hdd.resolve_left (T9 hm hp hal)
      have : ∃ a, σ x = .pointer (some a) := by
        unfold Iu at hdd
        split at hdd
        · exact ⟨_, hdd.2⟩
        · exact ⟨_, hdd⟩
        · exact hdd.elim
      obtain ⟨a, ha⟩ := this
      exact Ec.value (by simp only [execOp, ha]; rfl) (same rfl rfl rfl (by rw [← ha]; exact hx'))
    · rename_i cs hd
      simp only [As5] at hq; subst hq
      rw [hd] at hx
      have hx' := hx
      simp only [Ao] at hx
      obtain ⟨b, o, vs, ha, _⟩ := hx
      exact Ec.value (by simp only [execOp, ha]; rfl) (same rfl rfl rfl (by rw [← ha]; exact hx'))
    · rename_i f a c hd
      simp only [As5] at hq; subst hq
      rw [hd] at hx
      have hx' := hx
      simp only [Ao] at hx
      obtain ⟨fs, cs, ha, _⟩ := hx
      exact Ec.value (by simp only [execOp, ha]; rfl) (same rfl rfl rfl (by rw [← ha]; exact hx'))
    · cases hq
  case binOp op t x y ty' =>
    simp only [D5] at hq
    cases hb : Apr E op t (ρ x) (ρ y) with
    | none => simp [hb] at hq
    | some r' =>
      simp only [hb, Ata, As5] at hq; subst hq
      obtain ⟨v, w', h1, h2, h3⟩ := Apq (P := P) he.ty he.eqs w (x := x) (y := y) (hops x (by simp [Op.operands])) (hops y (by simp [Op.operands])) hb hreq
      exact Ec.lift h1 (hK v w' A (Jj.refl h2) (h3 _ _))
  case unOp op t x =>
    simp only [D5] at hq
    cases hb : unD op (ρ x) with
    | none => simp [hb] at hq
    | some r' =>
      simp only [hb, Ata, As5] at hq; subst hq
      obtain ⟨v, h1, h3⟩ := Aqi (P := P) w (hops x (by simp [Op.operands])) hb
      exact Ec.lift h1 (same rfl rfl rfl (h3 _ _))
  case convert src dst x =>
    simp only [D5] at hq
    cases hb : Ahq E dst src (ρ x) with
    | none => simp [hb] at hq
    | some r' =>
      simp only [hb, Ata, As5] at hq; subst hq
      obtain ⟨v, h1, h3⟩ := Am7 (P := P) he.ty w (hops x (by simp [Op.operands])) hb
      exact Ec.lift h1 (same rfl rfl rfl (h3 _ _))
  case makeFunc fn first captured =>
    cases fn <;> simp only [D5, reduceCtorEq, As5] at hq
    subst hq
    rename_i f
    refine Ec.lift (v := .func (.func f) (first.map σ) (captured.map σ)) (w' := w) rfl (same rfl rfl rfl ?_)
    simp only [Ao]
    refine ⟨_, _, rfl, ?_, ?_⟩
    · rw [Array.toList_map]; exact Q2 fun x hx => hops x (by simp [Op.operands]; exact .inl (by simpa using hx))
    · rw [Array.toList_map]; exact Q2 fun x hx => hops x (by simp [Op.operands]; exact .inr (by simpa using hx))
  case makeSlice t l c =>
    simp only [D5] at hq
    obtain ⟨v, w', A', h1, h2, h3⟩ := Y1 (P := P) he.ty hm (hops l (by simp [Op.operands])) (hops c (by simp [Op.operands])) hq hreq hnew
    exact Ec.lift h1 (hK _ w' A' h2 h3)
  case slice t x lo hi mx =>
    simp only [D5] at hq
    cases hlo : Oy ρ lo with
    | none => simp [hlo] at hq
    | some lo' =>
    cases hhi : Oy ρ hi with
    | none => simp [hlo, hhi] at hq
    | some hi' =>
    cases hmx : Oy ρ mx with
    | none => simp [hlo, hhi, hmx] at hq
    | some mx' =>
    simp only [hlo, hhi, hmx, Ata] at hq
    cases hs : Aaz E h t (ρ x) lo' hi' mx' with
    | none => simp [hs] at hq
    | some r' =>
      simp only [hs, Ata, As5] at hq; subst hq
      have m1 : ∀ y ∈ lo.toArray.toList, Ao (Bs I0 B A w) w (ρ y) (σ y) := fun y hy => hops y (by cases lo <;> simp at hy; subst hy; simp [Op.operands])
      have m2 : ∀ y ∈ hi.toArray.toList, Ao (Bs I0 B A w) w (ρ y) (σ y) := fun y hy => hops y (by cases hi <;> simp at hy; subst hy; simp [Op.operands])
      have m3 : ∀ y ∈ mx.toArray.toList, Ao (Bs I0 B A w) w (ρ y) (σ y) := fun y hy => hops y (by cases mx <;> simp at hy; subst hy; simp [Op.operands])
      obtain ⟨v, h1, h2⟩ := Aic (P := P) he.ty hm (hops x (by simp [Op.operands])) (Afo m1 hlo) (Afo m2 hhi) (Afo m3 hmx) hs hreq
      exact Ec.lift h1 (same rfl rfl rfl h2)
  case fieldAddr t x f =>
    simp only [D5] at hq
    cases hb : O5 E h t f (ρ x) with
    | none => simp [hb] at hq
    | some r' =>
      simp only [hb, Ata, As5] at hq; subst hq
      obtain ⟨v, h1, h3⟩ := Y5 (P := P) he.ty hm (hops x (by simp [Op.operands])) hb
      exact Ec.lift h1 (same rfl rfl rfl h3)
  case field t x f =>
    simp only [D5] at hq
    cases hb : Abu E t f (ρ x) with
    | none => simp [hb] at hq
    | some r' =>
      simp only [hb, Ata, As5] at hq; subst hq
      obtain ⟨v, h1, h3⟩ := Ajp (P := P) he.ty (hops x (by simp [Op.operands])) hb
      exact Ec.lift h1 (same rfl rfl rfl h3)
  case indexAddr t x i =>
    simp only [D5] at hq
    cases hi : intOf (ρ i) with
    | none => simp [hi] at hq
    | some n =>
    cases hb : O1 E h t (ρ x) n with
    | none => simp [hi, hb] at hq
    | some r' =>
      simp only [hi, hb, Ata, As5] at hq; subst hq
      obtain ⟨k, hk⟩ := Xz hi
      have hv := hops i (by simp [Op.operands])
      rw [hk] at hv; simp only [Ao] at hv
      obtain ⟨v, h1, h3⟩ := Y2 (P := P) (k := k) he.ty hm (hops x (by simp [Op.operands])) hb hreq
      exact Ec.lift (by rw [hv]; exact h1) (same rfl rfl rfl h3)
  case index t x i =>
    simp only [D5] at hq
    cases hi : intOf (ρ i) with
    | none => simp [hi] at hq
    | some n =>
    cases hb : Abp E t (ρ x) n with
    | none => simp [hi, hb] at hq
    | some r' =>
      simp only [hi, hb, Ata, As5] at hq; subst hq
      obtain ⟨k, hk⟩ := Xz hi
      have hv := hops i (by simp [Op.operands])
      rw [hk] at hv; simp only [Ao] at hv
      obtain ⟨v, h1, h3⟩ := Ajj (P := P) (k := k) he.ty (hops x (by simp [Op.operands])) hb hreq
      exact Ec.lift (by rw [hv]; exact h1) (same rfl rfl rfl h3)
  case extract t i =>
    have hx := hops t (by simp [Op.operands])
    simp only [D5] at hq
    split at hq
    · rename_i l hd
      rw [hd] at hx
      simp only [Ao] at hx
      obtain ⟨vs, hvs, hl⟩ := hx
      cases hi : l[i]? with
      | none => simp [hi] at hq
      | some d =>
        simp only [hi, Ata, As5] at hq; subst hq
        obtain ⟨v, hv, hr⟩ := hl.get i d hi
        have hv' : vs[i]? = some v := by simpa using hv
        exact Ec.lift (by rw [hvs]; simp [Instr.extract, hv']) (same rfl rfl rfl hr)
    · cases hq
  case call c =>
    obtain ⟨callee, args, ts⟩ := c
    cases callee with
    | value f =>
      have hf := hops f (by simp [Op.operands, Call.operands])
      have ha : A8 (Bs I0 B A w) w (args.toList.map ρ) (args.map σ).toList := by
        rw [Array.toList_map]; exact Q2 fun x hx => hops x (by simp [Op.operands, Call.operands]; exact .inr (by simpa using hx))
      simp only [D5] at hq
      split at hq
      · rename_i g first captured hd
        rw [hd] at hf
        simp only [Ao] at hf
        obtain ⟨fs, cs, hfv, hfs, hcs⟩ := hf
        have hrun : ∀ w, (execOp σ ⟨dst, .call ⟨.value f, args, ts⟩, ty, pos, after, guard⟩).run P w = (callFunc g (fs ++ args.map σ ++ cs)).run P w := by
          intro w
          simp only [execOp, resolve, hfv, Deferred.ofValue, Sem.run_bind, Sem.run_pure, Result.andThen_ok, invoke]
        split at hq
        · rename_i x hx
          split at hq
          · have e1 : fs = #[] := by
              have := hfs.length; simp at this; exact Array.eq_empty_of_size_eq_zero this.symm
            have e2 : cs = #[] := by
              have := hcs.length; simp at this; exact Array.eq_empty_of_size_eq_zero this.symm
            subst e1; subst e2
            obtain ⟨v, w', h1, h2, h3, h4, h5⟩ := Apg (P := P) hq hreq ha
            refine Ec.value (w' := w') (v := v) ?_ (hK v w' A (by rw [h4, h5]; exact Jj.refl h2) (h3 _ _))
            rw [hrun, he.ext g x hx]
            simp [h1]
          · cases hq
        · have hall : A8 (Bs I0 B A w) w (first ++ args.toList.map ρ ++ captured) (fs ++ args.map σ ++ cs).toList := by
            rw [Array.toList_append, Array.toList_append]
            exact (hfs.append ha).append hcs
          have hcall := Apo (P := P) hm he.A7 hq hreq hnew hnd hall
          unfold Ec
          have htab : ∃ e, E.A7 g = some e := by
            unfold Ahx at hq
            cases h1 : Kz h (first ++ args.toList.map ρ ++ captured) with
            | none => simp only [h1, Option.bind_none, reduceCtorEq] at hq
            | some a =>
              cases h2 : E.A7 g with
              | none => simp only [h1, h2, Ata, Option.bind_none, reduceCtorEq] at hq
              | some e => exact ⟨e, rfl⟩
          obtain ⟨e, hte⟩ := htab
          rw [hrun, he.call g e hte]
          exact hcall.mono fun en w' ⟨v, he', A', h1, h2⟩ => ⟨v, he', hK v w' A' h1 h2⟩
      · cases hq
    | invoke recv m => simp [D5] at hq
    | builtin b =>
      have ha : ∀ x ∈ args.toList, Ao (Bs I0 B A w) w (ρ x) (σ x) := fun x hx => hops x (by simp [Op.operands, Call.operands]; exact (by simpa using hx))
      cases b
      case len =>
        simp only [D5] at hq
        split at hq
        · rename_i x t hx ht
          split at hq
          · rename_i e _ hT
            have hu := (he.ty _ _ hT).desc
            simp only [Cc] at hu
            cases hn : Ao4 h (ρ x) with
            | none => simp [hn] at hq
            | some n =>
              simp only [hn, Ata, As5] at hq; subst hq
              obtain ⟨ad, l, cap, hv, hln⟩ := Ao3 hm (ha x (by rw [hx]; simp)) hn
              have e1 : args = #[x] := Array.toList_inj.1 hx
              have e2 : ts = #[t] := Array.toList_inj.1 ht
              subst e1; subst e2
              refine Ec.value (w' := w) (v := .int .i64 n) ?_ (same rfl rfl rfl (by simp [Ao]))
              simp [execOp, resolve, invoke, builtin, Builtin.len_, hv, run_underlying hu, goInt, hln]
          · cases hq
        · cases hq
      case max =>
        simp only [D5] at hq
        split at hq
        · rename_i x l hx
          cases hn : Vh true (ρ x) (l.map ρ) with
          | none => simp [hn] at hq
          | some d =>
            simp only [hn, Ata, As5] at hq; subst hq
            have e1 : args = (x :: l).toArray := Array.toList_inj.1 (by rw [hx])
            subst e1
            obtain ⟨v, h1, h2⟩ := X3 (P := P) (gt := true) _ _ _ _ _ (ha x (by simp)) (Q2 fun y hy => ha y (by simp [hy])) hn
            refine Ec.value (w' := w) (v := v) ?_ (same rfl rfl rfl h2)
            simp only [if_true] at h1
            simp [execOp, resolve, invoke, builtin, Builtin.max_, h1]
        · cases hq
      case min =>
        simp only [D5] at hq
        split at hq
        · rename_i x l hx
          cases hn : Vh false (ρ x) (l.map ρ) with
          | none => simp [hn] at hq
          | some d =>
            simp only [hn, Ata, As5] at hq; subst hq
            have e1 : args = (x :: l).toArray := Array.toList_inj.1 (by rw [hx])
            subst e1
            obtain ⟨v, h1, h2⟩ := X3 (P := P) (gt := false) _ _ _ _ _ (ha x (by simp)) (Q2 fun y hy => ha y (by simp [hy])) hn
            refine Ec.value (w' := w) (v := v) ?_ (same rfl rfl rfl h2)
            simp only [Bool.false_eq_true, if_false] at h1
            simp [execOp, resolve, invoke, builtin, Builtin.min_, h1]
        · cases hq
      all_goals (simp [D5] at hq)
  all_goals (simp [D5] at hq)
end
end Go.Den
