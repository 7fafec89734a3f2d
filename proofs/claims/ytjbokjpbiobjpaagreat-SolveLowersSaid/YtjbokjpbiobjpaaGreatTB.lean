/- A verified evaluator of the program's form and its use for this seat: Den9, Den10, Den11, Den12, Den13, Den14, Den15, Den16, Den17. -/
import Derived.Test.YtjbokjpbiobjpaaGreatTA
set_option linter.unusedVariables false
set_option linter.unusedSimpArgs false
namespace Go.Den
def Gd : Option Int → Option Value → Prop
  | none, v => v = none
  | some x, v => ∃ k, v = some (.int k x)
theorem Uu {α : Type} (lo hi : Option Int) (l : List α) : Rw lo hi l = (l.take (hi.getD l.length).toNat).drop (lo.getD 0).toNat := by
  cases lo <;> cases hi <;> simp [Rw]
theorem Ox {lo hi mx : Option Int} {len : Nat} (h : okB lo hi mx len = true) :
    0 ≤ lo.getD 0 ∧ lo.getD 0 ≤ hi.getD len ∧ 0 ≤ hi.getD len ∧ hi.getD len ≤ mx.getD len ∧ (∀ m, mx = some m → 0 ≤ m ∧ m ≤ len ∧ hi.isSome = true) := by
  unfold okB at h
  cases lo <;> cases hi <;> cases mx <;> simp at h ⊢ <;> omega
theorem Kz {α : Type} {sz : Nat} : ∀ {rows : List (List α)}, (∀ r ∈ rows, r.length = sz) → ∀ (n : Nat), (rows.take n).flatten = rows.flatten.take (n * sz)
  | [], _, n => by simp
  | r0 :: rows, hl, n => by
    have h0 : r0.length = sz := hl r0 (by simp)
    cases n with
    | zero => simp
    | succ n =>
      simp only [List.take_succ_cons, List.flatten_cons]
      rw [Kz (rows := rows) (fun r hr => hl r (by simp [hr])) n, Nat.succ_mul, List.take_append, List.take_of_length_le (l := r0) (by omega), h0, Nat.add_sub_cancel]
theorem Ny {α : Type} {sz : Nat} : ∀ {rows : List (List α)}, (∀ r ∈ rows, r.length = sz) → ∀ (n : Nat), (rows.drop n).flatten = rows.flatten.drop (n * sz)
  | [], _, n => by simp
  | r0 :: rows, hl, n => by
    have h0 : r0.length = sz := hl r0 (by simp)
    cases n with
    | zero => simp
    | succ n =>
      simp only [List.drop_succ_cons, List.flatten_cons]
      rw [Ny (rows := rows) (fun r hr => hl r (by simp [hr])) n, Nat.succ_mul, List.drop_append, List.drop_eq_nil_of_le (as := r0) (by omega), h0, Nat.add_sub_cancel, List.nil_append]
theorem E6 {w : World} {base : Nat} {e : TypeId} {size n : Nat} {v : Value} {xs : List Value} (h : w.ownsRow base e size v n xs) : Ls v size 0 n v := by
  rcases E7 h with ⟨rfl, rfl⟩ | ⟨g, cap, rfl, hc⟩
  · simp [Ls]
  · simp only [Ls]; exact ⟨by omega, _, _, rfl, hc, .inr (by simp)⟩
section
variable {P : Program} {w : World}
theorem K6 (k : IntKind) {x : Int} {y : Nat} (h0 : 0 ≤ x) (h1 : x ≤ y) (code : BoundsCode) : (Instr.sliceBound (.int k x) y code).run P w = .ok x.toNat w := by
  simp [Instr.sliceBound, asIntOf, h0, h1]
theorem run_bounds {lo hi mx : Option Int} {vlo vhi vmx : Option Value} {len cap : Nat} (h : okB lo hi mx len = true) (hc : len ≤ cap) (h1 : Gd lo vlo) (h2 : Gd hi vhi) (h3 : Gd mx vmx) :
    (Instr.sliceBounds true len cap vlo vhi vmx).run P w = .ok ((lo.getD 0).toNat, (hi.getD len).toNat, (mx.getD cap).toNat) w := by
  obtain ⟨a1, a2, a3, a4, a5⟩ := Ox h
  cases mx with
  | none =>
    simp only [Gd] at h3; subst h3
    simp only [Option.getD_none] at a4
    cases hi with
    | none =>
      simp only [Gd] at h2; subst h2
      cases lo with
      | none => simp only [Gd] at h1; subst h1; simp [Instr.sliceBounds]
      | some x =>
        obtain ⟨k, rfl⟩ := h1
        simp only [Option.getD_some, Option.getD_none] at a1 a2
        simp [Instr.sliceBounds, K6 k a1 a2]
    | some y =>
      obtain ⟨k', rfl⟩ := h2
      simp only [Option.getD_some] at a2 a3 a4
      have hy := K6 (P := P) (w := w) k' a3 (show y ≤ (cap : Int) by omega) .sliceAcap
      cases lo with
      | none => simp only [Gd] at h1; subst h1; simp [Instr.sliceBounds, hy]
      | some x =>
        obtain ⟨k, rfl⟩ := h1
        simp only [Option.getD_some] at a1 a2
        have hx := K6 (P := P) (w := w) k a1 (show x ≤ (y.toNat : Int) by omega) .sliceB
        simp [Instr.sliceBounds, hy, hx]
  | some m =>
    obtain ⟨k'', rfl⟩ := h3
    obtain ⟨b1, b2, b3⟩ := a5 m rfl
    have hm := K6 (P := P) (w := w) k'' b1 (show m ≤ (cap : Int) by omega) .slice3Acap
    cases hi with
    | none => cases b3
    | some y =>
      obtain ⟨k', rfl⟩ := h2
      simp only [Option.getD_some] at a2 a3 a4
      have hy := K6 (P := P) (w := w) k' a3 (show y ≤ (m.toNat : Int) by omega) .slice3B
      cases lo with
      | none => simp only [Gd] at h1; subst h1; simp [Instr.sliceBounds, hm, hy]
      | some x =>
        obtain ⟨k, rfl⟩ := h1
        simp only [Option.getD_some] at a1 a2
        have hx := K6 (P := P) (w := w) k a1 (show x ≤ (y.toNat : Int) by omega) .slice3C
        simp [Instr.sliceBounds, hm, hy, hx]
theorem Jw {t e : TypeId} {es : Nat} (hu : P.underlying t = some (.slice e)) (hes : (sizeOf e).run P w = .ok es w) {lo hi mx : Option Int} {vlo vhi vmx : Option Value} {a : Option Addr} {len cap : Nat} (h : okB lo hi mx len = true) (hc : len ≤ cap) (h1 : Gd lo vlo) (h2 : Gd hi vhi) (h3 : Gd mx vmx) :
    (Instr.sliceAt t (.slice a len cap) vlo vhi vmx).run P w = .ok (.slice (if (mx.getD cap).toNat = (lo.getD 0).toNat then a else a.map (·.add ((lo.getD 0).toNat * es))) ((hi.getD len).toNat - (lo.getD 0).toNat) ((mx.getD cap).toNat - (lo.getD 0).toNat)) w := by
  have hb := run_bounds (P := P) (w := w) h hc h1 h2 h3
  simp [Instr.sliceAt, Instr.slice, run_underlying hu, hb, hes]
variable {E : Env} {I0 : Nat → Prop} {B : Nat} {A : Nat → Option Place} {h : C4} {t : TypeId}
theorem Sg {lo hi mx : Option Int} {len cap : Nat} (h : okB lo hi mx len = true) (hc : len ≤ cap) : (lo.getD 0).toNat ≤ (hi.getD len).toNat ∧ (hi.getD len).toNat ≤ len ∧ (hi.getD len).toNat ≤ (mx.getD cap).toNat := by
  obtain ⟨a1, a2, a3, a4, a5⟩ := Ox h
  cases mx with
  | none => simp only [Option.getD_none] at *; omega
  | some m => obtain ⟨b1, b2, b3⟩ := a5 m rfl; simp only [Option.getD_some] at *; omega
theorem Ut {n : Nat} {p : Place} (hp : A n = some p) {sv : Value} {sz : Nat} (hk : p.kind = .row sv sz) {e : TypeId} {es : Nat} (hu : P.underlying t = some (.slice e)) (hes : (sizeOf e).run P w = .ok es w) (h1 : es = sz)
    {off len : Nat} {va : Value} (hs : Ls sv sz off len va) {lo hi mx : Option Int} {vlo vhi vmx : Option Value} (hq : okB lo hi mx len = true) (hlo : Gd lo vlo) (hhi : Gd hi vhi) (hmx : Gd mx vmx) :
    ∃ v, (Instr.sliceAt t va vlo vhi vmx).run P w = .ok v w ∧ Ak (Bl I0 B A w) w (.sref n (off + (lo.getD 0).toNat) ((hi.getD len) - (lo.getD 0)).toNat) v := by
  obtain ⟨a1, a2, a3, a4, a5⟩ := Ox hq
  have hsub : ((hi.getD len) - (lo.getD 0)).toNat = (hi.getD len).toNat - (lo.getD 0).toNat := by omega
  unfold Ls at hs
  split at hs
  · rename_i g nn cc
    obtain ⟨hle, a', cap, rfl, hcap, ha'⟩ := hs
    obtain ⟨c1, c2, c3⟩ := Sg hq hcap
    refine ⟨_, Jw hu hes hq hcap hlo hhi hmx, ?_⟩
    simp only [Ak]
    refine ⟨rfl, p, hp, .inr ⟨_, sz, hk, ?_⟩⟩
    unfold Ls
    rw [hsub]
    refine ⟨by omega, ?_⟩
    by_cases hm : (mx.getD ↑cap).toNat = (lo.getD 0).toNat
    · rw [if_pos hm]
      exact ⟨a', _, rfl, by omega, .inl (by omega)⟩
    · rw [if_neg hm]
      refine ⟨_, _, rfl, by omega, ?_⟩
      by_cases h0 : len = 0
      · exact .inl (by omega)
      · have ha' := ha'.resolve_left h0
        subst ha'
        refine .inr ?_
        show (⟨g, off * sz, none⟩ : Addr).add _ = _
        rw [Addr.add_lit, h1, Nat.add_mul]
  · obtain ⟨rfl, rfl, rfl⟩ := hs
    obtain ⟨c1, c2, c3⟩ := Sg hq (Nat.le_refl 0)
    refine ⟨_, Jw hu hes hq (Nat.le_refl 0) hlo hhi hmx, ?_⟩
    simp only [Ak]
    refine ⟨rfl, p, hp, .inr ⟨_, sz, hk, ?_⟩⟩
    unfold Ls
    rw [hsub]
    have hmz : (mx.getD ((0 : Nat) : Int)).toNat = 0 := by
      cases mx with
      | none => rfl
      | some m => have := a5 m rfl; simp only [Option.getD_some]; omega
    refine ⟨by omega, by omega, ?_⟩
    have e1 : (lo.getD 0).toNat = 0 := by omega
    have e2 : (hi.getD ((0 : Nat) : Int)).toNat = 0 := by omega
    rw [hmz, e1, e2]
    rfl
  · exact hs.elim
theorem sliceD_ok (hty : ∀ t ti, E.ty t = some ti → Bv P t ti) (hm : Mem I0 B A h w) {a : DV} {va : Value} {lo hi mx : Option Int} {vlo vhi vmx : Option Value} {r : R} (ha : Ak (Bl I0 B A w) w a va) (hlo : Gd lo vlo) (hhi : Gd hi vhi) (hmx : Gd mx vmx) (hl : Y7 E h t a lo hi mx = some r) (hr : r.req = true) :
    ∃ v, (Instr.sliceAt t va vlo vhi vmx).run P w = .ok v w ∧ Ak (Bl I0 B A w) w r.v v := by
  unfold Y7 at hl
  split at hl
  · rename_i e _ hT
    have hu := (hty _ _ hT).desc
    simp only [B0] at hu
    cases hE : E.ty e with
    | none => simp [hE] at hl
    | some ei =>
    simp only [hE, Option.bind_some] at hl
    have hes := (hty _ _ hE).G9 w
    split at hl
    · cases lo <;> cases hi <;> cases mx <;> simp at hl
      subst hl
      simp only [Gd] at hlo hhi hmx
      subst hlo; subst hhi; subst hmx
      simp only [Ak] at ha; subst ha
      have := Jw (P := P) (w := w) (lo := none) (hi := none) (mx := none) (vlo := none) (vhi := none) (vmx := none) (a := none) (len := 0) (cap := 0) hu hes rfl (Nat.le_refl 0) rfl rfl rfl
      exact ⟨_, this, by simp [Ak]⟩
    · cases hl
    · rename_i g kk l hg
      by_cases h1 : ei.size = 1
      · simp only [h1, beq_self_eq_true, cond_true, Option.some.injEq] at hl; subst hl
        rw [h1] at hes
        have hmain : ∃ ad cap, va = .slice ad l.length cap ∧ l.length ≤ cap ∧ (l = [] ∨ ∃ b o, ad = some ⟨b, o, none⟩ ∧ (Bl I0 B A w).Fl g b ∧ ∀ (i : Nat) n, l[i]? = some n → w.cell? ⟨b, o + i, none⟩ = some (.int kk n)) := by
          cases g with
          | own i e => exact absurd rfl (hg i e)
          | arg => simpa only [Ak] using ha
          | fresh => simpa only [Ak] using ha
        obtain ⟨ad, cap, rfl, hcap, hh⟩ := hmain
        obtain ⟨c1, c2, c3⟩ := Sg hr hcap
        obtain ⟨a1, a2, a3, a4, a5⟩ := Ox hr
        refine ⟨_, Jw hu hes hr hcap hlo hhi hmx, ?_⟩
        have hlen : (Rw lo hi l).length = (hi.getD l.length).toNat - (lo.getD 0).toNat := by
          rw [Uu]; simp; omega
        have goal : ∃ a' cap', (Value.slice (if (mx.getD cap).toNat = (lo.getD 0).toNat then ad else ad.map (·.add ((lo.getD 0).toNat * 1))) ((hi.getD l.length).toNat - (lo.getD 0).toNat) ((mx.getD cap).toNat - (lo.getD 0).toNat)) = .slice a' (Rw lo hi l).length cap' ∧ (Rw lo hi l).length ≤ cap' ∧ ((Rw lo hi l) = [] ∨ ∃ b o, a' = some ⟨b, o, none⟩ ∧ (Bl I0 B A w).Fl g b ∧ ∀ (i : Nat) n, (Rw lo hi l)[i]? = some n → w.cell? ⟨b, o + i, none⟩ = some (.int kk n)) := by
          rw [hlen]
          refine ⟨_, _, rfl, by omega, ?_⟩
          by_cases h0 : (hi.getD l.length).toNat - (lo.getD 0).toNat = 0
          · exact .inl (List.eq_nil_of_length_eq_zero (by omega))
          · rcases hh with rfl | ⟨b, o, rfl, hb, hrd⟩
            · simp only [List.length_nil] at *; omega
            · refine .inr ⟨b, o + (lo.getD 0).toNat, ?_, hb, fun i n hi' => ?_⟩
              · rw [if_neg (by omega)]
                simp only [Option.map_some, Nat.mul_one]
                rw [Addr.add_lit]
              · rw [Uu, List.getElem?_drop] at hi'
                have hlt : (lo.getD 0).toNat + i < (hi.getD l.length).toNat := by
                  rcases Nat.lt_or_ge ((lo.getD 0).toNat + i) (hi.getD l.length).toNat with h' | h'
                  · exact h'
                  · rw [List.getElem?_take_eq_none h'] at hi'; cases hi'
                rw [List.getElem?_take_of_lt hlt] at hi'
                rw [Nat.add_assoc]
                exact hrd _ _ hi'
        cases g with
        | own i e => exact absurd rfl (hg i e)
        | arg => simpa only [Ak] using goal
        | fresh => simpa only [Ak] using goal
      · rw [show (ei.size == 1) = false by simpa using h1] at hl; simp at hl
    · cases hl
    · rename_i g sz l hg
      by_cases h1 : ei.size = sz
      · simp only [h1, beq_self_eq_true, cond_true, Option.some.injEq] at hl; subst hl
        rw [h1] at hes
        have hmain : ∃ ad cap, va = .slice ad l.length cap ∧ l.length ≤ cap ∧ (l = [] ∨ ∃ b o rows, ad = some ⟨b, o, none⟩ ∧ (Bl I0 B A w).Fl g b ∧ Co (Bl I0 B A w).bare w l rows ∧ (∀ r ∈ rows, r.length = sz ∧ ∀ u ∈ r, u.oneCell' = true) ∧ ∀ (i : Nat) u, rows.flatten[i]? = some u → w.cell? ⟨b, o + i, none⟩ = some u) := by
          cases g with
          | own i e => exact absurd rfl (hg i e)
          | arg => simpa only [Ak] using ha
          | fresh => simpa only [Ak] using ha
        obtain ⟨ad, cap, rfl, hcap, hh⟩ := hmain
        obtain ⟨c1, c2, c3⟩ := Sg hr hcap
        obtain ⟨a1, a2, a3, a4, a5⟩ := Ox hr
        refine ⟨_, Jw hu hes hr hcap hlo hhi hmx, ?_⟩
        have hlen : (Rw lo hi l).length = (hi.getD l.length).toNat - (lo.getD 0).toNat := by
          rw [Uu]; simp; omega
        have goal : ∃ a' cap', (Value.slice (if (mx.getD cap).toNat = (lo.getD 0).toNat then ad else ad.map (·.add ((lo.getD 0).toNat * sz))) ((hi.getD l.length).toNat - (lo.getD 0).toNat) ((mx.getD cap).toNat - (lo.getD 0).toNat)) = .slice a' (Rw lo hi l).length cap' ∧ (Rw lo hi l).length ≤ cap' ∧ ((Rw lo hi l) = [] ∨ ∃ b o rows, a' = some ⟨b, o, none⟩ ∧ (Bl I0 B A w).Fl g b ∧ Co (Bl I0 B A w).bare w (Rw lo hi l) rows ∧ (∀ r ∈ rows, r.length = sz ∧ ∀ u ∈ r, u.oneCell' = true) ∧ ∀ (i : Nat) u, rows.flatten[i]? = some u → w.cell? ⟨b, o + i, none⟩ = some u) := by
          rw [hlen]
          refine ⟨_, _, rfl, by omega, ?_⟩
          by_cases h0 : (hi.getD l.length).toNat - (lo.getD 0).toNat = 0
          · exact .inl (List.eq_nil_of_length_eq_zero (by omega))
          · rcases hh with rfl | ⟨b, o, rows, rfl, hb, hrr, hlr, hrd⟩
            · simp only [List.length_nil] at *; omega
            · refine .inr ⟨b, o + (lo.getD 0).toNat * sz, (rows.take (hi.getD l.length).toNat).drop (lo.getD 0).toNat, ?_, hb, ?_, ?_, ?_⟩
              · rw [if_neg (by omega)]
                simp only [Option.map_some]
                rw [Addr.add_lit]
              · rw [Uu]; exact (hrr.take _).drop _
              · exact fun r hr' => hlr r (List.mem_of_mem_take (List.mem_of_mem_drop hr'))
              · intro i u hi'
                rw [Nat.add_assoc]
                refine hrd _ _ ?_
                rw [Ny (fun r hr' => (hlr r (List.mem_of_mem_take hr')).1), List.getElem?_drop, Kz (fun r hr' => (hlr r hr').1)] at hi'
                rcases Nat.lt_or_ge ((lo.getD 0).toNat * sz + i) ((hi.getD l.length).toNat * sz) with h' | h'
                · rwa [List.getElem?_take_of_lt h'] at hi'
                · rw [List.getElem?_take_eq_none h'] at hi'; cases hi'
        cases g with
        | own i e => exact absurd rfl (hg i e)
        | arg => simpa only [Ak] using goal
        | fresh => simpa only [Ak] using goal
      · rw [show (ei.size == sz) = false by simpa using h1] at hl; simp at hl
    · rename_i n
      simp only [Ak] at ha
      obtain ⟨_, p, hp, hd⟩ := ha
      split at hl
      · rename_i e' kk l hlk
        obtain ⟨hst, sv, hk, ho⟩ := Dy hm hp hlk
        obtain ⟨size, hk'⟩ := hd.resolve_left (Bo hst)
        rw [hk] at hk'; cases hk'
        by_cases h1 : ei.size = 1
        · simp only [h1, beq_self_eq_true, cond_true, Option.some.injEq] at hl; subst hl
          have := Ut (I0 := I0) (B := B) (A := A) (off := 0) (len := l.length) hp hk hu hes h1 (va := va) (E6 ho) hr hlo hhi hmx
          simpa using this
        · rw [show (ei.size == 1) = false by simpa using h1] at hl; simp at hl
      · rename_i e' sz l hlk
        obtain ⟨hst, _, sv, rows, hk, hrr, hlen, ho⟩ := D8 hm hp hlk
        obtain ⟨size, hk'⟩ := hd.resolve_left (Bo hst)
        rw [hk] at hk'; cases hk'
        by_cases h1 : ei.size = sz
        · simp only [h1, beq_self_eq_true, cond_true, Option.some.injEq] at hl; subst hl
          have := Ut (I0 := I0) (B := B) (A := A) (off := 0) (len := l.length) hp hk hu hes h1 (va := va) (E6 ho) hr hlo hhi hmx
          simpa using this
        · rw [show (ei.size == sz) = false by simpa using h1] at hl; simp at hl
      · cases hl
    · rename_i n off len
      simp only [Ak] at ha
      obtain ⟨_, p, hp, hd⟩ := ha
      split at hl
      · rename_i e' kk l hlk
        obtain ⟨hst, sv, hk, ho⟩ := Dy hm hp hlk
        obtain ⟨sv', size, hk', hs⟩ := hd.resolve_left (Bo hst)
        rw [hk] at hk'; cases hk'
        by_cases h1 : ei.size = 1
        · simp only [h1, beq_self_eq_true, cond_true, Option.some.injEq] at hl; subst hl
          exact Ut hp hk hu hes h1 hs hr hlo hhi hmx
        · rw [show (ei.size == 1) = false by simpa using h1] at hl; simp at hl
      · rename_i e' sz l hlk
        obtain ⟨hst, _, sv, rows, hk, hrr, hlen, ho⟩ := D8 hm hp hlk
        obtain ⟨sv', size, hk', hs⟩ := hd.resolve_left (Bo hst)
        rw [hk] at hk'; cases hk'
        by_cases h1 : ei.size = sz
        · simp only [h1, beq_self_eq_true, cond_true, Option.some.injEq] at hl; subst hl
          exact Ut hp hk hu hes h1 hs hr hlo hhi hmx
        · rw [show (ei.size == sz) = false by simpa using h1] at hl; simp at hl
      · cases hl
    · cases hl
  · cases hl
end
end Go.Den
namespace Go.Den
def I1 (I : Nat → Prop) : Ctx := { ok := I, B := 0, fr := false, own := fun _ => none, at_ := fun _ => none }
def C3 (I : Nat → Prop) (own : Nat → Option Nat) (w w' : World) : Ctx :=
  { ok := fun b => b < w'.heap.size ∧ (I b ∨ w.heap.size ≤ b) ∧ ∀ i, own i ≠ some b, B := w.heap.size, fr := true, own := own, at_ := fun _ => none }
structure OwnOk (own : Nat → Option Nat) (w w' : World) : Prop where
  lt : ∀ i b, own i = some b → w.heap.size ≤ b ∧ b < w'.heap.size
  inj : ∀ i j b, own i = some b → own j = some b → i = j
def Mp (P : Program) (f : FuncId) (args : List DV) (out : DV) : Prop :=
  ∀ (w : World) (vals : Array Value) (I : Nat → Prop), (∀ b, I b → b < w.heap.size) → A4 (I1 I) w args vals.toList →
    Calls P f vals w fun e w' => ∃ v own, e = .returned v ∧ Go.RowKit.Below w.heap.size w w' ∧ OwnOk own w w' ∧ Ak (C3 I own w w') w' out v
structure SpoilFact (P : Program) (g : FuncId) (e : TypeId) : Prop where
  call : ∀ (args : Array Value) (w : World), (callFunc g args).run P w = .ok (.enter g args) w
  run : ∀ (w : World) (r c : Int) (v : Value) (l : List Int), w.ownsRow 0 e 1 v l.length (l.map (Value.int .u64)) →
    Calls P g #[.agg #[.int .i64 r, .int .i64 c, v]] w fun en w' => (∃ u, en = .returned u) ∧ Go.RowKit.Below 0 w w' ∧ ∀ b, b < w.heap.size → v.ownBlock ≠ some b → w'.heap[b]? = w.heap[b]?
def W6 (P : Program) (g : FuncId) (e : Entry) : Prop := ∀ args, e.pre args = true → Mp P g args (e.out args)
def seen (I0 : Nat → Prop) (B : Nat) (A : Nat → Option Place) (w : World) (ns : List Nat) (b : Nat) : Prop :=
  (Bl I0 B A w).ok b ∨ ∃ n p, n ∈ ns ∧ A n = some p ∧ p.st ≠ .dead ∧ p.Fl = some b
theorem seen.mono {I0 : Nat → Prop} {B : Nat} {A : Nat → Option Place} {w : World} {ns ms : List Nat} (h : ∀ n ∈ ns, n ∈ ms) {b : Nat} : seen I0 B A w ns b → seen I0 B A w ms b := fun hb =>
  hb.imp id fun ⟨n, p, hn, r⟩ => ⟨n, p, h n hn, r⟩
theorem Ms {I I' : Nat → Prop} (h : ∀ b, I b → I' b) : I3 (I1 I) (I1 I') := ⟨h, rfl, fun _ => rfl, fun _ => rfl⟩
def H5 (h : C4) (f : Nat) (l : List DV) : Option (List DV × List Nat) :=
  l.foldr (fun d acc => (lower h f d).bind fun (x, ns) => acc.bind fun (xs, ms) => some (x :: xs, ns ++ ms)) (some ([], []))
theorem lowerL_cons (h : C4) (f : Nat) (d : DV) (l : List DV) : H5 h f (d :: l) = (lower h f d).bind fun (x, ns) => (H5 h f l).bind fun (xs, ms) => some (x :: xs, ns ++ ms) := rfl
theorem Tq {h : C4} {f : Nat} {d : DV} {l : List DV} {r : List DV × List Nat} (hh : H5 h f (d :: l) = some r) :
    ∃ x ns xs ms, lower h f d = some (x, ns) ∧ H5 h f l = some (xs, ms) ∧ r = (x :: xs, ns ++ ms) := by
  rw [lowerL_cons] at hh
  cases h1 : lower h f d with
  | none => simp [h1] at hh
  | some a =>
    obtain ⟨x, ns⟩ := a
    cases h2 : H5 h f l with
    | none => simp [h1, h2] at hh
    | some b =>
      obtain ⟨xs, ms⟩ := b
      simp only [h1, h2, Option.bind_some, Option.some.injEq] at hh
      exact ⟨x, ns, xs, ms, rfl, rfl, hh.symm⟩
section
variable {I0 : Nat → Prop} {B : Nat} {A : Nat → Option Place} {h : C4} {w : World}
theorem Nc {f : Nat} (ih : ∀ (d : DV) (v : Value) d' ns, lower h f d = some (d', ns) → Ak (Bl I0 B A w) w d v → Ak (I1 (seen I0 B A w ns)) w d' v) :
    ∀ (l : List DV) (vs : List Value) l' ns, H5 h f l = some (l', ns) → A4 (Bl I0 B A w) w l vs → A4 (I1 (seen I0 B A w ns)) w l' vs
  | [], vs, l', ns, hl, hv => by
    simp only [H5, List.foldr_nil, Option.some.injEq, Prod.mk.injEq] at hl
    obtain ⟨rfl, rfl⟩ := hl
    rw [A4.Ff] at hv ⊢; exact hv
  | d :: l, vs, l', ns, hl, hv => by
    obtain ⟨x, n1, xs, ms, h1, h2, e⟩ := Tq hl
    cases e
    rw [A4.Ca] at hv ⊢
    obtain ⟨u, us, rfl, hu, hus⟩ := hv
    exact ⟨u, us, rfl, Ak.Eo (Ms fun b => seen.mono (fun n hn => List.mem_append.2 (.inl hn))) _ _ (ih d u _ _ h1 hu),
      A4.Eo (Ms fun b => seen.mono (fun n hn => List.mem_append.2 (.inr hn))) _ _ (Nc ih l us xs ms h2 hus)⟩
theorem T3 {sv : Value} {sz off len : Nat} {v : Value} (hs : Ls sv sz off len v) : ∃ a cap, v = .slice a len cap ∧ len ≤ cap ∧ (len = 0 ∨ ∃ g n c, sv = .slice (some ⟨g, 0, none⟩) n c ∧ a = some ⟨g, off * sz, none⟩ ∧ off + len ≤ n) := by
  unfold Ls at hs
  split at hs
  · rename_i g n c
    obtain ⟨hle, a, cap, rfl, hc, ha⟩ := hs
    exact ⟨some a, cap, rfl, hc, ha.imp id fun e => ⟨g, n, c, rfl, by rw [e], hle⟩⟩
  · obtain ⟨rfl, rfl, rfl⟩ := hs; exact ⟨none, 0, rfl, Nat.le_refl _, .inl rfl⟩
  · exact hs.elim
theorem Jf {p : Place} {sv : Value} (hk : p.kind = .row sv 1) {e : TypeId} {k : IntKind} {l : List Int} (ho : w.ownsRow B e 1 sv l.length (l.map (Value.int k))) {off len : Nat} {v : Value} (hs : Ls sv 1 off len v) {ok : Nat → Prop} (hok : ∀ b, p.Fl = some b → ok b) :
    ∃ a cap, v = .slice a ((l.drop off).take len).length cap ∧ ((l.drop off).take len).length ≤ cap ∧ ((l.drop off).take len = [] ∨ ∃ b o, a = some ⟨b, o, none⟩ ∧ ok b ∧ ∀ (i : Nat) n, ((l.drop off).take len)[i]? = some n → w.cell? ⟨b, o + i, none⟩ = some (.int k n)) := by
  obtain ⟨a, cap, rfl, hc, hcase⟩ := T3 hs
  rcases hcase with rfl | ⟨g, n, c, rfl, rfl, hle⟩
  · simp only [List.take_zero, List.length_nil]; exact ⟨a, cap, rfl, hc, .inl trivial⟩
  · have hn : n = l.length := by
      rcases E7 ho with ⟨e, _⟩ | ⟨_, _, e, _⟩ <;> cases e; rfl
    have hlen : ((l.drop off).take len).length = len := by simp; omega
    rw [hlen]
    refine ⟨_, cap, rfl, hc, ?_⟩
    by_cases h0 : len = 0
    · subst h0; simp
    · obtain ⟨g', c', e', _, hrd⟩ := E8 ho (by omega)
      cases e'
      refine .inr ⟨g, off * 1, rfl, hok g (by unfold Place.Fl; rw [hk]; rfl), fun i m hi => ?_⟩
      have hlt : i < len := by
        rcases Nat.lt_or_ge i len with h' | h'
        · exact h'
        · rw [List.getElem?_take_eq_none h'] at hi; cases hi
      rw [List.getElem?_take_of_lt hlt, List.getElem?_drop] at hi
      have := hrd (off + i) (.int k m) (by rw [List.getElem?_map, hi]; rfl)
      rw [Nat.zero_add] at this
      rw [Nat.mul_one]; exact this
theorem Je {p : Place} {sv : Value} {sz : Nat} (hk : p.kind = .row sv sz) {e : TypeId} {l : List (List DV)} {rows : List (List Value)} {c : Ctx} (hrr : Co c w l rows) (hlen : ∀ r ∈ rows, r.length = sz ∧ ∀ u ∈ r, u.oneCell' = true) (ho : w.ownsRow B e sz sv l.length rows.flatten) {off len : Nat} {v : Value} (hs : Ls sv sz off len v) {ok : Nat → Prop} (hok : ∀ b, p.Fl = some b → ok b) :
    ∃ a cap, v = .slice a ((l.drop off).take len).length cap ∧ ((l.drop off).take len).length ≤ cap ∧ ((l.drop off).take len = [] ∨ ∃ b o rows', a = some ⟨b, o, none⟩ ∧ ok b ∧ Co c w ((l.drop off).take len) rows' ∧ (∀ r ∈ rows', r.length = sz ∧ ∀ u ∈ r, u.oneCell' = true) ∧ ∀ (i : Nat) u, rows'.flatten[i]? = some u → w.cell? ⟨b, o + i, none⟩ = some u) := by
  obtain ⟨a, cap, rfl, hc, hcase⟩ := T3 hs
  rcases hcase with rfl | ⟨g, n, cc, rfl, rfl, hle⟩
  · simp only [List.take_zero, List.length_nil]; exact ⟨a, cap, rfl, hc, .inl trivial⟩
  · have hn : n = l.length := by
      rcases E7 ho with ⟨e, _⟩ | ⟨_, _, e, _⟩ <;> cases e; rfl
    have hlen' : ((l.drop off).take len).length = len := by simp; omega
    rw [hlen']
    refine ⟨_, cap, rfl, hc, ?_⟩
    by_cases h0 : len = 0
    · subst h0; simp
    · obtain ⟨g', c', e', _, hrd⟩ := E8 ho (by omega)
      cases e'
      refine .inr ⟨g, off * sz, (rows.drop off).take len, rfl, hok g (by unfold Place.Fl; rw [hk]; rfl), (hrr.drop off).take len, fun r hr => hlen r (List.mem_of_mem_drop (List.mem_of_mem_take hr)), fun i u hi => ?_⟩
      rw [Kz (fun r hr => (hlen r (List.mem_of_mem_drop hr)).1), Ny (fun r hr => (hlen r hr).1)] at hi
      have hlt : i < len * sz := by
        rcases Nat.lt_or_ge i (len * sz) with h' | h'
        · exact h'
        · rw [List.getElem?_take_eq_none h'] at hi; cases hi
      rw [List.getElem?_take_of_lt hlt, List.getElem?_drop] at hi
      have := hrd _ _ hi
      rwa [Nat.zero_add] at this
theorem R5 {n : Nat} {p : Place} (hp : A n = some p) (hnd : p.st ≠ .dead) {ns : List Nat} (hn : n ∈ ns) : ∀ b, p.Fl = some b → seen I0 B A w ns b :=
  fun _ hb => .inr ⟨n, p, hn, hp, hnd, hb⟩
theorem V6 (hm : Mem I0 B A h w) : ∀ (f : Nat) (d : DV) (v : Value) d' ns, lower h f d = some (d', ns) → Ak (Bl I0 B A w) w d v → Ak (I1 (seen I0 B A w ns)) w d' v := by
  intro f
  induction f with
  | zero => intro d v d' ns hl; simp [lower] at hl
  | succ f ih =>
    intro d v d' ns hl hv
    have hL := Nc ih
    cases d with
    | undef => simp only [lower, Option.some.injEq, Prod.mk.injEq] at hl; obtain ⟨rfl, rfl⟩ := hl; simp [Ak]
    | nil => simp only [lower, Option.some.injEq, Prod.mk.injEq] at hl; obtain ⟨rfl, rfl⟩ := hl; simpa only [Ak] using hv
    | bool b => simp only [lower, Option.some.injEq, Prod.mk.injEq] at hl; obtain ⟨rfl, rfl⟩ := hl; simpa only [Ak] using hv
    | int k n => simp only [lower, Option.some.injEq, Prod.mk.injEq] at hl; obtain ⟨rfl, rfl⟩ := hl; simpa only [Ak] using hv
    | fl n => simp only [lower, Option.some.injEq, Prod.mk.injEq] at hl; obtain ⟨rfl, rfl⟩ := hl; simpa only [Ak] using hv
    | nb n => simp only [lower, Option.some.injEq, Prod.mk.injEq] at hl; obtain ⟨rfl, rfl⟩ := hl; simpa only [Ak] using hv
    | agg l =>
      have e : lower h (f + 1) (.agg l) = (H5 h f l).bind fun (l, ns) => some (.agg l, ns) := rfl
      rw [e] at hl
      cases h1 : H5 h f l with
      | none => simp [h1] at hl
      | some a =>
        obtain ⟨l', ns'⟩ := a
        simp only [h1, Option.bind_some, Option.some.injEq, Prod.mk.injEq] at hl; obtain ⟨rfl, rfl⟩ := hl
        simp only [Ak] at hv ⊢
        obtain ⟨vs, rfl, hls⟩ := hv
        exact ⟨vs, rfl, hL l _ _ _ h1 hls⟩
    | tup l => simp [lower] at hl
    | ints g k l =>
      cases g with
      | own i e => simp [lower] at hl
      | arg =>
        simp only [lower, Option.some.injEq, Prod.mk.injEq] at hl; obtain ⟨rfl, rfl⟩ := hl
        simp only [Ak] at hv ⊢
        obtain ⟨a, cap, rfl, hc, hh⟩ := hv
        exact ⟨a, cap, rfl, hc, hh.imp id fun ⟨b, o, e, hb, hr⟩ => ⟨b, o, e, .inl hb, hr⟩⟩
      | fresh =>
        simp only [lower, Option.some.injEq, Prod.mk.injEq] at hl; obtain ⟨rfl, rfl⟩ := hl
        simp only [Ak] at hv ⊢
        obtain ⟨a, cap, rfl, hc, hh⟩ := hv
        exact ⟨a, cap, rfl, hc, hh.imp id fun ⟨b, o, e, hb, hr⟩ => ⟨b, o, e, .inl hb.1, hr⟩⟩
    | recs g sz l =>
      have wd : I3 (Bl I0 B A w).bare (I1 (seen I0 B A w [])).bare := ⟨fun b hb => .inl hb, rfl, fun _ => rfl, fun _ => rfl⟩
      cases g with
      | own i e => simp [lower] at hl
      | arg =>
        simp only [lower, Option.some.injEq, Prod.mk.injEq] at hl; obtain ⟨rfl, rfl⟩ := hl
        simp only [Ak] at hv ⊢
        obtain ⟨a, cap, rfl, hc, hh⟩ := hv
        exact ⟨a, cap, rfl, hc, hh.imp id fun ⟨b, o, rows, e, hb, hrr, hlen, hr⟩ => ⟨b, o, rows, e, .inl hb, Co.Eo wd _ _ hrr, hlen, hr⟩⟩
      | fresh =>
        simp only [lower, Option.some.injEq, Prod.mk.injEq] at hl; obtain ⟨rfl, rfl⟩ := hl
        simp only [Ak] at hv ⊢
        obtain ⟨a, cap, rfl, hc, hh⟩ := hv
        exact ⟨a, cap, rfl, hc, hh.imp id fun ⟨b, o, rows, e, hb, hrr, hlen, hr⟩ => ⟨b, o, rows, e, .inl hb.1, Co.Eo wd _ _ hrr, hlen, hr⟩⟩
    | oref n =>
      simp only [Ak] at hv
      obtain ⟨_, p, hp, hd⟩ := hv
      simp only [lower] at hl
      split at hl
      · rename_i fz e k l hlk
        simp only [Option.some.injEq, Prod.mk.injEq] at hl; obtain ⟨rfl, rfl⟩ := hl
        obtain ⟨hst, sv, hk, ho⟩ := Dy hm hp hlk
        obtain ⟨size, hk'⟩ := hd.resolve_left (Bo hst)
        rw [hk] at hk'; cases hk'
        have := Jf hk ho (E6 ho) (R5 (I0 := I0) (B := B) (A := A) (w := w) hp (Bo hst) (List.mem_singleton.2 rfl))
        simp only [List.drop_zero, List.take_length] at this
        simp only [Ak]
        exact this
      · rename_i fz e sz l hlk
        simp only [Option.some.injEq, Prod.mk.injEq] at hl; obtain ⟨rfl, rfl⟩ := hl
        obtain ⟨hst, _, sv, rows, hk, hrr, hlen, ho⟩ := D8 hm hp hlk
        obtain ⟨size, hk'⟩ := hd.resolve_left (Bo hst)
        rw [hk] at hk'; cases hk'
        have wd : I3 (Bl I0 B A w).bare (I1 (seen I0 B A w [n])).bare := ⟨fun b hb => .inl hb, rfl, fun _ => rfl, fun _ => rfl⟩
        have := Je hk (Co.Eo wd _ _ hrr) hlen ho (E6 ho) (R5 (I0 := I0) (B := B) (A := A) (w := w) hp (Bo hst) (List.mem_singleton.2 rfl))
        simp only [List.drop_zero, List.take_length] at this
        simp only [Ak]
        exact this
      · cases hl
    | sref n off len =>
      simp only [Ak] at hv
      obtain ⟨_, p, hp, hd⟩ := hv
      simp only [lower] at hl
      split at hl
      · rename_i fz e k l hlk
        simp only [Option.some.injEq, Prod.mk.injEq] at hl; obtain ⟨rfl, rfl⟩ := hl
        obtain ⟨hst, sv, hk, ho⟩ := Dy hm hp hlk
        obtain ⟨sv', size, hk', hs⟩ := hd.resolve_left (Bo hst)
        rw [hk] at hk'; cases hk'
        simp only [Ak]
        exact Jf hk ho hs (R5 (I0 := I0) (B := B) (A := A) (w := w) hp (Bo hst) (List.mem_singleton.2 rfl))
      · rename_i fz e sz l hlk
        simp only [Option.some.injEq, Prod.mk.injEq] at hl; obtain ⟨rfl, rfl⟩ := hl
        obtain ⟨hst, _, sv, rows, hk, hrr, hlen, ho⟩ := D8 hm hp hlk
        obtain ⟨sv', size, hk', hs⟩ := hd.resolve_left (Bo hst)
        rw [hk] at hk'; cases hk'
        have wd : I3 (Bl I0 B A w).bare (I1 (seen I0 B A w [n])).bare := ⟨fun b hb => .inl hb, rfl, fun _ => rfl, fun _ => rfl⟩
        simp only [Ak]
        exact Je hk (Co.Eo wd _ _ hrr) hlen ho hs (R5 (I0 := I0) (B := B) (A := A) (w := w) hp (Bo hst) (List.mem_singleton.2 rfl))
      · cases hl
    | ptr n i j =>
      cases i with
      | succ i => simp [lower] at hl
      | zero =>
      have e : lower h (f + 1) (.ptr n 0 j) = match look h n with | some (_, .box cs) => (H5 h f (cs.drop j)).bind fun (l, ns) => some (.cellp l, n :: ns) | _ => none := rfl
      rw [e] at hl
      simp only [Ak] at hv
      obtain ⟨_, p, hp, hd⟩ := hv
      split at hl
      · rename_i fz cs hlk
        obtain ⟨hst, b, e, cells, hk, hh, hls⟩ := Nt hm hp hlk
        have hd := hd.resolve_left (Bo hst)
        unfold Hw at hd; rw [hk] at hd
        obtain ⟨_, rfl⟩ := hd
        cases h1 : H5 h f (cs.drop j) with
        | none => simp [h1] at hl
        | some a =>
          obtain ⟨l', ns'⟩ := a
          simp only [h1, Option.bind_some, Option.some.injEq, Prod.mk.injEq] at hl; obtain ⟨rfl, rfl⟩ := hl
          simp only [Ak]
          refine ⟨b, j, cells.toList.drop j, rfl, .inr ⟨n, p, by simp, hp, Bo hst, by unfold Place.Fl; rw [hk]⟩, ?_, ?_⟩
          · exact A4.Eo (Ms fun b => seen.mono (fun n hn => List.mem_cons_of_mem _ hn)) _ _ (hL _ _ _ _ h1 (hls.drop j))
          · have := (Yp hh).drop j
            rw [Nat.zero_add] at this
            exact this
      · cases hl
    | cellp cs =>
      simp only [lower, Option.some.injEq, Prod.mk.injEq] at hl; obtain ⟨rfl, rfl⟩ := hl
      have wd : I3 (Bl I0 B A w).bare (I1 (seen I0 B A w [])).bare := ⟨fun b hb => .inl hb, rfl, fun _ => rfl, fun _ => rfl⟩
      simp only [Ak] at hv ⊢
      obtain ⟨b, o, vs, rfl, hb, hls, hrd⟩ := hv
      exact ⟨b, o, vs, rfl, .inl hb, A4.Eo wd _ _ hls, hrd⟩
    | fn g a c =>
      have e : lower h (f + 1) (.fn g a c) = (H5 h f a).bind fun (a, ns) => (H5 h f c).bind fun (c, ms) => some (.fn g a c, ns ++ ms) := rfl
      rw [e] at hl
      cases h1 : H5 h f a with
      | none => simp [h1] at hl
      | some x =>
        obtain ⟨a', n1⟩ := x
        cases h2 : H5 h f c with
        | none => simp [h1, h2] at hl
        | some y =>
          obtain ⟨c', n2⟩ := y
          simp only [h1, h2, Option.bind_some, Option.some.injEq, Prod.mk.injEq] at hl; obtain ⟨rfl, rfl⟩ := hl
          simp only [Ak] at hv ⊢
          obtain ⟨fs', cs', rfl, hf, hcs⟩ := hv
          exact ⟨fs', cs', rfl, A4.Eo (Ms fun b => seen.mono (fun n hn => List.mem_append.2 (.inl hn))) _ _ (hL a _ _ _ h1 hf),
            A4.Eo (Ms fun b => seen.mono (fun n hn => List.mem_append.2 (.inr hn))) _ _ (hL c _ _ _ h2 hcs)⟩
    | gd g d => simp [lower] at hl
end
end Go.Den
namespace Go.Den
open Go.RowKit (Below)
section
variable {I0 I : Nat → Prop} {B : Nat} {own : Nat → Option Nat} {w w' : World} {ad : Bool}
structure Good (I0 I : Nat → Prop) (B : Nat) (own : Nat → Option Nat) (w w' : World) (ad : Bool) (A : Nat → Option Place) : Prop where
  ok : ∀ b, (C3 I own w w').ok b → (Bl I0 B A w').ok b
  own : ad = false → ∀ i b, own i = some b → w.heap.size ≤ b → (Bl I0 B A w').ok b
  hB : B ≤ w.heap.size
theorem Q8 {w : World} {base base' : Nat} {e : TypeId} {size n : Nat} {v : Value} {xs : List Value} (h : w.ownsRow base e size v n xs) (hb : base' ≤ base) : w.ownsRow base' e size v n xs := by
  obtain ⟨h1, h2⟩ := h
  refine ⟨h1, ?_⟩
  rcases h2 with h2 | ⟨g, cap, cur, hv, hg, r⟩
  · exact Or.inl h2
  · exact Or.inr ⟨g, cap, cur, hv, Nat.le_trans hb hg, r⟩
theorem F3 {w : World} {base : Nat} {e : TypeId} {size n : Nat} {v : Value} {xs : List Value} (h : w.ownsRow base e size v n xs) : v.oneCell' = true := by
  rcases h.2 with ⟨rfl, _⟩ | ⟨g, cap, cur, rfl, _⟩ <;> rfl
theorem Ns {w : World} {base : Nat} {e : TypeId} {size n : Nat} {v : Value} {xs : List Value} (h : w.ownsRow base e size v n xs) {b : Nat} (hb : v.ownBlock = some b) : base ≤ b := by
  rcases h.2 with ⟨rfl, _⟩ | ⟨g, cap, cur, rfl, hg, _⟩
  · cases hb
  · cases hb; exact hg
def Fk (I0 I : Nat → Prop) (B : Nat) (own : Nat → Option Nat) (w w' : World) (ad : Bool) (os : List (Nat × OB)) (is : List Nat) (G : Ctx → Prop) : Prop :=
  ∃ ps : List (Nat × Place), ps.map (·.1) = os.map (·.1) ∧ is.length = ps.length ∧
    (∀ (j : Nat) n p, ps[j]? = some (n, p) → p.st = .live ∧ ∃ i, is[j]? = some i ∧ ∀ b, p.Fl = some b → own i = some b) ∧
    ∀ A, Good I0 I B own w w' ad A → (∀ n p, (n, p) ∈ ps → A n = some p) →
      G (Bl I0 B A w') ∧ ∀ (j : Nat) n p ob, ps[j]? = some (n, p) → os[j]? = some (n, ob) → Cn (Bl I0 B A w') w' p (false, ob)
theorem Fk.none {G : Ctx → Prop} (h : ∀ A, Good I0 I B own w w' ad A → G (Bl I0 B A w')) : Fk I0 I B own w w' ad [] [] G :=
  ⟨[], rfl, rfl, fun j n p hj => by simp at hj, fun A hA _ => ⟨h A hA, fun j n p ob hj => by simp at hj⟩⟩
theorem Fk.append {os os' : List (Nat × OB)} {is is' : List Nat} {G G' : Ctx → Prop} (h : Fk I0 I B own w w' ad os is G) (h' : Fk I0 I B own w w' ad os' is' G') :
    Fk I0 I B own w w' ad (os ++ os') (is ++ is') (fun c => G c ∧ G' c) := by
  obtain ⟨ps, h1, h2, h3, h4⟩ := h
  obtain ⟨ps', h1', h2', h3', h4'⟩ := h'
  have hl : os.length = ps.length := by have := congrArg List.length h1; simpa using this.symm
  refine ⟨ps ++ ps', by simp [h1, h1'], by simp [h2, h2'], ?_, ?_⟩
  · intro j n p hj
    rcases Nat.lt_or_ge j ps.length with hlt | hge
    · rw [List.getElem?_append_left hlt] at hj
      obtain ⟨a, i, b, c⟩ := h3 j n p hj
      exact ⟨a, i, by rw [List.getElem?_append_left (by omega)]; exact b, c⟩
    · rw [List.getElem?_append_right hge] at hj
      obtain ⟨a, i, b, c⟩ := h3' _ n p hj
      exact ⟨a, i, by rw [List.getElem?_append_right (by omega), h2]; exact b, c⟩
  · intro A hA hps
    obtain ⟨a, b⟩ := h4 A hA fun n p hn => hps n p (List.mem_append.2 (.inl hn))
    obtain ⟨a', b'⟩ := h4' A hA fun n p hn => hps n p (List.mem_append.2 (.inr hn))
    refine ⟨⟨a, a'⟩, fun j n p ob hj ho => ?_⟩
    rcases Nat.lt_or_ge j ps.length with hlt | hge
    · rw [List.getElem?_append_left hlt] at hj
      rw [List.getElem?_append_left (by omega)] at ho
      exact b j n p ob hj ho
    · rw [List.getElem?_append_right hge] at hj
      rw [List.getElem?_append_right (by omega), hl] at ho
      exact b' _ n p ob hj ho
theorem Fk.mono {os : List (Nat × OB)} {is : List Nat} {G G' : Ctx → Prop} (h : Fk I0 I B own w w' ad os is G) (hG : ∀ c, G c → G' c) : Fk I0 I B own w w' ad os is G' := by
  obtain ⟨ps, h1, h2, h3, h4⟩ := h
  exact ⟨ps, h1, h2, h3, fun A hA hps => let ⟨a, b⟩ := h4 A hA hps; ⟨hG _ a, b⟩⟩
theorem Pp {g : Nat → DV → Option (DV × List (Nat × OB) × List Nat)}
    (ih : ∀ nm d v d' os is, Ak (C3 I own w w') w' d v → g nm d = some (d', os, is) → Fk I0 I B own w w' ad os is (fun c => Ak c w' d' v)) :
    ∀ (l : List DV) nm (vs : List Value) l' os is, A4 (C3 I own w w') w' l vs → I2 g nm l = some (l', os, is) → Fk I0 I B own w w' ad os is (fun c => A4 c w' l' vs)
  | [], nm, vs, l', os, is, hl, h => by
    simp only [I2, Option.some.injEq, Prod.mk.injEq] at h
    obtain ⟨rfl, rfl, rfl⟩ := h
    rw [A4.Ff] at hl
    exact Fk.none fun A _ => by rw [A4.Ff]; exact hl
  | d :: l, nm, vs, l', os, is, hl, h => by
    rw [A4.Ca] at hl
    obtain ⟨u, us, rfl, hu, hus⟩ := hl
    simp only [I2] at h
    split at h
    · rename_i x os1 is1 hg
      split at h
      · rename_i xs os2 is2 hg2
        simp only [Option.some.injEq, Prod.mk.injEq] at h
        obtain ⟨rfl, rfl, rfl⟩ := h
        exact ((ih nm d u x os1 is1 hu hg).append (Pp ih l _ us xs os2 is2 hus hg2)).mono fun c hc => by
          rw [A4.Ca]; exact ⟨u, us, rfl, hc.1, hc.2⟩
      · cases h
    · cases h
theorem Lk {A : Nat → Option Place} (h : Good I0 I B own w w' ad A) : I3 (C3 I own w w').bare (Bl I0 B A w').bare :=
  ⟨h.ok, rfl, fun _ => rfl, fun _ => rfl⟩
theorem adoptD_ok : ∀ (f : Nat) nm d v d' os is, Ak (C3 I own w w') w' d v → En ad f nm d = some (d', os, is) → Fk I0 I B own w w' ad os is (fun c => Ak c w' d' v) := by
  intro f
  induction f with
  | zero => intro nm d v d' os is hv h; simp [En] at h
  | succ f ih =>
    intro nm d v d' os is hv h
    have plain : (∀ A, Good I0 I B own w w' ad A → Ak (Bl I0 B A w') w' d v) → En ad (f + 1) nm d = some (d, [], []) → Fk I0 I B own w w' ad os is (fun c => Ak c w' d' v) := by
      intro hp he
      rw [he] at h
      simp only [Option.some.injEq, Prod.mk.injEq] at h
      obtain ⟨rfl, rfl, rfl⟩ := h
      exact Fk.none hp
    cases d with
    | undef => exact plain (fun A _ => by simp [Ak]) rfl
    | nil => exact plain (fun A _ => by simpa only [Ak] using hv) rfl
    | bool b => exact plain (fun A _ => by simpa only [Ak] using hv) rfl
    | int k n => exact plain (fun A _ => by simpa only [Ak] using hv) rfl
    | fl n => exact plain (fun A _ => by simpa only [Ak] using hv) rfl
    | nb n => exact plain (fun A _ => by simpa only [Ak] using hv) rfl
    | agg l =>
      simp only [En] at h
      split at h
      · rename_i l' os' is' hg
        simp only [Option.some.injEq, Prod.mk.injEq] at h
        obtain ⟨rfl, rfl, rfl⟩ := h
        simp only [Ak] at hv
        obtain ⟨vs, rfl, hl⟩ := hv
        exact (Pp ih l nm _ l' os' is' hl hg).mono fun c hc => by simp only [Ak]; exact ⟨vs, rfl, hc⟩
      · cases h
    | tup l =>
      simp only [En] at h
      split at h
      · rename_i l' os' is' hg
        simp only [Option.some.injEq, Prod.mk.injEq] at h
        obtain ⟨rfl, rfl, rfl⟩ := h
        simp only [Ak] at hv
        obtain ⟨vs, rfl, hl⟩ := hv
        exact (Pp ih l nm _ l' os' is' hl hg).mono fun c hc => by simp only [Ak]; exact ⟨vs, rfl, hc⟩
      · cases h
    | ints g k l =>
      cases g with
      | arg =>
        refine plain (fun A hA => ?_) rfl
        simp only [Ak] at hv ⊢
        obtain ⟨a, cap, rfl, hc, hh⟩ := hv
        exact ⟨a, cap, rfl, hc, hh.imp id fun ⟨b, o, e, hb, hr⟩ => ⟨b, o, e, hA.ok _ hb, hr⟩⟩
      | fresh =>
        refine plain (fun A hA => ?_) rfl
        simp only [Ak] at hv ⊢
        obtain ⟨a, cap, rfl, hc, hh⟩ := hv
        exact ⟨a, cap, rfl, hc, hh.imp id fun ⟨b, o, e, hb, hr⟩ => ⟨b, o, e, ⟨hA.ok _ hb.1, rfl, Nat.le_trans hA.hB hb.2.2⟩, hr⟩⟩
      | own i e =>
        simp only [Ak] at hv
        obtain ⟨ho, hob⟩ := hv
        cases ad with
        | true =>
          simp only [En, cond_true, Option.some.injEq, Prod.mk.injEq] at h
          obtain ⟨rfl, rfl, rfl⟩ := h
          refine ⟨[(nm, ⟨.live, .row v 1⟩)], rfl, rfl, ?_, ?_⟩
          · intro j n p hj
            cases j with
            | zero => simp at hj; obtain ⟨rfl, rfl⟩ := hj; exact ⟨rfl, i, rfl, fun b hb => hob b hb⟩
            | succ j => simp at hj
          · intro A hA hps
            refine ⟨by simp only [Ak]; exact ⟨F3 ho, ⟨.live, .row v 1⟩, hps nm _ (by simp), .inr ⟨1, rfl⟩⟩, fun j n p ob hj hob' => ?_⟩
            cases j with
            | zero =>
              simp only [List.getElem?_cons_zero, Option.some.injEq, Prod.mk.injEq] at hj hob'; obtain ⟨rfl, rfl⟩ := hj; obtain ⟨_, rfl⟩ := hob'
              unfold Cn
              exact ⟨rfl, v, rfl, Q8 ho hA.hB⟩
            | succ j => simp at hj
        | false =>
          simp only [En, cond_false, Option.some.injEq, Prod.mk.injEq] at h
          obtain ⟨rfl, rfl, rfl⟩ := h
          refine Fk.none fun A hA => ?_
          simp only [Ak]
          rcases E7 ho with ⟨rfl, h0⟩ | ⟨g, cap, rfl, hc⟩
          · have : l = [] := List.eq_nil_of_length_eq_zero h0
            subst this
            exact ⟨none, 0, rfl, Nat.le_refl _, .inl rfl⟩
          · refine ⟨_, cap, rfl, hc, .inr ⟨g, 0, rfl, ⟨hA.own rfl i g (hob g rfl) (Ns ho rfl), rfl, Nat.le_trans hA.hB (Ns ho rfl)⟩, fun j n hj => ?_⟩⟩
            have := ho.cells (g := g) rfl j (.int k n) (by rw [List.getElem?_map, hj]; rfl)
            rw [Addr.add_lit] at this
            exact this
    | recs g sz l =>
      cases g with
      | arg =>
        refine plain (fun A hA => ?_) rfl
        simp only [Ak] at hv ⊢
        obtain ⟨a, cap, rfl, hc, hh⟩ := hv
        exact ⟨a, cap, rfl, hc, hh.imp id fun ⟨b, o, rows, e, hb, hrr, hlen, hr⟩ => ⟨b, o, rows, e, hA.ok _ hb, Co.Eo (Lk hA) _ _ hrr, hlen, hr⟩⟩
      | fresh =>
        refine plain (fun A hA => ?_) rfl
        simp only [Ak] at hv ⊢
        obtain ⟨a, cap, rfl, hc, hh⟩ := hv
        exact ⟨a, cap, rfl, hc, hh.imp id fun ⟨b, o, rows, e, hb, hrr, hlen, hr⟩ => ⟨b, o, rows, e, ⟨hA.ok _ hb.1, rfl, Nat.le_trans hA.hB hb.2.2⟩, Co.Eo (Lk hA) _ _ hrr, hlen, hr⟩⟩
      | own i e =>
        simp only [Ak] at hv
        obtain ⟨rows, hrr, hlen, ho, hob⟩ := hv
        cases ad with
        | true =>
          by_cases hsz : 0 < sz
          · simp only [En, hsz, decide_true, Bool.and_true, cond_true, Option.some.injEq, Prod.mk.injEq] at h
            obtain ⟨rfl, rfl, rfl⟩ := h
            refine ⟨[(nm, ⟨.live, .row v sz⟩)], rfl, rfl, ?_, ?_⟩
            · intro j n p hj
              cases j with
              | zero => simp at hj; obtain ⟨rfl, rfl⟩ := hj; exact ⟨rfl, i, rfl, fun b hb => hob b hb⟩
              | succ j => simp at hj
            · intro A hA hps
              refine ⟨by simp only [Ak]; exact ⟨F3 ho, ⟨.live, .row v sz⟩, hps nm _ (by simp), .inr ⟨sz, rfl⟩⟩, fun j n p ob hj hob' => ?_⟩
              cases j with
              | zero =>
                simp only [List.getElem?_cons_zero, Option.some.injEq, Prod.mk.injEq] at hj hob'; obtain ⟨rfl, rfl⟩ := hj; obtain ⟨_, rfl⟩ := hob'
                unfold Cn
                exact ⟨rfl, hsz, v, rows, rfl, Co.Eo (Lk hA) _ _ hrr, hlen, Q8 ho hA.hB⟩
              | succ j => simp at hj
          · simp [En, hsz] at h
        | false =>
          simp only [En, Bool.false_and, cond_false, Option.some.injEq, Prod.mk.injEq] at h
          obtain ⟨rfl, rfl, rfl⟩ := h
          refine Fk.none fun A hA => ?_
          simp only [Ak]
          rcases E7 ho with ⟨rfl, h0⟩ | ⟨g, cap, rfl, hc⟩
          · have : l = [] := List.eq_nil_of_length_eq_zero h0
            subst this
            exact ⟨none, 0, rfl, Nat.le_refl _, .inl rfl⟩
          · refine ⟨_, cap, rfl, hc, .inr ⟨g, 0, rows, rfl, ⟨hA.own rfl i g (hob g rfl) (Ns ho rfl), rfl, Nat.le_trans hA.hB (Ns ho rfl)⟩, Co.Eo (Lk hA) _ _ hrr, hlen, fun j u hj => ?_⟩⟩
            have := ho.cells (g := g) rfl j u hj
            rw [Addr.add_lit] at this
            exact this
    | oref n => simp [En] at h
    | sref n off len => simp [En] at h
    | ptr n i j => simp [En] at h
    | cellp cs =>
      refine plain (fun A hA => ?_) rfl
      simp only [Ak] at hv ⊢
      obtain ⟨b, o, vs, rfl, hb, hls, hrd⟩ := hv
      exact ⟨b, o, vs, rfl, hA.ok _ hb, A4.Eo (Lk hA) _ _ hls, hrd⟩
    | fn g a c => simp [En] at h
    | gd g d => simp [En] at h
end
end Go.Den
namespace Go.Den
open Go.RowKit (Below)
def Dz (P : Program) (s : Sem Next) (w : World) (K : Value → World → Prop) : Prop :=
  match s.run P w with
  | .ok (.value v) w' => K v w'
  | .ok (.enter f args) w' => Calls P f args w' fun e w'' => ∃ v, e = .returned v ∧ K v w''
  | _ => False
theorem Dz.value {P : Program} {s : Sem Next} {w w' : World} {v : Value} {K : Value → World → Prop} (h : s.run P w = .ok (.value v) w') (hk : K v w') : Dz P s w K := by
  unfold Dz; rw [h]; exact hk
theorem Dz.lift {P : Program} {s : Sem Value} {w w' : World} {v : Value} {K : Value → World → Prop} (h : s.run P w = .ok v w') (hk : K v w') : Dz P (do pure (.value (← s))) w K :=
  Dz.value (by simp [h]) hk
def Xf (frz : List Nat) (n : Nat) (p : Place) : Place := { p with st := if p.st = .live ∧ n ∈ frz then .frozen else p.st }
structure Ij (I0 : Nat → Prop) (B : Nat) (A : Nat → Option Place) (w : World) (objs : List (Nat × OB)) (frz : List Nat) (A' : Nat → Option Place) (w' : World) : Prop where
  below : Below w.heap.size w w'
  old : ∀ n p, A n = some p → A' n = some (Xf frz n p)
  new : ∀ n p, A n = none → A' n = some p → p.st = .live ∧ (∀ b, p.Fl = some b → w.heap.size ≤ b ∧ b < w'.heap.size) ∧ ∃ ob, (n, ob) ∈ objs ∧ Cn (Bl I0 B A' w') w' p (false, ob)
  inj : ∀ n m p q b, A n = none → A m = none → A' n = some p → A' m = some q → p.Fl = some b → q.Fl = some b → n = m
theorem fzP_nil (n : Nat) (p : Place) : Xf [] n p = p := by cases p; simp [Xf]
theorem J4 {frz : List Nat} {n : Nat} {p : Place} : (Xf frz n p).st = .dead ↔ p.st = .dead := by
  unfold Xf; dsimp only; split
  · rename_i h; simp [h.1]
  · rfl
theorem Ni {frz : List Nat} {n : Nat} {p : Place} (h : (Xf frz n p).st = .live) : p.st = .live ∧ n ∉ frz := by
  unfold Xf at h; dsimp only at h; split at h
  · cases h
  · rename_i hn; exact ⟨h, fun hm => hn ⟨h, hm⟩⟩
section
variable {I0 : Nat → Prop} {B : Nat} {A A' : Nat → Option Place} {h : C4} {w w' : World} {objs : List (Nat × OB)} {frz : List Nat}
theorem Ij.refl (hd : Yu w w') : Ij I0 B A w [] [] A w' where
  below := by rcases hd with rfl | rfl; exact Below.refl _ _; exact (Below.refl _ _).drew
  old := fun n p hp => by rw [fzP_nil]; exact hp
  new := fun n p h1 h2 => by rw [h1] at h2; cases h2
  inj := fun n m p q b h1 _ h2 => by rw [h1] at h2; cases h2
theorem Ij.moved (hg : Ij I0 B A w objs frz A' w') : Hn A w A' w' where
  size := hg.below.size
  names := fun n p hp => by
    refine ⟨_, hg.old n p hp, ?_⟩
    by_cases hd : p.st = .dead
    · exact .inl (J4.2 hd)
    · exact .inr ⟨hd, rfl⟩
  live := fun n p b hp hl hb hlt => by
    cases hA : A n with
    | none => have := ((hg.new n p hA hp).2.1 b hb).1; omega
    | some q =>
      have := hg.old n q hA
      rw [this] at hp; cases hp
      exact ⟨n, q, hA, (Ni hl).1, hb⟩
  kept := fun b hb _ => hg.below.block b hb
theorem Cn.fz {c : Ctx} {w : World} {p : Place} {n : Nat} {frz : List Nat} : ∀ {fo : Bool × OB}, Cn c w p fo → Cn c w (Xf frz n p) (fo.1 || decide (n ∈ frz), fo.2)
  | (fz, .dead), hr => by unfold Cn at *; exact J4.2 hr
  | (fz, .box cs), hr => by
    unfold Cn at *
    refine ⟨?_, hr.2⟩
    have := hr.1
    unfold Xf; dsimp only
    cases fz <;> simp at this <;> by_cases hn : n ∈ frz <;> simp [this, hn]
  | (fz, .ints e k l), hr => by
    unfold Cn at *
    refine ⟨?_, hr.2⟩
    have := hr.1
    unfold Xf; dsimp only
    cases fz <;> simp at this <;> by_cases hn : n ∈ frz <;> simp [this, hn]
  | (fz, .recs e sz l), hr => by
    unfold Cn at *
    refine ⟨?_, hr.2⟩
    have := hr.1
    unfold Xf; dsimp only
    cases fz <;> simp at this <;> by_cases hn : n ∈ frz <;> simp [this, hn]
theorem Ij.mem (hm : Mem I0 B A h w) (hg : Ij I0 B A w objs frz A' w') {h' : C4}
    (ho : ∀ n p fo', A n = some p → look h' n = some fo' → ∃ fo, look h n = some fo ∧ fo' = (fo.1 || decide (n ∈ frz), fo.2))
    (hn : ∀ n ob fo', (n, ob) ∈ objs → A n = none → look h' n = some fo' → fo' = (false, ob)) : Mem I0 B A' h' w' where
  hB := Nat.le_trans hm.hB hg.below.size
  I0lt := hm.I0lt
  obj := fun n p fo' hp hl => by
    cases hA : A n with
    | none =>
      obtain ⟨_, _, ob, hob, hr⟩ := hg.new n p hA hp
      rw [hn n ob fo' hob hA hl]; exact hr
    | some q =>
      have := hg.old n q hA
      rw [this] at hp; cases hp
      obtain ⟨fo, hfo, rfl⟩ := ho n q fo' hA hl
      have h1 := hm.obj n q fo hA hfo
      refine Cn.fz ?_
      by_cases hd : q.st = .dead
      · obtain ⟨fz, ob⟩ := fo
        cases ob with
        | dead => exact hd
        | box cs => exact absurd hd (Bo (Nt hm hA hfo).1)
        | ints e k l => exact absurd hd (Bo (Dy hm hA hfo).1)
        | recs e sz l => exact absurd hd (Bo (D8 hm hA hfo).1)
      · exact Cn.Cw hg.moved.Cw rfl rfl (fun b hb => hg.below.block b (hm.blkB n q b hA hd hb).2) fo h1
  blkB := fun n p b hp hd hb => by
    cases hA : A n with
    | none => have := (hg.new n p hA hp).2.1 b hb; have := hm.hB; omega
    | some q =>
      have := hg.old n q hA
      rw [this] at hp; cases hp
      have h1 := hm.blkB n q b hA (fun e => hd (J4.2 e)) hb
      have := hg.below.size
      omega
  inj := fun n m p q b hp hq hdp hdq hbp hbq => by
    cases hA : A n with
    | none =>
      have h1 := (hg.new n p hA hp).2.1 b hbp
      cases hA2 : A m with
      | none => exact hg.inj n m p q b hA hA2 hp hq hbp hbq
      | some q' =>
        have := hg.old m q' hA2
        rw [this] at hq; cases hq
        have h2 := hm.blkB m q' b hA2 (fun e => hdq (J4.2 e)) hbq
        omega
    | some p' =>
      have := hg.old n p' hA
      rw [this] at hp; cases hp
      have h1 := hm.blkB n p' b hA (fun e => hdp (J4.2 e)) hbp
      cases hA2 : A m with
      | none => have h2 := (hg.new m q hA2 hq).2.1 b hbq; omega
      | some q' =>
        have := hg.old m q' hA2
        rw [this] at hq; cases hq
        exact hm.inj n m p' q' b hA hA2 (fun e => hdp (J4.2 e)) (fun e => hdq (J4.2 e)) hbp hbq
def S7 (A : Nat → Option Place) (frz : List Nat) (n : Nat) (p : Place) : Nat → Option Place := fun m => if m = n then some p else (A m).map (Xf frz m)
theorem W5 {A : Nat → Option Place} {frz : List Nat} {n m : Nat} {p q : Place} (hn : A n = none) (hm : A m = some q) : S7 A frz n p m = some (Xf frz m q) := by
  unfold S7; rw [if_neg (fun e => by rw [e, hn] at hm; cases hm), hm]; rfl
theorem Pr {A : Nat → Option Place} {frz : List Nat} {n m : Nat} {p q : Place} (h : S7 A frz n p m = some q) : (m = n ∧ q = p) ∨ ∃ r, A m = some r ∧ q = Xf frz m r := by
  unfold S7 at h
  split at h
  · cases h; exact .inl ⟨‹_›, rfl⟩
  · cases hA : A m with
    | none => simp [hA] at h
    | some r => simp only [hA, Option.map_some, Option.some.injEq] at h; exact .inr ⟨r, rfl, h.symm⟩
theorem Ij.alloc {nm : Nat} (hnm : A nm = none) {cells : Array Value} {e : TypeId} {p : Place} {ob : OB} (hst : p.st = .live) (hblk : ∀ b, p.Fl = some b → b = w.heap.size)
    (hrel : Hn A w (S7 A frz nm p) (w.alloc (.cells cells e)) → Cn (Bl I0 B (S7 A frz nm p) (w.alloc (.cells cells e))) (w.alloc (.cells cells e)) p (false, ob)) :
    Ij I0 B A w [(nm, ob)] frz (S7 A frz nm p) (w.alloc (.cells cells e)) := by
  have hmv : Hn A w (S7 A frz nm p) (w.alloc (.cells cells e)) := by
    refine ⟨by simp, fun n q hq => ?_, fun n q b hq hl hb hlt => ?_, fun b hb _ => Below.heap_alloc _ _ _ hb⟩
    · refine ⟨_, W5 hnm hq, ?_⟩
      by_cases hd : q.st = .dead
      · exact .inl (J4.2 hd)
      · exact .inr ⟨hd, rfl⟩
    · rcases Pr hq with ⟨rfl, rfl⟩ | ⟨r, hr, rfl⟩
      · have := hblk b hb; omega
      · exact ⟨n, r, hr, (Ni hl).1, hb⟩
  refine ⟨(Below.refl _ _).alloc (Nat.le_refl _) _, fun n q hq => W5 hnm hq, fun n q h1 h2 => ?_, fun n m q r b h1 h2 h3 h4 _ _ => ?_⟩
  · rcases Pr h2 with ⟨rfl, rfl⟩ | ⟨r, hr, rfl⟩
    · exact ⟨hst, fun b hb => by rw [hblk b hb]; simp, ob, by simp, hrel hmv⟩
    · rw [h1] at hr; cases hr
  · rcases Pr h3 with ⟨rfl, rfl⟩ | ⟨r, hr, rfl⟩
    · rcases Pr h4 with ⟨rfl, rfl⟩ | ⟨r, hr, rfl⟩
      · rfl
      · rw [h2] at hr; cases hr
    · rw [h1] at hr; cases hr
end
end Go.Den
namespace Go.Den
open Go.RowKit (Below)
theorem flat_one {c : Ctx} {w : World} {d : DV} {v : Value} (hf : Q0 d = true) (h : Ak c w d v) : v.oneCell' = true := by
  cases d <;> simp only [Q0, Bool.false_eq_true] at hf <;> try simp only [Ak] at h
  case nil => subst h; rfl
  case bool => subst h; rfl
  case int => subst h; rfl
  case fl => obtain ⟨m, rfl, _⟩ := h; rfl
  case nb => obtain ⟨m, rfl, _⟩ := h; rfl
  case ints g k l =>
    cases g with
    | own i e => simp only [Ak] at h; exact F3 h.1
    | arg => simp only [Ak] at h; obtain ⟨a, cap, rfl, _⟩ := h; rfl
    | fresh => simp only [Ak] at h; obtain ⟨a, cap, rfl, _⟩ := h; rfl
  case recs g sz l =>
    cases g with
    | own i e => simp only [Ak] at h; obtain ⟨rows, _, _, ho, _⟩ := h; exact F3 ho
    | arg => simp only [Ak] at h; obtain ⟨a, cap, rfl, _⟩ := h; rfl
    | fresh => simp only [Ak] at h; obtain ⟨a, cap, rfl, _⟩ := h; rfl
  case oref => exact h.1
  case sref => exact h.1
  case ptr => exact h.1
  case cellp => obtain ⟨b, o, vs, rfl, _⟩ := h; rfl
  case fn => obtain ⟨fs, cs, rfl, _⟩ := h; rfl
theorem cells_one {v : Value} (h : v.oneCell' = true) : v.cells = #[v] := by
  cases v <;> simp [Value.oneCell'] at h <;> rfl
theorem wholeB_flat {d : DV} (hd : ∀ l, d ≠ .agg l) (h : Me d = true) : Q0 d = true := by
  cases d <;> first | exact h | exact absurd rfl (hd _)
theorem cells_flat {d : DV} (hd : ∀ l, d ≠ .agg l) : cells d = [d] := by
  cases d <;> first | rfl | exact absurd rfl (hd _)
theorem Tz {c : Ctx} {w : World} {d : DV} {v : Value} (hf : Me d = true) (h : Ak c w d v) : A4 c w (cells d) v.cells.toList := by
  by_cases hd : ∃ l, d = .agg l
  · obtain ⟨l, rfl⟩ := hd
    simp only [Ak] at h
    obtain ⟨vs, rfl, hl⟩ := h
    exact hl
  · have hd' : ∀ l, d ≠ .agg l := fun l e => hd ⟨l, e⟩
    rw [cells_one (flat_one (wholeB_flat hd' hf) h), cells_flat hd']
    simp only [A4]
    exact ⟨v, [], rfl, h, rfl⟩
theorem Aah {c : Ctx} {w : World} : ∀ {ds : List DV} {vs : List Value}, ds.all Q0 = true → A4 c w ds vs → ∀ v ∈ vs, v.oneCell' = true
  | [], vs, _, h, v, hv => by rw [A4.Ff] at h; subst h; cases hv
  | d :: ds, vs, hf, h, v, hv => by
    rw [A4.Ca] at h
    obtain ⟨u, us, rfl, h1, h2⟩ := h
    simp only [List.all_cons, Bool.and_eq_true] at hf
    cases hv with
    | head => exact flat_one hf.1 h1
    | tail _ hm => exact Aah hf.2 h2 v hm
theorem Qz {c : Ctx} {w : World} (off : Nat) : ∀ (ds : List DV) (vs : List Value) (k : Nat) (cs : List DV) (cells : Array Value), A4 c w ds vs → A4 c w cs cells.toList →
    A4 c w ((ds.zipIdx k).foldl (fun cs (c, j) => cs.set (off + j) c) cs) ((vs.zipIdx k).foldl (fun cs (c, j) => cs.setIfInBounds (off + j) c) cells).toList
  | [], vs, k, cs, cells, h, hc => by rw [A4.Ff] at h; subst h; simpa using hc
  | d :: ds, vs, k, cs, cells, h, hc => by
    rw [A4.Ca] at h
    obtain ⟨u, us, rfl, h1, h2⟩ := h
    simp only [List.zipIdx_cons, List.foldl_cons]
    exact Qz off ds us (k + 1) _ _ h2 (by rw [Array.toList_setIfInBounds]; exact hc.set _ h1)
inductive I4 (c : Ctx) (w : World) : List (Nat × DV) → List (Nat × Value) → Prop
  | nil : I4 c w [] []
  | cons {i : Nat} {d : DV} {v : Value} {ds : List (Nat × DV)} {vs : List (Nat × Value)} : Ak c w d v → I4 c w ds vs → I4 c w ((i, d) :: ds) ((i, v) :: vs)
theorem Z2 {c : Ctx} {w : World} {pl : Nat → Option (Nat × Nat)} {pl' : Nat → Option (Nat × Nat)} (hpl : ∀ i x, pl i = some x → pl' i = some x) :
    ∀ {ps : List (Nat × DV)} {vs : List (Nat × Value)}, I4 c w ps vs → ∀ (cs cs' : List DV) (cells : Array Value), A4 c w cs cells.toList → Sz pl cs ps = some cs' →
      ∃ cells', Instr.fill pl' cells vs = some cells' ∧ A4 c w cs' cells'.toList := by
  intro ps vs h
  induction h with
  | nil => intro cs cs' cells hc hf; simp only [Sz, Option.some.injEq] at hf; subst hf; exact ⟨cells, rfl, hc⟩
  | @cons i d v ds vs hd _ ih =>
    intro cs cs' cells hc hf
    simp only [Sz] at hf
    cases hp : pl i with
    | none => simp [hp] at hf
    | some x =>
      obtain ⟨off, size⟩ := x
      simp only [hp] at hf
      by_cases hq : (Me d && (Go.Den.cells d).length == size && decide (off + (Go.Den.cells d).length ≤ cs.length)) = true
      · rw [hq, cond_true] at hf
        simp only [Bool.and_eq_true, beq_iff_eq, decide_eq_true_eq] at hq
        obtain ⟨⟨hw, hs⟩, hb⟩ := hq
        have hr := Tz hw hd
        have hlen := hr.length
        have hcl := hc.length
        have hset := Qz off _ _ 0 cs cells hr hc
        obtain ⟨cells', h1, h2⟩ := ih _ _ _ hset hf
        refine ⟨cells', ?_, h2⟩
        simp only [Instr.fill, hpl i _ hp]
        have e1 : ¬ (v.cells.size ≠ size || decide (off + v.cells.size > cells.size)) = true := by
          simp only [Array.length_toList] at hlen hcl
          simp; omega
        rw [if_neg (by simpa using e1)]
        rw [← h1]
        congr 1
        rw [← Array.foldl_toList, Array.toList_zipIdx]
      · simp only [Bool.not_eq_true] at hq
        rw [hq] at hf; simp at hf
section
variable {P : Program} {E : Env} {I0 : Nat → Prop} {B : Nat} {A : Nat → Option Place} {h : C4} {w : World} {t : TypeId}
theorem run_places (hty : ∀ t ti, E.ty t = some ti → Bv P t ti) : ∀ (gs : List Field) (l : List (Nat × Nat)), Sb E (gs.map fun f => (f.offset, f.type)) = some l →
    (gs.mapM (fun f => (do pure (f.offset, ← sizeOf f.type) : Sem (Nat × Nat)))).run P w = .ok l w
  | [], l, h => by simp only [List.map_nil, Sb, Option.some.injEq] at h; subst h; rfl
  | f :: gs, l, h => by
    simp only [List.map_cons, Sb] at h
    split at h
    · rename_i ti hT
      split at h
      · rename_i l' hl
        simp only [Option.some.injEq] at h; subst h
        have ih := run_places hty gs l' hl
        simp only [List.mapM_cons, Sem.run_bind, (hty _ _ hT).G9 w, Result.andThen_ok, Sem.run_pure, ih]
      · cases h
    · cases h
theorem build_ok (hty : ∀ t ti, E.ty t = some ti → Bv P t ti) {c : Ctx} {ti : TI} (hT : E.ty t = some ti) {pl : Nat → Option (Nat × Nat)} (hp : Ux E t = some pl)
    {ps : List (Nat × DV)} {vs : Array (Nat × Value)} (hr : I4 c w ps vs.toList) {cs : List DV} (hf : Sz pl ti.zero ps = some cs) :
    ∃ v, (Instr.build t vs).run P w = .ok v w ∧ Ak c w (.agg cs) v := by
  obtain ⟨z, hz, hzr, _, _⟩ := (hty _ _ hT).Vm w
  unfold Ux at hp
  split at hp
  · rename_i fs _ hT'
    have hd := (hty _ _ hT').desc
    simp only [B0] at hd
    obtain ⟨gs, hu, hg⟩ := hd
    split at hp
    · rename_i l hl
      simp only [Option.some.injEq] at hp; subst hp
      rw [← hg] at hl
      have hm := run_places (P := P) (w := w) hty gs.toList l hl
      obtain ⟨cells', h1, h2⟩ := Z2 (pl' := fun i => l.toArray[i]?) (fun i x hx => by simpa using hx) hr _ _ _ (hzr c w) hf
      refine ⟨.agg cells', ?_, by simp only [Ak]; exact ⟨_, rfl, h2⟩⟩
      have hm' : (gs.mapM (fun f => (do pure (f.offset, ← sizeOf f.type) : Sem (Nat × Nat)))).run P w = .ok l.toArray w := by
        rw [Array.mapM_eq_mapM_toList]
        simp only [Sem.run_map, hm, Result.andThen_ok]
      simp only [Instr.build, Sem.run_bind, hz, Result.andThen_ok, run_underlying hu, hm', h1, Sem.run_pure]
    · cases hp
  · rename_i n e _ hT'
    have hu := (hty _ _ hT').desc
    simp only [B0] at hu
    split at hp
    · rename_i ei hE
      simp only [Option.some.injEq] at hp; subst hp
      have hes := (hty _ _ hE).G9 w
      obtain ⟨cells', h1, h2⟩ := Z2 (pl' := fun i => some (i * ei.size, ei.size)) (fun i x hx => hx) hr _ _ _ (hzr c w) hf
      refine ⟨.agg cells', ?_, by simp only [Ak]; exact ⟨_, rfl, h2⟩⟩
      simp only [Instr.build, Sem.run_bind, hz, Result.andThen_ok, run_underlying hu, hes, h1, Sem.run_pure]
    · cases hp
  · cases hp
end
end Go.Den
namespace Go.Den
open Go.RowKit (Below)
theorem Wj {c : Ctx} {w : World} {k : IntKind} : ∀ {cs : List DV} {l : List Int} {vs : List Value}, Qd k cs = some l → A4 c w cs vs → vs = l.map (Value.int k)
  | [], l, vs, h, hr => by simp only [Qd, Option.some.injEq] at h; subst h; rw [A4.Ff] at hr; simpa using hr
  | d :: cs, l, vs, h, hr => by
    rw [A4.Ca] at hr
    obtain ⟨u, us, rfl, h1, h2⟩ := hr
    cases d <;> simp only [Qd, reduceCtorEq] at h
    rename_i k' n
    split at h
    · rename_i hk
      split at h
      · rename_i l' hl
        simp only [Option.some.injEq] at h; subst h
        simp only [Ak] at h1
        subst h1
        have : k = k' := by simpa using hk
        subst this
        rw [Wj hl h2]; rfl
      · cases h
    · cases h
theorem Ym {c : Ctx} {w : World} {sz : Nat} : ∀ (n : Nat) (ds : List DV) (vs : List Value), A4 c w ds vs → vs.length = n * sz → (∀ v ∈ vs, v.oneCell' = true) →
    ∃ rows : List (List Value), rows.flatten = vs ∧ Co c w (chunk sz n ds) rows ∧ (∀ r ∈ rows, r.length = sz ∧ ∀ u ∈ r, u.oneCell' = true)
  | 0, ds, vs, h, hl, _ => by
    have : vs = [] := List.eq_nil_of_length_eq_zero (by omega)
    subst this
    exact ⟨[], rfl, by simp [chunk, Co], by simp⟩
  | n + 1, ds, vs, h, hl, h1 => by
    rw [Nat.succ_mul] at hl
    obtain ⟨rows, e1, e2, e3⟩ := Ym (sz := sz) n (ds.drop sz) (vs.drop sz) (h.drop sz) (by rw [List.length_drop]; omega) (fun v hv => h1 v (List.mem_of_mem_drop hv))
    refine ⟨vs.take sz :: rows, by rw [List.flatten_cons, e1, List.take_append_drop], ?_, ?_⟩
    · simp only [chunk, Co]
      exact ⟨_, _, rfl, h.take sz, e2⟩
    · intro r hr
      cases hr with
      | head => exact ⟨by rw [List.length_take]; omega, fun u hu => h1 u (List.mem_of_mem_take hu)⟩
      | tail _ hm => exact e3 r hm
theorem S3 (sz : Nat) : ∀ (n : Nat) (ds : List DV), (chunk sz n ds).length = n
  | 0, _ => rfl
  | n + 1, ds => by simp [chunk, S3 sz n]
section
variable {P : Program} {E : Env} {I0 : Nat → Prop} {B : Nat} {A : Nat → Option Place} {h : C4} {w : World} {t : TypeId}
theorem Sd (hB : B ≤ w.heap.size) (cells : Array Value) (e : TypeId) (n sz : Nat) (hl : cells.size = n * sz) (hm : n ≤ maxLen) :
    (w.alloc (.cells cells e)).ownsRow B e sz (.slice (some ⟨w.heap.size, 0, none⟩) n n) n cells.toList :=
  ⟨by rw [Array.length_toList]; exact hl, .inr ⟨w.heap.size, n, cells, rfl, hB, heap_alloc_new w _, Nat.le_refl _, hm, hl, by rw [← hl, ← Array.length_toList, List.take_length]⟩⟩
theorem Uj {α : Type} [Inhabited α] (z : Array α) (len : Nat) (hz : 0 < z.size) : ((Array.range (len * z.size)).map (z[· % z.size]!)).toList = (List.replicate len z.toList).flatten := by
  apply List.ext_getElem?
  intro i
  by_cases hi : i < len * z.size
  · have h1 : ((Array.range (len * z.size)).map (z[· % z.size]!)).toList[i]? = some (z[i % z.size]!) := by
      simp [hi]
    rw [h1]
    have h2 := L9 (sz := z.size) (rows := List.replicate len z.toList) (fun r hr => by rw [(List.mem_replicate.1 hr).2]; simp) (i / z.size) z.toList (by rw [List.getElem?_replicate, if_pos (Nat.div_lt_of_lt_mul (by rw [Nat.mul_comm]; exact hi))]) (i % z.size) (z[i % z.size]!) (by
      have := Nat.mod_lt i hz
      simp [this])
    rw [Nat.div_add_mod'] at h2
    exact h2.symm
  · rw [List.getElem?_eq_none (by simpa using hi), List.getElem?_eq_none]
    simp
    simpa using hi
theorem Ue {c : Ctx} {w : World} {ds : List DV} {vs : List Value} (h : A4 c w ds vs) : ∀ n, A4 c w (List.replicate n ds).flatten (List.replicate n vs).flatten
  | 0 => by simp [A4]
  | n + 1 => by simp only [List.replicate_succ, List.flatten_cons]; exact h.append (Ue h n)
theorem Pb (off : Nat) : ∀ (l : List (Value × Nat)) (cells : Array Value), (l.foldl (fun cs (c, j) => cs.setIfInBounds (off + j) c) cells).size = cells.size
  | [], _ => rfl
  | x :: l, cells => by simp only [List.foldl_cons]; rw [Pb off l]; simp
theorem Ye {pl : Nat → Option (Nat × Nat)} : ∀ {vs : List (Nat × Value)} {cells cells' : Array Value}, Instr.fill pl cells vs = some cells' → cells'.size = cells.size
  | [], cells, cells', h => by simp only [Instr.fill, Option.some.injEq] at h; rw [h]
  | (i, v) :: vs, cells, cells', h => by
    simp only [Instr.fill] at h
    split at h
    · cases h
    · split at h
      · cases h
      · rw [Ye h, ← Array.foldl_toList]
        exact Pb _ _ _
theorem seen_ok (hm : Mem I0 B A h w) {A' : Nat → Option Place} {w' : World} (hmv : Hn A w A' w') {ns : List Nat} (hf : ∀ n ∈ ns, ∀ p, A n = some p → ∃ q, A' n = some q ∧ q.st ≠ .live)
    (hinj : ∀ n m p q b, A' n = some p → p.st = .live → p.Fl = some b → b < w.heap.size → A m = some q → q.st ≠ .dead → q.Fl = some b → n = m) {b : Nat} (hb : seen I0 B A w ns b) : (Bl I0 B A' w').ok b := by
  rcases hb with hb | ⟨n, p, hn, hp, hnd, hpb⟩
  · exact hmv.Cw.ok b hb
  · obtain ⟨h1, h2⟩ := hm.blkB n p b hp hnd hpb
    refine ⟨Nat.lt_of_lt_of_le h2 hmv.size, .inr h1, fun m q hq hl hqb => ?_⟩
    have := hinj m n q p b hq hl hqb h2 hp hnd hpb
    subst this
    obtain ⟨q', hq', hnl⟩ := hf m hn p hp
    rw [hq] at hq'; cases hq'
    exact hnl hl
theorem I5.of_seen {A' : Nat → Option Place} {w' : World} {ns : List Nat} (hm : Mem I0 B A h w) (hB : Below w.heap.size w w') (hok : ∀ b, seen I0 B A w ns b → (Bl I0 B A' w').ok b) : I5 (I1 (seen I0 B A w ns)) w (Bl I0 B A' w').bare w' where
  ok := hok
  B := rfl
  fr := rfl
  own := fun _ _ h => by cases h
  at_ := fun _ _ h => by cases h
  cell := fun b o hb => World.cell?_of_block (hB.block b (by
    rcases hb with hb | ⟨n, p, hn, hp, hnd, hpb⟩
    · exact hb.1
    · exact (hm.blkB n p b hp hnd hpb).2))
  ownc := fun _ _ h => by cases h
theorem Wz (hty : ∀ t ti, E.ty t = some ti → Bv P t ti) (hm : Mem I0 B A h w) {nm len : Nat} {ps : List (Nat × DV)} {vs : Array (Nat × Value)}
    (hr : I4 (Bl I0 B A w) w ps vs.toList) {r : R2} (hl : Pk E h nm t len ps = some r) (hnew : ∀ n ob, (n, ob) ∈ r.objs → A n = none) :
    ∃ v w' A', (Instr.buildSlice t len vs).run P w = .ok v w' ∧ Ij I0 B A w r.objs r.frz A' w' ∧ Ak (Bl I0 B A' w') w' r.v v := by
  unfold Pk at hl
  split at hl
  · rename_i e _ hT
    have hu := (hty _ _ hT).desc
    simp only [B0] at hu
    cases hE : E.ty e with
    | none => simp [hE] at hl
    | some ei =>
    simp only [hE, Option.bind_some] at hl
    by_cases hq : (decide (len * ei.size ≤ 4096) && decide (0 < ei.size)) = true
    · rw [hq, cond_true] at hl
      simp only [Bool.and_eq_true, decide_eq_true_eq] at hq
      obtain ⟨hq1, hq2⟩ := hq
      obtain ⟨z, hz, hzr, hzs, hz1⟩ := (hty _ _ hE).Vm w
      have hes := (hty _ _ hE).G9 w
      cases hfd : Sz (fun i => some (i * ei.size, ei.size)) (List.replicate len ei.zero).flatten ps with
      | none => simp [hfd] at hl
      | some cs =>
      simp only [hfd, Option.bind_some] at hl
      have hzz : A4 (Bl I0 B A w) w (List.replicate len ei.zero).flatten ((Array.range (len * ei.size)).map (z.cells[· % z.cells.size]!)).toList := by
        rw [← hzs, Uj _ _ (by omega)]
        exact Ue (hzr _ _) len
      obtain ⟨cells', h1, h2⟩ := Z2 (pl' := fun i => some (i * ei.size, ei.size)) (fun i x hx => hx) hr _ _ _ hzz hfd
      have hsz : cells'.size = len * ei.size := by
        rw [Ye h1]; simp
      have hrun : (Instr.buildSlice t len vs).run P w = .ok (.slice (some ⟨w.heap.size, 0, none⟩) len len) (w.alloc (.cells cells' e)) := by
        have hnb : ¬ len * ei.size > 2 ^ 24 := by omega
        simp only [Instr.buildSlice, Sem.run_bind, run_underlying hu, Result.andThen_ok, hes, if_neg hnb]
        by_cases h0 : len * ei.size = 0
        · have h1' : Instr.fill (fun i => some (i * ei.size, ei.size)) #[] vs.toList = some cells' := by rw [← h1, h0, show Array.range 0 = #[] from rfl, Array.map_empty]
          have e0 : (Array.map (fun x => (#[] : Array Value)[x % (#[] : Array Value).size]!) (Array.range 0)) = #[] := by rw [show Array.range 0 = #[] from rfl, Array.map_empty]
          simp only [h0, if_true, Sem.run_bind, Sem.run_pure, Result.andThen_ok, e0, h1']
          simp [newRow]
        · simp only [if_neg h0, Sem.run_bind, hz, Result.andThen_ok, Sem.run_pure, h1]
          simp [newRow]
      have hlm : len ≤ maxLen := by
        unfold maxLen
        have := Nat.mul_le_mul_left len (show 1 ≤ ei.size by omega)
        omega
      have hone : (Value.slice (some ⟨w.heap.size, 0, none⟩) len len).ownBlock = some w.heap.size := rfl
      split at hl
      · rename_i k hk
        by_cases hs1 : ei.size = 1
        · simp only [hs1, beq_self_eq_true, cond_true] at hl
          cases hI : Qd k cs with
          | none => simp [hI] at hl
          | some l =>
            simp only [hI, Option.bind_some, Option.some.injEq] at hl; subst hl
            have hnm : A nm = none := hnew nm _ (List.mem_singleton.2 rfl)
            have hv := Wj hI h2
            have hll : l.length = len := by
              have := congrArg List.length hv
              rw [Array.length_toList, hsz, hs1] at this
              simpa using this.symm
            refine ⟨_, _, S7 A [] nm ⟨.live, .row (.slice (some ⟨w.heap.size, 0, none⟩) len len) 1⟩, hrun, Ij.alloc hnm rfl (fun b hb => by cases hb; rfl) (fun _ => ?_), ?_⟩
            · unfold Cn
              refine ⟨rfl, _, rfl, ?_⟩
              rw [← hv, hll]
              exact Sd hm.hB cells' e len 1 (by rw [hsz, hs1]) hlm
            · simp only [Ak]
              exact ⟨rfl, _, if_pos rfl, .inr ⟨1, rfl⟩⟩
        · rw [show (ei.size == 1) = false by simpa using hs1] at hl; simp at hl
      · by_cases hfl : cs.all Q0 = true
        · rw [hfl, cond_true] at hl
          cases hlo : J2 h cs with
          | none => simp [hlo] at hl
          | some a =>
          obtain ⟨cs', ns⟩ := a
          simp only [hlo, Option.bind_some, Option.some.injEq] at hl; subst hl
          have hnm : A nm = none := hnew nm _ (List.mem_singleton.2 rfl)
          have hlow := Nc (V6 hm 8) cs _ cs' ns hlo h2
          obtain ⟨rows, e1, e2, e3⟩ := Ym (sz := ei.size) len cs' cells'.toList hlow (by rw [Array.length_toList, hsz]) (Aah hfl h2)
          refine ⟨_, _, S7 A ns nm ⟨.live, .row (.slice (some ⟨w.heap.size, 0, none⟩) len len) ei.size⟩, hrun, Ij.alloc hnm rfl (fun b hb => by cases hb; rfl) (fun hmv => ?_), ?_⟩
          · unfold Cn
            refine ⟨rfl, hq2, _, rows, rfl, ?_, e3, ?_⟩
            · have hlat := I5.of_seen (ns := ns) hm ((Below.refl w.heap.size w).alloc (Nat.le_refl _) (.cells cells' e)) (fun b hb => seen_ok hm hmv (fun n hn p hp => ⟨_, W5 hnm hp, fun hl => (Ni hl).2 hn⟩) (fun n m p q b h1 h2 h3 h4 h5 h6 h7 => by
                  rcases Pr h1 with ⟨rfl, rfl⟩ | ⟨r, hr, rfl⟩
                  · have : w.heap.size = b := Option.some.inj h3
                    omega
                  · exact hm.inj n m r q b hr h5 (by rw [(Ni h2).1]; simp) h6 h3 h7) hb)
              exact Co.Cw hlat _ _ e2
            · rw [S3, e1]
              exact Sd hm.hB cells' e len ei.size hsz hlm
          · simp only [Ak]
            exact ⟨rfl, _, if_pos rfl, .inr ⟨_, rfl⟩⟩
        · simp only [Bool.not_eq_true] at hfl; rw [hfl] at hl; simp at hl
    · simp only [Bool.not_eq_true] at hq; rw [hq] at hl; simp at hl
  · cases hl
theorem Wb {n b : Nat} (h : n ≤ Lj b) : n ≤ maxLen := by have := Wc h; unfold maxLen; omega
theorem Xc (hty : ∀ t ti, E.ty t = some ti → Bv P t ti) (hm : Mem I0 B A h w) {nm : Nat} {a c : DV} {va vc : Value} (ha : Ak (Bl I0 B A w) w a va) (hc : Ak (Bl I0 B A w) w c vc)
    {r : R2} (hl : Re E nm t a c = some r) (hr : r.req = true) (hnew : ∀ n ob, (n, ob) ∈ r.objs → A n = none) :
    ∃ v w' A', (Instr.makeSlice t va vc).run P w = .ok v w' ∧ Ij I0 B A w r.objs r.frz A' w' ∧ Ak (Bl I0 B A' w') w' r.v v := by
  unfold Re at hl
  split at hl
  · rename_i e _ k1 x k2 y hT
    have hu := (hty _ _ hT).desc
    simp only [B0] at hu
    simp only [Ak] at ha hc
    subst ha; subst hc
    cases hE : E.ty e with
    | none => simp [hE] at hl
    | some ei =>
    simp only [hE, Option.bind_some] at hl
    by_cases hq : (decide (ei.bytes ≤ 128) && decide (0 < ei.size)) = true
    · rw [hq, cond_true] at hl
      simp only [Bool.and_eq_true, decide_eq_true_eq] at hq
      obtain ⟨hq1, hq2⟩ := hq
      obtain ⟨i, z, hi, hs, hb, hz, hzr, hzs, hz1⟩ := (hty _ _ hE).info
      have key : (0 ≤ x ∧ x ≤ y ∧ y ≤ Lj ei.bytes) → (Instr.makeSlice t (.int k1 x) (.int k2 y)).run P w = .ok (.slice (some ⟨w.heap.size, 0, none⟩) x.toNat y.toNat) (w.alloc (.cells (madeCells z.cells (y.toNat * ei.size)) e)) ∧
          (w.alloc (.cells (madeCells z.cells (y.toNat * ei.size)) e)).ownsRow B e ei.size (.slice (some ⟨w.heap.size, 0, none⟩) x.toNat y.toNat) x.toNat (List.replicate x.toNat z.cells.toList).flatten := by
        intro ⟨h0, h1, h2⟩
        have hbi : (i.bytes : Int) * y ≤ 281474976710656 := by
          have hy : y.toNat ≤ Lj ei.bytes := by omega
          have hm := Ub hy hq1
          have e1 : (i.bytes : Int) * y = ((y.toNat * ei.bytes : Nat) : Int) := by
            rw [Int.natCast_mul, Int.toNat_of_nonneg (by omega), hb, Int.mul_comm]
          rw [e1]; omega
        refine ⟨by rw [← hs]; exact run_make w t e i z hu hi hz k1 k2 x y h0 h1 hbi (by have := Wc (show y.toNat ≤ Lj ei.bytes by omega); omega), ?_⟩
        refine ⟨by rw [Iz (sz := ei.size) (fun r hr => by rw [(List.mem_replicate.1 hr).2, Array.length_toList, hzs])]; simp, .inr ⟨w.heap.size, y.toNat, _, rfl, hm.hB, heap_alloc_new w _, by omega, Wb (show y.toNat ≤ Lj ei.bytes by omega), by rw [size_madeCells], ?_⟩⟩
        unfold madeCells
        rw [← hzs, Uj _ _ (by omega)]
        have e1 := Kz (sz := z.cells.size) (rows := List.replicate y.toNat z.cells.toList) (fun r hr => by rw [(List.mem_replicate.1 hr).2]; simp) x.toNat
        rw [← e1, List.take_replicate, Nat.min_eq_left (by omega)]
      split at hl
      · rename_i k hk
        split at hl
        · rename_i k' z0 hz0
          by_cases hs1 : (ei.size == 1 && decide (k = k')) = true
          · rw [hs1, cond_true, Option.some.injEq] at hl; subst hl
            have hnm : A nm = none := hnew nm _ (List.mem_singleton.2 rfl)
            simp only [Bool.and_eq_true, decide_eq_true_eq, beq_iff_eq] at hr hs1
            obtain ⟨hs1, rfl⟩ := hs1
            obtain ⟨hrun, hown⟩ := key ⟨hr.1.1, hr.1.2, hr.2⟩
            refine ⟨_, _, S7 A [] nm ⟨.live, .row (.slice (some ⟨w.heap.size, 0, none⟩) x.toNat y.toNat) 1⟩, hrun, Ij.alloc hnm rfl (fun b hb => by cases hb; rfl) (fun _ => ?_), ?_⟩
            · unfold Cn
              refine ⟨rfl, _, rfl, ?_⟩
              have hzc : z.cells.toList = [.int k z0] := by
                have := hzr (Bl I0 B A w) w
                rw [hz0] at this
                simp only [A4, Ak] at this
                obtain ⟨u, us, e1, rfl, rfl⟩ := this
                exact e1
              rw [hzc] at hown
              have : (List.replicate x.toNat [Value.int k z0]).flatten = (List.replicate x.toNat z0).map (Value.int k) := by simp
              rw [this] at hown
              simp only [hs1] at hown ⊢
              rw [List.length_replicate]
              exact hown
            · simp only [Ak]
              exact ⟨rfl, _, if_pos rfl, .inr ⟨1, rfl⟩⟩
          · simp only [Bool.not_eq_true] at hs1; rw [hs1] at hl; simp at hl
        · cases hl
      · simp only [Option.some.injEq] at hl; subst hl
        have hnm : A nm = none := hnew nm _ (List.mem_singleton.2 rfl)
        simp only [Bool.and_eq_true, decide_eq_true_eq] at hr
        obtain ⟨hrun, hown⟩ := key ⟨hr.1.1, hr.1.2, hr.2⟩
        refine ⟨_, _, S7 A [] nm ⟨.live, .row (.slice (some ⟨w.heap.size, 0, none⟩) x.toNat y.toNat) ei.size⟩, hrun, Ij.alloc hnm rfl (fun b hb => by cases hb; rfl) (fun _ => ?_), ?_⟩
        · unfold Cn
          refine ⟨rfl, hq2, _, List.replicate x.toNat z.cells.toList, rfl, ?_, ?_, by rw [List.length_replicate]; exact hown⟩
          · refine Co.Jh (by simp) fun i d r h1 h2 => ?_
            simp [List.getElem?_replicate] at h1 h2
            obtain ⟨_, rfl⟩ := h1
            obtain ⟨_, rfl⟩ := h2
            exact hzr _ _
          · intro r hr'
            rw [(List.mem_replicate.1 hr').2]
            exact ⟨by rw [Array.length_toList, hzs], hz1⟩
        · simp only [Ak]
          exact ⟨rfl, _, if_pos rfl, .inr ⟨_, rfl⟩⟩
    · simp only [Bool.not_eq_true] at hq; rw [hq] at hl; simp at hl
  · cases hl
end
end Go.Den
namespace Go.Den
open Go.RowKit (Below)
def lk {α : Type} : List (Nat × α) → Nat → Option α
  | [], _ => none
  | (m, x) :: l, n => if m = n then some x else lk l n
theorem lk_mem {α : Type} : ∀ {l : List (Nat × α)} {n : Nat} {x : α}, lk l n = some x → (n, x) ∈ l
  | [], n, x, h => by cases h
  | (m, y) :: l, n, x, h => by
    simp only [lk] at h
    split at h
    · rename_i e; cases h; subst e; exact List.mem_cons_self
    · exact List.mem_cons_of_mem _ (lk_mem h)
theorem Qb {α : Type} : ∀ {l : List (Nat × α)} {n : Nat} {x : α}, (l.map (·.1)).Nodup → (n, x) ∈ l → lk l n = some x
  | [], n, x, _, h => by cases h
  | (m, y) :: l, n, x, hn, h => by
    simp only [List.map_cons, List.nodup_cons] at hn
    simp only [lk]
    cases h with
    | head => rw [if_pos rfl]
    | tail _ h =>
      rw [if_neg (fun e => hn.1 (by rw [e]; exact List.mem_map_of_mem (f := fun x : Nat × α => x.1) h))]
      exact Qb hn.2 h
theorem Ic : ∀ {l : List Nat}, Kd l = true → l.Nodup
  | [], _ => List.nodup_nil
  | a :: l, h => by
    simp only [Kd, Bool.and_eq_true, Bool.not_eq_true'] at h
    rw [List.nodup_cons]
    exact ⟨by simpa using h.1, Ic h.2⟩
theorem Lq {g : Nat → DV → Option (DV × List (Nat × OB) × List Nat)} (ih : ∀ nm d d' os is, g nm d = some (d', os, is) → os = []) :
    ∀ (l : List DV) nm l' os is, I2 g nm l = some (l', os, is) → os = []
  | [], nm, l', os, is, h => by simp only [I2, Option.some.injEq, Prod.mk.injEq] at h; exact h.2.1.symm
  | d :: l, nm, l', os, is, h => by
    simp only [I2] at h
    split at h
    · rename_i x os1 is1 hg
      split at h
      · rename_i xs os2 is2 hg2
        simp only [Option.some.injEq, Prod.mk.injEq] at h
        rw [← h.2.1, ih _ _ _ _ _ hg, Lq ih l _ _ _ _ hg2]; rfl
      · cases h
    · cases h
theorem Aaj : ∀ (f : Nat) nm d d' os is, En false f nm d = some (d', os, is) → os = [] := by
  intro f
  induction f with
  | zero => intro nm d d' os is h; simp [En] at h
  | succ f ih =>
    intro nm d d' os is h
    cases d with
    | agg l =>
      simp only [En] at h
      split at h
      · rename_i l' os' is' hg
        simp only [Option.some.injEq, Prod.mk.injEq] at h
        rw [← h.2.1]; exact Lq ih l _ _ _ _ hg
      · cases h
    | tup l =>
      simp only [En] at h
      split at h
      · rename_i l' os' is' hg
        simp only [Option.some.injEq, Prod.mk.injEq] at h
        rw [← h.2.1]; exact Lq ih l _ _ _ _ hg
      · cases h
    | ints g k l => cases g <;> simp [En] at h <;> exact h.2.1
    | recs g sz l => cases g <;> simp [En] at h <;> exact h.2.1
    | _ => simp [En] at h <;> exact h.2.1
section
variable {I : Nat → Prop} {own : Nat → Option Nat} {w w' : World}
theorem Vy {f : Nat} (ih : ∀ d v, aliases f d = false → Ak (C3 I own w w') w' d v → Ak (C3 (fun _ => False) own w w') w' d v) :
    ∀ (l : List DV) (vs : List Value), l.any (aliases f) = false → A4 (C3 I own w w') w' l vs → A4 (C3 (fun _ => False) own w w') w' l vs
  | [], vs, _, h => by rw [A4.Ff] at h ⊢; exact h
  | d :: l, vs, ha, h => by
    rw [A4.Ca] at h ⊢
    simp only [List.any_cons, Bool.or_eq_false_iff] at ha
    obtain ⟨u, us, rfl, h1, h2⟩ := h
    exact ⟨u, us, rfl, ih d u ha.1 h1, Vy ih l us ha.2 h2⟩
theorem noalias : ∀ (f : Nat) (d : DV) (v : Value), aliases f d = false → Ak (C3 I own w w') w' d v → Ak (C3 (fun _ => False) own w w') w' d v := by
  intro f
  induction f with
  | zero => intro d v h; simp [aliases] at h
  | succ f ih =>
    intro d v ha hv
    cases d with
    | agg l => simp only [aliases] at ha; simp only [Ak] at hv ⊢; obtain ⟨vs, rfl, hl⟩ := hv; exact ⟨vs, rfl, Vy ih l _ ha hl⟩
    | tup l => simp only [aliases] at ha; simp only [Ak] at hv ⊢; obtain ⟨vs, rfl, hl⟩ := hv; exact ⟨vs, rfl, Vy ih l _ ha hl⟩
    | ints g k l =>
      cases g with
      | arg => simp [aliases] at ha
      | own i e => simp only [Ak] at hv ⊢; exact hv
      | fresh =>
        simp only [Ak] at hv ⊢
        obtain ⟨a, cap, rfl, hc, hh⟩ := hv
        exact ⟨a, cap, rfl, hc, hh.imp id fun ⟨b, o, e, hb, hr⟩ => ⟨b, o, e, ⟨⟨hb.1.1, .inr hb.2.2, hb.1.2.2⟩, rfl, hb.2.2⟩, hr⟩⟩
    | recs g sz l => simp [aliases] at ha
    | undef => simp [aliases] at ha
    | cellp cs => simp [aliases] at ha
    | fn g a c => simp [aliases] at ha
    | nil => simpa only [Ak] using hv
    | bool b => simpa only [Ak] using hv
    | int k n => simpa only [Ak] using hv
    | fl n => simpa only [Ak] using hv
    | nb n => simpa only [Ak] using hv
    | oref n => simp only [Ak] at hv; obtain ⟨_, p, hp, _⟩ := hv; cases hp
    | sref n o l => simp only [Ak] at hv; obtain ⟨_, p, hp, _⟩ := hv; cases hp
    | ptr n i j => simp only [Ak] at hv; obtain ⟨_, p, hp, _⟩ := hv; cases hp
    | gd g d => simp [aliases] at ha
end
section
variable {P : Program} {E : Env} {I0 : Nat → Prop} {B : Nat} {A : Nat → Option Place} {h : C4} {w : World}
theorem call_ok (hm : Mem I0 B A h w) (htab : ∀ g e, E.A9 g = some e → W6 P g e) {nm : Nat} {ad : Bool} {g : FuncId} {args : List DV} {r : R2} (hl : callD E h nm ad g args = some r) (hreq : r.req = true)
    (hnew : ∀ n ob, (n, ob) ∈ r.objs → A n = none) (hnd : (r.objs.map (·.1)).Nodup) {vals : Array Value} (hv : A4 (Bl I0 B A w) w args vals.toList) :
    Calls P g vals w fun e w' => ∃ v, e = .returned v ∧ ∃ A', Ij I0 B A w r.objs r.frz A' w' ∧ Ak (Bl I0 B A' w') w' r.v v := by
  unfold callD at hl
  cases h1 : J2 h args with
  | none => simp [h1] at hl
  | some a =>
  obtain ⟨as, ns⟩ := a
  cases h2 : E.A9 g with
  | none => simp [h1, h2] at hl
  | some e =>
  cases h3 : En ad 6 nm (e.out as) with
  | none => simp [h1, h2, h3] at hl
  | some x =>
  obtain ⟨d, os, is⟩ := x
  simp only [h1, h2, h3, Option.bind_some] at hl
  cases h4 : Kd is with
  | false => simp [h4] at hl
  | true =>
  simp only [h4, cond_true, Option.some.injEq] at hl
  subst hl
  dsimp only at hreq hnew hnd ⊢
  have hargs := Nc (V6 hm 8) args vals.toList as ns h1 hv
  have hIlt : ∀ b, seen I0 B A w ns b → b < w.heap.size := by
    intro b hb
    rcases hb with hb | ⟨n, p, hn, hp, hdd, hpb⟩
    · exact hb.1
    · exact (hm.blkB n p b hp hdd hpb).2
  refine (htab g e h2 as hreq w vals _ hIlt hargs).mono fun en w' hpost => ?_
  obtain ⟨v, own, rfl, hbel, hown, hres⟩ := hpost
  refine ⟨v, rfl, ?_⟩
  have hisn := Ic h4
  have main : ∀ (J : Nat → Prop), (∀ b, J b → seen I0 B A w ns b) → ((bif aliases 6 (e.out as) then ns else []) = ns ∨ ∀ b, ¬ J b) → Ak (C3 J own w w') w' (e.out as) v →
      ∃ A', Ij I0 B A w os (bif aliases 6 (e.out as) then ns else []) A' w' ∧ Ak (Bl I0 B A' w') w' d v := by
    intro J hJ hcase hresJ
    generalize hfr : (bif aliases 6 (e.out as) then ns else []) = frz at hcase ⊢
    obtain ⟨ps, q1, q2, q3, q4⟩ := adoptD_ok (I0 := I0) (B := B) 6 nm _ v d os is hresJ h3
    have hpn : (ps.map (·.1)).Nodup := by rw [q1]; exact hnd
    have hAnone : ∀ n p, (n, p) ∈ ps → A n = none := by
      intro n p hn
      have : n ∈ os.map (·.1) := by rw [← q1]; exact List.mem_map_of_mem (f := fun x : Nat × Place => x.1) hn
      obtain ⟨⟨n', ob⟩, hm', e'⟩ := List.mem_map.1 this
      dsimp only at e'
      subst e'
      exact hnew n' ob hm'
    let A' : Nat → Option Place := fun m => match lk ps m with | some p => some p | none => (A m).map (Xf frz m)
    have hA'new : ∀ n p, (n, p) ∈ ps → A' n = some p := by
      intro n p hn
      show (match lk ps n with | some p => some p | none => (A n).map (Xf frz n)) = some p
      rw [Qb hpn hn]
    have hA'old : ∀ n p, A n = some p → A' n = some (Xf frz n p) := by
      intro n p hp
      show (match lk ps n with | some p => some p | none => (A n).map (Xf frz n)) = _
      cases hq : lk ps n with
      | some p' => rw [hAnone n p' (lk_mem hq)] at hp; cases hp
      | none => rw [hp]; rfl
    have hA'inv : ∀ n p, A' n = some p → (n, p) ∈ ps ∨ ∃ q, A n = some q ∧ p = Xf frz n q := by
      intro n p hp
      have hp : (match lk ps n with | some p => some p | none => (A n).map (Xf frz n)) = some p := hp
      cases hq : lk ps n with
      | some p' => rw [hq] at hp; cases hp; exact .inl (lk_mem hq)
      | none =>
        rw [hq] at hp
        cases hA : A n with
        | none => rw [hA] at hp; cases hp
        | some q => rw [hA] at hp; cases hp; exact .inr ⟨q, rfl, rfl⟩
    have hpown : ∀ n p b, (n, p) ∈ ps → p.Fl = some b → ∃ i, own i = some b := by
      intro n p b hn hb
      obtain ⟨j, hj⟩ := List.getElem?_of_mem hn
      obtain ⟨_, i, _, hi⟩ := q3 j n p hj
      exact ⟨i, hi b hb⟩
    have good : Good I0 J B own w w' ad A' := by
      refine ⟨fun b ⟨hb1, hb2, hb3⟩ => ⟨hb1, ?_, fun n p hp hl hpb => ?_⟩, fun had i b hi hge => ⟨(hown.lt i b hi).2, .inr (Nat.le_trans hm.hB hge), fun n p hp hl hpb => ?_⟩, hm.hB⟩
      · rcases hb2 with hb2 | hb2
        · rcases hJ b hb2 with hb2 | ⟨n, p, hn, hp, hdd, hpb⟩
          · exact hb2.2.1
          · exact .inr (hm.blkB n p b hp hdd hpb).1
        · exact .inr (Nat.le_trans hm.hB hb2)
      · rcases hA'inv n p hp with hn | ⟨q, hq, rfl⟩
        · obtain ⟨i, hi⟩ := hpown n p b hn hpb
          exact hb3 i hi
        · obtain ⟨hql, hnf⟩ := Ni hl
          have hqb := hm.blkB n q b hq (by rw [hql]; simp) hpb
          rcases hb2 with hb2 | hb2
          · rcases hcase with hc | hc
            · rcases hJ b hb2 with hs | ⟨m, p', hm', hp', hdd, hpb'⟩
              · exact hs.2.2 n q hq hql hpb
              · have := hm.inj n m q p' b hq hp' (by rw [hql]; simp) hdd hpb hpb'
                subst this
                exact hnf (by rw [hc]; exact hm')
            · exact hc b hb2
          · omega
      · subst had
        have hos := Aaj 6 nm _ _ _ _ h3
        rw [hos] at q1
        have hps : ps = [] := by simpa using q1
        rcases hA'inv n p hp with hn | ⟨q, hq, rfl⟩
        · rw [hps] at hn; cases hn
        · have hqb := hm.blkB n q b hq (by rw [(Ni hl).1]; simp) hpb
          omega
    obtain ⟨hvr, hobj⟩ := q4 A' good hA'new
    refine ⟨A', ⟨hbel, hA'old, fun n p hn hp => ?_, fun n m p q b hn hm' hp hq hpb hqb => ?_⟩, hvr⟩
    · rcases hA'inv n p hp with hmem | ⟨q, hq, rfl⟩
      · obtain ⟨j, hj⟩ := List.getElem?_of_mem hmem
        obtain ⟨hl, i, hi, hio⟩ := q3 j n p hj
        refine ⟨hl, fun b hb => hown.lt i b (hio b hb), ?_⟩
        have hlen : os.length = ps.length := by have := congrArg List.length q1; simpa using this.symm
        have hjlt : j < os.length := by rw [hlen]; exact (List.getElem?_eq_some_iff.1 hj).1
        have hoj : os[j]? = some os[j] := List.getElem?_eq_getElem hjlt
        have hname : os[j].1 = n := by
          have e1 : (ps.map (·.1))[j]? = some n := by rw [List.getElem?_map, hj]; rfl
          rw [q1, List.getElem?_map, hoj] at e1
          simpa using e1
        refine ⟨os[j].2, ?_, hobj j n p _ hj (by rw [hoj, ← hname])⟩
        rw [← hname]; exact List.mem_of_getElem? hoj
      · rw [hn] at hq; cases hq
    · rcases hA'inv n p hp with hmem | ⟨q', hq', rfl⟩
      · rcases hA'inv m q hq with hmem' | ⟨q', hq', rfl⟩
        · obtain ⟨j, hj⟩ := List.getElem?_of_mem hmem
          obtain ⟨j', hj'⟩ := List.getElem?_of_mem hmem'
          obtain ⟨_, i, hi, hio⟩ := q3 j n p hj
          obtain ⟨_, i', hi', hio'⟩ := q3 j' m q hj'
          have hii := hown.inj i i' b (hio b hpb) (hio' b hqb)
          subst hii
          have hjl : j < is.length := (List.getElem?_eq_some_iff.1 hi).1
          have hjj := (List.getElem?_inj hjl hisn).1 (hi.trans hi'.symm)
          subst hjj
          rw [hj] at hj'; cases hj'; rfl
        · rw [hm'] at hq'; cases hq'
      · rw [hn] at hq'; cases hq'
  cases hal : aliases 6 (e.out as) with
  | true =>
    have := main (seen I0 B A w ns) (fun _ h => h) (.inl (by rw [hal]; rfl)) hres
    rw [hal] at this
    exact this
  | false =>
    have := main (fun _ => False) (fun _ h => h.elim) (.inr fun _ h => h) (noalias 6 _ v hal hres)
    rw [hal] at this
    exact this
end
end Go.Den
namespace Go.Den
open Go.RowKit (Below)
def Vd : Array Value → Sem Value := fun args => do
  let (x, y, b) ← Extern.MathBitsCarry.three "Sub64" args
  pure (Extern.MathBitsCarry.pair ((x + Extern.MathBitsCarry.m64 - y - b) % Extern.MathBitsCarry.m64) (if x < y + b then 1 else 0))
theorem run_sub64 {P : Program} (x y b : Int) (hb : b ≤ 1) (w : World) :
    (Vd #[.int .u64 x, .int .u64 y, .int .u64 b]).run P w = .ok (.tuple #[.int .u64 (Ly x y b), .int .u64 (Ft x y b)]) w := by
  cases b with
  | ofNat n =>
    have : n = 0 ∨ n = 1 := by have : ((n : Nat) : Int) ≤ 1 := hb; omega
    rcases this with rfl | rfl <;> rfl
  | negSucc n => rfl
def Rh : Ext → Array Value → Sem Value
  | .bitsN => Extern.MathFloatBits.float64bits
  | .bits => Extern.MathFloatBits.float64bits
  | .frombits => Extern.MathFloatBits.float64frombits
  | .sqrt => Extern.MathSqrt.sqrt
  | .sub64 => Vd
structure I6 (P : Program) (E : Env) : Prop where
  ty : ∀ t ti, E.ty t = some ti → Bv P t ti
  A9 : ∀ g e, E.A9 g = some e → W6 P g e
  call : ∀ g e, E.A9 g = some e → ∀ (args : Array Value) (w : World), (callFunc g args).run P w = .ok (.enter g args) w
  ext : ∀ g x, E.ext g = some x → ∀ (args : Array Value) (w : World), (callFunc g args).run P w = ((Rh x args).run P w).andThen fun v w' => .ok (.value v) w'
  eqs : ∀ t ti, E.eqs t = true → E.ty t = some ti → Aan P t ti
  mixed : P.follows .mixedOrders = true
  spoil : ∀ g e, E.spoil g = some e → SpoilFact P g e := by intro g e h; change none = some e at h; cases h
def Ops (c : Ctx) (w : World) (ρ : Operand → DV) (σ : Operand → Value) (op : Op) : Prop := ∀ x ∈ op.operands.toList, Ak c w (ρ x) (σ x)
section
variable {P : Program} {E : Env} {I0 : Nat → Prop} {B : Nat} {A : Nat → Option Place} {h : C4} {w : World}
theorem extD_ok {c : Ctx} {x : Ext} {args : List DV} {vals : Array Value} {r : R2} (hr : extD x args = some r) (hreq : r.req = true) (hv : A4 c w args vals.toList) :
    ∃ v w', (Rh x vals).run P w = .ok v w' ∧ Yu w w' ∧ Any r.v v ∧ r.objs = [] ∧ r.frz = [] := by
  unfold extD at hr
  split at hr
  · rename_i n
    simp only [Option.some.injEq] at hr; subst hr
    simp only [A4] at hv
    obtain ⟨u, us, e, hu, rfl⟩ := hv
    simp only [Ak] at hu
    obtain ⟨m, rfl, f⟩ := hu
    have : vals = #[.float .f64 m] := by apply Array.toList_inj.1; simpa using e
    subst this
    exact ⟨_, w, rfl, .inl rfl, fun _ _ => by simp only [Ak]; exact ⟨m, rfl, f⟩, rfl, rfl⟩
  · rename_i n
    simp only [Option.some.injEq] at hr; subst hr
    simp only [A4] at hv
    obtain ⟨u, us, e, hu, rfl⟩ := hv
    simp only [Ak] at hu
    obtain ⟨m, rfl, f⟩ := hu
    have : vals = #[.float .f64 m] := by apply Array.toList_inj.1; simpa using e
    subst this
    have hnm : n = m := by
      rcases f with f | f
      · exact f
      · dsimp only at hreq
        rw [f.1] at hreq; cases hreq
    subst hnm
    exact ⟨_, w, rfl, .inl rfl, fun _ _ => by simp only [Ak], rfl, rfl⟩
  · rename_i n
    simp only [Option.some.injEq] at hr; subst hr
    simp only [A4] at hv
    obtain ⟨u, us, e, hu, rfl⟩ := hv
    simp only [Ak] at hu
    subst hu
    have : vals = #[.int .u64 n] := by apply Array.toList_inj.1; simpa using e
    subst this
    exact ⟨_, w, rfl, .inl rfl, fun _ _ => by simp only [Ak]; exact ⟨_, rfl, .inl rfl⟩, rfl, rfl⟩
  · rename_i n
    simp only [Option.some.injEq] at hr; subst hr
    simp only [A4] at hv
    obtain ⟨u, us, e, hu, rfl⟩ := hv
    simp only [Ak] at hu
    obtain ⟨m, rfl, f⟩ := hu
    have : vals = #[.int .u64 m] := by apply Array.toList_inj.1; simpa using e
    subst this
    exact ⟨_, w, rfl, .inl rfl, fun _ _ => by simp only [Ak]; exact ⟨_, rfl, by simpa using f⟩, rfl, rfl⟩
  · rename_i n
    simp only [Option.some.injEq] at hr; subst hr
    simp only [A4] at hv
    obtain ⟨u, us, e, hu, rfl⟩ := hv
    simp only [Ak] at hu
    obtain ⟨m, rfl, f⟩ := hu
    have : vals = #[.float .f64 m] := by apply Array.toList_inj.1; simpa using e
    subst this
    have hs : FloatKind.f64.format.sqrt m = Ieee.double.sqrt n := Oh.sqrt f
    have hrun : Rh .sqrt #[.float .f64 m] = (match FloatKind.f64.format.sqrt m with | some r => pure (.float .f64 r) | none => do pure (.float .f64 (← choose (.nanBits .f64 m m))) : Sem Value) := rfl
    rw [hrun, hs]
    cases hq : Ieee.double.sqrt n with
    | some k => exact ⟨_, w, rfl, .inl rfl, Any.fl (.inl rfl), rfl, rfl⟩
    | none =>
      refine ⟨.float .f64 ((Question.nanBits .f64 m m).cut (w.tape w.drawn (.nanBits .f64 m m))), w.drew, ?_, .inr rfl, Any.fl (.inr ⟨Qx, nan_cut _ _ _⟩), rfl, rfl⟩
      simp only [Sem.run_bind, run_choose, Question.forced, Result.andThen_ok, Sem.run_pure, Bool.false_eq_true, if_false]
      rfl
  · rename_i x y b
    simp only [Option.some.injEq] at hr; subst hr
    dsimp only at hreq
    simp only [A4] at hv
    obtain ⟨u, us, e, hu, u2, us2, rfl, hu2, u3, us3, rfl, hu3, rfl⟩ := hv
    simp only [Ak] at hu hu2 hu3
    subst hu hu2 hu3
    have : vals = #[.int .u64 x, .int .u64 y, .int .u64 b] := by apply Array.toList_inj.1; simpa using e
    subst this
    refine ⟨_, w, run_sub64 x y b (of_decide_eq_true hreq) w, .inl rfl, fun _ _ => ?_, rfl, rfl⟩
    simp only [Ak]
    exact ⟨_, rfl, by simp [A4, Ak]⟩
  · cases hr
theorem opt_ok {c : Ctx} {ρ : Operand → DV} {σ : Operand → Value} {o : Option Operand} (hv : ∀ x ∈ o.toArray.toList, Ak c w (ρ x) (σ x)) {lo : Option Int}
    (h : Nv ρ o = some lo) : Gd lo (o.map σ) := by
  cases o with
  | none => simp only [Nv, Option.some.injEq] at h; subst h; rfl
  | some y =>
    have := hv y (by simp)
    simp only [Nv] at h
    cases hd : ρ y <;> simp only [hd, intOf, Option.bind_none, Option.bind_some, reduceCtorEq, Option.some.injEq] at h
    subst h
    rename_i k n
    rw [hd] at this
    simp only [Ak] at this
    exact ⟨k, by simp [this]⟩
theorem Wl {d : DV} {i : Int} (h : intOf d = some i) : ∃ k, d = .int k i := by
  cases d <;> simp only [intOf, reduceCtorEq, Option.some.injEq] at h
  subst h; exact ⟨_, rfl⟩
theorem P9 {c : Ctx} {ρ : Operand → DV} {σ : Operand → Value} : ∀ {l : List Operand}, (∀ x ∈ l, Ak c w (ρ x) (σ x)) → A4 c w (l.map ρ) (l.map σ)
  | [], _ => by simp [A4]
  | x :: l, h => by
    simp only [List.map_cons]; rw [A4.Ca]
    exact ⟨_, _, rfl, h x (by simp), P9 fun y hy => h y (List.mem_cons_of_mem _ hy)⟩
theorem Tj {c : Ctx} {ρ : Operand → DV} {σ : Operand → Value} : ∀ {l : List (Nat × Operand)}, (∀ x ∈ l.map (·.2), Ak c w (ρ x) (σ x)) → I4 c w (l.map fun (i, x) => (i, ρ x)) (l.map fun (i, x) => (i, σ x))
  | [], _ => .nil
  | (i, x) :: l, h => .cons (h x (by simp)) (Tj fun y hy => h y (by simp only [List.map_cons]; exact List.mem_cons_of_mem _ hy))
theorem maxD_ok {c : Ctx} {a b d : DV} {va vb : Value} (ha : Ak c w a va) (hb : Ak c w b vb) {gt : Bool} (h : maxD gt a b = some d) :
    ∃ v, ((if gt then Builtin.max2 va vb else Builtin.min2 va vb) : Sem Value).run P w = .ok v w ∧ Ak c w d v := by
  cases a <;> cases b <;> simp only [maxD, reduceCtorEq, Option.some.injEq] at h
  subst h
  simp only [Ak] at ha hb
  subst ha; subst hb
  rename_i k x k' y
  cases gt
  · refine ⟨_, rfl, ?_⟩
    simp only [Ak, cond_false]
    congr 1; omega
  · refine ⟨_, rfl, ?_⟩
    simp only [Ak, cond_true]
    congr 1; omega
theorem Wo {c : Ctx} {gt : Bool} : ∀ (l : List DV) (us : List Value) (a d : DV) (va : Value), Ak c w a va → A4 c w l us → Uc gt a l = some d →
    ∃ v, (us.foldlM (fun x y => if gt then Builtin.max2 x y else Builtin.min2 x y) va : Sem Value).run P w = .ok v w ∧ Ak c w d v
  | [], us, a, d, va, ha, hl, h => by
    simp only [Uc, Option.some.injEq] at h; subst h
    rw [A4.Ff] at hl; subst hl
    exact ⟨va, rfl, ha⟩
  | b :: l, us, a, d, va, ha, hl, h => by
    rw [A4.Ca] at hl
    obtain ⟨u, us, rfl, hu, hus⟩ := hl
    simp only [Uc] at h
    cases hm : maxD gt a b with
    | none => simp [hm] at h
    | some c' =>
      simp only [hm, Option.bind_some] at h
      obtain ⟨v, h1, h2⟩ := maxD_ok (P := P) ha hu hm
      obtain ⟨v', h3, h4⟩ := Wo l us c' d v h2 hus h
      exact ⟨v', by simp only [List.foldlM_cons, Sem.run_bind, h1, Result.andThen_ok, h3], h4⟩
end
end Go.Den
namespace Go.Den
open Go.RowKit (Below)
theorem isC_ok {k : CK} {d : DV} {c : Ctx} {w : World} {v : Value} (h : isC k d = true) (hv : Ak c w d v) : Ak c w (asC k d) v := by
  unfold isC at h
  split at h
  · have := of_decide_eq_true h
    subst this
    exact hv
  · have := of_decide_eq_true h
    subst this
    exact hv
  · simp only [asC, Ri, Ak] at hv ⊢
    subst hv
    exact ⟨none, 0, rfl, Nat.le_refl _, .inl trivial⟩
  · exact hv
  · exact hv
  · cases h
theorem isL_ok {c : Ctx} {w : World} : ∀ (ks : List CK) (i : Nat) (row : List DV) (vs : List Value), (row.drop i).length = ks.length → isL ks i row = true → A4 c w (row.drop i) vs → A4 c w (asL ks i row) vs
  | [], i, row, vs, hl, _, hv => by
    have : row.drop i = [] := List.eq_nil_of_length_eq_zero hl
    rw [this] at hv
    exact hv
  | k :: ks, i, row, vs, hl, h, hv => by
    simp only [isL, Bool.and_eq_true] at h
    have hi : i < row.length := by
      rw [List.length_drop, List.length_cons] at hl; omega
    have he : row.drop i = row.getD i .undef :: row.drop (i + 1) := by
      rw [List.drop_eq_getElem_cons hi, List.getD_eq_getElem?_getD, List.getElem?_eq_getElem hi]; rfl
    rw [he] at hv
    rw [A4.Ca] at hv
    obtain ⟨u, us, rfl, h1, h2⟩ := hv
    simp only [asL]
    rw [A4.Ca]
    refine ⟨u, us, rfl, isC_ok h.1 h1, isL_ok ks (i + 1) row us ?_ h.2 h2⟩
    rw [List.length_drop] at hl ⊢
    rw [List.length_cons] at hl
    omega
theorem castR_req {ag : Bool} {adv : List CK} {r : R} (h : (Ug ag adv r).req = true) : r.req = true ∧ (Ug ag adv r).objs = [] ∧ (Ug ag adv r).frz = [] := by
  unfold Ug at h ⊢
  split at h
  · exact ⟨h, rfl, rfl⟩
  · cases ag with
    | true =>
      rw [cond_true] at h ⊢
      split at h
      · simp only [Bool.and_eq_true] at h
        exact ⟨h.1, rfl, rfl⟩
      · exact ⟨h, rfl, rfl⟩
    | false =>
      rw [cond_false] at h ⊢
      simp only [Bool.and_eq_true] at h
      exact ⟨h.1, rfl, rfl⟩
theorem castR_ok {ag : Bool} {adv : List CK} {r : R} {c : Ctx} {w : World} {v : Value} (h : (Ug ag adv r).req = true) (hv : Ak c w r.v v) : Ak c w (Ug ag adv r).v v := by
  unfold Ug at h ⊢
  split at h
  · exact hv
  · cases ag with
    | true =>
      rw [cond_true] at h ⊢
      split at h
      · rename_i l hr
        rw [hr] at hv
        simp only [Bool.and_eq_true, decide_eq_true_eq] at h
        simp only [Ak] at hv ⊢
        obtain ⟨vs, e, hl⟩ := hv
        exact ⟨vs, e, isL_ok _ 0 l _ (by rw [List.drop_zero]; exact h.2.1) h.2.2 (by rw [List.drop_zero]; exact hl)⟩
      · exact hv
    | false =>
      rw [cond_false] at h ⊢
      simp only [Bool.and_eq_true] at h
      exact isC_ok h.2 hv
section
variable {P : Program} {E : Env} {I0 : Nat → Prop} {B : Nat} {A : Nat → Option Place} {h : C4} {w : World}
theorem alloc_ok {t : TypeId} {ti : TI} (hf : Bv P t ti) {nm : Nat} (hnm : A nm = none) :
    ∃ w' A', (Instr.alloc t true (.tuple #[])).run P w = .ok (.pointer (some ⟨w.heap.size, 0, none⟩)) w' ∧ Ij I0 B A w [(nm, .box ti.zero)] [] A' w' ∧ Ak (Bl I0 B A' w') w' (.ptr nm 0 0) (.pointer (some ⟨w.heap.size, 0, none⟩)) := by
  obtain ⟨z, hz, hzr, _, _⟩ := hf.Vm w
  refine ⟨w.alloc (.cells z.cells t), S7 A [] nm ⟨.live, .box w.heap.size⟩, ?_, Ij.alloc hnm rfl (fun b hb => by cases hb; rfl) (fun _ => ?_), ?_⟩
  · simp [Instr.alloc, hz, newVar, newRow]
  · unfold Cn
    exact ⟨rfl, w.heap.size, t, z.cells, rfl, heap_alloc_new w _, hzr _ _⟩
  · simp only [Ak]
    exact ⟨rfl, _, if_pos rfl, .inr (by unfold Hw; exact ⟨rfl, rfl⟩)⟩
theorem box_ok {t : TypeId} {nm : Nat} (hnm : A nm = none) {d : DV} {v : Value} (hw : Me d = true) (hv : Ak (Bl I0 B A w) w d v) :
    ∃ w' A', (Instr.box t v).run P w = .ok (.pointer (some ⟨w.heap.size, 0, none⟩)) w' ∧ Ij I0 B A w [(nm, .box (cells d))] [] A' w' ∧ Ak (Bl I0 B A' w') w' (.ptr nm 0 0) (.pointer (some ⟨w.heap.size, 0, none⟩)) := by
  refine ⟨w.alloc (.cells v.cells t), S7 A [] nm ⟨.live, .box w.heap.size⟩, ?_, Ij.alloc hnm rfl (fun b hb => by cases hb; rfl) (fun hmv => ?_), ?_⟩
  · simp [Instr.box, newVar, newRow]
  · unfold Cn
    exact ⟨rfl, w.heap.size, t, v.cells, rfl, heap_alloc_new w _, A4.Cw hmv.Cw _ _ (Tz hw hv)⟩
  · simp only [Ak]
    exact ⟨rfl, _, if_pos rfl, .inr (by unfold Hw; exact ⟨rfl, rfl⟩)⟩
theorem quietD_ok (he : I6 P E) (hm : Mem I0 B A h w) {o : Oper} {nm : Nat} {ρ : Operand → DV} {σ : Operand → Value} (hops : Ops (Bl I0 B A w) w ρ σ o.op) {r : R2} (hq : Dq E h nm ρ o.op = some r) (hreq : r.req = true)
    (hnew : ∀ n ob, (n, ob) ∈ r.objs → A n = none) (hnd : (r.objs.map (·.1)).Nodup) {K : Value → World → Prop}
    (hK : ∀ v w' A', Ij I0 B A w r.objs r.frz A' w' → Ak (Bl I0 B A' w') w' r.v v → K v w') : Dz P (execOp σ o) w K := by
  obtain ⟨dst, op, ty, pos, after, guard⟩ := o
  dsimp only at hops hq
  have same : ∀ {d : DV} {v : Value}, r.v = d → r.objs = [] → r.frz = [] → Ak (Bl I0 B A w) w d v → K v w := by
    intro d v h1 h2 h3 h4
    exact hK v w A (by rw [h2, h3]; exact Ij.refl (.inl rfl)) (by rw [h1]; exact h4)
  cases op
  case move x =>
    simp only [Dq, Option.some.injEq] at hq; subst hq
    exact Dz.value rfl (same rfl rfl rfl (hops x (by simp [Op.operands])))
  case assign x =>
    simp only [Dq, Option.some.injEq] at hq; subst hq
    exact Dz.value rfl (same rfl rfl rfl (hops x (by simp [Op.operands])))
  case alloc t =>
    simp only [Dq] at hq
    cases hT : E.ty t with
    | none => simp [hT] at hq
    | some ti =>
      simp only [hT, Option.bind_some, Option.some.injEq] at hq; subst hq
      obtain ⟨w', A', h1, h2, h3⟩ := alloc_ok (P := P) (I0 := I0) (B := B) (w := w) (he.ty _ _ hT) (hnew nm _ (List.mem_singleton.2 rfl))
      exact Dz.lift h1 (hK _ w' A' h2 h3)
  case box t x =>
    simp only [Dq] at hq
    cases hT : E.ty t with
    | none => simp [hT] at hq
    | some ti =>
      simp only [hT, Option.bind_some] at hq
      by_cases hc : (Me (ρ x) && (cells (ρ x)).length == ti.size) = true
      · rw [hc, cond_true, Option.some.injEq] at hq; subst hq
        simp only [Bool.and_eq_true] at hc
        obtain ⟨w', A', h1, h2, h3⟩ := box_ok (P := P) (t := t) (hnew nm _ (List.mem_singleton.2 rfl)) hc.1 (hops x (by simp [Op.operands]))
        exact Dz.lift h1 (hK _ w' A' h2 h3)
      · simp only [Bool.not_eq_true] at hc; rw [hc] at hq; simp at hq
  case build t parts =>
    simp only [Dq] at hq
    cases hT : E.ty t with
    | none => simp [hT] at hq
    | some ti =>
    cases hp : Ux E t with
    | none => simp [hT, hp] at hq
    | some pl =>
    cases hfd : Sz pl ti.zero (parts.toList.map fun (i, x) => (i, ρ x)) with
    | none => simp [hT, hp, hfd] at hq
    | some cs =>
      simp only [hT, hp, hfd, Option.bind_some, Option.some.injEq] at hq; subst hq
      have hpr : I4 (Bl I0 B A w) w (parts.toList.map fun (i, x) => (i, ρ x)) (parts.map fun (i, x) => (i, σ x)).toList := by
        rw [Array.toList_map]
        exact Tj (fun x hx => hops x (by simpa [Op.operands] using hx))
      obtain ⟨v, h1, h2⟩ := build_ok (P := P) he.ty hT hp hpr hfd
      exact Dz.lift h1 (same rfl rfl rfl h2)
  case buildSlice t len parts =>
    simp only [Dq] at hq
    have hpr : I4 (Bl I0 B A w) w (parts.toList.map fun (i, x) => (i, ρ x)) (parts.map fun (i, x) => (i, σ x)).toList := by
      rw [Array.toList_map]
      exact Tj (fun x hx => hops x (by simpa [Op.operands] using hx))
    obtain ⟨v, w', A', h1, h2, h3⟩ := Wz (P := P) he.ty hm hpr hq hnew
    exact Dz.lift h1 (hK _ w' A' h2 h3)
  case load t a =>
    simp only [Dq] at hq
    cases hT : E.ty t with
    | none => simp [hT] at hq
    | some ti =>
    cases hl : X7 h ti (ρ a) with
    | none => simp [hT, hl] at hq
    | some r' =>
      simp only [hT, hl, Option.bind_some, Option.some.injEq] at hq; subst hq
      obtain ⟨hr0, ho, hf⟩ := castR_req hreq
      obtain ⟨v, h1, h2⟩ := loadD_ok (P := P) hm (he.ty _ _ hT) (hops a (by simp [Op.operands])) hl hr0
      exact Dz.lift h1 (same rfl ho hf (castR_ok hreq h2))
  case nilCheck x =>
    have hx := hops x (by simp [Op.operands])
    simp only [Dq] at hq
    split at hq
    · rename_i n i j hd
      cases hal : Mo h n with
      | false => simp [hal] at hq
      | true =>
      simp only [hal, cond_true, Option.some.injEq] at hq; subst hq
      rw [hd] at hx
      have hx' := hx
      simp only [Ak] at hx
      obtain ⟨_, p, hp, hdd⟩ := hx
      have hdd := hdd.resolve_left (S6 hm hp hal)
      have : ∃ a, σ x = .pointer (some a) := by
        unfold Hw at hdd
        split at hdd
        · exact ⟨_, hdd.2⟩
        · exact ⟨_, hdd⟩
        · exact hdd.elim
      obtain ⟨a, ha⟩ := this
      exact Dz.value (by simp only [execOp, ha]; rfl) (same rfl rfl rfl (by rw [← ha]; exact hx'))
    · rename_i cs hd
      simp only [Option.some.injEq] at hq; subst hq
      rw [hd] at hx
      have hx' := hx
      simp only [Ak] at hx
      obtain ⟨b, o, vs, ha, _⟩ := hx
      exact Dz.value (by simp only [execOp, ha]; rfl) (same rfl rfl rfl (by rw [← ha]; exact hx'))
    · rename_i f a c hd
      simp only [Option.some.injEq] at hq; subst hq
      rw [hd] at hx
      have hx' := hx
      simp only [Ak] at hx
      obtain ⟨fs, cs, ha, _⟩ := hx
      exact Dz.value (by simp only [execOp, ha]; rfl) (same rfl rfl rfl (by rw [← ha]; exact hx'))
    · cases hq
  case binOp op t x y ty' =>
    simp only [Dq] at hq
    cases hb : binD E op t (ρ x) (ρ y) with
    | none => simp [hb] at hq
    | some r' =>
      simp only [hb, Option.bind_some, Option.some.injEq] at hq; subst hq
      obtain ⟨v, w', h1, h2, h3⟩ := binD_ok (P := P) he.ty he.eqs w (x := x) (y := y) (hops x (by simp [Op.operands])) (hops y (by simp [Op.operands])) hb hreq
      exact Dz.lift h1 (hK v w' A (Ij.refl h2) (h3 _ _))
  case unOp op t x =>
    simp only [Dq] at hq
    cases hb : unD op (ρ x) with
    | none => simp [hb] at hq
    | some r' =>
      simp only [hb, Option.bind_some, Option.some.injEq] at hq; subst hq
      obtain ⟨v, h1, h3⟩ := unD_ok (P := P) w (hops x (by simp [Op.operands])) hb
      exact Dz.lift h1 (same rfl rfl rfl (h3 _ _))
  case convert src dst x =>
    simp only [Dq] at hq
    cases hb : convD E dst src (ρ x) with
    | none => simp [hb] at hq
    | some r' =>
      simp only [hb, Option.bind_some, Option.some.injEq] at hq; subst hq
      obtain ⟨v, h1, h3⟩ := convD_ok (P := P) he.ty w (hops x (by simp [Op.operands])) hb
      exact Dz.lift h1 (same rfl rfl rfl (h3 _ _))
  case makeFunc fn first captured =>
    cases fn <;> simp only [Dq, reduceCtorEq, Option.some.injEq] at hq
    subst hq
    rename_i f
    refine Dz.lift (v := .func (.func f) (first.map σ) (captured.map σ)) (w' := w) rfl (same rfl rfl rfl ?_)
    simp only [Ak]
    refine ⟨_, _, rfl, ?_, ?_⟩
    · rw [Array.toList_map]; exact P9 fun x hx => hops x (by simp [Op.operands]; exact .inl (by simpa using hx))
    · rw [Array.toList_map]; exact P9 fun x hx => hops x (by simp [Op.operands]; exact .inr (by simpa using hx))
  case makeSlice t l c =>
    simp only [Dq] at hq
    obtain ⟨v, w', A', h1, h2, h3⟩ := Xc (P := P) he.ty hm (hops l (by simp [Op.operands])) (hops c (by simp [Op.operands])) hq hreq hnew
    exact Dz.lift h1 (hK _ w' A' h2 h3)
  case slice t x lo hi mx =>
    simp only [Dq] at hq
    cases hlo : Nv ρ lo with
    | none => simp [hlo] at hq
    | some lo' =>
    cases hhi : Nv ρ hi with
    | none => simp [hlo, hhi] at hq
    | some hi' =>
    cases hmx : Nv ρ mx with
    | none => simp [hlo, hhi, hmx] at hq
    | some mx' =>
    simp only [hlo, hhi, hmx, Option.bind_some] at hq
    cases hs : Y7 E h t (ρ x) lo' hi' mx' with
    | none => simp [hs] at hq
    | some r' =>
      simp only [hs, Option.bind_some, Option.some.injEq] at hq; subst hq
      have m1 : ∀ y ∈ lo.toArray.toList, Ak (Bl I0 B A w) w (ρ y) (σ y) := fun y hy => hops y (by cases lo <;> simp at hy; subst hy; simp [Op.operands])
      have m2 : ∀ y ∈ hi.toArray.toList, Ak (Bl I0 B A w) w (ρ y) (σ y) := fun y hy => hops y (by cases hi <;> simp at hy; subst hy; simp [Op.operands])
      have m3 : ∀ y ∈ mx.toArray.toList, Ak (Bl I0 B A w) w (ρ y) (σ y) := fun y hy => hops y (by cases mx <;> simp at hy; subst hy; simp [Op.operands])
      obtain ⟨v, h1, h2⟩ := sliceD_ok (P := P) he.ty hm (hops x (by simp [Op.operands])) (opt_ok m1 hlo) (opt_ok m2 hhi) (opt_ok m3 hmx) hs hreq
      exact Dz.lift h1 (same rfl rfl rfl h2)
  case fieldAddr t x f =>
    simp only [Dq] at hq
    cases hb : N0 E h t f (ρ x) with
    | none => simp [hb] at hq
    | some r' =>
      simp only [hb, Option.bind_some, Option.some.injEq] at hq; subst hq
      obtain ⟨v, h1, h3⟩ := Xh (P := P) he.ty hm (hops x (by simp [Op.operands])) hb
      exact Dz.lift h1 (same rfl rfl rfl h3)
  case field t x f =>
    simp only [Dq] at hq
    cases hb : Z3 E t f (ρ x) with
    | none => simp [hb] at hq
    | some r' =>
      simp only [hb, Option.bind_some, Option.some.injEq] at hq; subst hq
      obtain ⟨v, h1, h3⟩ := fieldD_ok (P := P) he.ty (hops x (by simp [Op.operands])) hb
      exact Dz.lift h1 (same rfl rfl rfl h3)
  case indexAddr t x i =>
    simp only [Dq] at hq
    cases hi : intOf (ρ i) with
    | none => simp [hi] at hq
    | some n =>
    cases hb : Nx E h t (ρ x) n with
    | none => simp [hi, hb] at hq
    | some r' =>
      simp only [hi, hb, Option.bind_some, Option.some.injEq] at hq; subst hq
      obtain ⟨k, hk⟩ := Wl hi
      have hv := hops i (by simp [Op.operands])
      rw [hk] at hv; simp only [Ak] at hv
      obtain ⟨v, h1, h3⟩ := Xe (P := P) (k := k) he.ty hm (hops x (by simp [Op.operands])) hb hreq
      exact Dz.lift (by rw [hv]; exact h1) (same rfl rfl rfl h3)
  case index t x i =>
    simp only [Dq] at hq
    cases hi : intOf (ρ i) with
    | none => simp [hi] at hq
    | some n =>
    cases hb : Zy E t (ρ x) n with
    | none => simp [hi, hb] at hq
    | some r' =>
      simp only [hi, hb, Option.bind_some, Option.some.injEq] at hq; subst hq
      obtain ⟨k, hk⟩ := Wl hi
      have hv := hops i (by simp [Op.operands])
      rw [hk] at hv; simp only [Ak] at hv
      obtain ⟨v, h1, h3⟩ := indexD_ok (P := P) (k := k) he.ty (hops x (by simp [Op.operands])) hb hreq
      exact Dz.lift (by rw [hv]; exact h1) (same rfl rfl rfl h3)
  case extract t i =>
    have hx := hops t (by simp [Op.operands])
    simp only [Dq] at hq
    split at hq
    · rename_i l hd
      rw [hd] at hx
      simp only [Ak] at hx
      obtain ⟨vs, hvs, hl⟩ := hx
      cases hi : l[i]? with
      | none => simp [hi] at hq
      | some d =>
        simp only [hi, Option.bind_some, Option.some.injEq] at hq; subst hq
        obtain ⟨v, hv, hr⟩ := hl.get i d hi
        have hv' : vs[i]? = some v := by simpa using hv
        exact Dz.lift (by rw [hvs]; simp [Instr.extract, hv']) (same rfl rfl rfl hr)
    · cases hq
  case call c =>
    obtain ⟨callee, args, ts⟩ := c
    cases callee with
    | value f =>
      have hf := hops f (by simp [Op.operands, Call.operands])
      have ha : A4 (Bl I0 B A w) w (args.toList.map ρ) (args.map σ).toList := by
        rw [Array.toList_map]; exact P9 fun x hx => hops x (by simp [Op.operands, Call.operands]; exact .inr (by simpa using hx))
      simp only [Dq] at hq
      split at hq
      · rename_i g first captured hd
        rw [hd] at hf
        simp only [Ak] at hf
        obtain ⟨fs, cs, hfv, hfs, hcs⟩ := hf
        have hrun : ∀ w, (execOp σ ⟨dst, .call ⟨.value f, args, ts⟩, ty, pos, after, guard⟩).run P w = (callFunc g (fs ++ args.map σ ++ cs)).run P w := by
          intro w
          simp only [execOp, resolve, hfv, Deferred.ofValue, Sem.run_bind, Sem.run_pure, Result.andThen_ok, invoke]
        split at hq
        · rename_i x hx
          split at hq
          · have e1 : fs = #[] := by
              have := hfs.length; simp at this; exact Array.eq_empty_of_size_eq_zero this.symm
            have e2 : cs = #[] := by
              have := hcs.length; simp at this; exact Array.eq_empty_of_size_eq_zero this.symm
            subst e1; subst e2
            obtain ⟨v, w', h1, h2, h3, h4, h5⟩ := extD_ok (P := P) hq hreq ha
            refine Dz.value (w' := w') (v := v) ?_ (hK v w' A (by rw [h4, h5]; exact Ij.refl h2) (h3 _ _))
            rw [hrun, he.ext g x hx]
            simp [h1]
          · cases hq
        · have hall : A4 (Bl I0 B A w) w (first ++ args.toList.map ρ ++ captured) (fs ++ args.map σ ++ cs).toList := by
            rw [Array.toList_append, Array.toList_append]
            exact (hfs.append ha).append hcs
          have hcall := call_ok (P := P) hm he.A9 hq hreq hnew hnd hall
          unfold Dz
          have htab : ∃ e, E.A9 g = some e := by
            unfold callD at hq
            cases h1 : J2 h (first ++ args.toList.map ρ ++ captured) with
            | none => simp only [h1, Option.bind_none, reduceCtorEq] at hq
            | some a =>
              cases h2 : E.A9 g with
              | none => simp only [h1, h2, Option.bind_some, Option.bind_none, reduceCtorEq] at hq
              | some e => exact ⟨e, rfl⟩
          obtain ⟨e, hte⟩ := htab
          rw [hrun, he.call g e hte]
          exact hcall.mono fun en w' ⟨v, he', A', h1, h2⟩ => ⟨v, he', hK v w' A' h1 h2⟩
      · cases hq
    | invoke recv m => simp [Dq] at hq
    | builtin b =>
      have ha : ∀ x ∈ args.toList, Ak (Bl I0 B A w) w (ρ x) (σ x) := fun x hx => hops x (by simp [Op.operands, Call.operands]; exact (by simpa using hx))
      cases b
      case len =>
        simp only [Dq] at hq
        split at hq
        · rename_i x t hx ht
          split at hq
          · rename_i e _ hT
            have hu := (he.ty _ _ hT).desc
            simp only [B0] at hu
            cases hn : lenD h (ρ x) with
            | none => simp [hn] at hq
            | some n =>
              simp only [hn, Option.bind_some, Option.some.injEq] at hq; subst hq
              obtain ⟨ad, l, cap, hv, hln⟩ := lenD_ok hm (ha x (by rw [hx]; simp)) hn
              have e1 : args = #[x] := Array.toList_inj.1 hx
              have e2 : ts = #[t] := Array.toList_inj.1 ht
              subst e1; subst e2
              refine Dz.value (w' := w) (v := .int .i64 n) ?_ (same rfl rfl rfl (by simp [Ak]))
              simp [execOp, resolve, invoke, builtin, Builtin.len_, hv, run_underlying hu, goInt, hln]
          · cases hq
        · cases hq
      case max =>
        simp only [Dq] at hq
        split at hq
        · rename_i x l hx
          cases hn : Uc true (ρ x) (l.map ρ) with
          | none => simp [hn] at hq
          | some d =>
            simp only [hn, Option.bind_some, Option.some.injEq] at hq; subst hq
            have e1 : args = (x :: l).toArray := Array.toList_inj.1 (by rw [hx])
            subst e1
            obtain ⟨v, h1, h2⟩ := Wo (P := P) (gt := true) _ _ _ _ _ (ha x (by simp)) (P9 fun y hy => ha y (by simp [hy])) hn
            refine Dz.value (w' := w) (v := v) ?_ (same rfl rfl rfl h2)
            simp only [if_true] at h1
            simp [execOp, resolve, invoke, builtin, Builtin.max_, h1]
        · cases hq
      case min =>
        simp only [Dq] at hq
        split at hq
        · rename_i x l hx
          cases hn : Uc false (ρ x) (l.map ρ) with
          | none => simp [hn] at hq
          | some d =>
            simp only [hn, Option.bind_some, Option.some.injEq] at hq; subst hq
            have e1 : args = (x :: l).toArray := Array.toList_inj.1 (by rw [hx])
            subst e1
            obtain ⟨v, h1, h2⟩ := Wo (P := P) (gt := false) _ _ _ _ _ (ha x (by simp)) (P9 fun y hy => ha y (by simp [hy])) hn
            refine Dz.value (w' := w) (v := v) ?_ (same rfl rfl rfl h2)
            simp only [Bool.false_eq_true, if_false] at h1
            simp [execOp, resolve, invoke, builtin, Builtin.min_, h1]
        · cases hq
      all_goals (simp [Dq] at hq)
  all_goals (simp [Dq] at hq)
end
end Go.Den
