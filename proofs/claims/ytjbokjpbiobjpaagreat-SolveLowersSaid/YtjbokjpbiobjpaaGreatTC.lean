/- A verified evaluator of the program's form and its use for this seat: Den18, Den19, Den20, Den21, Den22, Den23, Den24, Den25, Den26. -/
import Derived.Test.YtjbokjpbiobjpaaGreatTB
import Derived.Orders
set_option linter.unusedVariables false
set_option linter.unusedSimpArgs false
noncomputable section
namespace Go.Den
open Go.RowKit (Below)
theorem T6 : ∀ (vs cs : List DV) (j : Nat), j + vs.length ≤ cs.length → Is cs j vs = cs.take j ++ vs ++ cs.drop (j + vs.length)
  | [], cs, j, _ => by simp [Is]
  | v :: vs, cs, j, h => by
    simp only [List.length_cons] at h
    simp only [Is]
    rw [T6 vs (cs.set j v) (j + 1) (by rw [List.length_set]; omega)]
    have h1 : (cs.set j v).take (j + 1) = cs.take j ++ [v] := by
      rw [List.take_succ_eq_append_getElem (by rw [List.length_set]; omega)]
      rw [List.take_set_of_le (by omega)]
      simp
    have h2 : (cs.set j v).drop (j + 1 + vs.length) = cs.drop (j + (v :: vs).length) := by
      rw [List.drop_set_of_lt (by omega)]
      congr 1; simp only [List.length_cons]; omega
    rw [h1, h2]; simp
theorem R4 {c : Ctx} {w : World} {cs ds : List DV} {us vs : List Value} (hc : A4 c w cs us) (hd : A4 c w ds vs) {j : Nat} (hj : j + ds.length ≤ cs.length) :
    A4 c w (Is cs j ds) (us.take j ++ vs ++ us.drop (j + vs.length)) := by
  rw [T6 ds cs j hj, ← hd.length]
  exact ((hc.take j).append hd).append (hc.drop _)
theorem Qr {w : World} {base : Nat} {e : TypeId} {size n cap g : Nat} {xs vs : List Value} (h : w.ownsRow base e size (.slice (some ⟨g, 0, none⟩) n cap) n xs) {o : Nat} (ho : o + vs.length ≤ n * size) :
    ∃ cur, w.heap[g]? = some (.cells cur e (0, 0)) ∧ o + vs.length ≤ cur.size ∧ (w.setRow g (cur.toList.take o ++ vs ++ cur.toList.drop (o + vs.length)).toArray).ownsRow base e size (.slice (some ⟨g, 0, none⟩) n cap) n (xs.take o ++ vs ++ xs.drop (o + vs.length)) := by
  obtain ⟨h1, h2⟩ := h
  rcases h2 with ⟨e, _⟩ | ⟨g', cap', cur, e, hb, hh, hnc, hm, hs, ht⟩
  · cases e
  · cases e
    have hcur : n * size ≤ cur.size := by rw [hs]; exact Nat.mul_le_mul_right _ hnc
    refine ⟨cur, hh, by omega, ?_, .inr ⟨g, cap, _, rfl, hb, setRow_heap w g cur _ e _ hh, hnc, hm, ?_, ?_⟩⟩
    · simp only [List.length_append, List.length_take, List.length_drop]; omega
    · simp only [List.size_toArray, List.length_append, List.length_take, List.length_drop, Array.length_toList]; omega
    · rw [← ht]
      have hl : (cur.toList.take o ++ vs).length = o + vs.length := by
        simp only [List.length_append, List.length_take, Array.length_toList]; omega
      rw [List.take_append, List.take_of_length_le (by rw [hl]; exact ho), hl]
      congr 1
      · congr 1
        rw [List.take_take, Nat.min_eq_left (by omega)]
      · rw [List.drop_take]
theorem Ud {α : Type} {sz : Nat} : ∀ {rows : List (List α)}, (∀ r ∈ rows, r.length = sz) → ∀ (i : Nat) (r : List α), rows[i]? = some r → ∀ (j : Nat) (vs : List α), j + vs.length ≤ sz →
    (rows.set i (r.take j ++ vs ++ r.drop (j + vs.length))).flatten = rows.flatten.take (i * sz + j) ++ vs ++ rows.flatten.drop (i * sz + j + vs.length)
  | [], _, i, r, h, _, _, _ => by simp at h
  | r0 :: rows, hl, i, r, h, j, vs, hj => by
    have h0 : r0.length = sz := hl r0 (by simp)
    cases i with
    | zero =>
      simp at h; subst h
      simp only [List.set_cons_zero, List.flatten_cons, Nat.zero_mul, Nat.zero_add]
      rw [List.take_append_of_le_length (by omega), List.drop_append_of_le_length (by omega)]
      simp
    | succ i =>
      simp at h
      have ih := Ud (rows := rows) (fun r hr => hl r (by simp [hr])) i r h j vs hj
      simp only [List.set_cons_succ, List.flatten_cons]
      rw [ih, Nat.succ_mul]
      rw [show i * sz + sz + j = r0.length + (i * sz + j) by omega, show r0.length + (i * sz + j) + vs.length = r0.length + (i * sz + j + vs.length) by omega]
      rw [List.take_length_add_append, List.drop_length_add_append]
      simp
section
variable {P : Program} {E : Env} {I0 : Nat → Prop} {B : Nat} {A : Nat → Option Place} {h : C4} {w : World} {t : TypeId}
theorem Fe : ∀ {h : C4} {n : Nat} {x y : Bool × OB}, look h n = some x → ∀ m, look (upd h n y) m = if m = n then some y else look h m
  | [], n, x, y, hl, m => by cases hl
  | (k, z) :: h, n, x, y, hl, m => by
    simp only [look] at hl
    simp only [upd]
    by_cases hk : k = n
    · subst hk
      simp only [beq_self_eq_true, cond_true, look]
      by_cases hm : m = k
      · subst hm; simp
      · rw [show (k == m) = false by simpa using fun e => hm e.symm]; simp [hm]
    · rw [show (k == n) = false by simpa using hk] at hl ⊢
      simp only [cond_false] at hl ⊢
      simp only [look]
      by_cases hm : k = m
      · subst hm; simp [hk]
      · rw [show (k == m) = false by simpa using hm]
        simp only [cond_false]
        exact Fe hl m
theorem S8 (hm : Mem I0 B A h w) {n : Nat} {p : Place} (hp : A n = some p) (hl : p.st = .live) {g : Nat} (hg : p.Fl = some g) {new : Array Value} {ob ob' : OB} (hlk : look h n = some (false, ob))
    (hob : Hn A w A (w.setRow g new) → Cn (Bl I0 B A (w.setRow g new)) (w.setRow g new) p (false, ob')) :
    Mem I0 B A (upd h n (false, ob')) (w.setRow g new) ∧ Hn A w A (w.setRow g new) := by
  have hother : ∀ b, b ≠ g → (w.setRow g new).heap[b]? = w.heap[b]? := fun b hb => setRow_other w g b _ hb
  have hsize : (w.setRow g new).heap.size = w.heap.size := by simp [World.setRow]
  have hmv : Hn A w A (w.setRow g new) := by
    refine ⟨by rw [hsize]; exact Nat.le_refl _, fun m q hq => ⟨q, hq, by by_cases hd : q.st = .dead; exact .inl hd; exact .inr ⟨hd, rfl⟩⟩, fun m q b hq hql hqb _ => ⟨m, q, hq, hql, hqb⟩, fun b _ hb => hother b (fun e => hb n p hp hl (by rw [e]; exact hg))⟩
  refine ⟨⟨by rw [hsize]; exact hm.hB, hm.I0lt, fun m q fo hq hlo => ?_, fun m q b hq hd hb => by rw [hsize]; exact hm.blkB m q b hq hd hb, hm.inj⟩, hmv⟩
  rw [Fe hlk] at hlo
  by_cases hmn : m = n
  · subst hmn
    rw [if_pos rfl] at hlo
    cases hlo
    rw [hp] at hq; cases hq
    exact hob hmv
  · rw [if_neg hmn] at hlo
    have h1 := hm.obj m q fo hq hlo
    by_cases hd : q.st = .dead
    · obtain ⟨fz, ob⟩ := fo
      cases ob with
      | dead => exact hd
      | box cs => exact absurd hd (Bo (Nt hm hq hlo).1)
      | ints e k l => exact absurd hd (Bo (Dy hm hq hlo).1)
      | recs e sz l => exact absurd hd (Bo (D8 hm hq hlo).1)
    · exact Cn.Cw hmv.Cw rfl rfl (fun b hb => hother b (fun e => hmn (hm.inj m n q p b hq hp hd (by rw [hl]; simp) hb (by rw [hg, e])))) fo h1
def Qj (ns : List Nat) (A : Nat → Option Place) (w w' : World) : Prop := ∀ m q b, m ∉ ns → A m = some q → q.st ≠ .dead → q.Fl = some b → w'.heap[b]? = w.heap[b]?
theorem O8 (hm : Mem I0 B A h w) {n : Nat} {p : Place} (hp : A n = some p) (hd : p.st ≠ .dead) {g : Nat} (hg : p.Fl = some g) (new : Array Value) : Qj [n] A w (w.setRow g new) := fun m q b hmn hq hqd hqb =>
  setRow_other w g b _ fun e => hmn (by rw [hm.inj m n q p b hq hp hqd hd hqb (by rw [hg, e])]; exact List.mem_singleton.2 rfl)
theorem storeD_ok (hty : ∀ t ti, E.ty t = some ti → Bv P t ti) (hm : Mem I0 B A h w) {a v : DV} {va vv : Value} (ha : Ak (Bl I0 B A w) w a va) (hv : Ak (Bl I0 B A w) w v vv) {req : Bool} {h' : C4}
    (hs : S9 E h t a v = some (req, h')) (hreq : req = true) :
    ∃ w', (Instr.storeAt t va vv).run P w = .ok () w' ∧ Mem I0 B A h' w' ∧ Hn A w A w' ∧ Below B w w' ∧ (∀ m, (look h' m).isSome = (look h m).isSome) ∧ Qj (mutA a) A w w' ∧ (∀ m, m ∉ mutA a → look h' m = look h m) ∧ (∀ m, m ∈ mutA a → look h m ≠ none) := by
  subst hreq
  unfold S9 at hs
  cases hT : E.ty t with
  | none => simp [hT] at hs
  | some ti =>
  simp only [hT, Option.bind_some] at hs
  by_cases hc : (Me v && (cells v).length == ti.size && (cells v).all Q0) = true
  · rw [hc, cond_true] at hs
    simp only [Bool.and_eq_true, beq_iff_eq] at hc
    obtain ⟨⟨hw, hcl⟩, hfl⟩ := hc
    have hcr := Tz hw hv
    have hone := Aah hfl hcr
    have hvl : vv.cells.toList.length = ti.size := by rw [← hcr.length]; exact hcl
    have hsize := (hty _ _ hT).G9 w
    have run : ∀ g o (cur : Array Value) e, va = .pointer (some ⟨g, o, none⟩) → w.heap[g]? = some (.cells cur e (0, 0)) → o + vv.cells.toList.length ≤ cur.size →
        (Instr.storeAt t va vv).run P w = .ok () (w.setRow g (cur.toList.take o ++ vv.cells.toList ++ cur.toList.drop (o + vv.cells.toList.length)).toArray) := by
      intro g o cur e hva hg hle
      have h1 := run_storeCells_at P g o e vv.cells.toList 0 cur w hg (by simpa using hle) hone
      simp only [Nat.add_zero] at h1
      have hsz : ¬ vv.cells.size ≠ ti.size := by simp only [Array.length_toList] at hvl; simp [hvl]
      simp only [Instr.storeAt, hva, Instr.sureAddr, Sem.run_bind, Sem.run_pure, Result.andThen_ok, storeVar, hsize, if_neg hsz, h1]
    have setB : ∀ g (new : Array Value), B ≤ g → Below B w (w.setRow g new) := fun g new hg =>
      ⟨rfl, rfl, rfl, by simp [World.setRow], fun k hk => setRow_other w g k _ (by omega)⟩
    split at hs
    · rename_i n i j
      simp only [Ak] at ha
      obtain ⟨_, p, hp, hd⟩ := ha
      split at hs
      · rename_i cs hlk
        by_cases hq : (i == 0 && decide (j + ti.size ≤ cs.length)) = true
        · rw [hq, cond_true, Option.some.injEq, Prod.mk.injEq] at hs
          obtain ⟨_, rfl⟩ := hs
          simp only [Bool.and_eq_true, beq_iff_eq, decide_eq_true_eq] at hq
          obtain ⟨hst, b, e, cur, hk, hh, hls⟩ := Nt hm hp hlk
          have hd := hd.resolve_left (Bo hst)
          unfold Hw at hd; rw [hk] at hd
          obtain ⟨_, hva⟩ := hd
          have hle : j + vv.cells.toList.length ≤ cur.size := by have := hls.length; simp only [Array.length_toList] at this hvl ⊢; omega
          have hblk : p.Fl = some b := by unfold Place.Fl; rw [hk]
          have hBb := (hm.blkB n p b hp (Bo hst) hblk).1
          obtain ⟨h1, h2⟩ := S8 hm hp hst hblk (new := (cur.toList.take j ++ vv.cells.toList ++ cur.toList.drop (j + vv.cells.toList.length)).toArray) (ob' := .box (Is cs j (cells v))) hlk (fun hmv => by
            unfold Cn
            refine ⟨hst, b, e, _, hk, setRow_heap w b cur _ e _ hh, ?_⟩
            exact R4 (A4.Cw hmv.Cw _ _ hls) (A4.Cw hmv.Cw _ _ hcr) (by rw [hcl]; exact hq.2))
          exact ⟨_, run b j cur e hva hh hle, h1, h2, setB _ _ hBb, fun m => by rw [Fe hlk]; split <;> simp_all, O8 hm hp (Bo hst) hblk _, fun m hmn => by rw [Fe hlk, if_neg (fun e => hmn (by rw [e]; exact List.mem_singleton.2 rfl))], fun m hmn => by rw [List.mem_singleton.1 hmn, hlk]; simp⟩
        · simp only [Bool.not_eq_true] at hq; rw [hq] at hs; simp at hs
      · rename_i e k l hlk
        split at hs
        · rename_i k' x
          by_cases hq : (j == 0 && decide (k = k')) = true
          · rw [hq, cond_true, Option.some.injEq, Prod.mk.injEq] at hs
            obtain ⟨hlt, rfl⟩ := hs
            simp only [Bool.and_eq_true, beq_iff_eq, decide_eq_true_eq] at hq hlt
            obtain ⟨rfl, rfl⟩ := hq
            obtain ⟨hst, sv, hk, ho⟩ := Dy hm hp hlk
            have hd := hd.resolve_left (Bo hst)
            obtain ⟨g, cap, rfl, _, _⟩ := E8 ho (by omega)
            unfold Hw at hd; rw [hk] at hd
            simp only [Nat.mul_one, Nat.add_zero] at hd
            simp only [Ak] at hv; subst hv
            have hc1 : (Value.int k x).cells.toList = [.int k x] := rfl
            obtain ⟨cur, hh, hle, hrow⟩ := Qr ho (vs := [.int k x]) (o := i) (by simp; omega)
            have hblk : p.Fl = some g := by unfold Place.Fl; rw [hk]; rfl
            have hBb := (hm.blkB n p g hp (Bo hst) hblk).1
            obtain ⟨h1, h2⟩ := S8 hm hp hst hblk (new := (cur.toList.take i ++ [Value.int k x] ++ cur.toList.drop (i + [Value.int k x].length)).toArray) (ob' := .ints e k (l.set i x)) hlk (fun hmv => by
              unfold Cn
              refine ⟨hst, _, hk, ?_⟩
              have e1 : (l.set i x).map (Value.int k) = (l.map (Value.int k)).take i ++ [.int k x] ++ (l.map (Value.int k)).drop (i + [Value.int k x].length) := by
                rw [List.set_eq_take_append_cons_drop, if_pos hlt]
                simp
              rw [e1, List.length_set]
              exact hrow)
            exact ⟨_, run g i cur e hd hh hle, h1, h2, setB _ _ hBb, fun m => by rw [Fe hlk]; split <;> simp_all, O8 hm hp (Bo hst) hblk _, fun m hmn => by rw [Fe hlk, if_neg (fun e => hmn (by rw [e]; exact List.mem_singleton.2 rfl))], fun m hmn => by rw [List.mem_singleton.1 hmn, hlk]; simp⟩
          · simp only [Bool.not_eq_true] at hq; rw [hq] at hs; simp at hs
        · cases hs
      · rename_i e sz l hlk
        cases hlow : J2 h (cells v) with
        | none => simp [hlow] at hs
        | some q =>
        obtain ⟨vs, ns⟩ := q
        simp only [hlow, Option.bind_some] at hs
        by_cases hq : (decide (j + ti.size ≤ sz) && ns.isEmpty) = true
        · rw [hq, cond_true, Option.some.injEq, Prod.mk.injEq] at hs
          obtain ⟨hlt, rfl⟩ := hs
          simp only [Bool.and_eq_true, decide_eq_true_eq, List.isEmpty_iff] at hq hlt
          obtain ⟨hq, rfl⟩ := hq
          obtain ⟨hst, hsz, sv, rows, hk, hrr, hlen, ho⟩ := D8 hm hp hlk
          have hd := hd.resolve_left (Bo hst)
          obtain ⟨g, cap, rfl, _, _⟩ := E8 ho (by omega)
          unfold Hw at hd; rw [hk] at hd
          have hlv := Nc (V6 hm 8) (cells v) _ vs [] hlow hcr
          have hvl2 : vs.length = ti.size := by rw [hlv.length]; exact hvl
          have hli : l[i]? = some (l.getD i []) := by simp [List.getD, hlt]
          obtain ⟨row, hrow, hlr⟩ := hrr.get i _ hli
          have hrl := (hlen row (List.mem_of_getElem? hrow)).1
          have hin : i * sz + j + vv.cells.toList.length ≤ l.length * sz := by
            have := Nat.mul_le_mul_right sz (show i + 1 ≤ l.length by omega)
            rw [Nat.succ_mul] at this; omega
          obtain ⟨cur, hh, hle, hrow'⟩ := Qr ho (vs := vv.cells.toList) (o := i * sz + j) hin
          have hblk : p.Fl = some g := by unfold Place.Fl; rw [hk]; rfl
          have hBb := (hm.blkB n p g hp (Bo hst) hblk).1
          obtain ⟨h1, h2⟩ := S8 hm hp hst hblk (new := (cur.toList.take (i * sz + j) ++ vv.cells.toList ++ cur.toList.drop (i * sz + j + vv.cells.toList.length)).toArray) (ob' := .recs e sz (l.set i (Is (l.getD i []) j vs))) hlk (fun hmv => by
            unfold Cn
            have hb := hmv.Cw (I0 := I0) (B := B)
            have wd : I3 (I1 (seen I0 B A w [])) (Bl I0 B A w).bare := ⟨fun b hb' => hb'.elim id (fun ⟨_, _, hn, _⟩ => absurd hn (by simp)), rfl, fun _ => rfl, fun _ => rfl⟩
            refine ⟨hst, hsz, _, rows.set i (row.take j ++ vv.cells.toList ++ row.drop (j + vv.cells.toList.length)), hk, ?_, ?_, ?_⟩
            · refine (Co.Cw hb.bare _ _ hrr).set i ?_
              exact R4 (A4.Cw hb.bare _ _ hlr) (A4.Cw hb.bare _ _ (A4.Eo wd _ _ hlv)) (by rw [hlr.length, hrl]; omega)
            · intro r hr
              rcases List.mem_or_eq_of_mem_set hr with hr | rfl
              · exact hlen r hr
              · refine ⟨by simp only [List.length_append, List.length_take, List.length_drop]; omega, fun u hu => ?_⟩
                have hro := (hlen row (List.mem_of_getElem? hrow)).2
                simp only [List.mem_append] at hu
                rcases hu with (hu | hu) | hu
                · exact hro u (List.mem_of_mem_take hu)
                · exact hone u hu
                · exact hro u (List.mem_of_mem_drop hu)
            · rw [Ud (fun r hr => (hlen r hr).1) i row hrow j _ (by omega), List.length_set]
              exact hrow')
          exact ⟨_, run g _ cur e hd hh hle, h1, h2, setB _ _ hBb, fun m => by rw [Fe hlk]; split <;> simp_all, O8 hm hp (Bo hst) hblk _, fun m hmn => by rw [Fe hlk, if_neg (fun e => hmn (by rw [e]; exact List.mem_singleton.2 rfl))], fun m hmn => by rw [List.mem_singleton.1 hmn, hlk]; simp⟩
        · simp only [Bool.not_eq_true] at hq; rw [hq] at hs; simp at hs
      · cases hs
    · cases hs
  · simp only [Bool.not_eq_true] at hc; rw [hc] at hs; simp at hs
end
end Go.Den
namespace Go.Den
open Go.RowKit (Below)
section
variable {P : Program} {E : Env} {I0 : Nat → Prop} {B : Nat} {A : Nat → Option Place} {h : C4} {w : World} {t : TypeId}
theorem N9 {ty e : TypeId} {i : TypeInfo} (ht : P.underlying t = some (.slice e)) (hi : P.info? e = some i) {v : Value} {n size : Nat} {xs : List Value} (hown : w.ownsRow B e size v n xs) (a : Option Addr) (c : Nat) :
    (Builtin.append_ #[t, t] ty #[v, .slice a 0 c]).run P w = .ok v w := by
  rcases E7 hown with ⟨rfl, rfl⟩ | ⟨g, cap, rfl, hc⟩
  · cases a <;> simp [Builtin.append_, run_underlying ht, sizeOf, typeInfo, hi, Builtin.lenOf, Builtin.firstCells, loadCells, loadCellsFrom]
  · cases a <;> simp [Builtin.append_, run_underlying ht, sizeOf, typeInfo, hi, Builtin.lenOf, Builtin.firstCells, loadCells, loadCellsFrom, hc, storeCells]
theorem N5 {ty e : TypeId} {ei : TI} (hu : P.underlying t = some (.slice e)) (hf : Bv P e ei) (hb : ei.bytes ≤ 128) (hs : 0 < ei.size) (hB : B ≤ w.heap.size) {v : Value} {n : Nat} {xs : List Value} (hown : w.ownsRow B e ei.size v n xs)
    {a : Option Addr} {m c : Nat} {news : List Value} (hl : news.length = m * ei.size) (hsrc : m = 0 ∨ ∃ b o, a = some ⟨b, o, none⟩ ∧ E1 w b o news) (h1 : ∀ u ∈ news, u.oneCell' = true) (hlim : n + m ≤ Lj ei.bytes) :
    ∃ v' w', (Builtin.append_ #[t, t] ty #[v, .slice a m c]).run P w = .ok v' w' ∧ w'.ownsRow B e ei.size v' (n + m) (xs ++ news) ∧ w.grownBy w' v.ownBlock ∧ (v'.ownBlock = v.ownBlock ∨ ∀ b, v'.ownBlock = some b → b = w.heap.size) := by
  obtain ⟨i, z, hi, hsz, hby, hz, _, hzs, _⟩ := hf.info
  rcases hsrc with rfl | ⟨b, o, rfl, hrd⟩
  · have : news = [] := List.eq_nil_of_length_eq_zero (by omega)
    subst this
    refine ⟨v, w, N9 hu hi hown a c, by simpa using hown, ⟨rfl, rfl, rfl, Nat.le_refl _, fun _ _ _ => rfl⟩, .inl rfl⟩
  · have hnews : ∀ j u, news[j]? = some u → w.cell? ((⟨b, o, none⟩ : Addr).add j) = some u := fun j u hj => by rw [Addr.add_lit]; exact hrd j u hj
    have hbytes : (n + m) * ei.bytes ≤ 140737488355328 := Ub hlim hb
    by_cases hm0 : m = 0
    · subst hm0
      have : news = [] := List.eq_nil_of_length_eq_zero (by omega)
      subst this
      exact ⟨v, w, N9 hu hi hown _ c, by simpa using hown, ⟨rfl, rfl, rfl, Nat.le_refl _, fun _ _ _ => rfl⟩, .inl rfl⟩
    · obtain ⟨v', w', hrun, hown', hg, _⟩ := run_append_own (P := P) w B t ty e i z ei.size ei.bytes hu hi hz hsz hby hzs hs v n xs hown ⟨b, o, none⟩ m c news hl hnews h1 (Wb hlim) hbytes hB
      refine ⟨v', w', hrun, hown', hg, ?_⟩
      have h63 : n + m ≤ 9223372036854775807 := by have := Wc hlim; omega
      rcases hown.2 with ⟨rfl, rfl⟩ | ⟨g, cap, cur, rfl, hbg, hgc, hnc, hcm, hcs, htake⟩
      · have hr := run_append_nil (P := P) w t ty e i z hu hi hz ⟨b, o, none⟩ m c news (by rw [hsz]; exact hl) hnews (by omega) (by omega) (by rw [hby]; rw [Nat.zero_add] at hbytes; omega)
        rw [hr] at hrun
        cases hrun
        exact .inr fun b hb => by cases hb; rfl
      · by_cases hroom : n + m ≤ cap
        · have hfit : n * i.size + news.length ≤ cur.size := by rw [hsz, hl, hcs, ← Nat.add_mul]; exact Nat.mul_le_mul_right _ hroom
          have hr := run_append_room (P := P) w t ty e i hu hi g n cap cur hgc ⟨b, o, none⟩ m c news (by rw [hsz]; exact hl) hnews h1 hroom hfit
          rw [hr] at hrun
          cases hrun
          exact .inl rfl
        · have holds : ∀ j u, xs[j]? = some u → w.cell? ((⟨g, 0, none⟩ : Addr).add j) = some u := hown.cells (g := g) rfl
          have hr := run_append_grow (P := P) w t ty e i z hu hi hz ⟨g, 0, none⟩ n cap xs (by rw [hsz]; exact hown.1) holds ⟨b, o, none⟩ m c news (by rw [hsz]; exact hl) hnews (by omega) (by omega) (growslice_fits (by omega) (by rw [hby]; exact hbytes))
          rw [hr] at hrun
          cases hrun
          exact .inr fun b hb => by cases hb; rfl
theorem Yh (hm : Mem I0 B A h w) {d : DV} {v : Value} (hv : Ak (Bl I0 B A w) w d v) {k : IntKind} {l : List Int} (h0 : Ml h k d = some l) :
    ∃ a m c, v = .slice a m c ∧ m = l.length ∧ (m = 0 ∨ ∃ b o, a = some ⟨b, o, none⟩ ∧ E1 w b o (l.map (Value.int k))) := by
  have plain : ∀ {a : Option Addr} {cap : Nat} {l : List Int} {ok : Nat → Prop}, (l = [] ∨ ∃ b o, a = some ⟨b, o, none⟩ ∧ ok b ∧ ∀ (i : Nat) n, l[i]? = some n → w.cell? ⟨b, o + i, none⟩ = some (.int k n)) →
      (l.length = 0 ∨ ∃ b o, a = some ⟨b, o, none⟩ ∧ E1 w b o (l.map (Value.int k))) := by
    intro a cap l ok hh
    refine hh.imp (fun e => by rw [e]; rfl) fun ⟨b, o, e, _, hr⟩ => ⟨b, o, e, fun i u hu => ?_⟩
    rw [List.getElem?_map] at hu
    cases hli : l[i]? with
    | none => rw [hli] at hu; cases hu
    | some n => rw [hli] at hu; cases hu; exact hr i n hli
  unfold Ml at h0
  split at h0
  · simp only [Option.some.injEq] at h0; subst h0; simp only [Ak] at hv; exact ⟨none, 0, 0, hv, rfl, .inl rfl⟩
  · cases h0
  · rename_i g k' l' hg
    by_cases hk : k = k'
    · subst hk
      simp only [decide_true, cond_true, Option.some.injEq] at h0; subst h0
      cases g with
      | own i e => exact absurd rfl (hg i e)
      | arg => simp only [Ak] at hv; obtain ⟨a, cap, rfl, _, hh⟩ := hv; exact ⟨a, _, cap, rfl, rfl, plain (cap := cap) hh⟩
      | fresh => simp only [Ak] at hv; obtain ⟨a, cap, rfl, _, hh⟩ := hv; exact ⟨a, _, cap, rfl, rfl, plain (cap := cap) hh⟩
    · simp [hk] at h0
  · rename_i n
    simp only [Ak] at hv
    obtain ⟨_, p, hp, hd⟩ := hv
    split at h0
    · rename_i fz e k' l' hlk
      by_cases hk : k = k'
      · subst hk
        simp only [decide_true, cond_true, Option.some.injEq] at h0; subst h0
        obtain ⟨hst, sv, hk, ho⟩ := Dy hm hp hlk
        obtain ⟨size, hk'⟩ := hd.resolve_left (Bo hst)
        rw [hk] at hk'; cases hk'
        obtain ⟨a, cap, rfl, _, hh⟩ := Jf hk ho (E6 ho) (ok := fun _ => True) (fun _ _ => trivial)
        simp only [List.drop_zero, List.take_length] at hh
        refine ⟨a, _, cap, ?_, rfl, plain (cap := cap) hh⟩
        simp
      · simp [hk] at h0
    · cases h0
  · rename_i n off len
    simp only [Ak] at hv
    obtain ⟨_, p, hp, hd⟩ := hv
    split at h0
    · rename_i fz e k' l' hlk
      by_cases hk : k = k'
      · subst hk
        simp only [decide_true, cond_true, Option.some.injEq] at h0; subst h0
        obtain ⟨hst, sv, hk, ho⟩ := Dy hm hp hlk
        obtain ⟨sv', size, hk', hs⟩ := hd.resolve_left (Bo hst)
        rw [hk] at hk'; cases hk'
        obtain ⟨a, cap, rfl, _, hh⟩ := Jf hk ho hs (ok := fun _ => True) (fun _ _ => trivial)
        exact ⟨a, _, cap, rfl, rfl, plain (cap := cap) hh⟩
      · simp [hk] at h0
    · cases h0
  · cases h0
theorem Yg (hm : Mem I0 B A h w) {d : DV} {v : Value} (hv : Ak (Bl I0 B A w) w d v) {sz : Nat} {l : List (List DV)} (h0 : Mk h sz d = some l) :
    ∃ a m c rows, v = .slice a m c ∧ m = l.length ∧ Co (Bl I0 B A w).bare w l rows ∧ (∀ r ∈ rows, r.length = sz ∧ ∀ u ∈ r, u.oneCell' = true) ∧ (m = 0 ∨ ∃ b o, a = some ⟨b, o, none⟩ ∧ E1 w b o rows.flatten) := by
  have plain : ∀ {a : Option Addr} {l : List (List DV)} {ok : Nat → Prop}, (l = [] ∨ ∃ b o rows, a = some ⟨b, o, none⟩ ∧ ok b ∧ Co (Bl I0 B A w).bare w l rows ∧ (∀ r ∈ rows, r.length = sz ∧ ∀ u ∈ r, u.oneCell' = true) ∧ ∀ (i : Nat) u, rows.flatten[i]? = some u → w.cell? ⟨b, o + i, none⟩ = some u) →
      ∃ rows, Co (Bl I0 B A w).bare w l rows ∧ (∀ r ∈ rows, r.length = sz ∧ ∀ u ∈ r, u.oneCell' = true) ∧ (l.length = 0 ∨ ∃ b o, a = some ⟨b, o, none⟩ ∧ E1 w b o rows.flatten) := by
    intro a l ok hh
    rcases hh with rfl | ⟨b, o, rows, e, _, hrr, hlen, hr⟩
    · exact ⟨[], by simp [Co], by simp, .inl rfl⟩
    · exact ⟨rows, hrr, hlen, .inr ⟨b, o, e, hr⟩⟩
  unfold Mk at h0
  split at h0
  · simp only [Option.some.injEq] at h0; subst h0; simp only [Ak] at hv; exact ⟨none, 0, 0, [], hv, rfl, by simp [Co], by simp, .inl rfl⟩
  · cases h0
  · rename_i g sz' l' hg
    by_cases hk : sz = sz'
    · subst hk
      simp only [beq_self_eq_true, cond_true, Option.some.injEq] at h0; subst h0
      cases g with
      | own i e => exact absurd rfl (hg i e)
      | arg => simp only [Ak] at hv; obtain ⟨a, cap, rfl, _, hh⟩ := hv; obtain ⟨rows, q1, q2, q3⟩ := plain hh; exact ⟨a, _, cap, rows, rfl, rfl, q1, q2, q3⟩
      | fresh => simp only [Ak] at hv; obtain ⟨a, cap, rfl, _, hh⟩ := hv; obtain ⟨rows, q1, q2, q3⟩ := plain hh; exact ⟨a, _, cap, rows, rfl, rfl, q1, q2, q3⟩
    · rw [show (sz == sz') = false by simpa using hk] at h0; simp at h0
  · rename_i n
    simp only [Ak] at hv
    obtain ⟨_, p, hp, hd⟩ := hv
    split at h0
    · rename_i fz e sz' l' hlk
      by_cases hk : sz = sz'
      · subst hk
        simp only [beq_self_eq_true, cond_true, Option.some.injEq] at h0; subst h0
        obtain ⟨hst, _, sv, rows, hk, hrr, hlen, ho⟩ := D8 hm hp hlk
        obtain ⟨size, hk'⟩ := hd.resolve_left (Bo hst)
        rw [hk] at hk'; cases hk'
        obtain ⟨a, cap, rfl, _, hh⟩ := Je hk hrr hlen ho (E6 ho) (ok := fun _ => True) (fun _ _ => trivial)
        simp only [List.drop_zero, List.take_length] at hh
        obtain ⟨rows', q1, q2, q3⟩ := plain hh
        refine ⟨a, _, cap, rows', ?_, rfl, q1, q2, q3⟩
        simp
      · rw [show (sz == sz') = false by simpa using hk] at h0; simp at h0
    · cases h0
  · rename_i n off len
    simp only [Ak] at hv
    obtain ⟨_, p, hp, hd⟩ := hv
    split at h0
    · rename_i fz e sz' l' hlk
      by_cases hk : sz = sz'
      · subst hk
        simp only [beq_self_eq_true, cond_true, Option.some.injEq] at h0; subst h0
        obtain ⟨hst, _, sv, rows, hk, hrr, hlen, ho⟩ := D8 hm hp hlk
        obtain ⟨sv', size, hk', hs⟩ := hd.resolve_left (Bo hst)
        rw [hk] at hk'; cases hk'
        obtain ⟨a, cap, rfl, _, hh⟩ := Je hk hrr hlen ho hs (ok := fun _ => True) (fun _ _ => trivial)
        obtain ⟨rows', q1, q2, q3⟩ := plain hh
        exact ⟨a, _, cap, rows', rfl, rfl, q1, q2, q3⟩
      · rw [show (sz == sz') = false by simpa using hk] at h0; simp at h0
    · cases h0
  · cases h0
def Qp (A : Nat → Option Place) (old : Option Nat) (nm : Nat) (p : Place) : Nat → Option Place := fun m =>
  if m = nm then some p else if old = some m then (A m).map fun q => { q with st := .dead } else A m
theorem N6 (hm : Mem I0 B A h w) {nm : Nat} (hnm : A nm = none) {old : Option Nat} {v v' : Value} {sz : Nat} {w' : World} (hg : w.grownBy w' v.ownBlock)
    (hold : ∀ b, v.ownBlock = some b → ∃ n p, old = some n ∧ A n = some p ∧ p.st = .live ∧ p.Fl = some b)
    (hblk : v'.ownBlock = v.ownBlock ∨ ∀ b, v'.ownBlock = some b → b = w.heap.size)
    {h' : C4} {ob : OB} (hlk : ∀ m fo, look h' m = some fo → (m = nm ∧ fo = (false, ob)) ∨ (m ≠ nm ∧ old = some m ∧ fo = (false, .dead)) ∨ (m ≠ nm ∧ old ≠ some m ∧ look h m = some fo))
    (hlt : ∀ b, v'.ownBlock = some b → B ≤ b ∧ b < w'.heap.size)
    (hob : Hn A w (Qp A old nm ⟨.live, .row v' sz⟩) w' → Cn (Bl I0 B (Qp A old nm ⟨.live, .row v' sz⟩) w') w' ⟨.live, .row v' sz⟩ (false, ob)) :
    Mem I0 B (Qp A old nm ⟨.live, .row v' sz⟩) h' w' ∧ Hn A w (Qp A old nm ⟨.live, .row v' sz⟩) w' ∧ Below B w w' := by
  have inv : ∀ m q, Qp A old nm ⟨.live, .row v' sz⟩ m = some q → (m = nm ∧ q = ⟨.live, .row v' sz⟩) ∨ (m ≠ nm ∧ old = some m ∧ ∃ r, A m = some r ∧ q = { r with st := .dead }) ∨ (m ≠ nm ∧ old ≠ some m ∧ A m = some q) := by
    intro m q hq
    unfold Qp at hq
    split at hq
    · cases hq; exact .inl ⟨‹_›, rfl⟩
    · split at hq
      · cases hA : A m with
        | none => simp [hA] at hq
        | some r => simp only [hA, Option.map_some, Option.some.injEq] at hq; exact .inr (.inl ⟨‹_›, ‹_›, r, rfl, hq.symm⟩)
      · exact .inr (.inr ⟨‹_›, ‹_›, hq⟩)
  have hmv : Hn A w (Qp A old nm ⟨.live, .row v' sz⟩) w' := by
    refine ⟨hg.size, fun m q hq => ?_, fun m q b hq hl hb hlt => ?_, fun b hb hnl => hg.block b hb (fun e => ?_)⟩
    · have hne : m ≠ nm := fun e => by rw [e, hnm] at hq; cases hq
      unfold Qp
      rw [if_neg hne]
      by_cases ho : old = some m
      · rw [if_pos ho, hq]; exact ⟨_, rfl, .inl rfl⟩
      · rw [if_neg ho]; exact ⟨q, hq, by by_cases hd : q.st = .dead; exact .inl hd; exact .inr ⟨hd, rfl⟩⟩
    · rcases inv m q hq with ⟨_, rfl⟩ | ⟨_, _, r, _, rfl⟩ | ⟨_, _, hA⟩
      · rcases hblk with e | e
        · have hb' : v.ownBlock = some b := by rw [← e]; exact hb
          obtain ⟨n, p, _, h2, h3, h4⟩ := hold b hb'
          exact ⟨n, p, h2, h3, h4⟩
        · have := e b hb; omega
      · cases hl
      · exact ⟨m, q, hA, hl, hb⟩
    · obtain ⟨n, p, _, h2, h3, h4⟩ := hold b e.symm
      exact hnl n p h2 h3 h4
  refine ⟨⟨Nat.le_trans hm.hB hg.size, hm.I0lt, fun m q fo hq hlo => ?_, fun m q b hq hd hb => ?_, fun m m' q q' b hq hq' hd hd' hb hb' => ?_⟩, hmv, ⟨hg.os, hg.tape, hg.output, hg.size, fun k hk => hg.block k (Nat.lt_of_lt_of_le hk hm.hB) (fun e => ?_)⟩⟩
  · rcases inv m q hq with ⟨rfl, rfl⟩ | ⟨hne, ho, r, hA, rfl⟩ | ⟨hne, ho, hA⟩
    · rcases hlk m fo hlo with ⟨_, rfl⟩ | ⟨hne, _⟩ | ⟨hne, _⟩
      · exact hob hmv
      · exact absurd rfl hne
      · exact absurd rfl hne
    · rcases hlk m fo hlo with ⟨e, _⟩ | ⟨_, _, rfl⟩ | ⟨_, ho', _⟩
      · exact absurd e hne
      · unfold Cn; rfl
      · exact absurd ho ho'
    · rcases hlk m fo hlo with ⟨e, _⟩ | ⟨_, ho', _⟩ | ⟨_, _, hl⟩
      · exact absurd e hne
      · exact absurd ho' ho
      · have h1 := hm.obj m q fo hA hl
        by_cases hd : q.st = .dead
        · obtain ⟨fz, ob⟩ := fo
          cases ob with
          | dead => exact hd
          | box cs => exact absurd hd (Bo (Nt hm hA hl).1)
          | ints e k l => exact absurd hd (Bo (Dy hm hA hl).1)
          | recs e sz l => exact absurd hd (Bo (D8 hm hA hl).1)
        · refine Cn.Cw hmv.Cw rfl rfl (fun b hb => hg.block b (hm.blkB m q b hA hd hb).2 (fun e => ?_)) fo h1
          obtain ⟨n, p, h1, h2, h3, h4⟩ := hold b e.symm
          have := hm.inj m n q p b hA h2 hd (by rw [h3]; simp) hb h4
          subst this
          exact ho h1
  · rcases inv m q hq with ⟨_, rfl⟩ | ⟨_, _, r, _, rfl⟩ | ⟨_, _, hA⟩
    · exact hlt b hb
    · exact absurd rfl hd
    · have := hm.blkB m q b hA hd hb; have := hg.size; omega
  · have hfreshcase : ∀ m q, Qp A old nm ⟨.live, .row v' sz⟩ m = some q → q.st ≠ .dead → q.Fl = some b → m = nm ∨ (∃ r, A m = some r ∧ r.st ≠ .dead ∧ r.Fl = some b ∧ old ≠ some m) := by
      intro m q hq hd hb
      rcases inv m q hq with ⟨e, _⟩ | ⟨_, _, r, _, rfl⟩ | ⟨_, ho, hA⟩
      · exact .inl e
      · exact absurd rfl hd
      · exact .inr ⟨q, hA, hd, hb, ho⟩
    have hclash : ∀ m q m' r, m = nm → Qp A old nm ⟨.live, .row v' sz⟩ m = some q → q.Fl = some b → A m' = some r → r.st ≠ .dead → r.Fl = some b → old ≠ some m' → False := by
      intro m q m' r e hq hb hA hd hrb ho
      rcases inv m q hq with ⟨_, rfl⟩ | ⟨hne, _⟩ | ⟨hne, _⟩
      · have hb' : v'.ownBlock = some b := hb
        rcases hblk with e' | e'
        · rw [e'] at hb'
          obtain ⟨n, p, h1, h2, h3, h4⟩ := hold b hb'
          have := hm.inj m' n r p b hA h2 hd (by rw [h3]; simp) hrb h4
          subst this
          exact ho h1
        · have := e' b hb'
          have := (hm.blkB m' r b hA hd hrb).2
          omega
      · exact hne e
      · exact hne e
    rcases hfreshcase m q hq hd hb with e | ⟨r, hA, hrd, hrb, ho⟩
    · rcases hfreshcase m' q' hq' hd' hb' with e' | ⟨r', hA', hrd', hrb', ho'⟩
      · rw [e, e']
      · exact (hclash m q m' r' e hq hb hA' hrd' hrb' ho').elim
    · rcases hfreshcase m' q' hq' hd' hb' with e' | ⟨r', hA', hrd', hrb', ho'⟩
      · exact (hclash m' q' m r e' hq' hb' hA hrd hrb ho).elim
      · exact hm.inj m m' r r' b hA hA' hrd hrd' hrb hrb'
  · obtain ⟨n, p, _, h2, h3, h4⟩ := hold k e.symm
    have := (hm.blkB n p k h2 (by rw [h3]; simp) h4).1
    omega
end
end Go.Den
namespace Go.Den
open Go.RowKit (Below)
section
variable {P : Program} {E : Env} {I0 : Nat → Prop} {B : Nat} {A : Nat → Option Place} {h : C4} {w : World} {t : TypeId}
theorem appendD_ok (hty : ∀ t ti, E.ty t = some ti → Bv P t ti) (hm : Mem I0 B A h w) {nm : Nat} (hnm : A nm = none) {ty : TypeId} {s x v : DV} {vs vx : Value} (hs : Ak (Bl I0 B A w) w s vs) (hx : Ak (Bl I0 B A w) w x vx) {req : Bool} {h' : C4}
    (ha : Mc E h nm t s x = some (req, v, h')) (hreq : req = true) :
    ∃ v' w' A', (Builtin.append_ #[t, t] ty #[vs, vx]).run P w = .ok v' w' ∧ Mem I0 B A' h' w' ∧ Hn A w A' w' ∧ Below B w w' ∧ Ak (Bl I0 B A' w') w' v v' ∧
      (∀ m p, A' m = some p → A m = none → m = nm) ∧ (∀ m, (look h' m).isSome = (decide (m = nm) || (look h m).isSome)) ∧ Qj (Zo s) A w w' ∧ (∀ m q, m ∉ Zo s → A m = some q → A' m = some q) ∧
      (∀ m, m ∉ Zo s → m ≠ nm → look h' m = look h m) ∧ (∀ m, m ∈ Zo s → look h m ≠ none) ∧ look h nm = none := by
  subst hreq
  unfold Mc at ha
  split at ha
  · rename_i e _ hT
    have hu := (hty _ _ hT).desc
    simp only [B0] at hu
    cases hE : E.ty e with
    | none => simp [hE] at ha
    | some ei =>
    simp only [hE, Option.bind_some] at ha
    by_cases hq : (decide (ei.bytes ≤ 128) && decide (0 < ei.size) && (look h nm).isNone) = true
    · rw [hq, cond_true] at ha
      simp only [Bool.and_eq_true, decide_eq_true_eq, Option.isNone_iff_eq_none] at hq
      obtain ⟨⟨hq1, hq2⟩, hq3⟩ := hq
      have hei := hty _ _ hE
      have hne : ∀ {old : Option Nat} {p : Place} m q, Qp A old nm p m = some q → A m = none → m = nm := by
        intro old p m q hq hA
        unfold Qp at hq
        split at hq
        · assumption
        · split at hq
          · rw [hA] at hq; cases hq
          · rw [hA] at hq; cases hq
      have ltB : ∀ {w' : World} {sz n : Nat} {v' : Value} {xs : List Value}, w'.ownsRow B e sz v' n xs → ∀ b, v'.ownBlock = some b → B ≤ b ∧ b < w'.heap.size := fun ho b hb => ho.lt b hb
      have keepN : ∀ {w' : World}, w.grownBy w' none → Qj [] A w w' := fun hg m q b _ hq hqd hqb => hg.block b (hm.blkB m q b hq hqd hqb).2 (by simp)
      have sameN : ∀ {p : Place} m q, m ∉ ([] : List Nat) → A m = some q → Qp A none nm p m = some q := by
        intro p m q _ hq
        unfold Qp
        rw [if_neg (fun e => by rw [e, hnm] at hq; cases hq), if_neg (by simp)]
        exact hq
      have sameO : ∀ {n : Nat} {p : Place} m q, m ∉ [n] → A m = some q → Qp A (some n) nm p m = some q := by
        intro n p m q hn hq
        unfold Qp
        rw [if_neg (fun e => by rw [e, hnm] at hq; cases hq), if_neg (fun e => hn (by rw [Option.some.inj e]; exact List.mem_singleton.2 rfl))]
        exact hq
      have keepO : ∀ {n : Nat} {p : Place} {b' : Option Nat} {w' : World}, A n = some p → p.st ≠ .dead → (∀ b, b' = some b → p.Fl = some b) → w.grownBy w' b' → Qj [n] A w w' := fun {n p b' w'} hp hd hb hg m q b hn hq hqd hqb =>
        hg.block b (hm.blkB m q b hq hqd hqb).2 (fun e => hn (by rw [hm.inj m n q p b hq hp hqd hd hqb (hb b e.symm)]; exact List.mem_singleton.2 rfl))
      split at ha
      ·
        simp only [Ak] at hs; subst hs
        have hown : w.ownsRow B e ei.size (.slice none 0 0) 0 [] := World.ownsRow_nil w B e ei.size
        have hlk : ∀ ob m fo, look ((nm, false, ob) :: h) m = some fo → (m = nm ∧ fo = (false, ob)) ∨ (m ≠ nm ∧ (none : Option Nat) = some m ∧ fo = (false, .dead)) ∨ (m ≠ nm ∧ (none : Option Nat) ≠ some m ∧ look h m = some fo) := by
          intro ob m fo hl
          simp only [look] at hl
          by_cases e : nm = m
          · subst e; simp at hl; exact .inl ⟨rfl, hl.symm⟩
          · rw [show (nm == m) = false by simpa using e] at hl
            exact .inr (.inr ⟨fun e' => e e'.symm, by simp, hl⟩)
        have hsame : ∀ ob m, m ≠ nm → look ((nm, false, ob) :: h) m = look h m := by
          intro ob m hm'
          simp only [look, show (nm == m) = false by simpa using fun e : nm = m => hm' e.symm, cond_false]
        have hdom : ∀ ob m, (look ((nm, false, ob) :: h) m).isSome = (decide (m = nm) || (look h m).isSome) := by
          intro ob m
          simp only [look]
          by_cases e : nm = m
          · subst e; simp
          · rw [show (nm == m) = false by simpa using e]; simp [show ¬ m = nm from fun e' => e e'.symm]
        split at ha
        · rename_i k hk
          by_cases hs1 : ei.size = 1
          · simp only [hs1, beq_self_eq_true, cond_true] at ha
            cases hel : Ml h k x with
            | none => simp [hel] at ha
            | some l =>
              simp only [hel, Option.bind_some, Option.some.injEq, Prod.mk.injEq, decide_eq_true_eq] at ha
              obtain ⟨hlim, rfl, rfl⟩ := ha
              obtain ⟨a, m, c, rfl, rfl, hsrc⟩ := Yh hm hx hel
              obtain ⟨v', w', hrun, hown', hg, hb⟩ := N5 (P := P) (ty := ty) hu hei hq1 hq2 hm.hB hown (a := a) (c := c) (news := l.map (Value.int k)) (by rw [hs1]; simp) hsrc (by simp [Value.oneCell']) (by simpa using hlim)
              obtain ⟨h1, h2, h3⟩ := N6 hm hnm (old := none) (v := .slice none 0 0) (sz := 1) hg (fun b hb => by cases hb) hb (hlk (.ints e k l)) (ltB hown') (fun _ => by
                unfold Cn
                refine ⟨rfl, v', rfl, ?_⟩
                rw [hs1] at hown'
                have q := hown'
                simp only [Nat.zero_add, List.nil_append] at q
                exact q)
              exact ⟨v', w', _, hrun, h1, h2, h3, by simp only [Ak]; exact ⟨F3 hown', _, if_pos rfl, .inr ⟨1, rfl⟩⟩, hne, hdom _, keepN hg, sameN, fun m _ hmn => hsame _ m hmn, fun m hmn => absurd hmn (by simp [Zo]), hq3⟩
          · rw [show (ei.size == 1) = false by simpa using hs1] at ha; simp at ha
        · cases hel : Mk h ei.size x with
          | none => simp [hel] at ha
          | some l =>
            simp only [hel, Option.bind_some, Option.some.injEq, Prod.mk.injEq, decide_eq_true_eq] at ha
            obtain ⟨hlim, rfl, rfl⟩ := ha
            obtain ⟨a, m, c, rows, rfl, rfl, hrr, hlen, hsrc⟩ := Yg hm hx hel
            obtain ⟨v', w', hrun, hown', hg, hb⟩ := N5 (P := P) (ty := ty) hu hei hq1 hq2 hm.hB hown (a := a) (c := c) (news := rows.flatten) (by rw [Iz (fun r hr => (hlen r hr).1), hrr.length]) hsrc (fun u hu => by
                obtain ⟨r, hr, hur⟩ := List.mem_flatten.1 hu
                exact (hlen r hr).2 u hur) (by simpa using hlim)
            obtain ⟨h1, h2, h3⟩ := N6 hm hnm (old := none) (v := .slice none 0 0) (sz := ei.size) hg (fun b hb => by cases hb) hb (hlk (.recs e ei.size l)) (ltB hown') (fun hmv => by
              unfold Cn
              refine ⟨rfl, hq2, v', rows, rfl, Co.Cw (hmv.Cw (I0 := I0) (B := B)).bare _ _ hrr, hlen, ?_⟩
              have q := hown'
              simp only [Nat.zero_add, List.nil_append] at q
              exact q)
            exact ⟨v', w', _, hrun, h1, h2, h3, by simp only [Ak]; exact ⟨F3 hown', _, if_pos rfl, .inr ⟨_, rfl⟩⟩, hne, hdom _, keepN hg, sameN, fun m _ hmn => hsame _ m hmn, fun m hmn => absurd hmn (by simp [Zo]), hq3⟩
      ·
        rename_i n
        simp only [Ak] at hs
        obtain ⟨_, p, hp, hd⟩ := hs
        have hlk : ∀ {ob0 ob : OB}, look h n = some (false, ob0) → ∀ m fo, look ((nm, false, ob) :: upd h n (false, .dead)) m = some fo → (m = nm ∧ fo = (false, ob)) ∨ (m ≠ nm ∧ (some n : Option Nat) = some m ∧ fo = (false, .dead)) ∨ (m ≠ nm ∧ (some n : Option Nat) ≠ some m ∧ look h m = some fo) := by
          intro ob0 ob hl0 m fo hl
          simp only [look] at hl
          by_cases e : nm = m
          · subst e; simp at hl; exact .inl ⟨rfl, hl.symm⟩
          · rw [show (nm == m) = false by simpa using e] at hl
            simp only [cond_false] at hl
            rw [Fe hl0] at hl
            by_cases e' : m = n
            · subst e'; rw [if_pos rfl] at hl; cases hl; exact .inr (.inl ⟨fun e' => e e'.symm, rfl, rfl⟩)
            · rw [if_neg e'] at hl
              exact .inr (.inr ⟨fun e' => e e'.symm, fun e'' => e' (Option.some.inj e'').symm, hl⟩)
        have hsame : ∀ {ob0 ob : OB}, look h n = some (false, ob0) → ∀ m, m ∉ [n] → m ≠ nm → look ((nm, false, ob) :: upd h n (false, .dead)) m = look h m := by
          intro ob0 ob hl0 m hn hm'
          simp only [look, show (nm == m) = false by simpa using fun e : nm = m => hm' e.symm, cond_false]
          rw [Fe hl0, if_neg (fun e => hn (by rw [e]; exact List.mem_singleton.2 rfl))]
        have hdom : ∀ {ob0 ob : OB}, look h n = some (false, ob0) → ∀ m, (look ((nm, false, ob) :: upd h n (false, .dead)) m).isSome = (decide (m = nm) || (look h m).isSome) := by
          intro ob0 ob hl0 m
          simp only [look]
          by_cases e : nm = m
          · subst e; simp
          · rw [show (nm == m) = false by simpa using e]
            simp only [cond_false, show ¬ m = nm from fun e' => e e'.symm, decide_false, Bool.false_or]
            rw [Fe hl0]; split <;> simp_all
        split at ha
        · rename_i e' k l' hlo
          obtain ⟨hst, sv, hk, ho⟩ := Dy hm hp hlo
          obtain ⟨size, hk'⟩ := hd.resolve_left (Bo hst)
          rw [hk] at hk'; cases hk'
          cases hel : Ml h k x with
          | none => simp [hel] at ha
          | some l =>
            simp only [hel, Option.bind_some] at ha
            by_cases hc : (e == e' && ei.size == 1) = true
            · rw [hc, cond_true] at ha
              simp only [Option.some.injEq, Prod.mk.injEq, decide_eq_true_eq] at ha
              obtain ⟨hlim, rfl, rfl⟩ := ha
              simp only [Bool.and_eq_true, beq_iff_eq] at hc
              obtain ⟨rfl, hs1⟩ := hc
              obtain ⟨a, m, c, rfl, rfl, hsrc⟩ := Yh hm hx hel
              obtain ⟨v', w', hrun, hown', hg, hb⟩ := N5 (P := P) (ty := ty) hu hei hq1 hq2 hm.hB (by rw [hs1]; exact ho) (a := a) (c := c) (news := l.map (Value.int k)) (by rw [hs1]; simp) hsrc (by simp [Value.oneCell']) hlim
              obtain ⟨h1, h2, h3⟩ := N6 hm hnm (old := some n) (sz := 1) hg (fun b hb => ⟨n, p, rfl, hp, hst, by unfold Place.Fl; rw [hk]; exact hb⟩) hb (hlk (ob := .ints e k (l' ++ l)) hlo) (ltB hown') (fun _ => by
                unfold Cn
                refine ⟨rfl, v', rfl, ?_⟩
                rw [hs1] at hown'
                rw [List.length_append, List.map_append]
                exact hown')
              exact ⟨v', w', _, hrun, h1, h2, h3, by simp only [Ak]; exact ⟨F3 hown', _, if_pos rfl, .inr ⟨1, rfl⟩⟩, hne, hdom hlo, keepO hp (Bo hst) (fun b hb => by unfold Place.Fl; rw [hk]; exact hb) hg, sameO, fun m h1 h2 => hsame hlo m h1 h2, fun m hmn => by rw [List.mem_singleton.1 hmn, hlo]; simp, hq3⟩
            · simp only [Bool.not_eq_true] at hc; rw [hc] at ha; simp at ha
        · rename_i e' sz l' hlo
          obtain ⟨hst, hsz, sv, rows', hk, hrr', hlen', ho⟩ := D8 hm hp hlo
          obtain ⟨size, hk'⟩ := hd.resolve_left (Bo hst)
          rw [hk] at hk'; cases hk'
          cases hel : Mk h sz x with
          | none => simp [hel] at ha
          | some l =>
            simp only [hel, Option.bind_some] at ha
            by_cases hc : (e == e' && sz == ei.size) = true
            · rw [hc, cond_true] at ha
              simp only [Option.some.injEq, Prod.mk.injEq, decide_eq_true_eq] at ha
              obtain ⟨hlim, rfl, rfl⟩ := ha
              simp only [Bool.and_eq_true, beq_iff_eq] at hc
              obtain ⟨rfl, rfl⟩ := hc
              obtain ⟨a, m, c, rows, rfl, rfl, hrr, hlen, hsrc⟩ := Yg hm hx hel
              obtain ⟨v', w', hrun, hown', hg, hb⟩ := N5 (P := P) (ty := ty) hu hei hq1 hq2 hm.hB ho (a := a) (c := c) (news := rows.flatten) (by rw [Iz (fun r hr => (hlen r hr).1), hrr.length]) hsrc (fun u hu => by
                obtain ⟨r, hr, hur⟩ := List.mem_flatten.1 hu
                exact (hlen r hr).2 u hur) hlim
              obtain ⟨h1, h2, h3⟩ := N6 hm hnm (old := some n) (sz := ei.size) hg (fun b hb => ⟨n, p, rfl, hp, hst, by unfold Place.Fl; rw [hk]; exact hb⟩) hb (hlk (ob := .recs e ei.size (l' ++ l)) hlo) (ltB hown') (fun hmv => by
                unfold Cn
                have hbr := (hmv.Cw (I0 := I0) (B := B)).bare
                refine ⟨rfl, hq2, v', rows' ++ rows, rfl, (Co.Cw hbr _ _ hrr').append (Co.Cw hbr _ _ hrr), ?_, ?_⟩
                · intro r hr
                  rcases List.mem_append.1 hr with hr | hr
                  · exact hlen' r hr
                  · exact hlen r hr
                · rw [List.length_append, List.flatten_append]; exact hown')
              exact ⟨v', w', _, hrun, h1, h2, h3, by simp only [Ak]; exact ⟨F3 hown', _, if_pos rfl, .inr ⟨_, rfl⟩⟩, hne, hdom hlo, keepO hp (Bo hst) (fun b hb => by unfold Place.Fl; rw [hk]; exact hb) hg, sameO, fun m h1 h2 => hsame hlo m h1 h2, fun m hmn => by rw [List.mem_singleton.1 hmn, hlo]; simp, hq3⟩
            · simp only [Bool.not_eq_true] at hc; rw [hc] at ha; simp at ha
        · cases ha
      · cases ha
    · simp only [Bool.not_eq_true] at hq; rw [hq] at ha; simp at ha
  · cases ha
end
end Go.Den
namespace Go.Den
open Go.RowKit (Below)
def H2 (P : Program) (ops : Array Oper) (o : Oper) (a : Act) (w : World) (Q : Exit → Act → World → Prop) (G : Value → World → Prop) : Prop :=
  ∀ K : Act → World → Prop, (∀ v w', G v w' → K (a.put o.dst v) w') →
    if Region.wanted o (yielded ops a.tmps) then o.wp P a w K Q else K (a.put o.dst undef) w
theorem H2.mono {P : Program} {ops : Array Oper} {o : Oper} {a : Act} {w : World} {Q : Exit → Act → World → Prop} {G G' : Value → World → Prop} (h : H2 P ops o a w Q G) (hg : ∀ v w', G v w' → G' v w') : H2 P ops o a w Q G' :=
  fun K hK => h K fun v w' hh => hK v w' (hg v w' hh)
theorem Dz.wp {P : Program} {o : Oper} {a : Act} {w : World} {K : Act → World → Prop} {Q : Exit → Act → World → Prop} {K' : Value → World → Prop} (h : Dz P (execOp a.eval o) w K') (hK : ∀ v w', K' v w' → K (a.put o.dst v) w') : o.wp P a w K Q := by
  unfold Dz at h
  unfold Oper.wp
  split at h
  · rename_i v w' hr
    rw [hr, Oper.upon_value]; exact hK _ _ h
  · rename_i f args w' hr
    rw [hr, Oper.upon_enter]
    refine Calls.mono h fun e w'' ⟨v, he, hk⟩ => ?_
    subst he; exact hK _ _ hk
  · exact h.elim
section
variable {P : Program} {E : Env} {I0 : Nat → Prop} {B : Nat} {A : Nat → Option Place} {h : C4} {w : World}
theorem K2 {c : Ctx} {g : Bool} {d : DV} {v : Value} (hv : Ak c w d v) (hg : g = true) (hs : (Fu g d).2 = true) : Ak c w (Fu g d).1 v := by
  subst hg
  cases d <;> try exact hv
  rename_i c' d'
  simp only [Fu, Bool.not_true, Bool.false_or] at hs ⊢
  simp only [Ak] at hv
  exact hv.1 hs
theorem cond_ok {c : Ctx} {ops : Array Oper} {l : List DV} {o : Oper} {a : Act} (hsz : a.tmps.size = l.length)
    (hrd : ∀ t ∈ o.looksAt ops, Ak c w (l.getD t .undef) (a.tmps.getD t undef)) {g? : Option Bool} (hc : Nk ops l o = some g?) :
    (g? = none ∧ o.guard = none) ∨ ∃ b, g? = some b ∧ Region.wanted o (yielded ops a.tmps) = b := by
  unfold Nk at hc
  split at hc
  · rename_i hg
    cases hc; exact .inl ⟨rfl, hg⟩
  · rename_i j want hg
    cases hd : (ops[j]?).bind (·.dst) with
    | none => simp [hd] at hc
    | some d =>
      simp only [hd] at hc
      have hv := hrd d (by unfold Oper.looksAt; simp [hg, hd])
      have hlt : ∀ {x : DV}, l.getD d .undef = x → x ≠ .undef → d < a.tmps.size := fun {x} hx hne => by
        rw [hsz]
        refine Nat.lt_of_not_le fun hle => hne ?_
        rw [← hx, List.getD_eq_getElem?_getD, List.getElem?_eq_none hle]; rfl
      have hy : ∀ {u : Value}, d < a.tmps.size → a.tmps.getD d undef = u → yielded ops a.tmps j = match u with | .bool b => some b | _ => none := fun {u} hl hu => by
        unfold yielded
        rw [hd, Option.bind_some]
        have : a.tmps[d]? = some u := by
          rw [Array.getElem?_eq_getElem hl]
          rw [Array.getD_eq_getD_getElem?, Array.getElem?_eq_getElem hl] at hu
          exact congrArg some hu
        rw [this]
        cases u <;> rfl
      split at hc
      · rename_i b hb
        cases hc
        rw [hb] at hv; simp only [Ak] at hv
        refine .inr ⟨_, rfl, ?_⟩
        unfold Region.wanted; rw [hg]; simp only
        rw [hy (hlt hb (by simp)) hv]
        cases b <;> cases want <;> rfl
      · rename_i c' b hb
        cases hc
        rw [hb] at hv; simp only [Ak] at hv
        refine .inr ⟨_, rfl, ?_⟩
        unfold Region.wanted; rw [hg]; simp only
        cases c' with
        | true =>
          rw [hy (hlt hb (by simp)) (hv.1 rfl)]
          cases b <;> cases want <;> rfl
        | false =>
          rw [hy (hlt hb (by simp)) (hv.2 rfl)]
          cases want <;> rfl
      · cases hc
def Oj (g? : Option Bool) (v : DV) : DV := match g? with | some c => .gd c v | none => v
theorem wrap_rel {c : Ctx} {g? : Option Bool} {d : DV} {v : Value} (hg : g?.getD true = true) (hv : Ak c w d v) : Ak c w (Oj g? d) v := by
  cases g? with
  | none => exact hv
  | some b =>
    simp only [Option.getD_some] at hg; subst hg
    simp only [Oj, Ak]
    exact ⟨fun _ => hv, fun e => by cases e⟩
theorem quiet_wp (he : I6 P E) (hm : Mem I0 B A h w) {ops : Array Oper} {l : List DV} {o : Oper} {a : Act}
    (hops : ∀ x ∈ o.op.operands.toList, Ak (Bl I0 B A w) w (Gi l x) (a.eval x))
    {g? : Option Bool} (hg : (g? = none ∧ o.guard = none) ∨ ∃ b, g? = some b ∧ Region.wanted o (yielded ops a.tmps) = b)
    {nm : Nat} {r : R2} (hq : Dq E h nm (fun x => (Fu (g?.getD true) (Gi l x)).1) o.op = some r)
    (hreq : (!(g?.getD true) || (Zd (g?.getD true) (Gi l) o.op.operands.toList && r.req)) = true)
    (hobj : r.objs = [] ∨ g? = none) (hfrz : r.frz = [] ∨ g? = none)
    (hnew : ∀ n ob, (n, ob) ∈ r.objs → A n = none) (hnd : (r.objs.map (·.1)).Nodup) {Q : Exit → Act → World → Prop} :
    H2 P ops o a w Q fun v w' => ∃ A', Ij I0 B A w r.objs r.frz A' w' ∧ Ak (Bl I0 B A' w') w' (Oj g? r.v) v := by
  intro K hK
  have hwant : Region.wanted o (yielded ops a.tmps) = g?.getD true := by
    rcases hg with ⟨rfl, hg⟩ | ⟨b, rfl, hg⟩
    · simp [Region.wanted, hg]
    · simpa using hg
  rw [hwant]
  by_cases hgt : g?.getD true = true
  · rw [if_pos hgt]
    rw [hgt] at hreq hq
    simp only [Bool.not_true, Bool.false_or, Bool.and_eq_true] at hreq
    have hops' : Ops (Bl I0 B A w) w (fun x => (Fu true (Gi l x)).1) a.eval o.op := fun x hx => by
      refine K2 (hops x hx) rfl ?_
      have := hreq.1
      unfold Zd at this
      rw [List.all_eq_true] at this
      exact this x hx
    exact Dz.wp (K' := fun v w' => ∃ A', Ij I0 B A w r.objs r.frz A' w' ∧ Ak (Bl I0 B A' w') w' (Oj g? r.v) v)
      (quietD_ok he hm hops' hq hreq.2 hnew hnd fun v w' A' h1 h2 => ⟨A', h1, wrap_rel hgt h2⟩) hK
  · rw [if_neg hgt]
    have hgf : g? = some false := by
      cases g? with
      | none => simp at hgt
      | some b => simp only [Option.getD_some, Bool.not_eq_true] at hgt; rw [hgt]
    subst hgf
    have h1 : r.objs = [] := hobj.resolve_right (by simp)
    have h2 : r.frz = [] := hfrz.resolve_right (by simp)
    refine hK undef w ⟨A, by rw [h1, h2]; exact Ij.refl (.inl rfl), ?_⟩
    simp only [Oj, Ak]
    exact ⟨fun e => (by cases e), fun _ => trivial⟩
theorem pick_wp {ops : Array Oper} {l : List DV} {dst : Option Tmp} {c x y : Operand} {ty : TypeId} {pos : String} {after : Array Edge} {guard : Option (Nat × Bool)} {a : Act} {cx : Ctx}
    (hc : Ak cx w (Gi l c) (a.eval c)) (hx : Ak cx w (Gi l x) (a.eval x)) (hy : Ak cx w (Gi l y) (a.eval y))
    {g? : Option Bool} (hg : (g? = none ∧ guard = none) ∨ ∃ b, g? = some b ∧ Region.wanted ⟨dst, .pick c x y, ty, pos, after, guard⟩ (yielded ops a.tmps) = b)
    {c' r : Bool} {v : DV} (hsc : (Fu (g?.getD true) (Gi l c)).1 = .bool c') (hp : pickD c' (Gi l x) (Gi l y) = some (r, v))
    (hreq : (!(g?.getD true) || ((Fu (g?.getD true) (Gi l c)).2 && r)) = true) {Q : Exit → Act → World → Prop} :
    H2 P ops ⟨dst, .pick c x y, ty, pos, after, guard⟩ a w Q fun u w' => w' = w ∧ Ak cx w (Oj g? v) u := by
  intro K hK
  have hwant : Region.wanted ⟨dst, .pick c x y, ty, pos, after, guard⟩ (yielded ops a.tmps) = g?.getD true := by
    rcases hg with ⟨rfl, hg⟩ | ⟨b, rfl, hg⟩
    · simp [Region.wanted, hg]
    · simpa using hg
  rw [hwant]
  by_cases hgt : g?.getD true = true
  · rw [if_pos hgt]
    rw [hgt] at hreq hsc
    simp only [Bool.not_true, Bool.false_or, Bool.and_eq_true] at hreq
    have hcv := K2 hc rfl hreq.1
    rw [hsc] at hcv; simp only [Ak] at hcv
    refine Dz.wp (K' := fun u w' => w' = w ∧ Ak cx w (Oj g? v) u) (Dz.value (v := if c' then a.eval x else a.eval y) (w' := w) ?_ ⟨rfl, wrap_rel hgt ?_⟩) hK
    · simp [execOp, hcv, asBool]
    · have h2 := hreq.2
      unfold pickD at hp
      cases c' with
      | true =>
        simp only [if_true]
        split at hp
        · rename_i p q e1 e2
          simp only [Option.some.injEq, Prod.mk.injEq] at hp
          obtain ⟨rfl, rfl⟩ := hp
          simp only [Bool.and_eq_true] at h2
          have := K2 hx rfl h2.1
          rw [e1] at this; exact this
        · rename_i k p k' q e1 e2
          by_cases hk : k = k'
          · simp only [hk, decide_true, cond_true, Option.some.injEq, Prod.mk.injEq] at hp
            obtain ⟨rfl, rfl⟩ := hp
            simp only [Bool.and_eq_true] at h2
            have := K2 hx rfl h2.1
            rw [e1] at this; subst hk; exact this
          · simp [hk] at hp
        · cases hp
      | false =>
        simp only [Bool.false_eq_true, if_false]
        split at hp
        · rename_i p q e1 e2
          simp only [Option.some.injEq, Prod.mk.injEq] at hp
          obtain ⟨rfl, rfl⟩ := hp
          simp only [Bool.and_eq_true] at h2
          have := K2 hy rfl h2.2
          rw [show (!false) = true from rfl] at e2
          rw [e2] at this; exact this
        · rename_i k p k' q e1 e2
          by_cases hk : k = k'
          · simp only [hk, decide_true, cond_true, Option.some.injEq, Prod.mk.injEq] at hp
            obtain ⟨rfl, rfl⟩ := hp
            simp only [Bool.and_eq_true] at h2
            have := K2 hy rfl h2.2
            rw [show (!false) = true from rfl] at e2
            rw [e2] at this; exact this
          · simp [hk] at hp
        · cases hp
  · rw [if_neg hgt]
    have hgf : g? = some false := by
      cases g? with
      | none => simp at hgt
      | some b => simp only [Option.getD_some, Bool.not_eq_true] at hgt; rw [hgt]
    subst hgf
    refine hK undef w ⟨rfl, ?_⟩
    simp only [Oj, Ak]
    exact ⟨fun e => (by cases e), fun _ => trivial⟩
theorem looks_op {ops : Array Oper} {o : Oper} {t : Tmp} (h : Operand.tmp t ∈ o.op.operands.toList) : t ∈ o.looksAt ops := by
  unfold Oper.looksAt
  exact List.mem_append.2 (.inl (List.mem_filterMap.2 ⟨_, h, rfl⟩))
theorem Yk {c : Ctx} (v : Value) : Ak c w (constD v) v := by
  unfold constD
  split <;> simp only [Ak]
  exact ⟨_, rfl, .inl rfl⟩
theorem Sf {c : Ctx} {ops : Array Oper} {l : List DV} {o : Oper} {a : Act}
    (hrd : ∀ t ∈ o.looksAt ops, Ak c w (l.getD t .undef) (a.tmps.getD t undef)) : ∀ x ∈ o.op.operands.toList, Ak c w (Gi l x) (a.eval x) := by
  intro x hx
  cases x with
  | tmp t => exact hrd t (looks_op hx)
  | const v => exact Yk v
  | global g => simp only [Gi, Ak]
  | func f => simp [Gi, Ak, Act.eval, A4]
theorem stepQ (he : I6 P E) {ops : Array Oper} {draw : Bool} {st st' : St} {o : Oper} (hs : Kg E ops draw st o = some (true, st')) (hmut : Sv o.op = false)
    (hsp : ∀ g?, Nk ops st.tmps o = some g? → (bif draw then none else Jv E (Gi st.tmps) g? o.op) = none) :
    ∃ d objs frz, st'.tmps = R3 st.tmps o.dst d ∧ st'.heap = objs.map (fun (x : Nat × OB) => (x.1, false, x.2)) ++ Ig st.heap frz ∧
      (∀ n ob, (n, ob) ∈ objs → look st.heap n = none) ∧ (objs.map (·.1)).Nodup ∧ (Ex E ops st o = frz ∧ ∀ n ∈ frz, look st.heap n ≠ none) ∧
      ∀ {I0 : Nat → Prop} {B : Nat} {A : Nat → Option Place} {w : World} {a : Act} {Q : Exit → Act → World → Prop}, Mem I0 B A st.heap w → a.tmps.size = st.tmps.length →
        (∀ t ∈ o.looksAt ops, Ak (Bl I0 B A w) w (st.tmps.getD t .undef) (a.tmps.getD t undef)) → (∀ n ob, (n, ob) ∈ objs → A n = none) →
        H2 P ops o a w Q fun v w' => ∃ A', Ij I0 B A w objs frz A' w' ∧ Ak (Bl I0 B A' w') w' d v := by
  obtain ⟨dst, op, ty, pos, after, guard⟩ := o
  unfold Kg at hs
  cases hc : Nk ops st.tmps ⟨dst, op, ty, pos, after, guard⟩ with
  | none => simp [hc] at hs
  | some g? =>
  simp only [hc, Option.bind_some] at hs
  dsimp only at hmut
  replace hsp := hsp g? hc
  dsimp only at hsp
  have quiet : ∀ (hs : ((Dq E st.heap (dst.getD 0) (fun x => (Fu (g?.getD true) (Gi st.tmps x)).1) op).bind fun r =>
      bif (r.objs.all fun (n, _) => (look st.heap n).isNone) && Kd (r.objs.map (·.1)) && (r.objs.isEmpty || (g?.isNone && dst.isSome)) && (r.frz.isEmpty || (g?.isNone && r.frz.all fun n => (look st.heap n).isSome)) then
        some (!(g?.getD true) || (Zd (g?.getD true) (Gi st.tmps) op.operands.toList && r.req),
          ({ tmps := R3 st.tmps dst (Oj g? r.v), heap := (r.objs.map fun (n, ob) => (n, false, ob)) ++ Ig st.heap r.frz } : St))
      else none) = some (true, st')), ∃ d objs frz, st'.tmps = R3 st.tmps dst d ∧ st'.heap = objs.map (fun (x : Nat × OB) => (x.1, false, x.2)) ++ Ig st.heap frz ∧
      (∀ n ob, (n, ob) ∈ objs → look st.heap n = none) ∧ (objs.map (·.1)).Nodup ∧ (Ex E ops st ⟨dst, op, ty, pos, after, guard⟩ = frz ∧ ∀ n ∈ frz, look st.heap n ≠ none) ∧
      ∀ {I0 : Nat → Prop} {B : Nat} {A : Nat → Option Place} {w : World} {a : Act} {Q : Exit → Act → World → Prop}, Mem I0 B A st.heap w → a.tmps.size = st.tmps.length →
        (∀ t ∈ Oper.looksAt ops ⟨dst, op, ty, pos, after, guard⟩, Ak (Bl I0 B A w) w (st.tmps.getD t .undef) (a.tmps.getD t undef)) → (∀ n ob, (n, ob) ∈ objs → A n = none) →
        H2 P ops ⟨dst, op, ty, pos, after, guard⟩ a w Q fun v w' => ∃ A', Ij I0 B A w objs frz A' w' ∧ Ak (Bl I0 B A' w') w' d v := by
    intro hs
    cases hq : Dq E st.heap (dst.getD 0) (fun x => (Fu (g?.getD true) (Gi st.tmps x)).1) op with
    | none => simp [hq] at hs
    | some r =>
      simp only [hq, Option.bind_some] at hs
      by_cases hcc : ((r.objs.all fun (n, _) => (look st.heap n).isNone) && Kd (r.objs.map (·.1)) && (r.objs.isEmpty || (g?.isNone && dst.isSome)) && (r.frz.isEmpty || (g?.isNone && r.frz.all fun n => (look st.heap n).isSome))) = true
      · rw [hcc, cond_true, Option.some.injEq, Prod.mk.injEq] at hs
        obtain ⟨hreq, rfl⟩ := hs
        simp only [Bool.and_eq_true, Bool.or_eq_true, List.isEmpty_iff, Option.isNone_iff_eq_none, List.all_eq_true] at hcc
        obtain ⟨⟨⟨h1, h2⟩, h3⟩, h4⟩ := hcc
        refine ⟨Oj g? r.v, r.objs, r.frz, rfl, rfl, fun n ob hn => h1 (n, ob) hn, Ic h2, ⟨by unfold Ex; dsimp only; rw [hmut, hc]; simp only [cond_false, hq], fun n hn e => ?_⟩, ?_⟩
        · rcases h4 with h4 | h4
          · rw [h4] at hn; cases hn
          · have := h4.2 n hn; rw [e] at this; cases this
        intro I0 B A w a Q hm hsz hrd hnew
        exact quiet_wp he hm (Sf hrd) (cond_ok hsz hrd hc) hq hreq (h3.imp id And.left) (h4.imp id And.left) hnew (Ic h2)
      · simp only [Bool.not_eq_true] at hcc; rw [hcc] at hs; cases hs
  cases op
  case pick c x y =>
    simp only at hs
    split at hs
    · rename_i c' hsc
      cases hp : pickD c' (Gi st.tmps x) (Gi st.tmps y) with
      | none => simp [hp] at hs
      | some rv =>
        obtain ⟨r, v⟩ := rv
        simp only [hp, Option.bind_some, Option.some.injEq, Prod.mk.injEq] at hs
        obtain ⟨hreq, rfl⟩ := hs
        refine ⟨Oj g? v, [], [], rfl, rfl, fun n ob hn => (by cases hn), List.nodup_nil, ⟨by unfold Ex; dsimp only [Sv]; rw [hc]; rfl, fun n hn => (by cases hn)⟩, ?_⟩
        intro I0 B A w a Q hm hsz hrd hnew
        have hr := Sf (w := w) hrd
        refine H2.mono (pick_wp (hr c (by simp [Op.operands])) (hr x (by simp [Op.operands])) (hr y (by simp [Op.operands])) (cond_ok hsz hrd hc) hsc hp hreq) ?_
        rintro u w' ⟨rfl, hu⟩
        exact ⟨A, Ij.refl (.inl rfl), hu⟩
    · cases hs
  case store => simp [Sv] at hmut
  case call c =>
    obtain ⟨callee, args, ts⟩ := c
    cases callee
    case builtin b =>
      cases b
      case append => simp [Sv] at hmut
      all_goals (dsimp only at hs; rw [hsp] at hs; exact quiet hs)
    all_goals (dsimp only at hs; rw [hsp] at hs; exact quiet hs)
  all_goals (dsimp only at hs; rw [hsp] at hs; exact quiet hs)
end
end Go.Den
namespace Go.Den
open Go.RowKit (Below)
theorem L6 (a b : C4) (n : Nat) : look (a ++ b) n = match look a n with | some x => some x | none => look b n := by
  induction a with
  | nil => rfl
  | cons x a ih =>
    obtain ⟨m, y⟩ := x
    simp only [List.cons_append, look]
    cases m == n <;> simp [ih]
theorem Zs (h : C4) (m n : Nat) : look (match look h m with | some (_, o) => upd h m (true, o) | none => h) n = (look h n).map fun x => (x.1 || decide (n = m), x.2) := by
  cases hm : look h m with
  | none =>
    simp only
    cases hn : look h n with
    | none => rfl
    | some x =>
      have : n ≠ m := fun e => by rw [e, hm] at hn; cases hn
      simp [this]
  | some x =>
    obtain ⟨f, o⟩ := x
    simp only
    rw [Fe hm]
    by_cases e : n = m
    · subst e; simp [hm]
    · rw [if_neg e]
      cases look h n with
      | none => rfl
      | some x => simp [e]
theorem O3 : ∀ (ns : List Nat) (h : C4) (n : Nat), look (Ig h ns) n = (look h n).map fun x => (x.1 || decide (n ∈ ns), x.2)
  | [], h, n => by
    unfold Ig
    simp
  | m :: ns, h, n => by
    have e : Ig h (m :: ns) = Ig (match look h m with | some (_, o) => upd h m (true, o) | none => h) ns := rfl
    rw [e, O3 ns, Zs]
    cases look h n with
    | none => rfl
    | some x => simp [Bool.or_assoc]
theorem Tr {objs : List (Nat × OB)} : ∀ {n : Nat} {x : Bool × OB}, look (objs.map (fun (x : Nat × OB) => (x.1, false, x.2))) n = some x → ∃ ob, (n, ob) ∈ objs ∧ x = (false, ob) := by
  induction objs with
  | nil => intro n x h; cases h
  | cons y l ih =>
    intro n x h
    simp only [List.map_cons, look] at h
    by_cases e : y.1 = n
    · rw [show (y.1 == n) = true by simpa using e] at h
      simp only [cond_true, Option.some.injEq] at h
      exact ⟨y.2, by rw [← e]; exact List.mem_cons_self, h.symm⟩
    · rw [show (y.1 == n) = false by simpa using e] at h
      obtain ⟨ob, h1, h2⟩ := ih h
      exact ⟨ob, List.mem_cons_of_mem _ h1, h2⟩
theorem V8 {objs : List (Nat × OB)} {n : Nat} (h : look (objs.map (fun (x : Nat × OB) => (x.1, false, x.2))) n = none) : ∀ ob, (n, ob) ∉ objs := by
  induction objs with
  | nil => intro ob h; cases h
  | cons y l ih =>
    intro ob hm
    simp only [List.map_cons, look] at h
    by_cases e : y.1 = n
    · rw [show (y.1 == n) = true by simpa using e] at h; simp at h
    · rw [show (y.1 == n) = false by simpa using e] at h
      rcases List.mem_cons.1 hm with rfl | hm
      · exact e rfl
      · exact ih h ob hm
theorem nodup_fst {α : Type} {l : List (Nat × α)} (h : (l.map (·.1)).Nodup) {n : Nat} {x y : α} (h1 : (n, x) ∈ l) (h2 : (n, y) ∈ l) : x = y := by
  have e1 := Qb h h1
  have e2 := Qb h h2
  rw [e1] at e2; exact Option.some.inj e2
structure Ps (P : Program) (E : Env) (ops : Array Oper) (draw : Bool) (st : St) (o : Oper) (st' : St) (d : DV) : Prop where
  tmps : st'.tmps = R3 st.tmps o.dst d
  there : draw = true → ∀ n, n ∈ Ex E ops st o → look st.heap n ≠ none
  stays : ∀ n, look st.heap n ≠ none → look st'.heap n ≠ none
  same : draw = true → ∀ n, n ∉ Ex E ops st o → look st.heap n ≠ none → look st'.heap n = look st.heap n
  run : ∀ {I0 : Nat → Prop} {B : Nat} {A : Nat → Option Place} {w : World} {a : Act} {Q : Exit → Act → World → Prop}, Mem I0 B A st.heap w → a.tmps.size = st.tmps.length →
    (∀ t ∈ o.looksAt ops, Ak (Bl I0 B A w) w (st.tmps.getD t .undef) (a.tmps.getD t undef)) → (∀ n, look st.heap n = none → look st'.heap n ≠ none → A n = none) →
    H2 P ops o a w Q fun v w' => ∃ A', Mem I0 B A' st'.heap w' ∧ Hn A w A' w' ∧ Below B w w' ∧ Ak (Bl I0 B A' w') w' d v ∧
      (∀ n p, A' n = some p → A n = none → look st.heap n = none ∧ look st'.heap n ≠ none) ∧
      (draw = true → Qj (Ex E ops st o) A w w' ∧ ∀ m q, m ∉ Ex E ops st o → A m = some q → A' m = some q)
section
variable {P : Program} {E : Env}
theorem stepD_quiet (he : I6 P E) {ops : Array Oper} {draw : Bool} {st st' : St} {o : Oper} (hs : Kg E ops draw st o = some (true, st')) (hmut : Sv o.op = false)
    (hsp : ∀ g?, Nk ops st.tmps o = some g? → (bif draw then none else Jv E (Gi st.tmps) g? o.op) = none) :
    ∃ d, Ps P E ops draw st o st' d := by
  obtain ⟨d, objs, frz, h1, h2, h3, h4, h5, h6⟩ := stepQ he hs hmut hsp
  obtain ⟨hm0, h5'⟩ := h5
  have hlk : ∀ n, look st'.heap n = match look (objs.map (fun (x : Nat × OB) => (x.1, false, x.2))) n with | some x => some x | none => (look st.heap n).map fun x => (x.1 || decide (n ∈ frz), x.2) := by
    intro n; rw [h2, L6, O3]
  have hold : ∀ n, look st.heap n ≠ none → look st'.heap n = (look st.heap n).map fun x => (x.1 || decide (n ∈ frz), x.2) := by
    intro n hn
    rw [hlk]
    cases hq : look (objs.map (fun (x : Nat × OB) => (x.1, false, x.2))) n with
    | none => rfl
    | some x =>
      obtain ⟨ob, hob, _⟩ := Tr hq
      exact absurd (h3 n ob hob) hn
  have hobj : ∀ n ob, (n, ob) ∈ objs → look st'.heap n = some (false, ob) := by
    intro n ob hob
    rw [hlk]
    cases hq : look (objs.map (fun (x : Nat × OB) => (x.1, false, x.2))) n with
    | none => exact absurd hob (V8 hq ob)
    | some x =>
      obtain ⟨ob', hob', rfl⟩ := Tr hq
      rw [nodup_fst h4 hob hob']
  refine ⟨d, h1, fun _ n hn => h5' n (hm0 ▸ hn), fun n hn => ?_, fun hd n hf hn => ?_, ?_⟩
  · rw [hold n hn]
    cases hq : look st.heap n with
    | none => exact absurd hq hn
    | some x => simp
  · rw [hm0] at hf
    rw [hold n hn]
    cases look st.heap n with
    | none => rfl
    | some x => simp [hf]
  · intro I0 B A w a Q hm hsz hrd hnew
    have hnew' : ∀ n ob, (n, ob) ∈ objs → A n = none := fun n ob hob => hnew n (h3 n ob hob) (by rw [hobj n ob hob]; simp)
    refine (h6 hm hsz hrd hnew').mono ?_
    rintro v w' ⟨A', hg, hv⟩
    have hmem : Mem I0 B A' st'.heap w' := by
      refine hg.mem hm (fun n p fo' hp hl => ?_) (fun n ob fo' hob hn hl => ?_)
      · rw [hlk] at hl
        cases hq : look (objs.map (fun (x : Nat × OB) => (x.1, false, x.2))) n with
        | some x =>
          obtain ⟨ob, hob, _⟩ := Tr hq
          rw [hnew' n ob hob] at hp; cases hp
        | none =>
          rw [hq] at hl
          cases hf : look st.heap n with
          | none => rw [hf] at hl; cases hl
          | some fo => rw [hf] at hl; cases hl; exact ⟨fo, rfl, rfl⟩
      · rw [hobj n ob hob] at hl; cases hl; rfl
    refine ⟨A', hmem, hg.moved, hg.below.mono hm.hB, hv, fun n p hp hn => ?_, fun hd => ⟨fun m q b _ hq hqd hqb => hg.below.block b (hm.blkB m q b hq hqd hqb).2, fun m q hmf hq => ?_⟩⟩
    · obtain ⟨_, _, ob, hob, _⟩ := hg.new n p hn hp
      exact ⟨h3 n ob hob, by rw [hobj n ob hob]; simp⟩
    · have := hg.old m q hq
      rw [this]
      rw [hm0] at hmf
      cases q
      simp [Xf, hmf]
end
end Go.Den
namespace Go.Den
open Go.RowKit (Below)
section
variable {P : Program} {E : Env}
theorem Om {o : Oper} {y : Nat → Option Bool} (h : o.guard = none) : Region.wanted o y = true := by
  unfold Region.wanted; rw [h]
theorem Rj {ops : Array Oper} {l : List DV} {o : Oper} (h : Nk ops l o = some none) : o.guard = none := by
  unfold Nk at h
  split at h
  · assumption
  · split at h
    · split at h <;> cases h
    · cases h
structure Pw (ns : List Nat) (nm : Option Nat) (h h' : C4) : Prop where
  there : ∀ m, m ∈ ns → look h m ≠ none
  stays : ∀ m, look h m ≠ none → look h' m ≠ none
  same : ∀ m, m ∉ ns → some m ≠ nm → look h' m = look h m
theorem Lc {h : C4} {n : Nat} {x y : Bool × OB} (hl : look h n = some x) : Pw [n] none h (upd h n y) where
  there := fun m hm => by rw [List.mem_singleton.1 hm, hl]; simp
  stays := fun m hm => by rw [Fe hl]; split <;> simp_all
  same := fun m hm _ => by rw [Fe hl, if_neg (fun e => hm (by rw [e]; exact List.mem_singleton.2 rfl))]
theorem P0 {h : C4} {nm : Nat} {x : Bool × OB} : Pw [] (some nm) h ((nm, x) :: h) where
  there := fun m hm => by cases hm
  stays := fun m hm => by simp only [look]; cases nm == m <;> simp [hm]
  same := fun m _ hne => by
    simp only [look]
    rw [show (nm == m) = false by simpa using fun e : nm = m => hne (by rw [e])]; rfl
theorem Xl {h : C4} {n nm : Nat} {x y z : Bool × OB} (hl : look h n = some x) : Pw [n] (some nm) h ((nm, z) :: upd h n y) where
  there := (Lc (y := y) hl).there
  stays := fun m hm => P0.stays m ((Lc (y := y) hl).stays m hm)
  same := fun m hm hne => by rw [P0.same m (by simp) hne, (Lc (y := y) hl).same m hm (by simp)]
theorem storeD_heap {h h' : C4} {t : TypeId} {a v : DV} {r : Bool} (hs : S9 E h t a v = some (r, h')) : Pw (mutA a) none h h' := by
  unfold S9 at hs
  cases hT : E.ty t with
  | none => simp [hT] at hs
  | some ti =>
  simp only [hT, Option.bind_some] at hs
  cases hc : (Me v && (cells v).length == ti.size && (cells v).all Q0) with
  | false => rw [hc] at hs; simp at hs
  | true =>
  rw [hc, cond_true] at hs
  split at hs
  · rename_i n i j
    split at hs
    · rename_i cs hlk
      cases hq : (i == 0 && decide (j + ti.size ≤ cs.length)) with
      | false => rw [hq] at hs; simp at hs
      | true =>
        rw [hq, cond_true, Option.some.injEq, Prod.mk.injEq] at hs
        obtain ⟨_, rfl⟩ := hs
        exact Lc hlk
    · rename_i e k l hlk
      split at hs
      · rename_i k' x
        cases hq : (j == 0 && decide (k = k')) with
        | false => rw [hq] at hs; simp at hs
        | true =>
          rw [hq, cond_true, Option.some.injEq, Prod.mk.injEq] at hs
          obtain ⟨_, rfl⟩ := hs
          exact Lc hlk
      · cases hs
    · rename_i e sz l hlk
      cases hlow : J2 h (cells v) with
      | none => simp [hlow] at hs
      | some q =>
      obtain ⟨vs, ns⟩ := q
      simp only [hlow, Option.bind_some] at hs
      cases hq : (decide (j + ti.size ≤ sz) && ns.isEmpty) with
      | false => rw [hq] at hs; simp at hs
      | true =>
        rw [hq, cond_true, Option.some.injEq, Prod.mk.injEq] at hs
        obtain ⟨_, rfl⟩ := hs
        exact Lc hlk
    · cases hs
  · cases hs
theorem Aaf {h h' : C4} {nm : Nat} {t : TypeId} {s x v : DV} {r : Bool} (ha : Mc E h nm t s x = some (r, v, h')) : Pw (Zo s) (some nm) h h' ∧ look h nm = none := by
  unfold Mc at ha
  split at ha
  · rename_i e _ hT
    cases hE : E.ty e with
    | none => simp [hE] at ha
    | some ei =>
    simp only [hE, Option.bind_some] at ha
    cases hq : (decide (ei.bytes ≤ 128) && decide (0 < ei.size) && (look h nm).isNone) with
    | false => rw [hq] at ha; simp at ha
    | true =>
    rw [hq, cond_true] at ha
    simp only [Bool.and_eq_true, decide_eq_true_eq, Option.isNone_iff_eq_none] at hq
    refine ⟨?_, hq.2⟩
    split at ha
    · split at ha
      · rename_i k hk
        cases hs1 : (ei.size == 1) with
        | false => rw [hs1] at ha; simp at ha
        | true =>
        rw [hs1, cond_true] at ha
        cases hel : Ml h k x with
        | none => simp [hel] at ha
        | some l =>
          simp only [hel, Option.bind_some, Option.some.injEq, Prod.mk.injEq] at ha
          obtain ⟨_, _, rfl⟩ := ha
          exact P0
      · cases hel : Mk h ei.size x with
        | none => simp [hel] at ha
        | some l =>
          simp only [hel, Option.bind_some, Option.some.injEq, Prod.mk.injEq] at ha
          obtain ⟨_, _, rfl⟩ := ha
          exact P0
    · rename_i n
      split at ha
      · rename_i e' k l' hlo
        cases hel : Ml h k x with
        | none => simp [hel] at ha
        | some l =>
          simp only [hel, Option.bind_some] at ha
          cases hc : (e == e' && ei.size == 1) with
          | false => rw [hc] at ha; simp at ha
          | true =>
            rw [hc, cond_true] at ha
            simp only [Option.some.injEq, Prod.mk.injEq] at ha
            obtain ⟨_, _, rfl⟩ := ha
            exact Xl hlo
      · rename_i e' sz l' hlo
        cases hel : Mk h sz x with
        | none => simp [hel] at ha
        | some l =>
          simp only [hel, Option.bind_some] at ha
          cases hc : (e == e' && sz == ei.size) with
          | false => rw [hc] at ha; simp at ha
          | true =>
            rw [hc, cond_true] at ha
            simp only [Option.some.injEq, Prod.mk.injEq] at ha
            obtain ⟨_, _, rfl⟩ := ha
            exact Xl hlo
      · cases ha
    · cases ha
  · cases ha
theorem Uk {h h' : C4} {nm : Nat} {t : TypeId} {s x v : DV} {r : Bool} (ha : Mc E h nm t s x = some (r, v, h')) : (look h' nm).isSome = true := by
  have push : ∀ {y : Bool × OB} {k : C4}, (look ((nm, y) :: k) nm).isSome = true := by intro y k; simp [look]
  unfold Mc at ha
  split at ha
  · rename_i e _ hT
    cases hE : E.ty e with
    | none => simp [hE] at ha
    | some ei =>
    simp only [hE, Option.bind_some] at ha
    cases hq : (decide (ei.bytes ≤ 128) && decide (0 < ei.size) && (look h nm).isNone) with
    | false => rw [hq] at ha; simp at ha
    | true =>
    rw [hq, cond_true] at ha
    split at ha
    · split at ha
      · rename_i k hk
        cases hs1 : (ei.size == 1) with
        | false => rw [hs1] at ha; simp at ha
        | true =>
        rw [hs1, cond_true] at ha
        cases hel : Ml h k x with
        | none => simp [hel] at ha
        | some l =>
          simp only [hel, Option.bind_some, Option.some.injEq, Prod.mk.injEq] at ha
          obtain ⟨_, _, rfl⟩ := ha
          exact push
      · cases hel : Mk h ei.size x with
        | none => simp [hel] at ha
        | some l =>
          simp only [hel, Option.bind_some, Option.some.injEq, Prod.mk.injEq] at ha
          obtain ⟨_, _, rfl⟩ := ha
          exact push
    · rename_i n
      split at ha
      · rename_i e' k l' hlo
        cases hel : Ml h k x with
        | none => simp [hel] at ha
        | some l =>
          simp only [hel, Option.bind_some] at ha
          cases hc : (e == e' && ei.size == 1) with
          | false => rw [hc] at ha; simp at ha
          | true =>
            rw [hc, cond_true] at ha
            simp only [Option.some.injEq, Prod.mk.injEq] at ha
            obtain ⟨_, _, rfl⟩ := ha
            exact push
      · rename_i e' sz l' hlo
        cases hel : Mk h sz x with
        | none => simp [hel] at ha
        | some l =>
          simp only [hel, Option.bind_some] at ha
          cases hc : (e == e' && sz == ei.size) with
          | false => rw [hc] at ha; simp at ha
          | true =>
            rw [hc, cond_true] at ha
            simp only [Option.some.injEq, Prod.mk.injEq] at ha
            obtain ⟨_, _, rfl⟩ := ha
            exact push
      · cases ha
    · cases ha
  · cases ha
theorem stepD_store (he : I6 P E) {ops : Array Oper} {draw : Bool} {st st' : St} {dst : Option Tmp} {t : TypeId} {x y : Operand} {ty : TypeId} {pos : String} {after : Array Edge} {guard : Option (Nat × Bool)}
    (hs : Kg E ops draw st ⟨dst, .store t x y, ty, pos, after, guard⟩ = some (true, st')) : ∃ d, Ps P E ops draw st ⟨dst, .store t x y, ty, pos, after, guard⟩ st' d := by
  unfold Kg at hs
  cases hc : Nk ops st.tmps ⟨dst, .store t x y, ty, pos, after, guard⟩ with
  | none => simp [hc] at hs
  | some g? =>
  cases g? with
  | some b => simp [hc] at hs
  | none =>
  have hg := Rj hc
  dsimp only at hg
  simp only [hc, Option.bind_some] at hs
  cases hst : S9 E st.heap t (Gi st.tmps x) (Gi st.tmps y) with
  | none => simp [hst] at hs
  | some rh =>
  obtain ⟨r, h'⟩ := rh
  simp only [hst, Option.bind_some, Option.some.injEq, Prod.mk.injEq] at hs
  obtain ⟨rfl, rfl⟩ := hs
  have ht := storeD_heap hst
  refine ⟨.undef, rfl, fun _ => ht.there, ht.stays, fun _ n hn _ => ht.same n hn (by simp), ?_⟩
  intro I0 B A w a Q hm hsz hrd hnew
  have hr := Sf (w := w) hrd
  obtain ⟨w', hrun, h1, h2, h3, h4, h5, h6, h7⟩ := storeD_ok he.ty hm (hr x (by simp [Op.operands])) (hr y (by simp [Op.operands])) hst rfl
  intro K hK
  rw [if_pos (Om hg)]
  unfold Oper.wp execOp
  simp only [Sem.run_bind, Sem.run_pure, Result.andThen_ok, hrun]
  rw [Oper.upon_skip]
  refine hK undef w' ⟨A, h1, h2, h3, by simp [Ak], fun n p hp hn => (by rw [hn] at hp; cases hp), fun _ => ⟨h5, fun m q _ hq => hq⟩⟩
theorem Y5 (he : I6 P E) {ops : Array Oper} {draw : Bool} {st st' : St} {dst : Option Tmp} {args : Array Operand} {ts : Array TypeId} {ty : TypeId} {pos : String} {after : Array Edge} {guard : Option (Nat × Bool)}
    (hs : Kg E ops draw st ⟨dst, .call ⟨.builtin .append, args, ts⟩, ty, pos, after, guard⟩ = some (true, st')) : ∃ d, Ps P E ops draw st ⟨dst, .call ⟨.builtin .append, args, ts⟩, ty, pos, after, guard⟩ st' d := by
  unfold Kg at hs
  cases hc : Nk ops st.tmps ⟨dst, .call ⟨.builtin .append, args, ts⟩, ty, pos, after, guard⟩ with
  | none => simp [hc] at hs
  | some g? =>
  simp only [hc, Option.bind_some] at hs
  split at hs
  · rename_i s x t t' hargs hts
    have hg := Rj hc
    dsimp only at hg
    cases hq : (t == t' && dst.isSome) with
    | false => rw [hq] at hs; simp at hs
    | true =>
    rw [hq, cond_true] at hs
    simp only [Bool.and_eq_true, beq_iff_eq] at hq
    obtain ⟨rfl, hdst⟩ := hq
    cases hap : Mc E st.heap (dst.getD 0) t (Gi st.tmps s) (Gi st.tmps x) with
    | none => simp [hap] at hs
    | some rh =>
    obtain ⟨r, v, h'⟩ := rh
    simp only [hap, Option.bind_some, Option.some.injEq, Prod.mk.injEq] at hs
    obtain ⟨rfl, rfl⟩ := hs
    obtain ⟨ht, hnone⟩ := Aaf hap
    have hmut : Ex E ops st ⟨dst, .call ⟨.builtin .append, args, ts⟩, ty, pos, after, guard⟩ = Zo (Gi st.tmps s) := by
      unfold Ex mutD; simp only [hargs, Sv, cond_true]
    obtain rfl : args = #[s, x] := by
      cases args with | mk l => simp only at hargs; rw [hargs]
    obtain rfl : ts = #[t, t] := by
      cases ts with | mk l => simp only at hts; rw [hts]
    refine ⟨v, rfl, fun _ n hn => ht.there n (hmut ▸ hn), ht.stays, fun _ n hn hl => ht.same n (hmut ▸ hn) (fun e => hl ?_), ?_⟩
    · cases dst with
      | none => cases hdst
      | some d => simp only [Option.getD_some] at e hnone; cases e; exact hnone
    · intro I0 B A w a Q hm hsz hrd hnew
      have hr := Sf (w := w) hrd
      have hnm : A (dst.getD 0) = none := hnew _ hnone (by
        have := Uk hap
        exact fun e => by rw [e] at this; cases this)
      obtain ⟨v', w', A', hrun, h1, h2, h3, h4, h5, h6, h7, h8, _⟩ := appendD_ok (ty := ty) he.ty hm hnm (hr s (by simp [Op.operands, Call.operands])) (hr x (by simp [Op.operands, Call.operands])) hap rfl
      intro K hK
      rw [if_pos (Om hg)]
      unfold Oper.wp execOp
      simp only [resolve, invoke, builtin, Sem.run_bind, Sem.run_pure, Result.andThen_ok, List.map_toArray, List.map_cons, List.map_nil, hrun]
      rw [Oper.upon_value]
      refine hK v' w' ⟨A', h1, h2, h3, h4, fun n p hp hn => ?_, fun _ => ⟨hmut ▸ h7, fun m q hmn hq => h8 m q (hmut ▸ hmn) hq⟩⟩
      have := h5 n p hp hn
      subst this
      exact ⟨hnone, fun e => by have := Uk hap; rw [e] at this; cases this⟩
  · cases hs
theorem Oy {c c' : Ctx} {w w' : World} (h : I5 c w c' w') {p : Place} (hb : p.st ≠ .dead → ∀ b, p.Fl = some b → w'.heap[b]? = w.heap[b]?) {fo : Bool × OB} (hr : Cn c w p fo) : Cn c' w' p fo := by
  by_cases hd : p.st = .dead
  · obtain ⟨fz, ob⟩ := fo
    cases ob with
    | dead => exact hd
    | box cs => exact absurd hd (Bo hr.1)
    | ints e k l => exact absurd hd (Bo hr.1)
    | recs e sz l => exact absurd hd (Bo hr.1)
  · exact Cn.Cw h rfl rfl (hb hd) fo hr
theorem Y6 {ρ : Operand → DV} {g? : Option Bool} {op : Op} {n : Nat} {e : TypeId} (h : Jv E ρ g? op = some (n, e)) :
    g? = none ∧ ∃ f args ts g x r c, op = .call ⟨.value f, args, ts⟩ ∧ args.toList = [x] ∧ ρ f = .fn g [] [] ∧ E.spoil g = some e ∧ ρ x = .agg [.int .i64 r, .int .i64 c, .oref n] := by
  unfold Jv at h
  split at h
  · rename_i f args ts
    split at h
    · rename_i g x hf ha
      split at h
      · rename_i e' r c m he hx
        simp only [Option.some.injEq, Prod.mk.injEq] at h
        obtain ⟨rfl, rfl⟩ := h
        exact ⟨rfl, f, args, ts, g, x, r, c, rfl, ha, hf, he, hx⟩
      · cases h
    · cases h
  · cases h
theorem stepD_spoil (he : I6 P E) {ops : Array Oper} {draw : Bool} {st st' : St} {o : Oper} (hs : Kg E ops draw st o = some (true, st'))
    (hsp : ¬ ∀ g?, Nk ops st.tmps o = some g? → (bif draw then none else Jv E (Gi st.tmps) g? o.op) = none) : ∃ d, Ps P E ops draw st o st' d := by
  obtain ⟨dst, op, ty, pos, after, guard⟩ := o
  rw [Classical.not_forall] at hsp
  obtain ⟨g?, hsp⟩ := hsp
  rw [Classical.not_imp] at hsp
  obtain ⟨hc, hsp⟩ := hsp
  cases draw with
  | true => exact absurd rfl hsp
  | false =>
  dsimp only at hsp
  rw [cond_false] at hsp
  cases hsa : Jv E (Gi st.tmps) g? op with
  | none => exact absurd hsa hsp
  | some ne =>
  obtain ⟨n, e⟩ := ne
  obtain ⟨rfl, f, args, ts, g, x, r, c, rfl, hargs, hf, hE, hx⟩ := Y6 hsa
  unfold Kg at hs
  simp only [hc, Option.bind_some, cond_false, hsa] at hs
  have hg := Rj hc
  dsimp only at hg
  split at hs
  · rename_i e' l hlk
    cases hee : (e == e') with
    | false => rw [hee] at hs; simp at hs
    | true =>
    rw [hee, cond_true, Option.some.injEq, Prod.mk.injEq] at hs
    obtain ⟨_, rfl⟩ := hs
    obtain rfl : e = e' := by simpa using hee
    have ht := Lc (y := (false, OB.dead)) hlk
    refine ⟨.undef, rfl, fun h => (by cases h), ht.stays, fun h => (by cases h), ?_⟩
    intro I0 B A w a Q hm hsz hrd hnew
    have hr := Sf (w := w) hrd
    have hf' := hr f (by simp [Op.operands, Call.operands])
    have hx' := hr x (by simp [Op.operands, Call.operands]; exact .inr (by rw [← Array.mem_toList_iff, hargs]; simp))
    rw [hf] at hf'
    rw [hx] at hx'
    simp only [Ak] at hf' hx'
    obtain ⟨fs, cs, hfv, hfs, hcs⟩ := hf'
    obtain ⟨vs, hxv, hvs⟩ := hx'
    have e1 : fs = #[] := by
      have := hfs.length; simp at this; exact Array.eq_empty_of_size_eq_zero this.symm
    have e2 : cs = #[] := by
      have := hcs.length; simp at this; exact Array.eq_empty_of_size_eq_zero this.symm
    subst e1; subst e2
    simp only [A4, Ak] at hvs
    obtain ⟨u1, us1, h1, rfl, u2, us2, rfl, rfl, v, us3, rfl, ⟨hcell, p, hp, hpd⟩, rfl⟩ := hvs
    have hp : A n = some p := hp
    have hvs' : vs = #[.int .i64 r, .int .i64 c, v] := Array.toList_inj.1 (by simpa using h1)
    subst hvs'
    obtain ⟨hlive, sv, hkind, hown⟩ := Dy hm hp hlk
    simp only [Bool.false_eq_true, if_false] at hlive
    have hsv : v = sv := by
      rcases hpd with hpd | ⟨size, hk⟩
      · rw [hlive] at hpd; cases hpd
      · rw [hkind] at hk; cases hk; rfl
    subst hsv
    have hblk : p.Fl = v.ownBlock := by unfold Place.Fl; rw [hkind]
    have hrun := (he.spoil g e hE).run w r c v l (Q8 hown (Nat.zero_le _))
    let A' : Nat → Option Place := fun m => if m = n then some ⟨.dead, p.kind⟩ else A m
    have hA' : ∀ {m : Nat} {q : Place}, A' m = some q → q.st ≠ .dead → m ≠ n ∧ A m = some q := by
      intro m q hq hqd
      by_cases hmn : m = n
      · have hq : (if m = n then some ⟨.dead, p.kind⟩ else A m) = some q := hq
        rw [if_pos hmn] at hq; cases hq; exact absurd rfl hqd
      · have hq : (if m = n then some ⟨.dead, p.kind⟩ else A m) = some q := hq
        rw [if_neg hmn] at hq; exact ⟨hmn, hq⟩
    intro K hK
    rw [if_pos (Om hg)]
    obtain rfl : args = #[x] := by
      cases args with | mk l => simp only at hargs; rw [hargs]
    refine Dz.wp (K' := fun _ w' => Below 0 w w' ∧ ∀ b, b < w.heap.size → v.ownBlock ≠ some b → w'.heap[b]? = w.heap[b]?) ?_ ?_
    · unfold Dz
      have hexec : (execOp a.eval ⟨dst, .call ⟨.value f, #[x], ts⟩, ty, pos, after, guard⟩).run P w = .ok (.enter g #[.agg #[.int .i64 r, .int .i64 c, v]]) w := by
        simp only [execOp, resolve, hfv, Deferred.ofValue, Sem.run_bind, Sem.run_pure, Result.andThen_ok, invoke]
        have : (#[] ++ Array.map a.eval #[x] ++ #[] : Array Value) = #[.agg #[.int .i64 r, .int .i64 c, v]] := by simp [hxv]
        rw [this]
        exact (he.spoil g e hE).call _ _
      rw [hexec]
      exact hrun.mono fun en w' ⟨⟨u, hu⟩, hb, hk⟩ => ⟨u, hu, hb, hk⟩
    · rintro u w' ⟨hb, hk⟩
      have hmv : Hn A w A' w' := by
        refine ⟨hb.size, fun m q hq => ?_, fun m q b hq hql hqb _ => ?_, fun b hlt hno => hk b hlt (fun h => hno n p hp hlive (by rw [hblk]; exact h))⟩
        · by_cases hmn : m = n
          · subst hmn
            exact ⟨⟨.dead, p.kind⟩, if_pos rfl, .inl rfl⟩
          · refine ⟨q, (if_neg hmn).trans hq, ?_⟩
            by_cases hd : q.st = .dead
            · exact .inl hd
            · exact .inr ⟨hd, rfl⟩
        · obtain ⟨_, hq⟩ := hA' hq (by rw [hql]; simp)
          exact ⟨m, q, hq, hql, hqb⟩
      refine hK u w' ⟨A', ⟨Nat.le_trans hm.hB hb.size, hm.I0lt, fun m q fo hq hlo => ?_, fun m q b hq hqd hqb => ?_, fun m m' q q' b hq hq' hqd hqd' hqb hqb' => ?_⟩, hmv, ⟨hb.os, hb.tape, hb.output, hb.size, fun b hlt => hk b (Nat.lt_of_lt_of_le hlt hm.hB) fun h => ?_⟩, by simp [Ak], fun m q hq hn => ?_, fun h => (by cases h)⟩
      · rw [Fe hlk] at hlo
        by_cases hmn : m = n
        · rw [if_pos hmn] at hlo; cases hlo
          have hq : (if m = n then some ⟨.dead, p.kind⟩ else A m) = some q := hq
          rw [if_pos hmn] at hq; cases hq
          rfl
        · rw [if_neg hmn] at hlo
          have hq : (if m = n then some ⟨.dead, p.kind⟩ else A m) = some q := hq
          rw [if_neg hmn] at hq
          refine Oy hmv.Cw (fun hd b hb' => hk b (hm.blkB m q b hq hd hb').2 fun h => hmn (hm.inj m n q p b hq hp hd (by rw [hlive]; simp) hb' (by rw [hblk]; exact h))) (hm.obj m q fo hq hlo)
      · obtain ⟨_, hq⟩ := hA' hq hqd
        have := hm.blkB m q b hq hqd hqb
        exact ⟨this.1, Nat.lt_of_lt_of_le this.2 hb.size⟩
      · obtain ⟨_, hq⟩ := hA' hq hqd
        obtain ⟨_, hq'⟩ := hA' hq' hqd'
        exact hm.inj m m' q q' b hq hq' hqd hqd' hqb hqb'
      · have := (hm.blkB n p b hp (by rw [hlive]; simp) (by rw [hblk]; exact h)).1
        omega
      · by_cases hmn : m = n
        · subst hmn; rw [hp] at hn; cases hn
        · have hq : (if m = n then some ⟨.dead, p.kind⟩ else A m) = some q := hq
          rw [if_neg hmn, hn] at hq; cases hq
  · cases hs
theorem Vg (he : I6 P E) {ops : Array Oper} {draw : Bool} {st st' : St} {o : Oper} (hs : Kg E ops draw st o = some (true, st')) : ∃ d, Ps P E ops draw st o st' d := by
  cases hmut : Sv o.op with
  | false =>
    by_cases hsp : ∀ g?, Nk ops st.tmps o = some g? → (bif draw then none else Jv E (Gi st.tmps) g? o.op) = none
    · exact stepD_quiet he hs hmut hsp
    · exact stepD_spoil he hs hsp
  | true =>
    obtain ⟨dst, op, ty, pos, after, guard⟩ := o
    dsimp only at hmut
    unfold Sv at hmut
    split at hmut
    · exact stepD_store he hs
    · exact Y5 he hs
    · cases hmut
end
end Go.Den
namespace Go.Den
open Go.RowKit (Below)
structure H7 (S I0 : Nat → Prop) (B : Nat) (w0 : World) (A : Nat → Option Place) (f : Nat → Option (Bool × OB)) (g : Nat → DV) (len : Nat) (a : Act) (w : World) : Prop where
  defers : a.defers = []
  size : a.tmps.size = len
  below : Below B w0 w
  hB : B ≤ w.heap.size
  I0lt : ∀ b, I0 b → b < B
  obj : ∀ n p, A n = some p → ∃ fo, f n = some fo ∧ Cn (Bl I0 B A w) w p fo
  blkB : ∀ n p b, A n = some p → p.st ≠ .dead → p.Fl = some b → B ≤ b ∧ b < w.heap.size
  inj : ∀ n m p q b, A n = some p → A m = some q → p.st ≠ .dead → q.st ≠ .dead → p.Fl = some b → q.Fl = some b → n = m
  tmps : ∀ t, Ak (Bl I0 B A w) w (g t) (a.tmps.getD t undef)
  kept : ∀ b, S b → b < w.heap.size ∧ w.heap[b]? = w0.heap[b]? ∧ ∀ n p, A n = some p → p.st = .live → p.Fl ≠ some b
theorem X9 {S : Nat → Prop} {A A' : Nat → Option Place} {w0 w w' : World} (h : ∀ b, S b → b < w.heap.size ∧ w.heap[b]? = w0.heap[b]? ∧ ∀ n p, A n = some p → p.st = .live → p.Fl ≠ some b) (hm : Hn A w A' w') :
    ∀ b, S b → b < w'.heap.size ∧ w'.heap[b]? = w0.heap[b]? ∧ ∀ n p, A' n = some p → p.st = .live → p.Fl ≠ some b := fun b hb => by
  obtain ⟨k1, k2, k3⟩ := h b hb
  refine ⟨Nat.lt_of_lt_of_le k1 hm.size, (hm.kept b k1 k3).trans k2, fun n p hp hl hbk => ?_⟩
  obtain ⟨m, q, hq, hql, hqb⟩ := hm.live n p b hp hl hbk k1
  exact k3 m q hq hql hqb
section
variable {P : Program} {E : Env} {S I0 : Nat → Prop} {B : Nat} {w0 : World} {A : Nat → Option Place} {f f' : Nat → Option (Bool × OB)} {g g' : Nat → DV} {len : Nat} {a : Act} {w : World}
theorem H7.mem (h : H7 S I0 B w0 A f g len a w) {hp : C4} (hf : ∀ n p fo, A n = some p → look hp n = some fo → f n = some fo) : Mem I0 B A hp w :=
  ⟨h.hB, h.I0lt, fun n p fo hn hl => by
    obtain ⟨fo', h1, h2⟩ := h.obj n p hn
    rw [hf n p fo hn hl] at h1; cases h1; exact h2, h.blkB, h.inj⟩
theorem getD_put {dst : Option Tmp} {v : Value} {t : Nat} : (a.put dst v).tmps.getD t undef = if dst = some t ∧ t < a.tmps.size then v else a.tmps.getD t undef := by
  cases dst with
  | none => simp [Act.put]
  | some d =>
    simp only [Act.put, Option.some.injEq, Array.getD_eq_getD_getElem?]
    by_cases h : d = t
    · subst h
      by_cases h2 : d < a.tmps.size
      · simp [h2]
      · simp [h2]
    · rw [Array.getElem?_setIfInBounds_ne h, if_neg (fun e => h e.1)]
theorem Yc {l : List DV} {dst : Option Nat} {d : DV} {t : Nat} : (R3 l dst d).getD t .undef = if dst = some t ∧ t < l.length then d else l.getD t .undef := by
  cases dst with
  | none => simp [R3]
  | some e =>
    simp only [R3, Option.some.injEq, List.getD_eq_getElem?_getD]
    by_cases h : e = t
    · subst h
      by_cases h2 : e < l.length
      · simp [h2]
      · simp [h2]
    · rw [List.getElem?_set_ne h, if_neg (fun e => h e.1)]
theorem put_size {dst : Option Tmp} {v : Value} : (a.put dst v).tmps.size = a.tmps.size := by cases dst <;> simp [Act.put]
theorem put_defers {dst : Option Tmp} {v : Value} : (a.put dst v).defers = a.defers := by cases dst <;> rfl
theorem T5 {l : List DV} {dst : Option Nat} {d : DV} : (R3 l dst d).length = l.length := by cases dst <;> simp [R3]
theorem H7.step {ops : Array Oper} {st st' : St} {o : Oper} {d : DV} (h : H7 S I0 B w0 A f g len a w) (hk : Ps P E ops true st o st' d)
    (h1 : ∀ n, A n ≠ none → look st.heap n ≠ none → look st.heap n = f n)
    (h2 : ∀ t ∈ o.looksAt ops, st.tmps.getD t .undef = g t) (h3 : st.tmps.length = len)
    (h4 : ∀ n, look st.heap n = none → look st'.heap n ≠ none → f n = none)
    (h5 : ∀ n, look st'.heap n ≠ none → (n ∈ Ex E ops st o ∨ look st.heap n = none) → f' n = look st'.heap n)
    (h6 : ∀ n, n ∉ Ex E ops st o → ¬(look st.heap n = none ∧ look st'.heap n ≠ none) → f' n = f n)
    (h7 : ∀ t, g' t = if o.dst = some t ∧ t < len then d else g t) {Q : Exit → Act → World → Prop} :
    H2 P ops o a w Q fun v w' => ∃ A', H7 S I0 B w0 A' f' g' len (a.put o.dst v) w' := by
  have hm : Mem I0 B A st.heap w := h.mem fun n p fo hn hl => by
    rw [← h1 n (by rw [hn]; simp) (by rw [hl]; simp)]; exact hl
  refine (hk.run hm (h.size.trans h3.symm) (fun t ht => by rw [h2 t ht]; exact h.tmps t) (fun n hn hn' => ?_)).mono ?_
  · cases hA : A n with
    | none => rfl
    | some p =>
      obtain ⟨fo, hfo, _⟩ := h.obj n p hA
      rw [h4 n hn hn'] at hfo; cases hfo
  · rintro v w' ⟨A', hm', hmv, hb, hv, hnew, hdr⟩
    obtain ⟨hkept, hsame⟩ := hdr rfl
    have hlater := hmv.Cw (I0 := I0) (B := B)
    refine ⟨A', put_defers.trans h.defers, put_size.trans h.size, h.below.trans hb, hm'.hB, hm'.I0lt, fun n p hp => ?_, hm'.blkB, hm'.inj, fun t => ?_, X9 h.kept hmv⟩
    · have Km : look st'.heap n ≠ none → (n ∈ Ex E ops st o ∨ look st.heap n = none) → ∃ fo, f' n = some fo ∧ Cn (Bl I0 B A' w') w' p fo := by
        intro hl ht
        cases hq : look st'.heap n with
        | none => exact absurd hq hl
        | some fo => exact ⟨fo, by rw [h5 n hl ht, hq], hm'.obj n p fo hp hq⟩
      cases hA : A n with
      | none =>
        obtain ⟨e1, e2⟩ := hnew n p hp hA
        exact Km e2 (.inr e1)
      | some q =>
        obtain ⟨fo, hfo, hr⟩ := h.obj n q hA
        by_cases hmu : n ∈ Ex E ops st o
        · exact Km (hk.stays n (hk.there rfl n hmu)) (.inl hmu)
        · have hs := hsame n q hmu hA
          rw [hp] at hs; cases hs
          refine ⟨fo, ?_, Oy hlater (fun hd b hb => hkept n _ b hmu hA hd hb) hr⟩
          rw [h6 n hmu (fun e => by rw [h4 n e.1 e.2] at hfo; cases hfo)]; exact hfo
    · rw [getD_put, h7, h.size]
      split
      · exact hv
      · exact Ak.Cw hlater _ _ (h.tmps t)
def Ew (S I0 : Nat → Prop) (B : Nat) (w0 : World) (st : St) (a : Act) (w : World) : Prop := ∃ A, H7 S I0 B w0 A (look st.heap) (fun t => st.tmps.getD t .undef) st.tmps.length a w
theorem Ew.step {ops : Array Oper} {draw : Bool} {st st' : St} {o : Oper} {d : DV} (h : Ew S I0 B w0 st a w) (hk : Ps P E ops draw st o st' d) {Q : Exit → Act → World → Prop} :
    H2 P ops o a w Q fun v w' => Ew S I0 B w0 st' (a.put o.dst v) w' := by
  obtain ⟨A, h⟩ := h
  have hm : Mem I0 B A st.heap w := h.mem fun n p fo hn hl => hl
  refine (hk.run hm h.size (fun t _ => h.tmps t) (fun n hn _ => ?_)).mono ?_
  · cases hA : A n with
    | none => rfl
    | some p =>
      obtain ⟨fo, hfo, _⟩ := h.obj n p hA
      rw [hn] at hfo; cases hfo
  · rintro v w' ⟨A', hm', hmv, hb, hv, hnew, _⟩
    have hlater := hmv.Cw (I0 := I0) (B := B)
    refine ⟨A', put_defers.trans h.defers, put_size.trans (h.size.trans (by rw [hk.tmps, T5])), h.below.trans hb, hm'.hB, hm'.I0lt, fun n p hp => ?_, hm'.blkB, hm'.inj, fun t => ?_, X9 h.kept hmv⟩
    · have hl : look st'.heap n ≠ none := by
        cases hA : A n with
        | none => exact (hnew n p hp hA).2
        | some q =>
          obtain ⟨fo, hfo, _⟩ := h.obj n q hA
          exact hk.stays n (by rw [hfo]; simp)
      cases hq : look st'.heap n with
      | none => exact absurd hq hl
      | some fo => exact ⟨fo, rfl, hm'.obj n p fo hp hq⟩
    · rw [getD_put, hk.tmps, Yc, h.size]
      split
      · exact hv
      · exact Ak.Cw hlater _ _ (h.tmps t)
end
end Go.Den
namespace Go.Den
open Go.RowKit (Below)
theorem J1 {n : Nat} : ∀ {l : List Nat}, Kw n l = true ↔ n ∈ l
  | [] => by simp [Kw]
  | m :: l => by
    simp only [Kw, List.mem_cons]
    by_cases h : n = m
    · subst h; simp
    · rw [show Nat.beq n m = false from by cases hb : Nat.beq n m with | false => rfl | true => exact absurd (Nat.eq_of_beq_eq_true hb) h]
      simp only [cond_false, J1, h, false_or]
theorem Rd {n : Nat} {l : List Nat} : Kw n l = false ↔ n ∉ l := by rw [← J1]; simp
section
variable {α : Type} {val : Nat → α} {touch S S' : Nat → Prop}
open Classical in
def after (val : Nat → α) (touch S : Nat → Prop) : Nat → α
  | 0 => val 0
  | k + 1 => if S k ∧ touch k then val (k + 1) else after val touch S k
theorem Md {N : Nat} (h : ∀ j, j < N → touch j → (S j ↔ S' j)) : after val touch S N = after val touch S' N := by
  induction N with
  | zero => rfl
  | succ k ih =>
    simp only [after]
    by_cases ht : touch k
    · rw [ih fun j hj => h j (by omega)]
      by_cases hs : S k
      · rw [if_pos ⟨hs, ht⟩, if_pos ⟨(h k (by omega) ht).1 hs, ht⟩]
      · rw [if_neg (fun e => hs e.1), if_neg (fun e => hs ((h k (by omega) ht).2 e.1))]
    · rw [if_neg (fun e => ht e.2), if_neg (fun e => ht e.2)]
      exact ih fun j hj => h j (by omega)
theorem Yt : ∀ {k : Nat}, (∀ j, j < k → ¬ touch j → val (j + 1) = val j) → (∀ j, j < k → touch j → S j) → after val touch S k = val k
  | 0, _, _ => rfl
  | k + 1, hv, h => by
    simp only [after]
    by_cases ht : touch k
    · rw [if_pos ⟨h k (by omega) ht, ht⟩]
    · rw [if_neg (fun e => ht e.2), Yt (fun j hj => hv j (by omega)) (fun j hj => h j (by omega)), hv k (by omega) ht]
theorem Rq {k : Nat} : ∀ {N : Nat}, k ≤ N → (∀ j, k ≤ j → j < N → touch j → ¬ S j) → after val touch S N = after val touch S k
  | 0, hk, _ => by obtain rfl : k = 0 := by omega
                   rfl
  | N + 1, hk, h => by
    by_cases e : k = N + 1
    · rw [e]
    · simp only [after]
      rw [if_neg (fun e' => h N (by omega) (by omega) e'.2 e'.1)]
      exact Rq (by omega) fun j h1 h2 => h j h1 (by omega)
theorem J8 {k N : Nat} (hv : ∀ j, j < N → ¬ touch j → val (j + 1) = val j) (hk : k ≤ N) (h : ∀ j, j < N → touch j → (S j ↔ j < k)) : after val touch S N = val k := by
  rw [Rq hk fun j h1 h2 h3 h4 => by have := (h j h2 h3).1 h4; omega]
  exact Yt (fun j hj => hv j (by omega)) fun j h1 h2 => (h j (by omega) h2).2 h1
theorem W4 {k N : Nat} (hk : k < N) (ht : touch k) (hs : S k) (h : ∀ j, k < j → j < N → touch j → ¬ S j) : after val touch S N = val (k + 1) := by
  rw [Rq (k := k + 1) (by omega) fun j h1 h2 => h j (by omega) h2]
  simp only [after]
  rw [if_pos ⟨hs, ht⟩]
end
theorem J3 {p : Nat → Bool} : ∀ {h : C4} {n : Nat}, look (h.filter fun x => p x.1) n = bif p n then look h n else none
  | [], n => by simp [look]
  | (m, x) :: h, n => by
    simp only [List.filter_cons, look]
    by_cases e : m = n
    · subst e
      cases hp : p m <;> simp [look, J3, hp]
    · rw [show (m == n) = false by simpa using e]
      cases hp : p m
      · simpa using J3
      · simp only [if_true, look, cond_false, show (m == n) = false by simpa using e]
        exact J3
theorem look_mask {ms : List Nat} {h : C4} {n : Nat} : look (maskH ms h) n = if n ∈ ms then none else look h n := by
  unfold maskH
  rw [J3 (p := fun m => !(Kw m ms))]
  by_cases hn : n ∈ ms
  · rw [J1.2 hn, if_pos hn]; rfl
  · rw [Rd.2 hn, if_neg hn]; rfl
theorem look_hid {ms : List Nat} {h : C4} {n : Nat} : look (hidH ms h) n = if n ∈ ms then look h n else none := by
  unfold hidH
  rw [J3 (p := fun m => Kw m ms)]
  by_cases hn : n ∈ ms
  · rw [J1.2 hn, if_pos hn]; rfl
  · rw [Rd.2 hn, if_neg hn]; rfl
theorem look_mem {h : C4} {n : Nat} {x : Bool × OB} (hl : look h n = some x) : (n, x) ∈ h := by
  induction h with
  | nil => cases hl
  | cons y h ih =>
    obtain ⟨m, z⟩ := y
    simp only [look] at hl
    by_cases e : m = n
    · subst e; simp at hl; subst hl; exact List.mem_cons_self
    · rw [show (m == n) = false by simpa using e] at hl
      exact List.mem_cons_of_mem _ (ih hl)
structure Saw (P : Program) (E : Env) (ops : Array Oper) (ms : List Nat) (st : St) (o : Oper) (st' : St) (mk mk' : St) (d : DV) : Prop where
  ok : Ps P E ops true mk o mk' d
  seen : mk = Mj ms st
  tmps : mk.tmps = st.tmps
  tmps' : st'.tmps = mk'.tmps
  mask : ∀ n, look mk.heap n = if n ∈ ms then none else look st.heap n
  out : ∀ n, look mk'.heap n ≠ none → n ∉ ms
  heap : ∀ n, look st'.heap n = if n ∈ ms then look st.heap n else look mk'.heap n
theorem stepM_ok {P : Program} {E : Env} (he : I6 P E) {ops : Array Oper} {ms : List Nat} {st st' : St} {o : Oper} (h : stepM E ops ms st o = some (true, st')) : ∃ mk mk' d, Saw P E ops ms st o st' mk mk' d := by
  cases ms with
  | nil =>
    simp only [stepM] at h
    obtain ⟨d, hd⟩ := Vg he h
    exact ⟨st, st', d, hd, rfl, rfl, rfl, fun n => by simp, fun n _ => by simp, fun n => by simp⟩
  | cons m ms =>
    simp only [stepM] at h
    cases hs : Kg E ops true ⟨st.tmps, maskH (m :: ms) st.heap⟩ o with
    | none => rw [hs] at h; cases h
    | some r =>
      obtain ⟨r, mk'⟩ := r
      rw [hs] at h
      simp only at h
      cases hc : (mk'.heap.all fun x => !(Kw x.1 (m :: ms))) with
      | false => rw [hc] at h; cases h
      | true =>
        rw [hc, cond_true, Option.some.injEq, Prod.mk.injEq] at h
        obtain ⟨rfl, rfl⟩ := h
        obtain ⟨d, hd⟩ := Vg he hs
        have hout : ∀ n, look mk'.heap n ≠ none → n ∉ m :: ms := by
          intro n hn
          cases hq : look mk'.heap n with
          | none => exact absurd hq hn
          | some x =>
            have := List.all_eq_true.1 hc _ (look_mem hq)
            rw [Bool.not_eq_true'] at this
            exact Rd.1 this
        refine ⟨_, mk', d, hd, rfl, rfl, rfl, fun n => look_mask, hout, fun n => ?_⟩
        show look (mk'.heap ++ hidH (m :: ms) st.heap) n = _
        rw [L6, look_hid]
        by_cases hn : n ∈ m :: ms
        · rw [if_pos hn]
          cases hq : look mk'.heap n with
          | none => simp [hn]
          | some x => exact absurd hn (hout n (by rw [hq]; simp))
        · rw [if_neg hn, if_neg hn]
          cases look mk'.heap n <;> rfl
section
variable {P : Program} {E : Env} {ops : Array Oper} {ms : List Nat} {st st' mk mk' : St} {o : Oper} {d : DV} (h : Saw P E ops ms st o st' mk mk' d)
include h
theorem Saw.muts {n : Nat} (hn : n ∈ Ex E ops (Mj ms st) o) : look st.heap n ≠ none ∧ n ∉ ms := by
  have h1 := h.ok.there rfl n (by rw [h.seen]; exact hn)
  rw [h.mask] at h1
  by_cases hm : n ∈ ms
  · rw [if_pos hm] at h1; exact absurd rfl h1
  · rw [if_neg hm] at h1; exact ⟨h1, hm⟩
theorem Saw.stays {n : Nat} (hn : look st.heap n ≠ none) : look st'.heap n ≠ none := by
  rw [h.heap]
  by_cases hm : n ∈ ms
  · rw [if_pos hm]; exact hn
  · rw [if_neg hm]
    exact h.ok.stays n (by rw [h.mask, if_neg hm]; exact hn)
theorem Saw.same {n : Nat} (hn : n ∉ Ex E ops (Mj ms st) o) (hc : ¬(look st.heap n = none ∧ look st'.heap n ≠ none)) : look st'.heap n = look st.heap n := by
  cases hq : look st.heap n with
  | none =>
    cases hq' : look st'.heap n with
    | none => rfl
    | some x => exact absurd ⟨hq, by rw [hq']; simp⟩ hc
  | some x =>
    rw [h.heap]
    by_cases hm : n ∈ ms
    · rw [if_pos hm, hq]
    · rw [if_neg hm]
      have h1 : look mk.heap n = some x := by rw [h.mask, if_neg hm, hq]
      rw [h.ok.same rfl n (by rw [h.seen]; exact hn) (by rw [h1]; simp), h1]
theorem Saw.made {n : Nat} (h1 : look st.heap n = none) (h2 : look st'.heap n ≠ none) : n ∉ ms := by
  intro hm
  rw [h.heap, if_pos hm] at h2
  exact h2 h1
theorem Saw.getD {t : Nat} : st'.tmps.getD t .undef = if o.dst = some t ∧ t < st.tmps.length then d else st.tmps.getD t .undef := by
  rw [h.tmps', h.ok.tmps, h.tmps, Yc]
theorem Saw.length : st'.tmps.length = st.tmps.length := by rw [h.tmps', h.ok.tmps, T5, h.tmps]
end
structure Trace (P : Program) (E : Env) (ops : Array Oper) (D : List (List Nat)) (M : List (Nat × List Nat)) (tr : Nat → St) : Prop where
  saw : ∀ k o, ops[k]? = some o → ∃ mk mk' d, Saw P E ops (F8 D k M) (tr k) o (tr (k + 1)) mk mk' d
  muts : ∀ k o, ops[k]? = some o → O2 D k = true → ∀ n, n ∈ Ex E ops (Mj (F8 D k M) (tr k)) o → n ∈ Kv k M
theorem T8 {β : Type} {P : Program} {E : Env} (he : I6 P E) {ops : Array Oper} {D : List (List Nat)} {M : List (Nat × List Nat)} {K : St → Option β} {b : β} :
    ∀ (l : List Oper) (k : Nat) (st : St), (∀ j, l[j]? = ops[k + j]?) → passM E ops D M k l st K = some b →
    ∃ tr : Nat → St, tr 0 = st ∧ K (tr l.length) = some b ∧ ∀ j o, l[j]? = some o → (∃ mk mk' d, Saw P E ops (F8 D (k + j) M) (tr j) o (tr (j + 1)) mk mk' d) ∧ (O2 D (k + j) = true → ∀ n, n ∈ Ex E ops (Mj (F8 D (k + j) M) (tr j)) o → n ∈ Kv (k + j) M)
  | [], k, st, _, h => ⟨fun _ => st, rfl, h, fun j o hj => (by cases hj)⟩
  | o :: l, k, st, hl, h => by
    simp only [passM] at h
    cases hs : stepM E ops (F8 D k M) st o with
    | none => rw [hs] at h; cases h
    | some r =>
      obtain ⟨r, st'⟩ := r
      rw [hs] at h
      simp only at h
      cases hc : (r && (!(O2 D k) || (Ex E ops (Mj (F8 D k M) st) o).all fun n => Kw n (Kv k M))) with
      | false => rw [hc] at h; cases h
      | true =>
        rw [hc, cond_true] at h
        simp only [Bool.and_eq_true, Bool.or_eq_true, Bool.not_eq_true', List.all_eq_true] at hc
        obtain ⟨rfl, hc⟩ := hc
        obtain ⟨tr, h1, h2, h3⟩ := T8 he l (k + 1) st' (fun j => by have := hl (j + 1); simpa [Nat.add_assoc, Nat.add_comm 1 j] using this) h
        refine ⟨fun j => match j with | 0 => st | j + 1 => tr j, rfl, h2, fun j p hj => ?_⟩
        cases j with
        | zero =>
          simp only [List.getElem?_cons_zero, Option.some.injEq] at hj
          subst hj
          refine ⟨by show ∃ mk mk' d, Saw P E ops (F8 D k M) st o (tr 0) mk mk' d; rw [h1]; exact stepM_ok he hs, fun hlo n hn => ?_⟩
          rcases hc with hc | hc
          · have hlo' : O2 D k = true := hlo
            rw [hc] at hlo'; cases hlo'
          · exact J1.1 (hc n hn)
        | succ j =>
          rw [List.getElem?_cons_succ] at hj
          have := h3 j p hj
          rw [show k + (j + 1) = k + 1 + j by omega]
          exact this
end Go.Den
namespace Go.Den
open Go.RowKit (Below)
theorem Qy {ops : Array Oper} {k : Nat} {o : Oper} (h : ops[k]? = some o) : (ops.toList.map Hc).getD k [] = Hc o := by
  have : ops.toList[k]? = some o := by simpa using h
  simp [List.getD_eq_getElem?_getD, this]
theorem Es {ops : Array Oper} {k i : Nat} (h : i ∈ (ops.toList.map Hc).getD k []) : ∃ o, ops[k]? = some o ∧ i ∈ Hc o := by
  cases hk : ops[k]? with
  | none =>
    have : ops.toList[k]? = none := by simpa using hk
    simp [List.getD_eq_getElem?_getD, this] at h
  | some o => rw [Qy hk] at h; exact ⟨o, rfl, h⟩
theorem mem_dirs {o : Oper} {i : Nat} : i ∈ Hc o ↔ ∃ e ∈ o.after, Region.binds .any e = true ∧ e.on = i := by
  unfold Hc
  simp only [List.mem_filterMap, Array.mem_toList_iff]
  constructor
  · rintro ⟨e, he, h⟩
    cases hb : Region.binds .any e with
    | false => rw [hb] at h; simp at h
    | true => rw [hb] at h; simp at h; exact ⟨e, he, hb, h⟩
  · rintro ⟨e, he, hb, rfl⟩
    exact ⟨e, he, by rw [hb]; rfl⟩
structure Rr (ops : Array Oper) : Prop where
  lt : ∀ (k : Nat) o, ops[k]? = some o → ∀ i ∈ Hc o, i < k
  once : ∀ (k j : Nat) o p t, ops[k]? = some o → ops[j]? = some p → p.dst = some t → o.dst = some t → j = k
  told : ∀ (k j : Nat) o p t, ops[k]? = some o → ops[j]? = some p → p.dst = some t → t ∈ o.looksAt ops → Us (ops.toList.map Hc) j k = true ∨ Us (ops.toList.map Hc) k j = true
theorem lt_size {ops : Array Oper} {k : Nat} {o : Oper} (h : ops[k]? = some o) : k < ops.size := by
  rcases Nat.lt_or_ge k ops.size with h' | h'
  · exact h'
  · rw [Array.getElem?_eq_none h'] at h; cases h
theorem drawOk_spec {ops : Array Oper} (h : Z6 ops (ops.toList.map Hc) = true) : Rr ops := by
  unfold Z6 at h
  simp only [List.all_eq_true, List.mem_range, List.length_map, Array.length_toList] at h
  refine ⟨fun k o hk i hi => ?_, fun k j o p t hk hj hp ho => ?_, fun k j o p t hk hj hp ht => ?_⟩
  · have h1 := h k (lt_size hk)
    rw [Bool.and_eq_true, List.all_eq_true] at h1
    have := h1.1 i (by rw [Qy hk]; exact hi)
    simpa [Nat.blt_eq] using this
  · have h1 := h k (lt_size hk)
    rw [Bool.and_eq_true, hk] at h1
    have h2 := h1.2
    simp only [List.all_eq_true, List.mem_range] at h2
    have h3 := h2 j (lt_size hj)
    rw [hj] at h3
    simp only [hp, Bool.and_eq_true, Bool.or_eq_true] at h3
    rcases h3.1 with h4 | h4
    · exact Nat.eq_of_beq_eq_true h4
    · rw [ho] at h4; simp at h4
  · have h1 := h k (lt_size hk)
    rw [Bool.and_eq_true, hk] at h1
    have h2 := h1.2
    simp only [List.all_eq_true, List.mem_range] at h2
    have h3 := h2 j (lt_size hj)
    rw [hj] at h3
    simp only [hp, Bool.and_eq_true, Bool.or_eq_true] at h3
    rcases h3.2 with h4 | h4
    · rw [J1.2 ht] at h4; simp at h4
    · exact h4
theorem Yr {D : List (List Nat)} {i j : Nat} (h : Us D i j = true) : i ∈ D.getD j [] ∨ ∃ m ∈ D.getD j [], i ∈ D.getD m [] := by
  unfold Us at h
  simp only [Bool.or_eq_true, List.any_eq_true] at h
  exact h.imp J1.1 fun ⟨m, h1, h2⟩ => ⟨m, h1, J1.1 h2⟩
section
variable {ops : Array Oper} (hd : Rr ops)
include hd
theorem Rr.W2 {i j : Nat} (h : Us (ops.toList.map Hc) i j = true) : i < j := by
  rcases Yr h with h | ⟨m, h1, h2⟩
  · obtain ⟨o, ho, hi⟩ := Es h
    exact hd.lt j o ho i hi
  · obtain ⟨o, ho, hi⟩ := Es h1
    obtain ⟨p, hp, hj⟩ := Es h2
    have := hd.lt j o ho m hi
    have := hd.lt m p hp i hj
    omega
end
def T1 (ops : Array Oper) (S : Nat → Prop) : Prop := ∀ k o, ops[k]? = some o → S k → ∀ i ∈ Hc o, S i
theorem T1.bef {ops : Array Oper} {S : Nat → Prop} (hc : T1 ops S) {k : Nat} (hk : ∀ o, ops[k]? = some o → ∀ i ∈ Hc o, S i) {i : Nat} (h : Us (ops.toList.map Hc) i k = true) : S i := by
  rcases Yr h with h | ⟨m, h1, h2⟩
  · obtain ⟨o, ho, hi⟩ := Es h
    exact hk o ho i hi
  · obtain ⟨o, ho, hi⟩ := Es h1
    obtain ⟨p, hp, hj⟩ := Es h2
    exact hc m p hp (hk o ho m hi) i hj
theorem T0 {D : List (List Nat)} {i j : Nat} (h1 : i ≠ j) (h2 : Us D i j ≠ true) (h3 : Us D j i ≠ true) : Lp D i j = true := by
  unfold Lp
  have e1 : Nat.beq i j = false := by
    cases hb : Nat.beq i j with
    | false => rfl
    | true => exact absurd (Nat.eq_of_beq_eq_true hb) h1
  rw [e1, Bool.not_eq_true _ |>.mp h2, Bool.not_eq_true _ |>.mp h3]; rfl
theorem Rc {D : List (List Nat)} {s k n : Nat} (ha : Lp D s k = true) : ∀ {M : List (Nat × List Nat)}, n ∈ Kv s M → n ∈ F8 D k M
  | [], h => by simp [Kv] at h
  | (s', ns) :: M, h => by
    simp only [Kv] at h
    simp only [F8]
    cases hb : Nat.beq s' s with
    | true =>
      have := Nat.eq_of_beq_eq_true hb
      subst this
      rw [hb] at h
      rw [ha]
      simp only [cond_true, List.mem_append] at h ⊢
      exact h.imp id (Rc ha)
    | false =>
      rw [hb] at h
      simp only [cond_false] at h
      have := Rc ha h
      cases Lp D s' k
      · exact this
      · exact List.mem_append.2 (.inr this)
theorem looseB_of {D : List (List Nat)} {s k : Nat} (ha : Lp D s k = true) (hk : k < D.length) : O2 D s = true := by
  unfold O2
  exact List.any_eq_true.2 ⟨k, List.mem_range.2 hk, ha⟩
def Y3 (E : Env) (ops : Array Oper) (M : List (Nat × List Nat)) (tr : Nat → St) (n : Nat) (k : Nat) : Prop :=
  ∃ o, ops[k]? = some o ∧ (n ∈ Ex E ops (Mj (F8 (ops.toList.map Hc) k M) (tr k)) o ∨ (look (tr k).heap n = none ∧ look (tr (k + 1)).heap n ≠ none))
def touchT (ops : Array Oper) (len : Nat) (t : Nat) (k : Nat) : Prop := t < len ∧ ∃ o, ops[k]? = some o ∧ o.dst = some t
def Pa (E : Env) (ops : Array Oper) (M : List (Nat × List Nat)) (tr : Nat → St) (S : Nat → Prop) (n : Nat) : Option (Bool × OB) := after (fun k => look (tr k).heap n) (Y3 E ops M tr n) S ops.size
def Xn (ops : Array Oper) (tr : Nat → St) (S : Nat → Prop) (t : Nat) : DV := after (fun k => (tr k).tmps.getD t .undef) (touchT ops (tr 0).tmps.length t) S ops.size
section
variable {P : Program} {E : Env} {ops : Array Oper} {M : List (Nat × List Nat)} {tr : Nat → St} (hd : Rr ops) (T : Trace P E ops (ops.toList.map Hc) M tr)
include T
theorem Trace.len {k : Nat} (h : k ≤ ops.size) : (tr k).tmps.length = (tr 0).tmps.length := by
  induction k with
  | zero => rfl
  | succ k ih =>
    obtain ⟨mk, mk', d, hs⟩ := T.saw k ops[k] (Array.getElem?_eq_getElem (by omega))
    rw [hs.length, ih (by omega)]
theorem Trace.stays {n j k : Nat} (hj : look (tr j).heap n ≠ none) (hjk : j ≤ k) (hk : k ≤ ops.size) : look (tr k).heap n ≠ none := by
  induction k with
  | zero => obtain rfl : j = 0 := by omega
            exact hj
  | succ k ih =>
    by_cases e : j = k + 1
    · rw [← e]; exact hj
    · obtain ⟨mk, mk', d, hs⟩ := T.saw k ops[k] (Array.getElem?_eq_getElem (by omega))
      exact hs.stays (ih (by omega) (by omega))
theorem Trace.valH {n j : Nat} (hj : j < ops.size) (ht : ¬ Y3 E ops M tr n j) : look (tr (j + 1)).heap n = look (tr j).heap n := by
  obtain ⟨mk, mk', d, hs⟩ := T.saw j ops[j] (Array.getElem?_eq_getElem hj)
  exact hs.same (fun h => ht ⟨_, Array.getElem?_eq_getElem hj, .inl h⟩) (fun h => ht ⟨_, Array.getElem?_eq_getElem hj, .inr h⟩)
theorem Trace.valT {t j : Nat} (hj : j < ops.size) (ht : ¬ touchT ops (tr 0).tmps.length t j) : (tr (j + 1)).tmps.getD t .undef = (tr j).tmps.getD t .undef := by
  obtain ⟨mk, mk', d, hs⟩ := T.saw j ops[j] (Array.getElem?_eq_getElem hj)
  rw [hs.getD, T.len (by omega), if_neg (fun e => ht ⟨e.2, _, Array.getElem?_eq_getElem hj, e.1⟩)]
theorem Trace.Km {n j : Nat} {o : Oper} (ho : ops[j]? = some o) (ht : Y3 E ops M tr n j) : (n ∈ Ex E ops (Mj (F8 (ops.toList.map Hc) j M) (tr j)) o ∧ look (tr j).heap n ≠ none) ∨ (look (tr j).heap n = none ∧ look (tr (j + 1)).heap n ≠ none) := by
  obtain ⟨o', ho', h⟩ := ht
  rw [ho] at ho'; cases ho'
  rcases h with h | h
  · obtain ⟨mk, mk', d, hs⟩ := T.saw j o ho
    exact .inl ⟨h, (hs.muts h).1⟩
  · exact .inr h
theorem Trace.hide {s k n : Nat} {o : Oper} (hs : ops[s]? = some o) (hk : k < ops.size) (ha : Lp (ops.toList.map Hc) s k = true) (hn : n ∈ Ex E ops (Mj (F8 (ops.toList.map Hc) s M) (tr s)) o) : n ∈ F8 (ops.toList.map Hc) k M :=
  Rc ha (T.muts s o hs (looseB_of ha (by simpa using hk)) n hn)
omit T in
theorem Po {S : Nat → Prop} (hd : Rr ops) (hc : T1 ops S) {k : Nat} (hk : ¬ S k) {j : Nat} (hj : S j) (hlt : k < j) : Lp (ops.toList.map Hc) j k = true := by
  refine T0 (by omega) (fun e => ?_) (fun e => ?_)
  · have := hd.W2 e; omega
  · exact hk (hc.bef (fun p hp => hc j p hp hj) e)
omit T in
theorem Aag {S : Nat → Prop} (hd : Rr ops) (hc : T1 ops S) {k : Nat} {o : Oper} (ho : ops[k]? = some o) (hr : ∀ i ∈ Hc o, S i) {j : Nat} (hj : ¬ S j) (hlt : j < k) : Lp (ops.toList.map Hc) j k = true := by
  refine T0 (by omega) (fun e => ?_) (fun e => ?_)
  · exact hj (hc.bef (fun p hp => by rw [ho] at hp; cases hp; exact hr) e)
  · have := hd.W2 e; omega
include hd
variable {S : Nat → Prop} (hc : T1 ops S) {k : Nat} {o : Oper} (ho : ops[k]? = some o) (hk : ¬ S k) (hr : ∀ i ∈ Hc o, S i)
include hc ho hk hr
theorem Trace.look_at {n : Nat} (hm : n ∉ F8 (ops.toList.map Hc) k M) (h1 : look (tr k).heap n ≠ none) (h2 : Pa E ops M tr S n ≠ none) : Pa E ops M tr S n = look (tr k).heap n := by
  have hkN := lt_size ho
  refine J8 (val := fun k => look (tr k).heap n) (fun j hj ht => T.valH hj ht) (by omega) fun j hj ht => ?_
  have hoj : ops[j]? = some ops[j] := Array.getElem?_eq_getElem hj
  constructor
  · intro hS
    rcases Nat.lt_or_ge j k with h | h
    · exact h
    · have hne : j ≠ k := fun e => hk (e ▸ hS)
      have ha := Po hd hc hk hS (by omega)
      rcases T.Km hoj ht with ⟨h3, _⟩ | ⟨h3, _⟩
      · exact absurd (T.hide hoj hkN ha h3) hm
      · exact absurd h3 (T.stays h1 (by omega) (by omega))
  · intro hlt
    refine Classical.byContradiction fun hS => ?_
    have ha := Aag hd hc ho hr hS hlt
    rcases T.Km hoj ht with ⟨h3, _⟩ | ⟨h3, h4⟩
    · exact hm (T.hide hoj hkN ha h3)
    ·
      refine h2 ?_
      have : Pa E ops M tr S n = look (tr 0).heap n := by
        refine J8 (k := 0) (val := fun k => look (tr k).heap n) (fun j hj ht => T.valH hj ht) (by omega) fun i hi hti => ⟨fun hSi => ?_, fun h => by omega⟩
        exfalso
        have hoi : ops[i]? = some ops[i] := Array.getElem?_eq_getElem hi
        have hij : i ≠ j := fun e => hS (e ▸ hSi)
        have hji : j < i := by
          rcases T.Km hoi hti with ⟨_, h5⟩ | ⟨h5, h6⟩
          · rcases Nat.lt_or_ge j i with h | h
            · exact h
            · exact absurd h3 (T.stays h5 h (by omega))
          · rcases Nat.lt_or_ge j i with h | h
            · exact h
            · exact absurd h3 (T.stays h6 (by omega) (by omega))
        have hap : Lp (ops.toList.map Hc) i j = true := by
          refine T0 hij (fun e => ?_) (fun e => ?_)
          · have := hd.W2 e; omega
          · exact hS (hc.bef (fun p hp => hc i p hp hSi) e)
        rcases T.Km hoi hti with ⟨h5, _⟩ | ⟨h5, _⟩
        · obtain ⟨mk, mk', d, hsj⟩ := T.saw j _ hoj
          exact hsj.made h3 h4 (T.hide hoi hj hap h5)
        · exact absurd h5 (T.stays h4 (by omega) (by omega))
      rw [this]
      cases hq : look (tr 0).heap n with
      | none => rfl
      | some x => exact absurd h3 (T.stays (j := 0) (by rw [hq]; simp) (by omega) (by omega))
theorem Trace.tmp_at {t : Nat} (ht : t ∈ o.looksAt ops) : Xn ops tr S t = (tr k).tmps.getD t .undef := by
  have hkN := lt_size ho
  refine J8 (val := fun k => (tr k).tmps.getD t .undef) (fun j hj h => T.valT hj h) (by omega) fun j hj hj' => ?_
  obtain ⟨_, p, hp, hdst⟩ := hj'
  rcases hd.told k j o p t ho hp hdst ht with h | h
  · have := hd.W2 h
    exact ⟨fun _ => this, fun _ => hc.bef (fun p hp => by rw [ho] at hp; cases hp; exact hr) h⟩
  · have := hd.W2 h
    exact ⟨fun hS => absurd (hc.bef (fun p hp => hc j p hp hS) h) hk, fun h => by omega⟩
theorem Trace.step {S0 I0 : Nat → Prop} {B : Nat} {w0 : World} {A : Nat → Option Place} {a : Act} {w : World} (h : H7 S0 I0 B w0 A (Pa E ops M tr S) (Xn ops tr S) (tr 0).tmps.length a w) {Q : Exit → Act → World → Prop} :
    H2 P ops o a w Q fun v w' => ∃ A', H7 S0 I0 B w0 A' (Pa E ops M tr fun j => S j ∨ j = k) (Xn ops tr fun j => S j ∨ j = k) (tr 0).tmps.length (a.put o.dst v) w' := by
  have hkN := lt_size ho
  obtain ⟨mk, mk', d, hs⟩ := T.saw k o ho
  have hout : ∀ {n}, look mk'.heap n ≠ none → look mk'.heap n = look (tr (k + 1)).heap n := by
    intro n hn
    rw [hs.heap, if_neg (hs.out n hn)]
  refine h.step hs.ok (fun n hA hl => ?_) (fun t ht => ?_) (by rw [hs.tmps, T.len (by omega)]) (fun n h1 h2 => ?_) (fun n h1 h2 => ?_) (fun n h1 h2 => ?_) (fun t => ?_)
  · have hm : n ∉ F8 (ops.toList.map Hc) k M := fun e => hl (by rw [hs.mask, if_pos e])
    rw [hs.mask, if_neg hm] at hl ⊢
    refine (T.look_at hd hc ho hk hr hm hl ?_).symm
    cases hA' : A n with
    | none => exact absurd hA' hA
    | some p =>
      obtain ⟨fo, hfo, _⟩ := h.obj n p hA'
      rw [hfo]; simp
  · rw [hs.tmps]; exact (T.tmp_at hd hc ho hk hr ht).symm
  ·
    have hm := hs.out n h2
    rw [hs.mask, if_neg hm] at h1
    rw [hout h2] at h2
    have : Pa E ops M tr S n = look (tr 0).heap n := by
      refine J8 (k := 0) (val := fun k => look (tr k).heap n) (fun j hj ht => T.valH hj ht) (by omega) fun i hi hti => ⟨fun hSi => ?_, fun h => by omega⟩
      exfalso
      have hoi : ops[i]? = some ops[i] := Array.getElem?_eq_getElem hi
      have hik : i ≠ k := fun e => hk (e ▸ hSi)
      rcases T.Km hoi hti with ⟨h5, h6⟩ | ⟨h5, h6⟩
      · rcases Nat.lt_or_ge i k with hlt | hge
        · exact absurd h1 (T.stays h6 (by omega) (by omega))
        · exact hm (T.hide hoi hkN (Po hd hc hk hSi (by omega)) h5)
      · rcases Nat.lt_or_ge i k with hlt | hge
        · exact absurd h1 (T.stays h6 (by omega) (by omega))
        · exact absurd h5 (T.stays h2 (by omega) (by omega))
    rw [this]
    cases hq : look (tr 0).heap n with
    | none => rfl
    | some x => exact absurd h1 (T.stays (j := 0) (by rw [hq]; simp) (by omega) (by omega))
  · have hm := hs.out n h1
    rw [hs.mask, if_neg hm, hs.seen] at h2
    have e1 := hout h1
    rw [e1] at h1 ⊢
    have ht : Y3 E ops M tr n k := ⟨o, ho, h2.imp id fun e => ⟨e, h1⟩⟩
    refine W4 (val := fun k => look (tr k).heap n) hkN ht (.inr rfl) fun i hlt hi hti hSi => ?_
    have hSi := hSi.resolve_right (by omega)
    have hoi : ops[i]? = some ops[i] := Array.getElem?_eq_getElem hi
    rcases T.Km hoi hti with ⟨h5, _⟩ | ⟨h5, _⟩
    · exact hm (T.hide hoi hkN (Po hd hc hk hSi hlt) h5)
    · exact absurd h5 (T.stays h1 (by omega) (by omega))
  · rw [hs.seen] at h1
    refine Md fun j hj ht => ⟨fun h => h.resolve_right fun e => ?_, .inl⟩
    subst e
    obtain ⟨o', ho', h3⟩ := ht
    rw [ho] at ho'; cases ho'
    rcases h3 with h3 | ⟨h3, h4⟩
    · exact h1 h3
    · have hm := hs.made h3 h4
      refine h2 ⟨by rw [hs.mask, if_neg hm]; exact h3, ?_⟩
      rw [hs.heap, if_neg hm] at h4; exact h4
  · split
    · rename_i ht
      have h1 : Xn ops tr (fun j => S j ∨ j = k) t = (tr (k + 1)).tmps.getD t .undef := by
        refine W4 (val := fun k => (tr k).tmps.getD t .undef) hkN ⟨ht.2, o, ho, ht.1⟩ (.inr rfl) fun i hlt hi hti hSi => ?_
        obtain ⟨_, p, hp, hdst⟩ := hti
        have := hd.once i k p o t hp ho ht.1 hdst
        omega
      rw [h1, hs.getD, if_pos ⟨ht.1, by rw [T.len (by omega)]; exact ht.2⟩]
    · rename_i ht
      refine Md fun j hj hj' => ⟨fun h => h.resolve_right fun e => ?_, .inl⟩
      subst e
      obtain ⟨h1, p, hp, hdst⟩ := hj'
      rw [ho] at hp; cases hp
      exact ht ⟨hdst, h1⟩
end
end Go.Den
end
