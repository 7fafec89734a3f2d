/- A verified evaluator of the program's form and its use for this seat: Den18, Den19, Den20, Den21, Den22, Den23, Den24, Den25, Den26, Den27. -/
import Derived.Test.YtjbokjpbiobjpaaGreatTB
import Derived.Orders
set_option linter.unusedVariables false
set_option linter.unusedSimpArgs false
noncomputable section
namespace Go.Den
open Go.RowKit (Below)
theorem Vb : ∀ (vs cs : List DV) (j : Nat), j + vs.length ≤ cs.length → Jq cs j vs = cs.take j ++ vs ++ cs.drop (j + vs.length)
  | [], cs, j, _ => by simp [Jq]
  | v :: vs, cs, j, h => by
    simp only [List.length_cons] at h
    simp only [Jq]
    rw [Vb vs (cs.set j v) (j + 1) (by rw [List.length_set]; omega)]
    have h1 : (cs.set j v).take (j + 1) = cs.take j ++ [v] := by
      rw [List.take_succ_eq_append_getElem (by rw [List.length_set]; omega)]
      rw [List.take_set_of_le (by omega)]
      simp
    have h2 : (cs.set j v).drop (j + 1 + vs.length) = cs.drop (j + (v :: vs).length) := by
      rw [List.drop_set_of_lt (by omega)]
      congr 1; simp only [List.length_cons]; omega
    rw [h1, h2]; simp
theorem S5 {c : Ctx} {w : World} {cs ds : List DV} {us vs : List Value} (hc : A8 c w cs us) (hd : A8 c w ds vs) {j : Nat} (hj : j + ds.length ≤ cs.length) :
    A8 c w (Jq cs j ds) (us.take j ++ vs ++ us.drop (j + vs.length)) := by
  rw [Vb ds cs j hj, ← hd.length]
  exact ((hc.take j).append hd).append (hc.drop _)
theorem Rm {w : World} {base : Nat} {e : TypeId} {size n cap g : Nat} {xs vs : List Value} (h : w.ownsRow base e size (.slice (some ⟨g, 0, none⟩) n cap) n xs) {o : Nat} (ho : o + vs.length ≤ n * size) :
    ∃ cur, w.heap[g]? = some (.cells cur e (0, 0)) ∧ o + vs.length ≤ cur.size ∧ (w.setRow g (cur.toList.take o ++ vs ++ cur.toList.drop (o + vs.length)).toArray).ownsRow base e size (.slice (some ⟨g, 0, none⟩) n cap) n (xs.take o ++ vs ++ xs.drop (o + vs.length)) := by
  obtain ⟨h1, h2⟩ := h
  rcases h2 with ⟨e, _⟩ | ⟨g', cap', cur, e, hb, hh, hnc, hm, hs, ht⟩
  · cases e
  · cases e
    have hcur : n * size ≤ cur.size := by rw [hs]; exact Ate _ hnc
    refine ⟨cur, hh, by omega, ?_, .inr ⟨g, cap, _, rfl, hb, setRow_heap w g cur _ e _ hh, hnc, hm, ?_, ?_⟩⟩
    · simp only [List.length_append, List.length_take, List.length_drop]; omega
    · simp only [List.size_toArray, List.length_append, List.length_take, List.length_drop, Array.length_toList]; omega
    · rw [← ht]
      have hl : (cur.toList.take o ++ vs).length = o + vs.length := by
        simp only [List.length_append, List.length_take, Array.length_toList]; omega
      rw [List.take_append, List.take_of_length_le (by rw [hl]; exact ho), hl]
      congr 1
      · congr 1
        rw [List.take_take, Nat.min_eq_left (by omega)]
      · rw [List.drop_take]
theorem Vi {α : Type} {sz : Nat} : ∀ {rows : List (List α)}, (∀ r ∈ rows, r.length = sz) → ∀ (i : Nat) (r : List α), rows[i]? = some r → ∀ (j : Nat) (vs : List α), j + vs.length ≤ sz →
    (rows.set i (r.take j ++ vs ++ r.drop (j + vs.length))).flatten = rows.flatten.take (i * sz + j) ++ vs ++ rows.flatten.drop (i * sz + j + vs.length)
  | [], _, i, r, h, _, _, _ => by simp at h
  | r0 :: rows, hl, i, r, h, j, vs, hj => by
    have h0 : r0.length = sz := hl r0 (by simp)
    cases i with
    | zero =>
      simp at h; subst h
      simp only [List.set_cons_zero, List.flatten_cons, Nat.zero_mul, Nat.zero_add]
      rw [List.take_append_of_le_length (by omega), List.drop_append_of_le_length (by omega)]
      simp
    | succ i =>
      simp at h
      have ih := Vi (rows := rows) (fun r hr => hl r (by simp [hr])) i r h j vs hj
      simp only [List.set_cons_succ, List.flatten_cons]
      rw [ih, Nat.succ_mul]
      rw [show i * sz + sz + j = r0.length + (i * sz + j) by omega, show r0.length + (i * sz + j) + vs.length = r0.length + (i * sz + j + vs.length) by omega]
      rw [List.take_length_add_append, List.drop_length_add_append]
      simp
section
variable {P : Program} {E : Env} {I0 : Nat → Prop} {B : Nat} {A : Nat → Option Place} {h : Dn} {w : World} {t : TypeId}
theorem Fx : ∀ {h : Dn} {n : Nat} {x y : Bool × OB}, look h n = some x → ∀ m, look (upd h n y) m = if m = n then some y else look h m
  | [], n, x, y, hl, m => by cases hl
  | (k, z) :: h, n, x, y, hl, m => by
    simp only [look] at hl
    simp only [upd]
    by_cases hk : k = n
    · subst hk
      simp only [beq_self_eq_true, As2, look]
      by_cases hm : m = k
      · subst hm; simp
      · rw [show (k == m) = false by simpa using fun e => hm e.symm]; simp [hm]
    · rw [show (k == n) = false by simpa using hk] at hl ⊢
      simp only [As6] at hl ⊢
      simp only [look]
      by_cases hm : k = m
      · subst hm; simp [hk]
      · rw [show (k == m) = false by simpa using hm]
        simp only [As6]
        exact Fx hl m
theorem Ud (hm : Mem I0 B A h w) {n : Nat} {p : Place} (hp : A n = some p) (hl : p.st = .live) {g : Nat} (hg : p.F9 = some g) {new : Array Value} {ob ob' : OB} (hlk : look h n = some (false, ob))
    (hob : Ij A w A (w.setRow g new) → C1 (Bs I0 B A (w.setRow g new)) (w.setRow g new) p (false, ob')) :
    Mem I0 B A (upd h n (false, ob')) (w.setRow g new) ∧ Ij A w A (w.setRow g new) := by
  have hother : ∀ b, b ≠ g → (w.setRow g new).heap[b]? = w.heap[b]? := fun b hb => setRow_other w g b _ hb
  have hsize : (w.setRow g new).heap.size = w.heap.size := by simp [World.setRow]
  have hmv : Ij A w A (w.setRow g new) := by
    refine ⟨by rw [hsize]; exact Nat.le_refl _, fun m q hq => ⟨q, hq, by by_cases hd : q.st = .dead; exact .inl hd; exact .inr ⟨hd, rfl⟩⟩, fun m q b hq hql hqb _ => ⟨m, q, hq, hql, hqb⟩, fun b _ hb => hother b (fun e => hb n p hp hl (by rw [e]; exact hg))⟩
  refine ⟨⟨by rw [hsize]; exact hm.hB, hm.I0lt, fun m q fo hq hlo => ?_, fun m q b hq hd hb => by rw [hsize]; exact hm.blkB m q b hq hd hb, hm.inj⟩, hmv⟩
  rw [Fx hlk] at hlo
  by_cases hmn : m = n
  · subst hmn
    rw [if_pos rfl] at hlo
    cases hlo
    rw [hp] at hq; cases hq
    exact hob hmv
  · rw [if_neg hmn] at hlo
    have h1 := hm.obj m q fo hq hlo
    by_cases hd : q.st = .dead
    · obtain ⟨fz, ob⟩ := fo
      cases ob with
      | dead => exact hd
      | box cs => exact absurd hd (B1 (Ow hm hq hlo).1)
      | ints e k l => exact absurd hd (B1 (D9 hm hq hlo).1)
      | recs e sz l => exact absurd hd (B1 (El hm hq hlo).1)
    · exact C1.Dd hmv.Dd rfl rfl (fun b hb => hother b (fun e => hmn (hm.inj m n q p b hq hp hd (by rw [hl]; simp) hb (by rw [hg, e])))) fo h1
def Re (ns : List Nat) (A : Nat → Option Place) (w w' : World) : Prop := ∀ m q b, m ∉ ns → A m = some q → q.st ≠ .dead → q.F9 = some b → w'.heap[b]? = w.heap[b]?
theorem P2 (hm : Mem I0 B A h w) {n : Nat} {p : Place} (hp : A n = some p) (hd : p.st ≠ .dead) {g : Nat} (hg : p.F9 = some g) (new : Array Value) : Re [n] A w (w.setRow g new) := fun m q b hmn hq hqd hqb =>
  setRow_other w g b _ fun e => hmn (by rw [hm.inj m n q p b hq hp hqd hd hqb (by rw [hg, e])]; exact List.mem_singleton.2 rfl)
theorem Aia (hty : ∀ t ti, E.ty t = some ti → B8 P t ti) (hm : Mem I0 B A h w) {a v : DV} {va vv : Value} (ha : Ao (Bs I0 B A w) w a va) (hv : Ao (Bs I0 B A w) w v vv) {req : Bool} {h' : Dn}
    (hs : Ue E h t a v = some (req, h')) (hreq : req = true) :
    ∃ w', (Instr.storeAt t va vv).run P w = .ok () w' ∧ Mem I0 B A h' w' ∧ Ij A w A w' ∧ Below B w w' ∧ (∀ m, (look h' m).isSome = (look h m).isSome) ∧ Re (Alx a) A w w' ∧ (∀ m, m ∉ Alx a → look h' m = look h m) ∧ (∀ m, m ∈ Alx a → look h m ≠ none) := by
  subst hreq
  unfold Ue at hs
  cases hT : E.ty t with
  | none => simp [hT] at hs
  | some ti =>
  simp only [hT, Ata] at hs
  by_cases hc : (Nf v && (cells v).length == ti.size && (cells v).all Rv) = true
  · rw [hc, As2] at hs
    simp only [Atd, beq_iff_eq] at hc
    obtain ⟨⟨hw, hcl⟩, hfl⟩ := hc
    have hcr := U4 hw hv
    have hone := Ab5 hfl hcr
    have hvl : vv.cells.toList.length = ti.size := by rw [← hcr.length]; exact hcl
    have hsize := (hty _ _ hT).Hz w
    have run : ∀ g o (cur : Array Value) e, va = .pointer (some ⟨g, o, none⟩) → w.heap[g]? = some (.cells cur e (0, 0)) → o + vv.cells.toList.length ≤ cur.size →
        (Instr.storeAt t va vv).run P w = .ok () (w.setRow g (cur.toList.take o ++ vv.cells.toList ++ cur.toList.drop (o + vv.cells.toList.length)).toArray) := by
      intro g o cur e hva hg hle
      have h1 := run_storeCells_at P g o e vv.cells.toList 0 cur w hg (by simpa using hle) hone
      simp only [Nat.add_zero] at h1
      have hsz : ¬ vv.cells.size ≠ ti.size := by simp only [Array.length_toList] at hvl; simp [hvl]
      simp only [Instr.storeAt, hva, Instr.sureAddr, Sem.run_bind, Sem.run_pure, Result.andThen_ok, storeVar, hsize, if_neg hsz, h1]
    have setB : ∀ g (new : Array Value), B ≤ g → Below B w (w.setRow g new) := fun g new hg =>
      ⟨rfl, rfl, rfl, by simp [World.setRow], fun k hk => setRow_other w g k _ (by omega)⟩
    split at hs
    · rename_i n i j
      simp only [Ao] at ha
      obtain ⟨_, p, hp, hd⟩ := ha
      split at hs
      · rename_i cs hlk
        by_cases hq : (i == 0 && decide (j + ti.size ≤ cs.length)) = true
        · rw [hq, As2, As5, Atb] at hs
          obtain ⟨_, rfl⟩ := hs
          simp only [Atd, beq_iff_eq, As9] at hq
          obtain ⟨hst, b, e, cur, hk, hh, hls⟩ := Ow hm hp hlk
          have hd := hd.resolve_left (B1 hst)
          unfold Iu at hd; rw [hk] at hd
          obtain ⟨_, hva⟩ := hd
          have hle : j + vv.cells.toList.length ≤ cur.size := by have := hls.length; simp only [Array.length_toList] at this hvl ⊢; omega
          have hblk : p.F9 = some b := by unfold Place.F9; rw [hk]
          have hBb := (hm.blkB n p b hp (B1 hst) hblk).1
          obtain ⟨h1, h2⟩ := Ud hm hp hst hblk (new := (cur.toList.take j ++ vv.cells.toList ++ cur.toList.drop (j + vv.cells.toList.length)).toArray) (ob' := .box (Jq cs j (cells v))) hlk (fun hmv => by
            unfold C1
            refine ⟨hst, b, e, _, hk, setRow_heap w b cur _ e _ hh, ?_⟩
            exact S5 (A8.Dd hmv.Dd _ _ hls) (A8.Dd hmv.Dd _ _ hcr) (by rw [hcl]; exact hq.2))
          exact ⟨_, run b j cur e hva hh hle, h1, h2, setB _ _ hBb, fun m => by rw [Fx hlk]; split <;> simp_all, P2 hm hp (B1 hst) hblk _, fun m hmn => by rw [Fx hlk, if_neg (fun e => hmn (by rw [e]; exact List.mem_singleton.2 rfl))], fun m hmn => by rw [List.mem_singleton.1 hmn, hlk]; simp⟩
        · simp only [Bool.not_eq_true] at hq; rw [hq] at hs; simp at hs
      · rename_i e k l hlk
        split at hs
        · rename_i k' x
          by_cases hq : (j == 0 && decide (k = k')) = true
          · rw [hq, As2, As5, Atb] at hs
            obtain ⟨hlt, rfl⟩ := hs
            simp only [Atd, beq_iff_eq, As9] at hq hlt
            obtain ⟨rfl, rfl⟩ := hq
            obtain ⟨hst, sv, hk, ho⟩ := D9 hm hp hlk
            have hd := hd.resolve_left (B1 hst)
            obtain ⟨g, cap, rfl, _, _⟩ := Fm ho (by omega)
            unfold Iu at hd; rw [hk] at hd
            simp only [Nat.mul_one, Nat.add_zero] at hd
            simp only [Ao] at hv; subst hv
            have hc1 : (Value.int k x).cells.toList = [.int k x] := rfl
            obtain ⟨cur, hh, hle, hrow⟩ := Rm ho (vs := [.int k x]) (o := i) (by simp; omega)
            have hblk : p.F9 = some g := by unfold Place.F9; rw [hk]; rfl
            have hBb := (hm.blkB n p g hp (B1 hst) hblk).1
            obtain ⟨h1, h2⟩ := Ud hm hp hst hblk (new := (cur.toList.take i ++ [Value.int k x] ++ cur.toList.drop (i + [Value.int k x].length)).toArray) (ob' := .ints e k (l.set i x)) hlk (fun hmv => by
              unfold C1
              refine ⟨hst, _, hk, ?_⟩
              have e1 : (l.set i x).map (Value.int k) = (l.map (Value.int k)).take i ++ [.int k x] ++ (l.map (Value.int k)).drop (i + [Value.int k x].length) := by
                rw [List.set_eq_take_append_cons_drop, if_pos hlt]
                simp
              rw [e1, List.length_set]
              exact hrow)
            exact ⟨_, run g i cur e hd hh hle, h1, h2, setB _ _ hBb, fun m => by rw [Fx hlk]; split <;> simp_all, P2 hm hp (B1 hst) hblk _, fun m hmn => by rw [Fx hlk, if_neg (fun e => hmn (by rw [e]; exact List.mem_singleton.2 rfl))], fun m hmn => by rw [List.mem_singleton.1 hmn, hlk]; simp⟩
          · simp only [Bool.not_eq_true] at hq; rw [hq] at hs; simp at hs
        · cases hs
      · rename_i e sz l hlk
        cases hlow : Kz h (cells v) with
        | none => simp [hlow] at hs
        | some q =>
        obtain ⟨vs, ns⟩ := q
        simp only [hlow, Ata] at hs
        by_cases hq : (decide (j + ti.size ≤ sz) && ns.isEmpty) = true
        · rw [hq, As2, As5, Atb] at hs
          obtain ⟨hlt, rfl⟩ := hs
          simp only [Atd, As9, List.isEmpty_iff] at hq hlt
          obtain ⟨hq, rfl⟩ := hq
          obtain ⟨hst, hsz, sv, rows, hk, hrr, hlen, ho⟩ := El hm hp hlk
          have hd := hd.resolve_left (B1 hst)
          obtain ⟨g, cap, rfl, _, _⟩ := Fm ho (by omega)
          unfold Iu at hd; rw [hk] at hd
          have hlv := N5 (Xk hm 8) (cells v) _ vs [] hlow hcr
          have hvl2 : vs.length = ti.size := by rw [hlv.length]; exact hvl
          have hli : l[i]? = some (l.getD i []) := by simp [List.getD, hlt]
          obtain ⟨row, hrow, hlr⟩ := hrr.get i _ hli
          have hrl := (hlen row (List.mem_of_getElem? hrow)).1
          have hin : i * sz + j + vv.cells.toList.length ≤ l.length * sz := by
            have := Ate sz (show i + 1 ≤ l.length by omega)
            rw [Nat.succ_mul] at this; omega
          obtain ⟨cur, hh, hle, hrow'⟩ := Rm ho (vs := vv.cells.toList) (o := i * sz + j) hin
          have hblk : p.F9 = some g := by unfold Place.F9; rw [hk]; rfl
          have hBb := (hm.blkB n p g hp (B1 hst) hblk).1
          obtain ⟨h1, h2⟩ := Ud hm hp hst hblk (new := (cur.toList.take (i * sz + j) ++ vv.cells.toList ++ cur.toList.drop (i * sz + j + vv.cells.toList.length)).toArray) (ob' := .recs e sz (l.set i (Jq (l.getD i []) j vs))) hlk (fun hmv => by
            unfold C1
            have hb := hmv.Dd (I0 := I0) (B := B)
            have wd : J4 (J2 (seen I0 B A w [])) (Bs I0 B A w).bare := ⟨fun b hb' => hb'.elim id (fun ⟨_, _, hn, _⟩ => absurd hn (by simp)), rfl, fun _ => rfl, fun _ => rfl⟩
            refine ⟨hst, hsz, _, rows.set i (row.take j ++ vv.cells.toList ++ row.drop (j + vv.cells.toList.length)), hk, ?_, ?_, ?_⟩
            · refine (C2.Dd hb.bare _ _ hrr).set i ?_
              exact S5 (A8.Dd hb.bare _ _ hlr) (A8.Dd hb.bare _ _ (A8.E2 wd _ _ hlv)) (by rw [hlr.length, hrl]; omega)
            · intro r hr
              rcases List.mem_or_eq_of_mem_set hr with hr | rfl
              · exact hlen r hr
              · refine ⟨by simp only [List.length_append, List.length_take, List.length_drop]; omega, fun u hu => ?_⟩
                have hro := (hlen row (List.mem_of_getElem? hrow)).2
                simp only [List.mem_append] at hu
                rcases hu with (hu | hu) | hu
                · exact hro u (List.mem_of_mem_take hu)
                · exact hone u hu
                · exact hro u (List.mem_of_mem_drop hu)
            · rw [Vi (fun r hr => (hlen r hr).1) i row hrow j _ (by omega), List.length_set]
              exact hrow')
          exact ⟨_, run g _ cur e hd hh hle, h1, h2, setB _ _ hBb, fun m => by rw [Fx hlk]; split <;> simp_all, P2 hm hp (B1 hst) hblk _, fun m hmn => by rw [Fx hlk, if_neg (fun e => hmn (by rw [e]; exact List.mem_singleton.2 rfl))], fun m hmn => by rw [List.mem_singleton.1 hmn, hlk]; simp⟩
        · simp only [Bool.not_eq_true] at hq; rw [hq] at hs; simp at hs
      · cases hs
    · cases hs
  · simp only [Bool.not_eq_true] at hc; rw [hc] at hs; simp at hs
end
end Go.Den
namespace Go.Den
open Go.RowKit (Below)
section
variable {P : Program} {E : Env} {I0 : Nat → Prop} {B : Nat} {A : Nat → Option Place} {h : Dn} {w : World} {t : TypeId}
theorem Pd {ty e : TypeId} {i : TypeInfo} (ht : P.underlying t = some (.slice e)) (hi : P.info? e = some i) {v : Value} {n size : Nat} {xs : List Value} (hown : w.ownsRow B e size v n xs) (a : Option Addr) (c : Nat) :
    (Builtin.append_ #[t, t] ty #[v, .slice a 0 c]).run P w = .ok v w := by
  rcases Fl hown with ⟨rfl, rfl⟩ | ⟨g, cap, rfl, hc⟩
  · cases a <;> simp [Builtin.append_, run_underlying ht, sizeOf, typeInfo, hi, Builtin.lenOf, Builtin.firstCells, loadCells, loadCellsFrom]
  · cases a <;> simp [Builtin.append_, run_underlying ht, sizeOf, typeInfo, hi, Builtin.lenOf, Builtin.firstCells, loadCells, loadCellsFrom, hc, storeCells]
theorem Pa {ty e : TypeId} {ei : TI} (hu : P.underlying t = some (.slice e)) (hf : B8 P e ei) (hb : ei.bytes ≤ 128) (hs : 0 < ei.size) (hB : B ≤ w.heap.size) {v : Value} {n : Nat} {xs : List Value} (hown : w.ownsRow B e ei.size v n xs)
    {a : Option Addr} {m c : Nat} {news : List Value} (hl : news.length = m * ei.size) (hsrc : m = 0 ∨ ∃ b o, a = some ⟨b, o, none⟩ ∧ Ff w b o news) (h1 : ∀ u ∈ news, u.oneCell' = true) (hlim : n + m ≤ Mg ei.bytes) :
    ∃ v' w', (Builtin.append_ #[t, t] ty #[v, .slice a m c]).run P w = .ok v' w' ∧ w'.ownsRow B e ei.size v' (n + m) (xs ++ news) ∧ w.grownBy w' v.ownBlock ∧ (v'.ownBlock = v.ownBlock ∨ ∀ b, v'.ownBlock = some b → b = w.heap.size) := by
  obtain ⟨i, z, hi, hsz, hby, hz, _, hzs, _⟩ := hf.info
  rcases hsrc with rfl | ⟨b, o, rfl, hrd⟩
  · have : news = [] := List.eq_nil_of_length_eq_zero (by omega)
    subst this
    refine ⟨v, w, Pd hu hi hown a c, by simpa using hown, ⟨rfl, rfl, rfl, Nat.le_refl _, fun _ _ _ => rfl⟩, .inl rfl⟩
  · have hnews : ∀ j u, news[j]? = some u → w.cell? ((⟨b, o, none⟩ : Addr).add j) = some u := fun j u hj => by rw [Addr.add_lit]; exact hrd j u hj
    have hbytes : (n + m) * ei.bytes ≤ 140737488355328 := Vg hlim hb
    by_cases hm0 : m = 0
    · subst hm0
      have : news = [] := List.eq_nil_of_length_eq_zero (by omega)
      subst this
      exact ⟨v, w, Pd hu hi hown _ c, by simpa using hown, ⟨rfl, rfl, rfl, Nat.le_refl _, fun _ _ _ => rfl⟩, .inl rfl⟩
    · obtain ⟨v', w', hrun, hown', hg, _⟩ := run_append_own (P := P) w B t ty e i z ei.size ei.bytes hu hi hz hsz hby hzs hs v n xs hown ⟨b, o, none⟩ m c news hl hnews h1 (Xp hlim) hbytes hB
      refine ⟨v', w', hrun, hown', hg, ?_⟩
      have h63 : n + m ≤ 9223372036854775807 := by have := Xq hlim; omega
      rcases hown.2 with ⟨rfl, rfl⟩ | ⟨g, cap, cur, rfl, hbg, hgc, hnc, hcm, hcs, htake⟩
      · have hr := run_append_nil (P := P) w t ty e i z hu hi hz ⟨b, o, none⟩ m c news (by rw [hsz]; exact hl) hnews (by omega) (by omega) (by rw [hby]; rw [Nat.zero_add] at hbytes; omega)
        rw [hr] at hrun
        cases hrun
        exact .inr fun b hb => by cases hb; rfl
      · by_cases hroom : n + m ≤ cap
        · have hfit : n * i.size + news.length ≤ cur.size := by rw [hsz, hl, hcs, ← Nat.add_mul]; exact Ate _ hroom
          have hr := run_append_room (P := P) w t ty e i hu hi g n cap cur hgc ⟨b, o, none⟩ m c news (by rw [hsz]; exact hl) hnews h1 hroom hfit
          rw [hr] at hrun
          cases hrun
          exact .inl rfl
        · have holds : ∀ j u, xs[j]? = some u → w.cell? ((⟨g, 0, none⟩ : Addr).add j) = some u := hown.cells (g := g) rfl
          have hr := run_append_grow (P := P) w t ty e i z hu hi hz ⟨g, 0, none⟩ n cap xs (by rw [hsz]; exact hown.1) holds ⟨b, o, none⟩ m c news (by rw [hsz]; exact hl) hnews (by omega) (by omega) (growslice_fits (by omega) (by rw [hby]; exact hbytes))
          rw [hr] at hrun
          cases hrun
          exact .inr fun b hb => by cases hb; rfl
theorem Z7 (hm : Mem I0 B A h w) {d : DV} {v : Value} (hv : Ao (Bs I0 B A w) w d v) {k : IntKind} {l : List Int} (h0 : Nk h k d = some l) :
    ∃ a m c, v = .slice a m c ∧ m = l.length ∧ (m = 0 ∨ ∃ b o, a = some ⟨b, o, none⟩ ∧ Ff w b o (l.map (Value.int k))) := by
  have plain : ∀ {a : Option Addr} {cap : Nat} {l : List Int} {ok : Nat → Prop}, (l = [] ∨ ∃ b o, a = some ⟨b, o, none⟩ ∧ ok b ∧ ∀ (i : Nat) n, l[i]? = some n → w.cell? ⟨b, o + i, none⟩ = some (.int k n)) →
      (l.length = 0 ∨ ∃ b o, a = some ⟨b, o, none⟩ ∧ Ff w b o (l.map (Value.int k))) := by
    intro a cap l ok hh
    refine hh.imp (fun e => by rw [e]; rfl) fun ⟨b, o, e, _, hr⟩ => ⟨b, o, e, fun i u hu => ?_⟩
    rw [List.getElem?_map] at hu
    cases hli : l[i]? with
    | none => rw [hli] at hu; cases hu
    | some n => rw [hli] at hu; cases hu; exact hr i n hli
  unfold Nk at h0
  split at h0
  · simp only [As5] at h0; subst h0; simp only [Ao] at hv; exact ⟨none, 0, 0, hv, rfl, .inl rfl⟩
  · cases h0
  · rename_i g k' l' hg
    by_cases hk : k = k'
    · subst hk
      simp only [decide_true, As2, As5] at h0; subst h0
      cases g with
      | own i e => exact absurd rfl (hg i e)
      | arg => simp only [Ao] at hv; obtain ⟨a, cap, rfl, _, hh⟩ := hv; exact ⟨a, _, cap, rfl, rfl, plain (cap := cap) hh⟩
      | fresh => simp only [Ao] at hv; obtain ⟨a, cap, rfl, _, hh⟩ := hv; exact ⟨a, _, cap, rfl, rfl, plain (cap := cap) hh⟩
    · simp [hk] at h0
  · rename_i n
    simp only [Ao] at hv
    obtain ⟨_, p, hp, hd⟩ := hv
    split at h0
    · rename_i fz e k' l' hlk
      by_cases hk : k = k'
      · subst hk
        simp only [decide_true, As2, As5] at h0; subst h0
        obtain ⟨hst, sv, hk, ho⟩ := D9 hm hp hlk
        obtain ⟨size, hk'⟩ := hd.resolve_left (B1 hst)
        rw [hk] at hk'; cases hk'
        obtain ⟨a, cap, rfl, _, hh⟩ := Kc hk ho (Fk ho) (ok := fun _ => True) (fun _ _ => trivial)
        simp only [List.drop_zero, List.take_length] at hh
        refine ⟨a, _, cap, ?_, rfl, plain (cap := cap) hh⟩
        simp
      · simp [hk] at h0
    · cases h0
  · rename_i n off len
    simp only [Ao] at hv
    obtain ⟨_, p, hp, hd⟩ := hv
    split at h0
    · rename_i fz e k' l' hlk
      by_cases hk : k = k'
      · subst hk
        simp only [decide_true, As2, As5] at h0; subst h0
        obtain ⟨hst, sv, hk, ho⟩ := D9 hm hp hlk
        obtain ⟨sv', size, hk', hs⟩ := hd.resolve_left (B1 hst)
        rw [hk] at hk'; cases hk'
        obtain ⟨a, cap, rfl, _, hh⟩ := Kc hk ho hs (ok := fun _ => True) (fun _ _ => trivial)
        exact ⟨a, _, cap, rfl, rfl, plain (cap := cap) hh⟩
      · simp [hk] at h0
    · cases h0
  · cases h0
theorem Z6 (hm : Mem I0 B A h w) {d : DV} {v : Value} (hv : Ao (Bs I0 B A w) w d v) {sz : Nat} {l : List (List DV)} (h0 : Nj h sz d = some l) :
    ∃ a m c rows, v = .slice a m c ∧ m = l.length ∧ C2 (Bs I0 B A w).bare w l rows ∧ (∀ r ∈ rows, r.length = sz ∧ ∀ u ∈ r, u.oneCell' = true) ∧ (m = 0 ∨ ∃ b o, a = some ⟨b, o, none⟩ ∧ Ff w b o rows.flatten) := by
  have plain : ∀ {a : Option Addr} {l : List (List DV)} {ok : Nat → Prop}, (l = [] ∨ ∃ b o rows, a = some ⟨b, o, none⟩ ∧ ok b ∧ C2 (Bs I0 B A w).bare w l rows ∧ (∀ r ∈ rows, r.length = sz ∧ ∀ u ∈ r, u.oneCell' = true) ∧ ∀ (i : Nat) u, rows.flatten[i]? = some u → w.cell? ⟨b, o + i, none⟩ = some u) →
      ∃ rows, C2 (Bs I0 B A w).bare w l rows ∧ (∀ r ∈ rows, r.length = sz ∧ ∀ u ∈ r, u.oneCell' = true) ∧ (l.length = 0 ∨ ∃ b o, a = some ⟨b, o, none⟩ ∧ Ff w b o rows.flatten) := by
    intro a l ok hh
    rcases hh with rfl | ⟨b, o, rows, e, _, hrr, hlen, hr⟩
    · exact ⟨[], by simp [C2], by simp, .inl rfl⟩
    · exact ⟨rows, hrr, hlen, .inr ⟨b, o, e, hr⟩⟩
  unfold Nj at h0
  split at h0
  · simp only [As5] at h0; subst h0; simp only [Ao] at hv; exact ⟨none, 0, 0, [], hv, rfl, by simp [C2], by simp, .inl rfl⟩
  · cases h0
  · rename_i g sz' l' hg
    by_cases hk : sz = sz'
    · subst hk
      simp only [beq_self_eq_true, As2, As5] at h0; subst h0
      cases g with
      | own i e => exact absurd rfl (hg i e)
      | arg => simp only [Ao] at hv; obtain ⟨a, cap, rfl, _, hh⟩ := hv; obtain ⟨rows, q1, q2, q3⟩ := plain hh; exact ⟨a, _, cap, rows, rfl, rfl, q1, q2, q3⟩
      | fresh => simp only [Ao] at hv; obtain ⟨a, cap, rfl, _, hh⟩ := hv; obtain ⟨rows, q1, q2, q3⟩ := plain hh; exact ⟨a, _, cap, rows, rfl, rfl, q1, q2, q3⟩
    · rw [show (sz == sz') = false by simpa using hk] at h0; simp at h0
  · rename_i n
    simp only [Ao] at hv
    obtain ⟨_, p, hp, hd⟩ := hv
    split at h0
    · rename_i fz e sz' l' hlk
      by_cases hk : sz = sz'
      · subst hk
        simp only [beq_self_eq_true, As2, As5] at h0; subst h0
        obtain ⟨hst, _, sv, rows, hk, hrr, hlen, ho⟩ := El hm hp hlk
        obtain ⟨size, hk'⟩ := hd.resolve_left (B1 hst)
        rw [hk] at hk'; cases hk'
        obtain ⟨a, cap, rfl, _, hh⟩ := Kb hk hrr hlen ho (Fk ho) (ok := fun _ => True) (fun _ _ => trivial)
        simp only [List.drop_zero, List.take_length] at hh
        obtain ⟨rows', q1, q2, q3⟩ := plain hh
        refine ⟨a, _, cap, rows', ?_, rfl, q1, q2, q3⟩
        simp
      · rw [show (sz == sz') = false by simpa using hk] at h0; simp at h0
    · cases h0
  · rename_i n off len
    simp only [Ao] at hv
    obtain ⟨_, p, hp, hd⟩ := hv
    split at h0
    · rename_i fz e sz' l' hlk
      by_cases hk : sz = sz'
      · subst hk
        simp only [beq_self_eq_true, As2, As5] at h0; subst h0
        obtain ⟨hst, _, sv, rows, hk, hrr, hlen, ho⟩ := El hm hp hlk
        obtain ⟨sv', size, hk', hs⟩ := hd.resolve_left (B1 hst)
        rw [hk] at hk'; cases hk'
        obtain ⟨a, cap, rfl, _, hh⟩ := Kb hk hrr hlen ho hs (ok := fun _ => True) (fun _ _ => trivial)
        obtain ⟨rows', q1, q2, q3⟩ := plain hh
        exact ⟨a, _, cap, rows', rfl, rfl, q1, q2, q3⟩
      · rw [show (sz == sz') = false by simpa using hk] at h0; simp at h0
    · cases h0
  · cases h0
def Rk (A : Nat → Option Place) (old : Option Nat) (nm : Nat) (p : Place) : Nat → Option Place := fun m =>
  if m = nm then some p else if old = some m then (A m).map fun q => { q with st := .dead } else A m
theorem Pb (hm : Mem I0 B A h w) {nm : Nat} (hnm : A nm = none) {old : Option Nat} {v v' : Value} {sz : Nat} {w' : World} (hg : w.grownBy w' v.ownBlock)
    (hold : ∀ b, v.ownBlock = some b → ∃ n p, old = some n ∧ A n = some p ∧ p.st = .live ∧ p.F9 = some b)
    (hblk : v'.ownBlock = v.ownBlock ∨ ∀ b, v'.ownBlock = some b → b = w.heap.size)
    {h' : Dn} {ob : OB} (hlk : ∀ m fo, look h' m = some fo → (m = nm ∧ fo = (false, ob)) ∨ (m ≠ nm ∧ old = some m ∧ fo = (false, .dead)) ∨ (m ≠ nm ∧ old ≠ some m ∧ look h m = some fo))
    (hlt : ∀ b, v'.ownBlock = some b → B ≤ b ∧ b < w'.heap.size)
    (hob : Ij A w (Rk A old nm ⟨.live, .row v' sz⟩) w' → C1 (Bs I0 B (Rk A old nm ⟨.live, .row v' sz⟩) w') w' ⟨.live, .row v' sz⟩ (false, ob)) :
    Mem I0 B (Rk A old nm ⟨.live, .row v' sz⟩) h' w' ∧ Ij A w (Rk A old nm ⟨.live, .row v' sz⟩) w' ∧ Below B w w' := by
  have inv : ∀ m q, Rk A old nm ⟨.live, .row v' sz⟩ m = some q → (m = nm ∧ q = ⟨.live, .row v' sz⟩) ∨ (m ≠ nm ∧ old = some m ∧ ∃ r, A m = some r ∧ q = { r with st := .dead }) ∨ (m ≠ nm ∧ old ≠ some m ∧ A m = some q) := by
    intro m q hq
    unfold Rk at hq
    split at hq
    · cases hq; exact .inl ⟨‹_›, rfl⟩
    · split at hq
      · cases hA : A m with
        | none => simp [hA] at hq
        | some r => simp only [hA, Option.map_some, As5] at hq; exact .inr (.inl ⟨‹_›, ‹_›, r, rfl, hq.symm⟩)
      · exact .inr (.inr ⟨‹_›, ‹_›, hq⟩)
  have hmv : Ij A w (Rk A old nm ⟨.live, .row v' sz⟩) w' := by
    refine ⟨hg.size, fun m q hq => ?_, fun m q b hq hl hb hlt => ?_, fun b hb hnl => hg.block b hb (fun e => ?_)⟩
    · have hne : m ≠ nm := fun e => by rw [e, hnm] at hq; cases hq
      unfold Rk
      rw [if_neg hne]
      by_cases ho : old = some m
      · rw [if_pos ho, hq]; exact ⟨_, rfl, .inl rfl⟩
      · rw [if_neg ho]; exact ⟨q, hq, by by_cases hd : q.st = .dead; exact .inl hd; exact .inr ⟨hd, rfl⟩⟩
    · rcases inv m q hq with ⟨_, rfl⟩ | ⟨_, _, r, _, rfl⟩ | ⟨_, _, hA⟩
      · rcases hblk with e | e
        · have hb' : v.ownBlock = some b := by rw [← e]; exact hb
          obtain ⟨n, p, _, h2, h3, h4⟩ := hold b hb'
          exact ⟨n, p, h2, h3, h4⟩
        · have := e b hb; omega
      · cases hl
      · exact ⟨m, q, hA, hl, hb⟩
    · obtain ⟨n, p, _, h2, h3, h4⟩ := hold b e.symm
      exact hnl n p h2 h3 h4
  refine ⟨⟨Nat.le_trans hm.hB hg.size, hm.I0lt, fun m q fo hq hlo => ?_, fun m q b hq hd hb => ?_, fun m m' q q' b hq hq' hd hd' hb hb' => ?_⟩, hmv, ⟨hg.os, hg.tape, hg.output, hg.size, fun k hk => hg.block k (Nat.lt_of_lt_of_le hk hm.hB) (fun e => ?_)⟩⟩
  · rcases inv m q hq with ⟨rfl, rfl⟩ | ⟨hne, ho, r, hA, rfl⟩ | ⟨hne, ho, hA⟩
    · rcases hlk m fo hlo with ⟨_, rfl⟩ | ⟨hne, _⟩ | ⟨hne, _⟩
      · exact hob hmv
      · exact absurd rfl hne
      · exact absurd rfl hne
    · rcases hlk m fo hlo with ⟨e, _⟩ | ⟨_, _, rfl⟩ | ⟨_, ho', _⟩
      · exact absurd e hne
      · unfold C1; rfl
      · exact absurd ho ho'
    · rcases hlk m fo hlo with ⟨e, _⟩ | ⟨_, ho', _⟩ | ⟨_, _, hl⟩
      · exact absurd e hne
      · exact absurd ho' ho
      · have h1 := hm.obj m q fo hA hl
        by_cases hd : q.st = .dead
        · obtain ⟨fz, ob⟩ := fo
          cases ob with
          | dead => exact hd
          | box cs => exact absurd hd (B1 (Ow hm hA hl).1)
          | ints e k l => exact absurd hd (B1 (D9 hm hA hl).1)
          | recs e sz l => exact absurd hd (B1 (El hm hA hl).1)
        · refine C1.Dd hmv.Dd rfl rfl (fun b hb => hg.block b (hm.blkB m q b hA hd hb).2 (fun e => ?_)) fo h1
          obtain ⟨n, p, h1, h2, h3, h4⟩ := hold b e.symm
          have := hm.inj m n q p b hA h2 hd (by rw [h3]; simp) hb h4
          subst this
          exact ho h1
  · rcases inv m q hq with ⟨_, rfl⟩ | ⟨_, _, r, _, rfl⟩ | ⟨_, _, hA⟩
    · exact hlt b hb
    · exact absurd rfl hd
    · have := hm.blkB m q b hA hd hb; have := hg.size; omega
  · have hfreshcase : ∀ m q, Rk A old nm ⟨.live, .row v' sz⟩ m = some q → q.st ≠ .dead → q.F9 = some b → m = nm ∨ (∃ r, A m = some r ∧ r.st ≠ .dead ∧ r.F9 = some b ∧ old ≠ some m) := by
      intro m q hq hd hb
      rcases inv m q hq with ⟨e, _⟩ | ⟨_, _, r, _, rfl⟩ | ⟨_, ho, hA⟩
      · exact .inl e
      · exact absurd rfl hd
      · exact .inr ⟨q, hA, hd, hb, ho⟩
    have hclash : ∀ m q m' r, m = nm → Rk A old nm ⟨.live, .row v' sz⟩ m = some q → q.F9 = some b → A m' = some r → r.st ≠ .dead → r.F9 = some b → old ≠ some m' → False := by
      intro m q m' r e hq hb hA hd hrb ho
      rcases inv m q hq with ⟨_, rfl⟩ | ⟨hne, _⟩ | ⟨hne, _⟩
      · have hb' : v'.ownBlock = some b := hb
        rcases hblk with e' | e'
        · rw [e'] at hb'
          obtain ⟨n, p, h1, h2, h3, h4⟩ := hold b hb'
          have := hm.inj m' n r p b hA h2 hd (by rw [h3]; simp) hrb h4
          subst this
          exact ho h1
        · have := e' b hb'
          have := (hm.blkB m' r b hA hd hrb).2
          omega
      · exact hne e
      · exact hne e
    rcases hfreshcase m q hq hd hb with e | ⟨r, hA, hrd, hrb, ho⟩
    · rcases hfreshcase m' q' hq' hd' hb' with e' | ⟨r', hA', hrd', hrb', ho'⟩
      · rw [e, e']
      · exact (hclash m q m' r' e hq hb hA' hrd' hrb' ho').elim
    · rcases hfreshcase m' q' hq' hd' hb' with e' | ⟨r', hA', hrd', hrb', ho'⟩
      · exact (hclash m' q' m r e' hq' hb' hA hrd hrb ho).elim
      · exact hm.inj m m' r r' b hA hA' hrd hrd' hrb hrb'
  · obtain ⟨n, p, _, h2, h3, h4⟩ := hold k e.symm
    have := (hm.blkB n p k h2 (by rw [h3]; simp) h4).1
    omega
end
end Go.Den
namespace Go.Den
open Go.RowKit (Below)
section
variable {P : Program} {E : Env} {I0 : Nat → Prop} {B : Nat} {A : Nat → Option Place} {h : Dn} {w : World} {t : TypeId}
theorem Agn (hty : ∀ t ti, E.ty t = some ti → B8 P t ti) (hm : Mem I0 B A h w) {nm : Nat} (hnm : A nm = none) {ty : TypeId} {s x v : DV} {vs vx : Value} (hs : Ao (Bs I0 B A w) w s vs) (hx : Ao (Bs I0 B A w) w x vx) {req : Bool} {h' : Dn}
    (ha : Nc E h nm t s x = some (req, v, h')) (hreq : req = true) :
    ∃ v' w' A', (Builtin.append_ #[t, t] ty #[vs, vx]).run P w = .ok v' w' ∧ Mem I0 B A' h' w' ∧ Ij A w A' w' ∧ Below B w w' ∧ Ao (Bs I0 B A' w') w' v v' ∧
      (∀ m p, A' m = some p → A m = none → m = nm) ∧ (∀ m, (look h' m).isSome = (decide (m = nm) || (look h m).isSome)) ∧ Re (Abk s) A w w' ∧ (∀ m q, m ∉ Abk s → A m = some q → A' m = some q) ∧
      (∀ m, m ∉ Abk s → m ≠ nm → look h' m = look h m) ∧ (∀ m, m ∈ Abk s → look h m ≠ none) ∧ look h nm = none := by
  subst hreq
  unfold Nc at ha
  split at ha
  · rename_i e _ hT
    have hu := (hty _ _ hT).desc
    simp only [Cc] at hu
    cases hE : E.ty e with
    | none => simp [hE] at ha
    | some ei =>
    simp only [hE, Ata] at ha
    by_cases hq : (decide (ei.bytes ≤ 128) && decide (0 < ei.size) && (look h nm).isNone) = true
    · rw [hq, As2] at ha
      simp only [Atd, As9, Option.isNone_iff_eq_none] at hq
      obtain ⟨⟨hq1, hq2⟩, hq3⟩ := hq
      have hei := hty _ _ hE
      have hne : ∀ {old : Option Nat} {p : Place} m q, Rk A old nm p m = some q → A m = none → m = nm := by
        intro old p m q hq hA
        unfold Rk at hq
        split at hq
        · assumption
        · split at hq
          · rw [hA] at hq; cases hq
          · rw [hA] at hq; cases hq
      have ltB : ∀ {w' : World} {sz n : Nat} {v' : Value} {xs : List Value}, w'.ownsRow B e sz v' n xs → ∀ b, v'.ownBlock = some b → B ≤ b ∧ b < w'.heap.size := fun ho b hb => ho.lt b hb
      have keepN : ∀ {w' : World}, w.grownBy w' none → Re [] A w w' := fun hg m q b _ hq hqd hqb => hg.block b (hm.blkB m q b hq hqd hqb).2 (by simp)
      have sameN : ∀ {p : Place} m q, m ∉ ([] : List Nat) → A m = some q → Rk A none nm p m = some q := by
        intro p m q _ hq
        unfold Rk
        rw [if_neg (fun e => by rw [e, hnm] at hq; cases hq), if_neg (by simp)]
        exact hq
      have sameO : ∀ {n : Nat} {p : Place} m q, m ∉ [n] → A m = some q → Rk A (some n) nm p m = some q := by
        intro n p m q hn hq
        unfold Rk
        rw [if_neg (fun e => by rw [e, hnm] at hq; cases hq), if_neg (fun e => hn (by rw [Option.some.inj e]; exact List.mem_singleton.2 rfl))]
        exact hq
      have keepO : ∀ {n : Nat} {p : Place} {b' : Option Nat} {w' : World}, A n = some p → p.st ≠ .dead → (∀ b, b' = some b → p.F9 = some b) → w.grownBy w' b' → Re [n] A w w' := fun {n p b' w'} hp hd hb hg m q b hn hq hqd hqb =>
        hg.block b (hm.blkB m q b hq hqd hqb).2 (fun e => hn (by rw [hm.inj m n q p b hq hp hqd hd hqb (hb b e.symm)]; exact List.mem_singleton.2 rfl))
      split at ha
      ·
        simp only [Ao] at hs; subst hs
        have hown : w.ownsRow B e ei.size (.slice none 0 0) 0 [] := World.ownsRow_nil w B e ei.size
        have hlk : ∀ ob m fo, look ((nm, false, ob) :: h) m = some fo → (m = nm ∧ fo = (false, ob)) ∨ (m ≠ nm ∧ (none : Option Nat) = some m ∧ fo = (false, .dead)) ∨ (m ≠ nm ∧ (none : Option Nat) ≠ some m ∧ look h m = some fo) := by
          intro ob m fo hl
          simp only [look] at hl
          by_cases e : nm = m
          · subst e; simp at hl; exact .inl ⟨rfl, hl.symm⟩
          · rw [show (nm == m) = false by simpa using e] at hl
            exact .inr (.inr ⟨fun e' => e e'.symm, by simp, hl⟩)
        have hsame : ∀ ob m, m ≠ nm → look ((nm, false, ob) :: h) m = look h m := by
          intro ob m hm'
          simp only [look, show (nm == m) = false by simpa using fun e : nm = m => hm' e.symm, As6]
        have hdom : ∀ ob m, (look ((nm, false, ob) :: h) m).isSome = (decide (m = nm) || (look h m).isSome) := by
          intro ob m
          simp only [look]
          by_cases e : nm = m
          · subst e; simp
          · rw [show (nm == m) = false by simpa using e]; simp [show ¬ m = nm from fun e' => e e'.symm]
        split at ha
        · rename_i k hk
          by_cases hs1 : ei.size = 1
          · simp only [hs1, beq_self_eq_true, As2] at ha
            cases hel : Nk h k x with
            | none => simp [hel] at ha
            | some l =>
              simp only [hel, Ata, As5, Atb, As9] at ha
              obtain ⟨hlim, rfl, rfl⟩ := ha
              obtain ⟨a, m, c, rfl, rfl, hsrc⟩ := Z7 hm hx hel
              obtain ⟨v', w', hrun, hown', hg, hb⟩ := Pa (P := P) (ty := ty) hu hei hq1 hq2 hm.hB hown (a := a) (c := c) (news := l.map (Value.int k)) (by rw [hs1]; simp) hsrc (by simp [Value.oneCell']) (by simpa using hlim)
              obtain ⟨h1, h2, h3⟩ := Pb hm hnm (old := none) (v := .slice none 0 0) (sz := 1) hg (fun b hb => by cases hb) hb (hlk (.ints e k l)) (ltB hown') (fun _ => by
                unfold C1
                refine ⟨rfl, v', rfl, ?_⟩
                rw [hs1] at hown'
                have q := hown'
                simp only [Nat.zero_add, List.nil_append] at q
                exact q)
              exact ⟨v', w', _, hrun, h1, h2, h3, by simp only [Ao]; exact ⟨Gq hown', _, if_pos rfl, .inr ⟨1, rfl⟩⟩, hne, hdom _, keepN hg, sameN, fun m _ hmn => hsame _ m hmn, fun m hmn => absurd hmn (by simp [Abk]), hq3⟩
          · rw [show (ei.size == 1) = false by simpa using hs1] at ha; simp at ha
        · cases hel : Nj h ei.size x with
          | none => simp [hel] at ha
          | some l =>
            simp only [hel, Ata, As5, Atb, As9] at ha
            obtain ⟨hlim, rfl, rfl⟩ := ha
            obtain ⟨a, m, c, rows, rfl, rfl, hrr, hlen, hsrc⟩ := Z6 hm hx hel
            obtain ⟨v', w', hrun, hown', hg, hb⟩ := Pa (P := P) (ty := ty) hu hei hq1 hq2 hm.hB hown (a := a) (c := c) (news := rows.flatten) (by rw [Jx (fun r hr => (hlen r hr).1), hrr.length]) hsrc (fun u hu => by
                obtain ⟨r, hr, hur⟩ := List.mem_flatten.1 hu
                exact (hlen r hr).2 u hur) (by simpa using hlim)
            obtain ⟨h1, h2, h3⟩ := Pb hm hnm (old := none) (v := .slice none 0 0) (sz := ei.size) hg (fun b hb => by cases hb) hb (hlk (.recs e ei.size l)) (ltB hown') (fun hmv => by
              unfold C1
              refine ⟨rfl, hq2, v', rows, rfl, C2.Dd (hmv.Dd (I0 := I0) (B := B)).bare _ _ hrr, hlen, ?_⟩
              have q := hown'
              simp only [Nat.zero_add, List.nil_append] at q
              exact q)
            exact ⟨v', w', _, hrun, h1, h2, h3, by simp only [Ao]; exact ⟨Gq hown', _, if_pos rfl, .inr ⟨_, rfl⟩⟩, hne, hdom _, keepN hg, sameN, fun m _ hmn => hsame _ m hmn, fun m hmn => absurd hmn (by simp [Abk]), hq3⟩
      ·
        rename_i n
        simp only [Ao] at hs
        obtain ⟨_, p, hp, hd⟩ := hs
        have hlk : ∀ {ob0 ob : OB}, look h n = some (false, ob0) → ∀ m fo, look ((nm, false, ob) :: upd h n (false, .dead)) m = some fo → (m = nm ∧ fo = (false, ob)) ∨ (m ≠ nm ∧ (some n : Option Nat) = some m ∧ fo = (false, .dead)) ∨ (m ≠ nm ∧ (some n : Option Nat) ≠ some m ∧ look h m = some fo) := by
          intro ob0 ob hl0 m fo hl
          simp only [look] at hl
          by_cases e : nm = m
          · subst e; simp at hl; exact .inl ⟨rfl, hl.symm⟩
          · rw [show (nm == m) = false by simpa using e] at hl
            simp only [As6] at hl
            rw [Fx hl0] at hl
            by_cases e' : m = n
            · subst e'; rw [if_pos rfl] at hl; cases hl; exact .inr (.inl ⟨fun e' => e e'.symm, rfl, rfl⟩)
            · rw [if_neg e'] at hl
              exact .inr (.inr ⟨fun e' => e e'.symm, fun e'' => e' (Option.some.inj e'').symm, hl⟩)
        have hsame : ∀ {ob0 ob : OB}, look h n = some (false, ob0) → ∀ m, m ∉ [n] → m ≠ nm → look ((nm, false, ob) :: upd h n (false, .dead)) m = look h m := by
          intro ob0 ob hl0 m hn hm'
          simp only [look, show (nm == m) = false by simpa using fun e : nm = m => hm' e.symm, As6]
          rw [Fx hl0, if_neg (fun e => hn (by rw [e]; exact List.mem_singleton.2 rfl))]
        have hdom : ∀ {ob0 ob : OB}, look h n = some (false, ob0) → ∀ m, (look ((nm, false, ob) :: upd h n (false, .dead)) m).isSome = (decide (m = nm) || (look h m).isSome) := by
          intro ob0 ob hl0 m
          simp only [look]
          by_cases e : nm = m
          · subst e; simp
          · rw [show (nm == m) = false by simpa using e]
            simp only [As6, show ¬ m = nm from fun e' => e e'.symm, decide_false, Bool.false_or]
            rw [Fx hl0]; split <;> simp_all
        split at ha
        · rename_i e' k l' hlo
          obtain ⟨hst, sv, hk, ho⟩ := D9 hm hp hlo
          obtain ⟨size, hk'⟩ := hd.resolve_left (B1 hst)
          rw [hk] at hk'; cases hk'
          cases hel : Nk h k x with
          | none => simp [hel] at ha
          | some l =>
            simp only [hel, Ata] at ha
            by_cases hc : (e == e' && ei.size == 1) = true
            · rw [hc, As2] at ha
              simp only [As5, Atb, As9] at ha
              obtain ⟨hlim, rfl, rfl⟩ := ha
              simp only [Atd, beq_iff_eq] at hc
              obtain ⟨rfl, hs1⟩ := hc
              obtain ⟨a, m, c, rfl, rfl, hsrc⟩ := Z7 hm hx hel
              obtain ⟨v', w', hrun, hown', hg, hb⟩ := Pa (P := P) (ty := ty) hu hei hq1 hq2 hm.hB (by rw [hs1]; exact ho) (a := a) (c := c) (news := l.map (Value.int k)) (by rw [hs1]; simp) hsrc (by simp [Value.oneCell']) hlim
              obtain ⟨h1, h2, h3⟩ := Pb hm hnm (old := some n) (sz := 1) hg (fun b hb => ⟨n, p, rfl, hp, hst, by unfold Place.F9; rw [hk]; exact hb⟩) hb (hlk (ob := .ints e k (l' ++ l)) hlo) (ltB hown') (fun _ => by
                unfold C1
                refine ⟨rfl, v', rfl, ?_⟩
                rw [hs1] at hown'
                rw [List.length_append, List.map_append]
                exact hown')
              exact ⟨v', w', _, hrun, h1, h2, h3, by simp only [Ao]; exact ⟨Gq hown', _, if_pos rfl, .inr ⟨1, rfl⟩⟩, hne, hdom hlo, keepO hp (B1 hst) (fun b hb => by unfold Place.F9; rw [hk]; exact hb) hg, sameO, fun m h1 h2 => hsame hlo m h1 h2, fun m hmn => by rw [List.mem_singleton.1 hmn, hlo]; simp, hq3⟩
            · simp only [Bool.not_eq_true] at hc; rw [hc] at ha; simp at ha
        · rename_i e' sz l' hlo
          obtain ⟨hst, hsz, sv, rows', hk, hrr', hlen', ho⟩ := El hm hp hlo
          obtain ⟨size, hk'⟩ := hd.resolve_left (B1 hst)
          rw [hk] at hk'; cases hk'
          cases hel : Nj h sz x with
          | none => simp [hel] at ha
          | some l =>
            simp only [hel, Ata] at ha
            by_cases hc : (e == e' && sz == ei.size) = true
            · rw [hc, As2] at ha
              simp only [As5, Atb, As9] at ha
              obtain ⟨hlim, rfl, rfl⟩ := ha
              simp only [Atd, beq_iff_eq] at hc
              obtain ⟨rfl, rfl⟩ := hc
              obtain ⟨a, m, c, rows, rfl, rfl, hrr, hlen, hsrc⟩ := Z6 hm hx hel
              obtain ⟨v', w', hrun, hown', hg, hb⟩ := Pa (P := P) (ty := ty) hu hei hq1 hq2 hm.hB ho (a := a) (c := c) (news := rows.flatten) (by rw [Jx (fun r hr => (hlen r hr).1), hrr.length]) hsrc (fun u hu => by
                obtain ⟨r, hr, hur⟩ := List.mem_flatten.1 hu
                exact (hlen r hr).2 u hur) hlim
              obtain ⟨h1, h2, h3⟩ := Pb hm hnm (old := some n) (sz := ei.size) hg (fun b hb => ⟨n, p, rfl, hp, hst, by unfold Place.F9; rw [hk]; exact hb⟩) hb (hlk (ob := .recs e ei.size (l' ++ l)) hlo) (ltB hown') (fun hmv => by
                unfold C1
                have hbr := (hmv.Dd (I0 := I0) (B := B)).bare
                refine ⟨rfl, hq2, v', rows' ++ rows, rfl, (C2.Dd hbr _ _ hrr').append (C2.Dd hbr _ _ hrr), ?_, ?_⟩
                · intro r hr
                  rcases List.mem_append.1 hr with hr | hr
                  · exact hlen' r hr
                  · exact hlen r hr
                · rw [List.length_append, List.flatten_append]; exact hown')
              exact ⟨v', w', _, hrun, h1, h2, h3, by simp only [Ao]; exact ⟨Gq hown', _, if_pos rfl, .inr ⟨_, rfl⟩⟩, hne, hdom hlo, keepO hp (B1 hst) (fun b hb => by unfold Place.F9; rw [hk]; exact hb) hg, sameO, fun m h1 h2 => hsame hlo m h1 h2, fun m hmn => by rw [List.mem_singleton.1 hmn, hlo]; simp, hq3⟩
            · simp only [Bool.not_eq_true] at hc; rw [hc] at ha; simp at ha
        · cases ha
      · cases ha
    · simp only [Bool.not_eq_true] at hq; rw [hq] at ha; simp at ha
  · cases ha
end
end Go.Den
namespace Go.Den
open Go.RowKit (Below)
def Iz (P : Program) (ops : Array Oper) (o : Oper) (a : Act) (w : World) (Q : Exit → Act → World → Prop) (G : Value → World → Prop) : Prop :=
  ∀ K : Act → World → Prop, (∀ v w', G v w' → K (a.put o.dst v) w') →
    if Region.wanted o (yielded ops a.tmps) then o.wp P a w K Q else K (a.put o.dst undef) w
theorem Iz.mono {P : Program} {ops : Array Oper} {o : Oper} {a : Act} {w : World} {Q : Exit → Act → World → Prop} {G G' : Value → World → Prop} (h : Iz P ops o a w Q G) (hg : ∀ v w', G v w' → G' v w') : Iz P ops o a w Q G' :=
  fun K hK => h K fun v w' hh => hK v w' (hg v w' hh)
theorem Ec.wp {P : Program} {o : Oper} {a : Act} {w : World} {K : Act → World → Prop} {Q : Exit → Act → World → Prop} {K' : Value → World → Prop} (h : Ec P (execOp a.eval o) w K') (hK : ∀ v w', K' v w' → K (a.put o.dst v) w') : o.wp P a w K Q := by
  unfold Ec at h
  unfold Oper.wp
  split at h
  · rename_i v w' hr
    rw [hr, Oper.upon_value]; exact hK _ _ h
  · rename_i f args w' hr
    rw [hr, Oper.upon_enter]
    refine Calls.mono h fun e w'' ⟨v, he, hk⟩ => ?_
    subst he; exact hK _ _ hk
  · exact h.elim
section
variable {P : Program} {E : Env} {I0 : Nat → Prop} {B : Nat} {A : Nat → Option Place} {h : Dn} {w : World}
theorem Ly {c : Ctx} {g : Bool} {d : DV} {v : Value} (hv : Ao c w d v) (hg : g = true) (hs : (Gf g d).2 = true) : Ao c w (Gf g d).1 v := by
  subst hg
  cases d <;> try exact hv
  rename_i c' d'
  simp only [Gf, Bool.not_true, Bool.false_or] at hs ⊢
  simp only [Ao] at hv
  exact hv.1 hs
theorem Ahr {c : Ctx} {ops : Array Oper} {l : List DV} {o : Oper} {a : Act} (hsz : a.tmps.size = l.length)
    (hrd : ∀ t ∈ o.looksAt ops, Ao c w (l.getD t .undef) (a.tmps.getD t undef)) {g? : Option Bool} (hc : Oe ops l o = some g?) :
    (g? = none ∧ o.guard = none) ∨ ∃ b, g? = some b ∧ Region.wanted o (yielded ops a.tmps) = b := by
  unfold Oe at hc
  split at hc
  · rename_i hg
    cases hc; exact .inl ⟨rfl, hg⟩
  · rename_i j want hg
    cases hd : (ops[j]?).bind (·.dst) with
    | none => simp [hd] at hc
    | some d =>
      simp only [hd] at hc
      have hv := hrd d (by unfold Oper.looksAt; simp [hg, hd])
      have hlt : ∀ {x : DV}, l.getD d .undef = x → x ≠ .undef → d < a.tmps.size := fun {x} hx hne => by
        rw [hsz]
        refine Nat.lt_of_not_le fun hle => hne ?_
        rw [← hx, Atc, List.getElem?_eq_none hle]; rfl
      have hy : ∀ {u : Value}, d < a.tmps.size → a.tmps.getD d undef = u → yielded ops a.tmps j = match u with | .bool b => some b | _ => none := fun {u} hl hu => by
        unfold yielded
        rw [hd, Ata]
        have : a.tmps[d]? = some u := by
          rw [Atm hl]
          rw [Array.getD_eq_getD_getElem?, Atm hl] at hu
          exact congrArg some hu
        rw [this]
        cases u <;> rfl
      split at hc
      · rename_i b hb
        cases hc
        rw [hb] at hv; simp only [Ao] at hv
        refine .inr ⟨_, rfl, ?_⟩
        unfold Region.wanted; rw [hg]; simp only
        rw [hy (hlt hb (by simp)) hv]
        cases b <;> cases want <;> rfl
      · rename_i c' b hb
        cases hc
        rw [hb] at hv; simp only [Ao] at hv
        refine .inr ⟨_, rfl, ?_⟩
        unfold Region.wanted; rw [hg]; simp only
        cases c' with
        | true =>
          rw [hy (hlt hb (by simp)) (hv.1 rfl)]
          cases b <;> cases want <;> rfl
        | false =>
          rw [hy (hlt hb (by simp)) (hv.2 rfl)]
          cases want <;> rfl
      · cases hc
def Pk (g? : Option Bool) (v : DV) : DV := match g? with | some c => .gd c v | none => v
theorem Acf {c : Ctx} {g? : Option Bool} {d : DV} {v : Value} (hg : g?.getD true = true) (hv : Ao c w d v) : Ao c w (Pk g? d) v := by
  cases g? with
  | none => exact hv
  | some b =>
    simp only [Option.getD_some] at hg; subst hg
    simp only [Pk, Ao]
    exact ⟨fun _ => hv, fun e => by cases e⟩
theorem Ald (he : J6 P E) (hm : Mem I0 B A h w) {ops : Array Oper} {l : List DV} {o : Oper} {a : Act}
    (hops : ∀ x ∈ o.op.operands.toList, Ao (Bs I0 B A w) w (Ha l x) (a.eval x))
    {g? : Option Bool} (hg : (g? = none ∧ o.guard = none) ∨ ∃ b, g? = some b ∧ Region.wanted o (yielded ops a.tmps) = b)
    {nm : Nat} {r : R2} (hq : D5 E h nm (fun x => (Gf (g?.getD true) (Ha l x)).1) o.op = some r)
    (hreq : (!(g?.getD true) || (Aa4 (g?.getD true) (Ha l) o.op.operands.toList && r.req)) = true)
    (hobj : r.objs = [] ∨ g? = none) (hfrz : r.frz = [] ∨ g? = none)
    (hnew : ∀ n ob, (n, ob) ∈ r.objs → A n = none) (hnd : (r.objs.map (·.1)).Nodup) {Q : Exit → Act → World → Prop} :
    Iz P ops o a w Q fun v w' => ∃ A', Jj I0 B A w r.objs r.frz A' w' ∧ Ao (Bs I0 B A' w') w' (Pk g? r.v) v := by
  intro K hK
  have hwant : Region.wanted o (yielded ops a.tmps) = g?.getD true := by
    rcases hg with ⟨rfl, hg⟩ | ⟨b, rfl, hg⟩
    · simp [Region.wanted, hg]
    · simpa using hg
  rw [hwant]
  by_cases hgt : g?.getD true = true
  · rw [if_pos hgt]
    rw [hgt] at hreq hq
    simp only [Bool.not_true, Bool.false_or, Atd] at hreq
    have hops' : Ops (Bs I0 B A w) w (fun x => (Gf true (Ha l x)).1) a.eval o.op := fun x hx => by
      refine Ly (hops x hx) rfl ?_
      have := hreq.1
      unfold Aa4 at this
      rw [List.all_eq_true] at this
      exact this x hx
    exact Ec.wp (K' := fun v w' => ∃ A', Jj I0 B A w r.objs r.frz A' w' ∧ Ao (Bs I0 B A' w') w' (Pk g? r.v) v)
      (Air he hm hops' hq hreq.2 hnew hnd fun v w' A' h1 h2 => ⟨A', h1, Acf hgt h2⟩) hK
  · rw [if_neg hgt]
    have hgf : g? = some false := by
      cases g? with
      | none => simp at hgt
      | some b => simp only [Option.getD_some, Bool.not_eq_true] at hgt; rw [hgt]
    subst hgf
    have h1 : r.objs = [] := hobj.resolve_right (by simp)
    have h2 : r.frz = [] := hfrz.resolve_right (by simp)
    refine hK undef w ⟨A, by rw [h1, h2]; exact Jj.refl (.inl rfl), ?_⟩
    simp only [Pk, Ao]
    exact ⟨fun e => (by cases e), fun _ => trivial⟩
theorem Aoj {ops : Array Oper} {l : List DV} {dst : Option Tmp} {c x y : Operand} {ty : TypeId} {pos : String} {after : Array Edge} {guard : Option (Nat × Bool)} {a : Act} {cx : Ctx}
    (hc : Ao cx w (Ha l c) (a.eval c)) (hx : Ao cx w (Ha l x) (a.eval x)) (hy : Ao cx w (Ha l y) (a.eval y))
    {g? : Option Bool} (hg : (g? = none ∧ guard = none) ∨ ∃ b, g? = some b ∧ Region.wanted ⟨dst, .pick c x y, ty, pos, after, guard⟩ (yielded ops a.tmps) = b)
    {c' r : Bool} {v : DV} (hsc : (Gf (g?.getD true) (Ha l c)).1 = .bool c') (hp : Ag8 c' (Ha l x) (Ha l y) = some (r, v))
    (hreq : (!(g?.getD true) || ((Gf (g?.getD true) (Ha l c)).2 && r)) = true) {Q : Exit → Act → World → Prop} :
    Iz P ops ⟨dst, .pick c x y, ty, pos, after, guard⟩ a w Q fun u w' => w' = w ∧ Ao cx w (Pk g? v) u := by
  intro K hK
  have hwant : Region.wanted ⟨dst, .pick c x y, ty, pos, after, guard⟩ (yielded ops a.tmps) = g?.getD true := by
    rcases hg with ⟨rfl, hg⟩ | ⟨b, rfl, hg⟩
    · simp [Region.wanted, hg]
    · simpa using hg
  rw [hwant]
  by_cases hgt : g?.getD true = true
  · rw [if_pos hgt]
    rw [hgt] at hreq hsc
    simp only [Bool.not_true, Bool.false_or, Atd] at hreq
    have hcv := Ly hc rfl hreq.1
    rw [hsc] at hcv; simp only [Ao] at hcv
    refine Ec.wp (K' := fun u w' => w' = w ∧ Ao cx w (Pk g? v) u) (Ec.value (v := if c' then a.eval x else a.eval y) (w' := w) ?_ ⟨rfl, Acf hgt ?_⟩) hK
    · simp [execOp, hcv, asBool]
    · have h2 := hreq.2
      unfold Ag8 at hp
      cases c' with
      | true =>
        simp only [if_true]
        split at hp
        · rename_i p q e1 e2
          simp only [As5, Atb] at hp
          obtain ⟨rfl, rfl⟩ := hp
          simp only [Atd] at h2
          have := Ly hx rfl h2.1
          rw [e1] at this; exact this
        · rename_i k p k' q e1 e2
          by_cases hk : k = k'
          · simp only [hk, decide_true, As2, As5, Atb] at hp
            obtain ⟨rfl, rfl⟩ := hp
            simp only [Atd] at h2
            have := Ly hx rfl h2.1
            rw [e1] at this; subst hk; exact this
          · simp [hk] at hp
        · cases hp
      | false =>
        simp only [Bool.false_eq_true, if_false]
        split at hp
        · rename_i p q e1 e2
          simp only [As5, Atb] at hp
          obtain ⟨rfl, rfl⟩ := hp
          simp only [Atd] at h2
          have := Ly hy rfl h2.2
          rw [show (!false) = true from rfl] at e2
          rw [e2] at this; exact this
        · rename_i k p k' q e1 e2
          by_cases hk : k = k'
          · simp only [hk, decide_true, As2, As5, Atb] at hp
            obtain ⟨rfl, rfl⟩ := hp
            simp only [Atd] at h2
            have := Ly hy rfl h2.2
            rw [show (!false) = true from rfl] at e2
            rw [e2] at this; exact this
          · simp [hk] at hp
        · cases hp
  · rw [if_neg hgt]
    have hgf : g? = some false := by
      cases g? with
      | none => simp at hgt
      | some b => simp only [Option.getD_some, Bool.not_eq_true] at hgt; rw [hgt]
    subst hgf
    refine hK undef w ⟨rfl, ?_⟩
    simp only [Pk, Ao]
    exact ⟨fun e => (by cases e), fun _ => trivial⟩
theorem Al6 {ops : Array Oper} {o : Oper} {t : Tmp} (h : Operand.tmp t ∈ o.op.operands.toList) : t ∈ o.looksAt ops := by
  unfold Oper.looksAt
  exact List.mem_append.2 (.inl (List.mem_filterMap.2 ⟨_, h, rfl⟩))
theorem Aaa {c : Ctx} (v : Value) : Ao c w (Agd v) v := by
  unfold Agd
  split <;> simp only [Ao]
  exact ⟨_, rfl, .inl rfl⟩
theorem Tf {c : Ctx} {ops : Array Oper} {l : List DV} {o : Oper} {a : Act}
    (hrd : ∀ t ∈ o.looksAt ops, Ao c w (l.getD t .undef) (a.tmps.getD t undef)) : ∀ x ∈ o.op.operands.toList, Ao c w (Ha l x) (a.eval x) := by
  intro x hx
  cases x with
  | tmp t => exact hrd t (Al6 hx)
  | const v => exact Aaa v
  | global g => simp only [Ha, Ao]
  | func f => simp [Ha, Ao, Act.eval, A8]
theorem Asn (he : J6 P E) {ops : Array Oper} {draw : Bool} {st st' : St} {o : Oper} (hs : Le E ops draw st o = some (true, st')) (hmut : Tx o.op = false)
    (hsp : ∀ g?, Oe ops st.tmps o = some g? → (bif draw then none else Ku E (Ha st.tmps) g? o.op) = none) :
    ∃ d objs frz, st'.tmps = S4 st.tmps o.dst d ∧ st'.heap = objs.map (fun (x : Nat × OB) => (x.1, false, x.2)) ++ Je st.heap frz ∧
      (∀ n ob, (n, ob) ∈ objs → look st.heap n = none) ∧ (objs.map (·.1)).Nodup ∧ (E8 E ops st o = frz ∧ ∀ n ∈ frz, look st.heap n ≠ none) ∧
      ∀ {I0 : Nat → Prop} {B : Nat} {A : Nat → Option Place} {w : World} {a : Act} {Q : Exit → Act → World → Prop}, Mem I0 B A st.heap w → a.tmps.size = st.tmps.length →
        (∀ t ∈ o.looksAt ops, Ao (Bs I0 B A w) w (st.tmps.getD t .undef) (a.tmps.getD t undef)) → (∀ n ob, (n, ob) ∈ objs → A n = none) →
        Iz P ops o a w Q fun v w' => ∃ A', Jj I0 B A w objs frz A' w' ∧ Ao (Bs I0 B A' w') w' d v := by
  obtain ⟨dst, op, ty, pos, after, guard⟩ := o
  unfold Le at hs
  cases hc : Oe ops st.tmps ⟨dst, op, ty, pos, after, guard⟩ with
  | none => simp [hc] at hs
  | some g? =>
  simp only [hc, Ata] at hs
  dsimp only at hmut
  replace hsp := hsp g? hc
  dsimp only at hsp
  have quiet : ∀ (hs : ((D5 E st.heap (dst.getD 0) (fun x => (Gf (g?.getD true) (Ha st.tmps x)).1) op).bind fun r =>
      bif (r.objs.all fun (n, _) => (look st.heap n).isNone) && Lb (r.objs.map (·.1)) && (r.objs.isEmpty || (g?.isNone && dst.isSome)) && (r.frz.isEmpty || (g?.isNone && r.frz.all fun n => (look st.heap n).isSome)) then
        some (!(g?.getD true) || (Aa4 (g?.getD true) (Ha st.tmps) op.operands.toList && r.req),
          ({ tmps := S4 st.tmps dst (Pk g? r.v), heap := (r.objs.map fun (n, ob) => (n, false, ob)) ++ Je st.heap r.frz } : St))
      else none) = some (true, st')), ∃ d objs frz, st'.tmps = S4 st.tmps dst d ∧ st'.heap = objs.map (fun (x : Nat × OB) => (x.1, false, x.2)) ++ Je st.heap frz ∧
      (∀ n ob, (n, ob) ∈ objs → look st.heap n = none) ∧ (objs.map (·.1)).Nodup ∧ (E8 E ops st ⟨dst, op, ty, pos, after, guard⟩ = frz ∧ ∀ n ∈ frz, look st.heap n ≠ none) ∧
      ∀ {I0 : Nat → Prop} {B : Nat} {A : Nat → Option Place} {w : World} {a : Act} {Q : Exit → Act → World → Prop}, Mem I0 B A st.heap w → a.tmps.size = st.tmps.length →
        (∀ t ∈ Oper.looksAt ops ⟨dst, op, ty, pos, after, guard⟩, Ao (Bs I0 B A w) w (st.tmps.getD t .undef) (a.tmps.getD t undef)) → (∀ n ob, (n, ob) ∈ objs → A n = none) →
        Iz P ops ⟨dst, op, ty, pos, after, guard⟩ a w Q fun v w' => ∃ A', Jj I0 B A w objs frz A' w' ∧ Ao (Bs I0 B A' w') w' d v := by
    intro hs
    cases hq : D5 E st.heap (dst.getD 0) (fun x => (Gf (g?.getD true) (Ha st.tmps x)).1) op with
    | none => simp [hq] at hs
    | some r =>
      simp only [hq, Ata] at hs
      by_cases hcc : ((r.objs.all fun (n, _) => (look st.heap n).isNone) && Lb (r.objs.map (·.1)) && (r.objs.isEmpty || (g?.isNone && dst.isSome)) && (r.frz.isEmpty || (g?.isNone && r.frz.all fun n => (look st.heap n).isSome))) = true
      · rw [hcc, As2, As5, Atb] at hs
        obtain ⟨hreq, rfl⟩ := hs
        simp only [Atd, Bool.or_eq_true, List.isEmpty_iff, Option.isNone_iff_eq_none, List.all_eq_true] at hcc
        obtain ⟨⟨⟨h1, h2⟩, h3⟩, h4⟩ := hcc
        refine ⟨Pk g? r.v, r.objs, r.frz, rfl, rfl, fun n ob hn => h1 (n, ob) hn, Jc h2, ⟨by unfold E8; dsimp only; rw [hmut, hc]; simp only [As6, hq], fun n hn e => ?_⟩, ?_⟩
        · rcases h4 with h4 | h4
          · rw [h4] at hn; cases hn
          · have := h4.2 n hn; rw [e] at this; cases this
        intro I0 B A w a Q hm hsz hrd hnew
        exact Ald he hm (Tf hrd) (Ahr hsz hrd hc) hq hreq (h3.imp id And.left) (h4.imp id And.left) hnew (Jc h2)
      · simp only [Bool.not_eq_true] at hcc; rw [hcc] at hs; cases hs
  cases op
  case pick c x y =>
    simp only at hs
    split at hs
    · rename_i c' hsc
      cases hp : Ag8 c' (Ha st.tmps x) (Ha st.tmps y) with
      | none => simp [hp] at hs
      | some rv =>
        obtain ⟨r, v⟩ := rv
        simp only [hp, Ata, As5, Atb] at hs
        obtain ⟨hreq, rfl⟩ := hs
        refine ⟨Pk g? v, [], [], rfl, rfl, fun n ob hn => (by cases hn), List.nodup_nil, ⟨by unfold E8; dsimp only [Tx]; rw [hc]; rfl, fun n hn => (by cases hn)⟩, ?_⟩
        intro I0 B A w a Q hm hsz hrd hnew
        have hr := Tf (w := w) hrd
        refine Iz.mono (Aoj (hr c (by simp [Op.operands])) (hr x (by simp [Op.operands])) (hr y (by simp [Op.operands])) (Ahr hsz hrd hc) hsc hp hreq) ?_
        rintro u w' ⟨rfl, hu⟩
        exact ⟨A, Jj.refl (.inl rfl), hu⟩
    · cases hs
  case store => simp [Tx] at hmut
  case call c =>
    obtain ⟨callee, args, ts⟩ := c
    cases callee
    case builtin b =>
      cases b
      case append => simp [Tx] at hmut
      all_goals (dsimp only at hs; rw [hsp] at hs; exact quiet hs)
    all_goals (dsimp only at hs; rw [hsp] at hs; exact quiet hs)
  all_goals (dsimp only at hs; rw [hsp] at hs; exact quiet hs)
end
end Go.Den
namespace Go.Den
open Go.RowKit (Below)
theorem M6 (a b : Dn) (n : Nat) : look (a ++ b) n = match look a n with | some x => some x | none => look b n := by
  induction a with
  | nil => rfl
  | cons x a ih =>
    obtain ⟨m, y⟩ := x
    simp only [List.cons_append, look]
    cases m == n <;> simp [ih]
theorem Abm (h : Dn) (m n : Nat) : look (match look h m with | some (_, o) => upd h m (true, o) | none => h) n = (look h n).map fun x => (x.1 || decide (n = m), x.2) := by
  cases hm : look h m with
  | none =>
    simp only
    cases hn : look h n with
    | none => rfl
    | some x =>
      have : n ≠ m := fun e => by rw [e, hm] at hn; cases hn
      simp [this]
  | some x =>
    obtain ⟨f, o⟩ := x
    simp only
    rw [Fx hm]
    by_cases e : n = m
    · subst e; simp [hm]
    · rw [if_neg e]
      cases look h n with
      | none => rfl
      | some x => simp [e]
theorem Px : ∀ (ns : List Nat) (h : Dn) (n : Nat), look (Je h ns) n = (look h n).map fun x => (x.1 || decide (n ∈ ns), x.2)
  | [], h, n => by
    unfold Je
    simp
  | m :: ns, h, n => by
    have e : Je h (m :: ns) = Je (match look h m with | some (_, o) => upd h m (true, o) | none => h) ns := rfl
    rw [e, Px ns, Abm]
    cases look h n with
    | none => rfl
    | some x => simp [Bool.or_assoc]
theorem Uw {objs : List (Nat × OB)} : ∀ {n : Nat} {x : Bool × OB}, look (objs.map (fun (x : Nat × OB) => (x.1, false, x.2))) n = some x → ∃ ob, (n, ob) ∈ objs ∧ x = (false, ob) := by
  induction objs with
  | nil => intro n x h; cases h
  | cons y l ih =>
    intro n x h
    simp only [List.map_cons, look] at h
    by_cases e : y.1 = n
    · rw [show (y.1 == n) = true by simpa using e] at h
      simp only [As2, As5] at h
      exact ⟨y.2, by rw [← e]; exact List.mem_cons_self, h.symm⟩
    · rw [show (y.1 == n) = false by simpa using e] at h
      obtain ⟨ob, h1, h2⟩ := ih h
      exact ⟨ob, List.mem_cons_of_mem _ h1, h2⟩
theorem Xm {objs : List (Nat × OB)} {n : Nat} (h : look (objs.map (fun (x : Nat × OB) => (x.1, false, x.2))) n = none) : ∀ ob, (n, ob) ∉ objs := by
  induction objs with
  | nil => intro ob h; cases h
  | cons y l ih =>
    intro ob hm
    simp only [List.map_cons, look] at h
    by_cases e : y.1 = n
    · rw [show (y.1 == n) = true by simpa using e] at h; simp at h
    · rw [show (y.1 == n) = false by simpa using e] at h
      rcases List.mem_cons.1 hm with rfl | hm
      · exact e rfl
      · exact ih h ob hm
theorem Ai0 {α : Type} {l : List (Nat × α)} (h : (l.map (·.1)).Nodup) {n : Nat} {x y : α} (h1 : (n, x) ∈ l) (h2 : (n, y) ∈ l) : x = y := by
  have e1 := Q3 h h1
  have e2 := Q3 h h2
  rw [e1] at e2; exact Option.some.inj e2
structure Qn (P : Program) (E : Env) (ops : Array Oper) (draw : Bool) (st : St) (o : Oper) (st' : St) (d : DV) : Prop where
  tmps : st'.tmps = S4 st.tmps o.dst d
  there : draw = true → ∀ n, n ∈ E8 E ops st o → look st.heap n ≠ none
  stays : ∀ n, look st.heap n ≠ none → look st'.heap n ≠ none
  same : draw = true → ∀ n, n ∉ E8 E ops st o → look st.heap n ≠ none → look st'.heap n = look st.heap n
  run : ∀ {I0 : Nat → Prop} {B : Nat} {A : Nat → Option Place} {w : World} {a : Act} {Q : Exit → Act → World → Prop}, Mem I0 B A st.heap w → a.tmps.size = st.tmps.length →
    (∀ t ∈ o.looksAt ops, Ao (Bs I0 B A w) w (st.tmps.getD t .undef) (a.tmps.getD t undef)) → (∀ n, look st.heap n = none → look st'.heap n ≠ none → A n = none) →
    Iz P ops o a w Q fun v w' => ∃ A', Mem I0 B A' st'.heap w' ∧ Ij A w A' w' ∧ Below B w w' ∧ Ao (Bs I0 B A' w') w' d v ∧
      (∀ n p, A' n = some p → A n = none → look st.heap n = none ∧ look st'.heap n ≠ none) ∧
      (draw = true → Re (E8 E ops st o) A w w' ∧ ∀ m q, m ∉ E8 E ops st o → A m = some q → A' m = some q)
section
variable {P : Program} {E : Env}
theorem Acu (he : J6 P E) {ops : Array Oper} {draw : Bool} {st st' : St} {o : Oper} (hs : Le E ops draw st o = some (true, st')) (hmut : Tx o.op = false)
    (hsp : ∀ g?, Oe ops st.tmps o = some g? → (bif draw then none else Ku E (Ha st.tmps) g? o.op) = none) :
    ∃ d, Qn P E ops draw st o st' d := by
  obtain ⟨d, objs, frz, h1, h2, h3, h4, h5, h6⟩ := Asn he hs hmut hsp
  obtain ⟨hm0, h5'⟩ := h5
  have hlk : ∀ n, look st'.heap n = match look (objs.map (fun (x : Nat × OB) => (x.1, false, x.2))) n with | some x => some x | none => (look st.heap n).map fun x => (x.1 || decide (n ∈ frz), x.2) := by
    intro n; rw [h2, M6, Px]
  have hold : ∀ n, look st.heap n ≠ none → look st'.heap n = (look st.heap n).map fun x => (x.1 || decide (n ∈ frz), x.2) := by
    intro n hn
    rw [hlk]
    cases hq : look (objs.map (fun (x : Nat × OB) => (x.1, false, x.2))) n with
    | none => rfl
    | some x =>
      obtain ⟨ob, hob, _⟩ := Uw hq
      exact absurd (h3 n ob hob) hn
  have hobj : ∀ n ob, (n, ob) ∈ objs → look st'.heap n = some (false, ob) := by
    intro n ob hob
    rw [hlk]
    cases hq : look (objs.map (fun (x : Nat × OB) => (x.1, false, x.2))) n with
    | none => exact absurd hob (Xm hq ob)
    | some x =>
      obtain ⟨ob', hob', rfl⟩ := Uw hq
      rw [Ai0 h4 hob hob']
  refine ⟨d, h1, fun _ n hn => h5' n (hm0 ▸ hn), fun n hn => ?_, fun hd n hf hn => ?_, ?_⟩
  · rw [hold n hn]
    cases hq : look st.heap n with
    | none => exact absurd hq hn
    | some x => simp
  · rw [hm0] at hf
    rw [hold n hn]
    cases look st.heap n with
    | none => rfl
    | some x => simp [hf]
  · intro I0 B A w a Q hm hsz hrd hnew
    have hnew' : ∀ n ob, (n, ob) ∈ objs → A n = none := fun n ob hob => hnew n (h3 n ob hob) (by rw [hobj n ob hob]; simp)
    refine (h6 hm hsz hrd hnew').mono ?_
    rintro v w' ⟨A', hg, hv⟩
    have hmem : Mem I0 B A' st'.heap w' := by
      refine hg.mem hm (fun n p fo' hp hl => ?_) (fun n ob fo' hob hn hl => ?_)
      · rw [hlk] at hl
        cases hq : look (objs.map (fun (x : Nat × OB) => (x.1, false, x.2))) n with
        | some x =>
          obtain ⟨ob, hob, _⟩ := Uw hq
          rw [hnew' n ob hob] at hp; cases hp
        | none =>
          rw [hq] at hl
          cases hf : look st.heap n with
          | none => rw [hf] at hl; cases hl
          | some fo => rw [hf] at hl; cases hl; exact ⟨fo, rfl, rfl⟩
      · rw [hobj n ob hob] at hl; cases hl; rfl
    refine ⟨A', hmem, hg.Ap6, hg.below.mono hm.hB, hv, fun n p hp hn => ?_, fun hd => ⟨fun m q b _ hq hqd hqb => hg.below.block b (hm.blkB m q b hq hqd hqb).2, fun m q hmf hq => ?_⟩⟩
    · obtain ⟨_, _, ob, hob, _⟩ := hg.new n p hn hp
      exact ⟨h3 n ob hob, by rw [hobj n ob hob]; simp⟩
    · have := hg.old m q hq
      rw [this]
      rw [hm0] at hmf
      cases q
      simp [Y3, hmf]
end
end Go.Den
namespace Go.Den
open Go.RowKit (Below)
section
variable {P : Program} {E : Env}
theorem Pl {o : Oper} {y : Nat → Option Bool} (h : o.guard = none) : Region.wanted o y = true := by
  unfold Region.wanted; rw [h]
theorem Sf {ops : Array Oper} {l : List DV} {o : Oper} (h : Oe ops l o = some none) : o.guard = none := by
  unfold Oe at h
  split at h
  · assumption
  · split at h
    · split at h <;> cases h
    · cases h
structure Qp (ns : List Nat) (nm : Option Nat) (h h' : Dn) : Prop where
  there : ∀ m, m ∈ ns → look h m ≠ none
  stays : ∀ m, look h m ≠ none → look h' m ≠ none
  same : ∀ m, m ∉ ns → some m ≠ nm → look h' m = look h m
theorem Mb {h : Dn} {n : Nat} {x y : Bool × OB} (hl : look h n = some x) : Qp [n] none h (upd h n y) where
  there := fun m hm => by rw [List.mem_singleton.1 hm, hl]; simp
  stays := fun m hm => by rw [Fx hl]; split <;> simp_all
  same := fun m hm _ => by rw [Fx hl, if_neg (fun e => hm (by rw [e]; exact List.mem_singleton.2 rfl))]
theorem Qr {h : Dn} {nm : Nat} {x : Bool × OB} : Qp [] (some nm) h ((nm, x) :: h) where
  there := fun m hm => by cases hm
  stays := fun m hm => by simp only [look]; cases nm == m <;> simp [hm]
  same := fun m _ hne => by
    simp only [look]
    rw [show (nm == m) = false by simpa using fun e : nm = m => hne (by rw [e])]; rfl
theorem Za {h : Dn} {n nm : Nat} {x y z : Bool × OB} (hl : look h n = some x) : Qp [n] (some nm) h ((nm, z) :: upd h n y) where
  there := (Mb (y := y) hl).there
  stays := fun m hm => Qr.stays m ((Mb (y := y) hl).stays m hm)
  same := fun m hm hne => by rw [Qr.same m (by simp) hne, (Mb (y := y) hl).same m hm (by simp)]
theorem Aco {h h' : Dn} {t : TypeId} {a v : DV} {r : Bool} (hs : Ue E h t a v = some (r, h')) : Qp (Alx a) none h h' := by
  unfold Ue at hs
  cases hT : E.ty t with
  | none => simp [hT] at hs
  | some ti =>
  simp only [hT, Ata] at hs
  cases hc : (Nf v && (cells v).length == ti.size && (cells v).all Rv) with
  | false => rw [hc] at hs; simp at hs
  | true =>
  rw [hc, As2] at hs
  split at hs
  · rename_i n i j
    split at hs
    · rename_i cs hlk
      cases hq : (i == 0 && decide (j + ti.size ≤ cs.length)) with
      | false => rw [hq] at hs; simp at hs
      | true =>
        rw [hq, As2, As5, Atb] at hs
        obtain ⟨_, rfl⟩ := hs
        exact Mb hlk
    · rename_i e k l hlk
      split at hs
      · rename_i k' x
        cases hq : (j == 0 && decide (k = k')) with
        | false => rw [hq] at hs; simp at hs
        | true =>
          rw [hq, As2, As5, Atb] at hs
          obtain ⟨_, rfl⟩ := hs
          exact Mb hlk
      · cases hs
    · rename_i e sz l hlk
      cases hlow : Kz h (cells v) with
      | none => simp [hlow] at hs
      | some q =>
      obtain ⟨vs, ns⟩ := q
      simp only [hlow, Ata] at hs
      cases hq : (decide (j + ti.size ≤ sz) && ns.isEmpty) with
      | false => rw [hq] at hs; simp at hs
      | true =>
        rw [hq, As2, As5, Atb] at hs
        obtain ⟨_, rfl⟩ := hs
        exact Mb hlk
    · cases hs
  · cases hs
theorem Ab3 {h h' : Dn} {nm : Nat} {t : TypeId} {s x v : DV} {r : Bool} (ha : Nc E h nm t s x = some (r, v, h')) : Qp (Abk s) (some nm) h h' ∧ look h nm = none := by
  unfold Nc at ha
  split at ha
  · rename_i e _ hT
    cases hE : E.ty e with
    | none => simp [hE] at ha
    | some ei =>
    simp only [hE, Ata] at ha
    cases hq : (decide (ei.bytes ≤ 128) && decide (0 < ei.size) && (look h nm).isNone) with
    | false => rw [hq] at ha; simp at ha
    | true =>
    rw [hq, As2] at ha
    simp only [Atd, As9, Option.isNone_iff_eq_none] at hq
    refine ⟨?_, hq.2⟩
    split at ha
    · split at ha
      · rename_i k hk
        cases hs1 : (ei.size == 1) with
        | false => rw [hs1] at ha; simp at ha
        | true =>
        rw [hs1, As2] at ha
        cases hel : Nk h k x with
        | none => simp [hel] at ha
        | some l =>
          simp only [hel, Ata, As5, Atb] at ha
          obtain ⟨_, _, rfl⟩ := ha
          exact Qr
      · cases hel : Nj h ei.size x with
        | none => simp [hel] at ha
        | some l =>
          simp only [hel, Ata, As5, Atb] at ha
          obtain ⟨_, _, rfl⟩ := ha
          exact Qr
    · rename_i n
      split at ha
      · rename_i e' k l' hlo
        cases hel : Nk h k x with
        | none => simp [hel] at ha
        | some l =>
          simp only [hel, Ata] at ha
          cases hc : (e == e' && ei.size == 1) with
          | false => rw [hc] at ha; simp at ha
          | true =>
            rw [hc, As2] at ha
            simp only [As5, Atb] at ha
            obtain ⟨_, _, rfl⟩ := ha
            exact Za hlo
      · rename_i e' sz l' hlo
        cases hel : Nj h sz x with
        | none => simp [hel] at ha
        | some l =>
          simp only [hel, Ata] at ha
          cases hc : (e == e' && sz == ei.size) with
          | false => rw [hc] at ha; simp at ha
          | true =>
            rw [hc, As2] at ha
            simp only [As5, Atb] at ha
            obtain ⟨_, _, rfl⟩ := ha
            exact Za hlo
      · cases ha
    · cases ha
  · cases ha
theorem Vo {h h' : Dn} {nm : Nat} {t : TypeId} {s x v : DV} {r : Bool} (ha : Nc E h nm t s x = some (r, v, h')) : (look h' nm).isSome = true := by
  have push : ∀ {y : Bool × OB} {k : Dn}, (look ((nm, y) :: k) nm).isSome = true := by intro y k; simp [look]
  unfold Nc at ha
  split at ha
  · rename_i e _ hT
    cases hE : E.ty e with
    | none => simp [hE] at ha
    | some ei =>
    simp only [hE, Ata] at ha
    cases hq : (decide (ei.bytes ≤ 128) && decide (0 < ei.size) && (look h nm).isNone) with
    | false => rw [hq] at ha; simp at ha
    | true =>
    rw [hq, As2] at ha
    split at ha
    · split at ha
      · rename_i k hk
        cases hs1 : (ei.size == 1) with
        | false => rw [hs1] at ha; simp at ha
        | true =>
        rw [hs1, As2] at ha
        cases hel : Nk h k x with
        | none => simp [hel] at ha
        | some l =>
          simp only [hel, Ata, As5, Atb] at ha
          obtain ⟨_, _, rfl⟩ := ha
          exact push
      · cases hel : Nj h ei.size x with
        | none => simp [hel] at ha
        | some l =>
          simp only [hel, Ata, As5, Atb] at ha
          obtain ⟨_, _, rfl⟩ := ha
          exact push
    · rename_i n
      split at ha
      · rename_i e' k l' hlo
        cases hel : Nk h k x with
        | none => simp [hel] at ha
        | some l =>
          simp only [hel, Ata] at ha
          cases hc : (e == e' && ei.size == 1) with
          | false => rw [hc] at ha; simp at ha
          | true =>
            rw [hc, As2] at ha
            simp only [As5, Atb] at ha
            obtain ⟨_, _, rfl⟩ := ha
            exact push
      · rename_i e' sz l' hlo
        cases hel : Nj h sz x with
        | none => simp [hel] at ha
        | some l =>
          simp only [hel, Ata] at ha
          cases hc : (e == e' && sz == ei.size) with
          | false => rw [hc] at ha; simp at ha
          | true =>
            rw [hc, As2] at ha
            simp only [As5, Atb] at ha
            obtain ⟨_, _, rfl⟩ := ha
            exact push
      · cases ha
    · cases ha
  · cases ha
theorem Acr (he : J6 P E) {ops : Array Oper} {draw : Bool} {st st' : St} {dst : Option Tmp} {t : TypeId} {x y : Operand} {ty : TypeId} {pos : String} {after : Array Edge} {guard : Option (Nat × Bool)}
    (hs : Le E ops draw st ⟨dst, .store t x y, ty, pos, after, guard⟩ = some (true, st')) : ∃ d, Qn P E ops draw st ⟨dst, .store t x y, ty, pos, after, guard⟩ st' d := by
  unfold Le at hs
  cases hc : Oe ops st.tmps ⟨dst, .store t x y, ty, pos, after, guard⟩ with
  | none => simp [hc] at hs
  | some g? =>
  cases g? with
  | some b => simp [hc] at hs
  | none =>
  have hg := Sf hc
  dsimp only at hg
  simp only [hc, Ata] at hs
  cases hst : Ue E st.heap t (Ha st.tmps x) (Ha st.tmps y) with
  | none => simp [hst] at hs
  | some rh =>
  obtain ⟨r, h'⟩ := rh
  simp only [hst, Ata, As5, Atb] at hs
  obtain ⟨rfl, rfl⟩ := hs
  have ht := Aco hst
  refine ⟨.undef, rfl, fun _ => ht.there, ht.stays, fun _ n hn _ => ht.same n hn (by simp), ?_⟩
  intro I0 B A w a Q hm hsz hrd hnew
  have hr := Tf (w := w) hrd
  obtain ⟨w', hrun, h1, h2, h3, h4, h5, h6, h7⟩ := Aia he.ty hm (hr x (by simp [Op.operands])) (hr y (by simp [Op.operands])) hst rfl
  intro K hK
  rw [if_pos (Pl hg)]
  unfold Oper.wp execOp
  simp only [Sem.run_bind, Sem.run_pure, Result.andThen_ok, hrun]
  rw [Oper.upon_skip]
  refine hK undef w' ⟨A, h1, h2, h3, by simp [Ao], fun n p hp hn => (by rw [hn] at hp; cases hp), fun _ => ⟨h5, fun m q _ hq => hq⟩⟩
theorem Aaw (he : J6 P E) {ops : Array Oper} {draw : Bool} {st st' : St} {dst : Option Tmp} {args : Array Operand} {ts : Array TypeId} {ty : TypeId} {pos : String} {after : Array Edge} {guard : Option (Nat × Bool)}
    (hs : Le E ops draw st ⟨dst, .call ⟨.builtin .append, args, ts⟩, ty, pos, after, guard⟩ = some (true, st')) : ∃ d, Qn P E ops draw st ⟨dst, .call ⟨.builtin .append, args, ts⟩, ty, pos, after, guard⟩ st' d := by
  unfold Le at hs
  cases hc : Oe ops st.tmps ⟨dst, .call ⟨.builtin .append, args, ts⟩, ty, pos, after, guard⟩ with
  | none => simp [hc] at hs
  | some g? =>
  simp only [hc, Ata] at hs
  split at hs
  · rename_i s x t t' hargs hts
    have hg := Sf hc
    dsimp only at hg
    cases hq : (t == t' && dst.isSome) with
    | false => rw [hq] at hs; simp at hs
    | true =>
    rw [hq, As2] at hs
    simp only [Atd, beq_iff_eq] at hq
    obtain ⟨rfl, hdst⟩ := hq
    cases hap : Nc E st.heap (dst.getD 0) t (Ha st.tmps s) (Ha st.tmps x) with
    | none => simp [hap] at hs
    | some rh =>
    obtain ⟨r, v, h'⟩ := rh
    simp only [hap, Ata, As5, Atb] at hs
    obtain ⟨rfl, rfl⟩ := hs
    obtain ⟨ht, hnone⟩ := Ab3 hap
    have hmut : E8 E ops st ⟨dst, .call ⟨.builtin .append, args, ts⟩, ty, pos, after, guard⟩ = Abk (Ha st.tmps s) := by
      unfold E8 Asr; simp only [hargs, Tx, As2]
    obtain rfl : args = #[s, x] := by
      cases args with | mk l => simp only at hargs; rw [hargs]
    obtain rfl : ts = #[t, t] := by
      cases ts with | mk l => simp only at hts; rw [hts]
    refine ⟨v, rfl, fun _ n hn => ht.there n (hmut ▸ hn), ht.stays, fun _ n hn hl => ht.same n (hmut ▸ hn) (fun e => hl ?_), ?_⟩
    · cases dst with
      | none => cases hdst
      | some d => simp only [Option.getD_some] at e hnone; cases e; exact hnone
    · intro I0 B A w a Q hm hsz hrd hnew
      have hr := Tf (w := w) hrd
      have hnm : A (dst.getD 0) = none := hnew _ hnone (by
        have := Vo hap
        exact fun e => by rw [e] at this; cases this)
      obtain ⟨v', w', A', hrun, h1, h2, h3, h4, h5, h6, h7, h8, _⟩ := Agn (ty := ty) he.ty hm hnm (hr s (by simp [Op.operands, Call.operands])) (hr x (by simp [Op.operands, Call.operands])) hap rfl
      intro K hK
      rw [if_pos (Pl hg)]
      unfold Oper.wp execOp
      simp only [resolve, invoke, builtin, Sem.run_bind, Sem.run_pure, Result.andThen_ok, List.map_toArray, List.map_cons, List.map_nil, hrun]
      rw [Oper.upon_value]
      refine hK v' w' ⟨A', h1, h2, h3, h4, fun n p hp hn => ?_, fun _ => ⟨hmut ▸ h7, fun m q hmn hq => h8 m q (hmut ▸ hmn) hq⟩⟩
      have := h5 n p hp hn
      subst this
      exact ⟨hnone, fun e => by have := Vo hap; rw [e] at this; cases this⟩
  · cases hs
theorem Pu {c c' : Ctx} {w w' : World} (h : K6 c w c' w') {p : Place} (hb : p.st ≠ .dead → ∀ b, p.F9 = some b → w'.heap[b]? = w.heap[b]?) {fo : Bool × OB} (hr : C1 c w p fo) : C1 c' w' p fo := by
  by_cases hd : p.st = .dead
  · obtain ⟨fz, ob⟩ := fo
    cases ob with
    | dead => exact hd
    | box cs => exact absurd hd (B1 hr.1)
    | ints e k l => exact absurd hd (B1 hr.1)
    | recs e sz l => exact absurd hd (B1 hr.1)
  · exact C1.Dd h rfl rfl (hb hd) fo hr
theorem Aay {ρ : Operand → DV} {g? : Option Bool} {op : Op} {n : Nat} {e : TypeId} (h : Ku E ρ g? op = some (n, e)) :
    g? = none ∧ ∃ f args ts g x r c, op = .call ⟨.value f, args, ts⟩ ∧ args.toList = [x] ∧ ρ f = .fn g [] [] ∧ E.spoil g = some e ∧ ρ x = .agg [.int .i64 r, .int .i64 c, .oref n] := by
  unfold Ku at h
  split at h
  · rename_i f args ts
    split at h
    · rename_i g x hf ha
      split at h
      · rename_i e' r c m he hx
        simp only [As5, Atb] at h
        obtain ⟨rfl, rfl⟩ := h
        exact ⟨rfl, f, args, ts, g, x, r, c, rfl, ha, hf, he, hx⟩
      · cases h
    · cases h
  · cases h
theorem Acs (he : J6 P E) {ops : Array Oper} {draw : Bool} {st st' : St} {o : Oper} (hs : Le E ops draw st o = some (true, st'))
    (hsp : ¬ ∀ g?, Oe ops st.tmps o = some g? → (bif draw then none else Ku E (Ha st.tmps) g? o.op) = none) : ∃ d, Qn P E ops draw st o st' d := by
  obtain ⟨dst, op, ty, pos, after, guard⟩ := o
  rw [Classical.not_forall] at hsp
  obtain ⟨g?, hsp⟩ := hsp
  rw [Classical.not_imp] at hsp
  obtain ⟨hc, hsp⟩ := hsp
  cases draw with
  | true => exact absurd rfl hsp
  | false =>
  dsimp only at hsp
  rw [As6] at hsp
  cases hsa : Ku E (Ha st.tmps) g? op with
  | none => exact absurd hsa hsp
  | some ne =>
  obtain ⟨n, e⟩ := ne
  obtain ⟨rfl, f, args, ts, g, x, r, c, rfl, hargs, hf, hE, hx⟩ := Aay hsa
  unfold Le at hs
  simp only [hc, Ata, As6, hsa] at hs
  have hg := Sf hc
  dsimp only at hg
  split at hs
  · rename_i e' l hlk
    cases hee : (e == e') with
    | false => rw [hee] at hs; simp at hs
    | true =>
    rw [hee, As2, As5, Atb] at hs
    obtain ⟨_, rfl⟩ := hs
    obtain rfl : e = e' := by simpa using hee
    have ht := Mb (y := (false, OB.dead)) hlk
    refine ⟨.undef, rfl, fun h => (by cases h), ht.stays, fun h => (by cases h), ?_⟩
    intro I0 B A w a Q hm hsz hrd hnew
    have hr := Tf (w := w) hrd
    have hf' := hr f (by simp [Op.operands, Call.operands])
    have hx' := hr x (by simp [Op.operands, Call.operands]; exact .inr (by rw [← Array.mem_toList_iff, hargs]; simp))
    rw [hf] at hf'
    rw [hx] at hx'
    simp only [Ao] at hf' hx'
    obtain ⟨fs, cs, hfv, hfs, hcs⟩ := hf'
    obtain ⟨vs, hxv, hvs⟩ := hx'
    have e1 : fs = #[] := by
      have := hfs.length; simp at this; exact Array.eq_empty_of_size_eq_zero this.symm
    have e2 : cs = #[] := by
      have := hcs.length; simp at this; exact Array.eq_empty_of_size_eq_zero this.symm
    subst e1; subst e2
    simp only [A8, Ao] at hvs
    obtain ⟨u1, us1, h1, rfl, u2, us2, rfl, rfl, v, us3, rfl, ⟨hcell, p, hp, hpd⟩, rfl⟩ := hvs
    have hp : A n = some p := hp
    have hvs' : vs = #[.int .i64 r, .int .i64 c, v] := Array.toList_inj.1 (by simpa using h1)
    subst hvs'
    obtain ⟨hlive, sv, hkind, hown⟩ := D9 hm hp hlk
    simp only [Bool.false_eq_true, if_false] at hlive
    have hsv : v = sv := by
      rcases hpd with hpd | ⟨size, hk⟩
      · rw [hlive] at hpd; cases hpd
      · rw [hkind] at hk; cases hk; rfl
    subst hsv
    have hblk : p.F9 = v.ownBlock := by unfold Place.F9; rw [hkind]
    have hrun := (he.spoil g e hE).run w r c v l (R3 hown (Nat.zero_le _))
    let A' : Nat → Option Place := fun m => if m = n then some ⟨.dead, p.kind⟩ else A m
    have hA' : ∀ {m : Nat} {q : Place}, A' m = some q → q.st ≠ .dead → m ≠ n ∧ A m = some q := by
      intro m q hq hqd
      by_cases hmn : m = n
      · have hq : (if m = n then some ⟨.dead, p.kind⟩ else A m) = some q := hq
        rw [if_pos hmn] at hq; cases hq; exact absurd rfl hqd
      · have hq : (if m = n then some ⟨.dead, p.kind⟩ else A m) = some q := hq
        rw [if_neg hmn] at hq; exact ⟨hmn, hq⟩
    intro K hK
    rw [if_pos (Pl hg)]
    obtain rfl : args = #[x] := by
      cases args with | mk l => simp only at hargs; rw [hargs]
    refine Ec.wp (K' := fun _ w' => Below 0 w w' ∧ ∀ b, b < w.heap.size → v.ownBlock ≠ some b → w'.heap[b]? = w.heap[b]?) ?_ ?_
    · unfold Ec
      have hexec : (execOp a.eval ⟨dst, .call ⟨.value f, #[x], ts⟩, ty, pos, after, guard⟩).run P w = .ok (.enter g #[.agg #[.int .i64 r, .int .i64 c, v]]) w := by
        simp only [execOp, resolve, hfv, Deferred.ofValue, Sem.run_bind, Sem.run_pure, Result.andThen_ok, invoke]
        have : (#[] ++ Array.map a.eval #[x] ++ #[] : Array Value) = #[.agg #[.int .i64 r, .int .i64 c, v]] := by simp [hxv]
        rw [this]
        exact (he.spoil g e hE).call _ _
      rw [hexec]
      exact hrun.mono fun en w' ⟨⟨u, hu⟩, hb, hk⟩ => ⟨u, hu, hb, hk⟩
    · rintro u w' ⟨hb, hk⟩
      have hmv : Ij A w A' w' := by
        refine ⟨hb.size, fun m q hq => ?_, fun m q b hq hql hqb _ => ?_, fun b hlt hno => hk b hlt (fun h => hno n p hp hlive (by rw [hblk]; exact h))⟩
        · by_cases hmn : m = n
          · subst hmn
            exact ⟨⟨.dead, p.kind⟩, if_pos rfl, .inl rfl⟩
          · refine ⟨q, (if_neg hmn).trans hq, ?_⟩
            by_cases hd : q.st = .dead
            · exact .inl hd
            · exact .inr ⟨hd, rfl⟩
        · obtain ⟨_, hq⟩ := hA' hq (by rw [hql]; simp)
          exact ⟨m, q, hq, hql, hqb⟩
      refine hK u w' ⟨A', ⟨Nat.le_trans hm.hB hb.size, hm.I0lt, fun m q fo hq hlo => ?_, fun m q b hq hqd hqb => ?_, fun m m' q q' b hq hq' hqd hqd' hqb hqb' => ?_⟩, hmv, ⟨hb.os, hb.tape, hb.output, hb.size, fun b hlt => hk b (Nat.lt_of_lt_of_le hlt hm.hB) fun h => ?_⟩, by simp [Ao], fun m q hq hn => ?_, fun h => (by cases h)⟩
      · rw [Fx hlk] at hlo
        by_cases hmn : m = n
        · rw [if_pos hmn] at hlo; cases hlo
          have hq : (if m = n then some ⟨.dead, p.kind⟩ else A m) = some q := hq
          rw [if_pos hmn] at hq; cases hq
          rfl
        · rw [if_neg hmn] at hlo
          have hq : (if m = n then some ⟨.dead, p.kind⟩ else A m) = some q := hq
          rw [if_neg hmn] at hq
          refine Pu hmv.Dd (fun hd b hb' => hk b (hm.blkB m q b hq hd hb').2 fun h => hmn (hm.inj m n q p b hq hp hd (by rw [hlive]; simp) hb' (by rw [hblk]; exact h))) (hm.obj m q fo hq hlo)
      · obtain ⟨_, hq⟩ := hA' hq hqd
        have := hm.blkB m q b hq hqd hqb
        exact ⟨this.1, Nat.lt_of_lt_of_le this.2 hb.size⟩
      · obtain ⟨_, hq⟩ := hA' hq hqd
        obtain ⟨_, hq'⟩ := hA' hq' hqd'
        exact hm.inj m m' q q' b hq hq' hqd hqd' hqb hqb'
      · have := (hm.blkB n p b hp (by rw [hlive]; simp) (by rw [hblk]; exact h)).1
        omega
      · by_cases hmn : m = n
        · subst hmn; rw [hp] at hn; cases hn
        · have hq : (if m = n then some ⟨.dead, p.kind⟩ else A m) = some q := hq
          rw [if_neg hmn, hn] at hq; cases hq
  · cases hs
theorem Wo (he : J6 P E) {ops : Array Oper} {draw : Bool} {st st' : St} {o : Oper} (hs : Le E ops draw st o = some (true, st')) : ∃ d, Qn P E ops draw st o st' d := by
  cases hmut : Tx o.op with
  | false =>
    by_cases hsp : ∀ g?, Oe ops st.tmps o = some g? → (bif draw then none else Ku E (Ha st.tmps) g? o.op) = none
    · exact Acu he hs hmut hsp
    · exact Acs he hs hsp
  | true =>
    obtain ⟨dst, op, ty, pos, after, guard⟩ := o
    dsimp only at hmut
    unfold Tx at hmut
    split at hmut
    · exact Acr he hs
    · exact Aaw he hs
    · cases hmut
end
end Go.Den
namespace Go.Den
open Go.RowKit (Below)
structure I6 (S I0 : Nat → Prop) (B : Nat) (w0 : World) (A : Nat → Option Place) (f : Nat → Option (Bool × OB)) (g : Nat → DV) (len : Nat) (a : Act) (w : World) : Prop where
  defers : a.defers = []
  size : a.tmps.size = len
  below : Below B w0 w
  hB : B ≤ w.heap.size
  I0lt : ∀ b, I0 b → b < B
  obj : ∀ n p, A n = some p → ∃ fo, f n = some fo ∧ C1 (Bs I0 B A w) w p fo
  blkB : ∀ n p b, A n = some p → p.st ≠ .dead → p.F9 = some b → B ≤ b ∧ b < w.heap.size
  inj : ∀ n m p q b, A n = some p → A m = some q → p.st ≠ .dead → q.st ≠ .dead → p.F9 = some b → q.F9 = some b → n = m
  tmps : ∀ t, Ao (Bs I0 B A w) w (g t) (a.tmps.getD t undef)
  kept : ∀ b, S b → b < w.heap.size ∧ w.heap[b]? = w0.heap[b]? ∧ ∀ n p, A n = some p → p.st = .live → p.F9 ≠ some b
theorem Z0 {S : Nat → Prop} {A A' : Nat → Option Place} {w0 w w' : World} (h : ∀ b, S b → b < w.heap.size ∧ w.heap[b]? = w0.heap[b]? ∧ ∀ n p, A n = some p → p.st = .live → p.F9 ≠ some b) (hm : Ij A w A' w') :
    ∀ b, S b → b < w'.heap.size ∧ w'.heap[b]? = w0.heap[b]? ∧ ∀ n p, A' n = some p → p.st = .live → p.F9 ≠ some b := fun b hb => by
  obtain ⟨k1, k2, k3⟩ := h b hb
  refine ⟨Nat.lt_of_lt_of_le k1 hm.size, (hm.kept b k1 k3).trans k2, fun n p hp hl hbk => ?_⟩
  obtain ⟨m, q, hq, hql, hqb⟩ := hm.live n p b hp hl hbk k1
  exact k3 m q hq hql hqb
section
variable {P : Program} {E : Env} {S I0 : Nat → Prop} {B : Nat} {w0 : World} {A : Nat → Option Place} {f f' : Nat → Option (Bool × OB)} {g g' : Nat → DV} {len : Nat} {a : Act} {w : World}
theorem I6.mem (h : I6 S I0 B w0 A f g len a w) {hp : Dn} (hf : ∀ n p fo, A n = some p → look hp n = some fo → f n = some fo) : Mem I0 B A hp w :=
  ⟨h.hB, h.I0lt, fun n p fo hn hl => by
    obtain ⟨fo', h1, h2⟩ := h.obj n p hn
    rw [hf n p fo hn hl] at h1; cases h1; exact h2, h.blkB, h.inj⟩
theorem Ad5 {dst : Option Tmp} {v : Value} {t : Nat} : (a.put dst v).tmps.getD t undef = if dst = some t ∧ t < a.tmps.size then v else a.tmps.getD t undef := by
  cases dst with
  | none => simp [Act.put]
  | some d =>
    simp only [Act.put, As5, Array.getD_eq_getD_getElem?]
    by_cases h : d = t
    · subst h
      by_cases h2 : d < a.tmps.size
      · simp [h2]
      · simp [h2]
    · rw [Array.getElem?_setIfInBounds_ne h, if_neg (fun e => h e.1)]
theorem Z3 {l : List DV} {dst : Option Nat} {d : DV} {t : Nat} : (S4 l dst d).getD t .undef = if dst = some t ∧ t < l.length then d else l.getD t .undef := by
  cases dst with
  | none => simp [S4]
  | some e =>
    simp only [S4, As5, Atc]
    by_cases h : e = t
    · subst h
      by_cases h2 : e < l.length
      · simp [h2]
      · simp [h2]
    · rw [List.getElem?_set_ne h, if_neg (fun e => h e.1)]
theorem Adf {dst : Option Tmp} {v : Value} : (a.put dst v).tmps.size = a.tmps.size := by cases dst <;> simp [Act.put]
theorem put_defers {dst : Option Tmp} {v : Value} : (a.put dst v).defers = a.defers := by cases dst <;> rfl
theorem Va {l : List DV} {dst : Option Nat} {d : DV} : (S4 l dst d).length = l.length := by cases dst <;> simp [S4]
theorem I6.step {ops : Array Oper} {st st' : St} {o : Oper} {d : DV} (h : I6 S I0 B w0 A f g len a w) (hk : Qn P E ops true st o st' d)
    (h1 : ∀ n, A n ≠ none → look st.heap n ≠ none → look st.heap n = f n)
    (h2 : ∀ t ∈ o.looksAt ops, st.tmps.getD t .undef = g t) (h3 : st.tmps.length = len)
    (h4 : ∀ n, look st.heap n = none → look st'.heap n ≠ none → f n = none)
    (h5 : ∀ n, look st'.heap n ≠ none → (n ∈ E8 E ops st o ∨ look st.heap n = none) → f' n = look st'.heap n)
    (h6 : ∀ n, n ∉ E8 E ops st o → ¬(look st.heap n = none ∧ look st'.heap n ≠ none) → f' n = f n)
    (h7 : ∀ t, g' t = if o.dst = some t ∧ t < len then d else g t) {Q : Exit → Act → World → Prop} :
    Iz P ops o a w Q fun v w' => ∃ A', I6 S I0 B w0 A' f' g' len (a.put o.dst v) w' := by
  have hm : Mem I0 B A st.heap w := h.mem fun n p fo hn hl => by
    rw [← h1 n (by rw [hn]; simp) (by rw [hl]; simp)]; exact hl
  refine (hk.run hm (h.size.trans h3.symm) (fun t ht => by rw [h2 t ht]; exact h.tmps t) (fun n hn hn' => ?_)).mono ?_
  · cases hA : A n with
    | none => rfl
    | some p =>
      obtain ⟨fo, hfo, _⟩ := h.obj n p hA
      rw [h4 n hn hn'] at hfo; cases hfo
  · rintro v w' ⟨A', hm', hmv, hb, hv, hnew, hdr⟩
    obtain ⟨hkept, hsame⟩ := hdr rfl
    have hlater := hmv.Dd (I0 := I0) (B := B)
    refine ⟨A', put_defers.trans h.defers, Adf.trans h.size, h.below.trans hb, hm'.hB, hm'.I0lt, fun n p hp => ?_, hm'.blkB, hm'.inj, fun t => ?_, Z0 h.kept hmv⟩
    · have Lj : look st'.heap n ≠ none → (n ∈ E8 E ops st o ∨ look st.heap n = none) → ∃ fo, f' n = some fo ∧ C1 (Bs I0 B A' w') w' p fo := by
        intro hl ht
        cases hq : look st'.heap n with
        | none => exact absurd hq hl
        | some fo => exact ⟨fo, by rw [h5 n hl ht, hq], hm'.obj n p fo hp hq⟩
      cases hA : A n with
      | none =>
        obtain ⟨e1, e2⟩ := hnew n p hp hA
        exact Lj e2 (.inr e1)
      | some q =>
        obtain ⟨fo, hfo, hr⟩ := h.obj n q hA
        by_cases hmu : n ∈ E8 E ops st o
        · exact Lj (hk.stays n (hk.there rfl n hmu)) (.inl hmu)
        · have hs := hsame n q hmu hA
          rw [hp] at hs; cases hs
          refine ⟨fo, ?_, Pu hlater (fun hd b hb => hkept n _ b hmu hA hd hb) hr⟩
          rw [h6 n hmu (fun e => by rw [h4 n e.1 e.2] at hfo; cases hfo)]; exact hfo
    · rw [Ad5, h7, h.size]
      split
      · exact hv
      · exact Ao.Dd hlater _ _ (h.tmps t)
def E7 (S I0 : Nat → Prop) (B : Nat) (w0 : World) (st : St) (a : Act) (w : World) : Prop := ∃ A, I6 S I0 B w0 A (look st.heap) (fun t => st.tmps.getD t .undef) st.tmps.length a w
theorem E7.step {ops : Array Oper} {draw : Bool} {st st' : St} {o : Oper} {d : DV} (h : E7 S I0 B w0 st a w) (hk : Qn P E ops draw st o st' d) {Q : Exit → Act → World → Prop} :
    Iz P ops o a w Q fun v w' => E7 S I0 B w0 st' (a.put o.dst v) w' := by
  obtain ⟨A, h⟩ := h
  have hm : Mem I0 B A st.heap w := h.mem fun n p fo hn hl => hl
  refine (hk.run hm h.size (fun t _ => h.tmps t) (fun n hn _ => ?_)).mono ?_
  · cases hA : A n with
    | none => rfl
    | some p =>
      obtain ⟨fo, hfo, _⟩ := h.obj n p hA
      rw [hn] at hfo; cases hfo
  · rintro v w' ⟨A', hm', hmv, hb, hv, hnew, _⟩
    have hlater := hmv.Dd (I0 := I0) (B := B)
    refine ⟨A', put_defers.trans h.defers, Adf.trans (h.size.trans (by rw [hk.tmps, Va])), h.below.trans hb, hm'.hB, hm'.I0lt, fun n p hp => ?_, hm'.blkB, hm'.inj, fun t => ?_, Z0 h.kept hmv⟩
    · have hl : look st'.heap n ≠ none := by
        cases hA : A n with
        | none => exact (hnew n p hp hA).2
        | some q =>
          obtain ⟨fo, hfo, _⟩ := h.obj n q hA
          exact hk.stays n (by rw [hfo]; simp)
      cases hq : look st'.heap n with
      | none => exact absurd hq hl
      | some fo => exact ⟨fo, rfl, hm'.obj n p fo hp hq⟩
    · rw [Ad5, hk.tmps, Z3, h.size]
      split
      · exact hv
      · exact Ao.Dd hlater _ _ (h.tmps t)
end
end Go.Den
namespace Go.Den
open Go.RowKit (Below)
theorem Ky {n : Nat} : ∀ {l : List Nat}, Lq n l = true ↔ n ∈ l
  | [] => by simp [Lq]
  | m :: l => by
    simp only [Lq, List.mem_cons]
    by_cases h : n = m
    · subst h; simp
    · rw [show Nat.beq n m = false from by cases hb : Nat.beq n m with | false => rfl | true => exact absurd (Atk hb) h]
      simp only [As6, Ky, h, false_or]
theorem R9 {n : Nat} {l : List Nat} : Lq n l = false ↔ n ∉ l := by rw [← Ky]; simp
section
variable {α : Type} {val : Nat → α} {touch S S' : Nat → Prop}
open Classical in
def after (val : Nat → α) (touch S : Nat → Prop) : Nat → α
  | 0 => val 0
  | k + 1 => if S k ∧ touch k then val (k + 1) else after val touch S k
theorem Nd {N : Nat} (h : ∀ j, j < N → touch j → (S j ↔ S' j)) : after val touch S N = after val touch S' N := by
  induction N with
  | zero => rfl
  | succ k ih =>
    simp only [after]
    by_cases ht : touch k
    · rw [ih fun j hj => h j (by omega)]
      by_cases hs : S k
      · rw [if_pos ⟨hs, ht⟩, if_pos ⟨(h k (by omega) ht).1 hs, ht⟩]
      · rw [if_neg (fun e => hs e.1), if_neg (fun e => hs ((h k (by omega) ht).2 e.1))]
    · rw [if_neg (fun e => ht e.2), if_neg (fun e => ht e.2)]
      exact ih fun j hj => h j (by omega)
theorem Aak : ∀ {k : Nat}, (∀ j, j < k → ¬ touch j → val (j + 1) = val j) → (∀ j, j < k → touch j → S j) → after val touch S k = val k
  | 0, _, _ => rfl
  | k + 1, hv, h => by
    simp only [after]
    by_cases ht : touch k
    · rw [if_pos ⟨h k (by omega) ht, ht⟩]
    · rw [if_neg (fun e => ht e.2), Aak (fun j hj => hv j (by omega)) (fun j hj => h j (by omega)), hv k (by omega) ht]
theorem Sn {k : Nat} : ∀ {N : Nat}, k ≤ N → (∀ j, k ≤ j → j < N → touch j → ¬ S j) → after val touch S N = after val touch S k
  | 0, hk, _ => by obtain rfl : k = 0 := by omega
                   rfl
  | N + 1, hk, h => by
    by_cases e : k = N + 1
    · rw [e]
    · simp only [after]
      rw [if_neg (fun e' => h N (by omega) (by omega) e'.2 e'.1)]
      exact Sn (by omega) fun j h1 h2 => h j h1 (by omega)
theorem K4 {k N : Nat} (hv : ∀ j, j < N → ¬ touch j → val (j + 1) = val j) (hk : k ≤ N) (h : ∀ j, j < N → touch j → (S j ↔ j < k)) : after val touch S N = val k := by
  rw [Sn hk fun j h1 h2 h3 h4 => by have := (h j h2 h3).1 h4; omega]
  exact Aak (fun j hj => hv j (by omega)) fun j h1 h2 => (h j (by omega) h2).2 h1
theorem Yp {k N : Nat} (hk : k < N) (ht : touch k) (hs : S k) (h : ∀ j, k < j → j < N → touch j → ¬ S j) : after val touch S N = val (k + 1) := by
  rw [Sn (k := k + 1) (by omega) fun j h1 h2 => h j (by omega) h2]
  simp only [after]
  rw [if_pos ⟨hs, ht⟩]
end
theorem K0 {p : Nat → Bool} : ∀ {h : Dn} {n : Nat}, look (h.filter fun x => p x.1) n = bif p n then look h n else none
  | [], n => by simp [look]
  | (m, x) :: h, n => by
    simp only [List.filter_cons, look]
    by_cases e : m = n
    · subst e
      cases hp : p m <;> simp [look, K0, hp]
    · rw [show (m == n) = false by simpa using e]
      cases hp : p m
      · simpa using K0
      · simp only [if_true, look, As6, show (m == n) = false by simpa using e]
        exact K0
theorem Ajd {ms : List Nat} {h : Dn} {n : Nat} : look (Ado ms h) n = if n ∈ ms then none else look h n := by
  unfold Ado
  rw [K0 (p := fun m => !(Lq m ms))]
  by_cases hn : n ∈ ms
  · rw [Ky.2 hn, if_pos hn]; rfl
  · rw [R9.2 hn, if_neg hn]; rfl
theorem Al8 {ms : List Nat} {h : Dn} {n : Nat} : look (Ao9 ms h) n = if n ∈ ms then look h n else none := by
  unfold Ao9
  rw [K0 (p := fun m => Lq m ms)]
  by_cases hn : n ∈ ms
  · rw [Ky.2 hn, if_pos hn]; rfl
  · rw [R9.2 hn, if_neg hn]; rfl
theorem Al7 {h : Dn} {n : Nat} {x : Bool × OB} (hl : look h n = some x) : (n, x) ∈ h := by
  induction h with
  | nil => cases hl
  | cons y h ih =>
    obtain ⟨m, z⟩ := y
    simp only [look] at hl
    by_cases e : m = n
    · subst e; simp at hl; subst hl; exact List.mem_cons_self
    · rw [show (m == n) = false by simpa using e] at hl
      exact List.mem_cons_of_mem _ (ih hl)
structure Saw (P : Program) (E : Env) (ops : Array Oper) (ms : List Nat) (st : St) (o : Oper) (st' : St) (mk mk' : St) (d : DV) : Prop where
  ok : Qn P E ops true mk o mk' d
  seen : mk = Ni ms st
  tmps : mk.tmps = st.tmps
  tmps' : st'.tmps = mk'.tmps
  mask : ∀ n, look mk.heap n = if n ∈ ms then none else look st.heap n
  out : ∀ n, look mk'.heap n ≠ none → n ∉ ms
  heap : ∀ n, look st'.heap n = if n ∈ ms then look st.heap n else look mk'.heap n
theorem Akw {P : Program} {E : Env} (he : J6 P E) {ops : Array Oper} {ms : List Nat} {st st' : St} {o : Oper} (h : Acq E ops ms st o = some (true, st')) : ∃ mk mk' d, Saw P E ops ms st o st' mk mk' d := by
  cases ms with
  | nil =>
    simp only [Acq] at h
    obtain ⟨d, hd⟩ := Wo he h
    exact ⟨st, st', d, hd, rfl, rfl, rfl, fun n => by simp, fun n _ => by simp, fun n => by simp⟩
  | cons m ms =>
    simp only [Acq] at h
    cases hs : Le E ops true ⟨st.tmps, Ado (m :: ms) st.heap⟩ o with
    | none => rw [hs] at h; cases h
    | some r =>
      obtain ⟨r, mk'⟩ := r
      rw [hs] at h
      simp only at h
      cases hc : (mk'.heap.all fun x => !(Lq x.1 (m :: ms))) with
      | false => rw [hc] at h; cases h
      | true =>
        rw [hc, As2, As5, Atb] at h
        obtain ⟨rfl, rfl⟩ := h
        obtain ⟨d, hd⟩ := Wo he hs
        have hout : ∀ n, look mk'.heap n ≠ none → n ∉ m :: ms := by
          intro n hn
          cases hq : look mk'.heap n with
          | none => exact absurd hq hn
          | some x =>
            have := List.all_eq_true.1 hc _ (Al7 hq)
            rw [Bool.not_eq_true'] at this
            exact R9.1 this
        refine ⟨_, mk', d, hd, rfl, rfl, rfl, fun n => Ajd, hout, fun n => ?_⟩
        show look (mk'.heap ++ Ao9 (m :: ms) st.heap) n = _
        rw [M6, Al8]
        by_cases hn : n ∈ m :: ms
        · rw [if_pos hn]
          cases hq : look mk'.heap n with
          | none => simp [hn]
          | some x => exact absurd hn (hout n (by rw [hq]; simp))
        · rw [if_neg hn, if_neg hn]
          cases look mk'.heap n <;> rfl
section
variable {P : Program} {E : Env} {ops : Array Oper} {ms : List Nat} {st st' mk mk' : St} {o : Oper} {d : DV} (h : Saw P E ops ms st o st' mk mk' d)
include h
theorem Saw.Aq8 {n : Nat} (hn : n ∈ E8 E ops (Ni ms st) o) : look st.heap n ≠ none ∧ n ∉ ms := by
  have h1 := h.ok.there rfl n (by rw [h.seen]; exact hn)
  rw [h.mask] at h1
  by_cases hm : n ∈ ms
  · rw [if_pos hm] at h1; exact absurd rfl h1
  · rw [if_neg hm] at h1; exact ⟨h1, hm⟩
theorem Saw.stays {n : Nat} (hn : look st.heap n ≠ none) : look st'.heap n ≠ none := by
  rw [h.heap]
  by_cases hm : n ∈ ms
  · rw [if_pos hm]; exact hn
  · rw [if_neg hm]
    exact h.ok.stays n (by rw [h.mask, if_neg hm]; exact hn)
theorem Saw.same {n : Nat} (hn : n ∉ E8 E ops (Ni ms st) o) (hc : ¬(look st.heap n = none ∧ look st'.heap n ≠ none)) : look st'.heap n = look st.heap n := by
  cases hq : look st.heap n with
  | none =>
    cases hq' : look st'.heap n with
    | none => rfl
    | some x => exact absurd ⟨hq, by rw [hq']; simp⟩ hc
  | some x =>
    rw [h.heap]
    by_cases hm : n ∈ ms
    · rw [if_pos hm, hq]
    · rw [if_neg hm]
      have h1 : look mk.heap n = some x := by rw [h.mask, if_neg hm, hq]
      rw [h.ok.same rfl n (by rw [h.seen]; exact hn) (by rw [h1]; simp), h1]
theorem Saw.made {n : Nat} (h1 : look st.heap n = none) (h2 : look st'.heap n ≠ none) : n ∉ ms := by
  intro hm
  rw [h.heap, if_pos hm] at h2
  exact h2 h1
theorem Saw.getD {t : Nat} : st'.tmps.getD t .undef = if o.dst = some t ∧ t < st.tmps.length then d else st.tmps.getD t .undef := by
  rw [h.tmps', h.ok.tmps, h.tmps, Z3]
theorem Saw.length : st'.tmps.length = st.tmps.length := by rw [h.tmps', h.ok.tmps, Va, h.tmps]
end
structure Trace (P : Program) (E : Env) (ops : Array Oper) (D : List (List Nat)) (M : List (Nat × List Nat)) (tr : Nat → St) : Prop where
  saw : ∀ k o, ops[k]? = some o → ∃ mk mk' d, Saw P E ops (Gy D k M) (tr k) o (tr (k + 1)) mk mk' d
  Aq8 : ∀ k o, ops[k]? = some o → Pw D k = true → ∀ n, n ∈ E8 E ops (Ni (Gy D k M) (tr k)) o → n ∈ Lp k M
theorem Vd {β : Type} {P : Program} {E : Env} (he : J6 P E) {ops : Array Oper} {D : List (List Nat)} {M : List (Nat × List Nat)} {K : St → Option β} {b : β} :
    ∀ (l : List Oper) (k : Nat) (st : St), (∀ j, l[j]? = ops[k + j]?) → Ag9 E ops D M k l st K = some b →
    ∃ tr : Nat → St, tr 0 = st ∧ K (tr l.length) = some b ∧ ∀ j o, l[j]? = some o → (∃ mk mk' d, Saw P E ops (Gy D (k + j) M) (tr j) o (tr (j + 1)) mk mk' d) ∧ (Pw D (k + j) = true → ∀ n, n ∈ E8 E ops (Ni (Gy D (k + j) M) (tr j)) o → n ∈ Lp (k + j) M)
  | [], k, st, _, h => ⟨fun _ => st, rfl, h, fun j o hj => (by cases hj)⟩
  | o :: l, k, st, hl, h => by
    simp only [Ag9] at h
    cases hs : Acq E ops (Gy D k M) st o with
    | none => rw [hs] at h; cases h
    | some r =>
      obtain ⟨r, st'⟩ := r
      rw [hs] at h
      simp only at h
      cases hc : (r && (!(Pw D k) || (E8 E ops (Ni (Gy D k M) st) o).all fun n => Lq n (Lp k M))) with
      | false => rw [hc] at h; cases h
      | true =>
        rw [hc, As2] at h
        simp only [Atd, Bool.or_eq_true, Bool.not_eq_true', List.all_eq_true] at hc
        obtain ⟨rfl, hc⟩ := hc
        obtain ⟨tr, h1, h2, h3⟩ := Vd he l (k + 1) st' (fun j => by have := hl (j + 1); simpa [Nat.add_assoc, Nat.add_comm 1 j] using this) h
        refine ⟨fun j => match j with | 0 => st | j + 1 => tr j, rfl, h2, fun j p hj => ?_⟩
        cases j with
        | zero =>
          simp only [List.getElem?_cons_zero, As5] at hj
          subst hj
          refine ⟨by show ∃ mk mk' d, Saw P E ops (Gy D k M) st o (tr 0) mk mk' d; rw [h1]; exact Akw he hs, fun hlo n hn => ?_⟩
          rcases hc with hc | hc
          · have hlo' : Pw D k = true := hlo
            rw [hc] at hlo'; cases hlo'
          · exact Ky.1 (hc n hn)
        | succ j =>
          rw [List.getElem?_cons_succ] at hj
          have := h3 j p hj
          rw [show k + (j + 1) = k + 1 + j by omega]
          exact this
end Go.Den
namespace Go.Den
open Go.RowKit (Below)
theorem Rt {ops : Array Oper} {k : Nat} {o : Oper} (h : ops[k]? = some o) : (ops.toList.map H4).getD k [] = H4 o := by
  have : ops.toList[k]? = some o := by simpa using h
  simp [Atc, this]
theorem E6 {ops : Array Oper} {k i : Nat} (h : i ∈ (ops.toList.map H4).getD k []) : ∃ o, ops[k]? = some o ∧ i ∈ H4 o := by
  cases hk : ops[k]? with
  | none =>
    have : ops.toList[k]? = none := by simpa using hk
    simp [Atc, this] at h
  | some o => rw [Rt hk] at h; exact ⟨o, rfl, h⟩
theorem Adm {o : Oper} {i : Nat} : i ∈ H4 o ↔ ∃ e ∈ o.after, Region.binds .any e = true ∧ e.on = i := by
  unfold H4
  simp only [List.mem_filterMap, Array.mem_toList_iff]
  constructor
  · rintro ⟨e, he, h⟩
    cases hb : Region.binds .any e with
    | false => rw [hb] at h; simp at h
    | true => rw [hb] at h; simp at h; exact ⟨e, he, hb, h⟩
  · rintro ⟨e, he, hb, rfl⟩
    exact ⟨e, he, by rw [hb]; rfl⟩
structure So (ops : Array Oper) : Prop where
  lt : ∀ (k : Nat) o, ops[k]? = some o → ∀ i ∈ H4 o, i < k
  once : ∀ (k j : Nat) o p t, ops[k]? = some o → ops[j]? = some p → p.dst = some t → o.dst = some t → j = k
  told : ∀ (k j : Nat) o p t, ops[k]? = some o → ops[j]? = some p → p.dst = some t → t ∈ o.looksAt ops → Vv (ops.toList.map H4) j k = true ∨ Vv (ops.toList.map H4) k j = true
theorem lt_size {ops : Array Oper} {k : Nat} {o : Oper} (h : ops[k]? = some o) : k < ops.size := by
  rcases Nat.lt_or_ge k ops.size with h' | h'
  · exact h'
  · rw [Array.getElem?_eq_none h'] at h; cases h
theorem Aeg {ops : Array Oper} (h : Abv ops (ops.toList.map H4) = true) : So ops := by
  unfold Abv at h
  simp only [List.all_eq_true, List.mem_range, List.length_map, Array.length_toList] at h
  refine ⟨fun k o hk i hi => ?_, fun k j o p t hk hj hp ho => ?_, fun k j o p t hk hj hp ht => ?_⟩
  · have h1 := h k (lt_size hk)
    rw [Atd, List.all_eq_true] at h1
    have := h1.1 i (by rw [Rt hk]; exact hi)
    simpa [Nat.blt_eq] using this
  · have h1 := h k (lt_size hk)
    rw [Atd, hk] at h1
    have h2 := h1.2
    simp only [List.all_eq_true, List.mem_range] at h2
    have h3 := h2 j (lt_size hj)
    rw [hj] at h3
    simp only [hp, Atd, Bool.or_eq_true] at h3
    rcases h3.1 with h4 | h4
    · exact Atk h4
    · rw [ho] at h4; simp at h4
  · have h1 := h k (lt_size hk)
    rw [Atd, hk] at h1
    have h2 := h1.2
    simp only [List.all_eq_true, List.mem_range] at h2
    have h3 := h2 j (lt_size hj)
    rw [hj] at h3
    simp only [hp, Atd, Bool.or_eq_true] at h3
    rcases h3.2 with h4 | h4
    · rw [Ky.2 ht] at h4; simp at h4
    · exact h4
theorem Aag {D : List (List Nat)} {i j : Nat} (h : Vv D i j = true) : i ∈ D.getD j [] ∨ ∃ m ∈ D.getD j [], i ∈ D.getD m [] := by
  unfold Vv at h
  simp only [Bool.or_eq_true, List.any_eq_true] at h
  exact h.imp Ky.1 fun ⟨m, h1, h2⟩ => ⟨m, h1, Ky.1 h2⟩
section
variable {ops : Array Oper} (hd : So ops)
include hd
theorem So.Yn {i j : Nat} (h : Vv (ops.toList.map H4) i j = true) : i < j := by
  rcases Aag h with h | ⟨m, h1, h2⟩
  · obtain ⟨o, ho, hi⟩ := E6 h
    exact hd.lt j o ho i hi
  · obtain ⟨o, ho, hi⟩ := E6 h1
    obtain ⟨p, hp, hj⟩ := E6 h2
    have := hd.lt j o ho m hi
    have := hd.lt m p hp i hj
    omega
end
def U7 (ops : Array Oper) (S : Nat → Prop) : Prop := ∀ k o, ops[k]? = some o → S k → ∀ i ∈ H4 o, S i
theorem U7.bef {ops : Array Oper} {S : Nat → Prop} (hc : U7 ops S) {k : Nat} (hk : ∀ o, ops[k]? = some o → ∀ i ∈ H4 o, S i) {i : Nat} (h : Vv (ops.toList.map H4) i k = true) : S i := by
  rcases Aag h with h | ⟨m, h1, h2⟩
  · obtain ⟨o, ho, hi⟩ := E6 h
    exact hk o ho i hi
  · obtain ⟨o, ho, hi⟩ := E6 h1
    obtain ⟨p, hp, hj⟩ := E6 h2
    exact hc m p hp (hk o ho m hi) i hj
theorem U5 {D : List (List Nat)} {i j : Nat} (h1 : i ≠ j) (h2 : Vv D i j ≠ true) (h3 : Vv D j i ≠ true) : Mm D i j = true := by
  unfold Mm
  have e1 : Nat.beq i j = false := by
    cases hb : Nat.beq i j with
    | false => rfl
    | true => exact absurd (Atk hb) h1
  rw [e1, Bool.not_eq_true _ |>.mp h2, Bool.not_eq_true _ |>.mp h3]; rfl
theorem R8 {D : List (List Nat)} {s k n : Nat} (ha : Mm D s k = true) : ∀ {M : List (Nat × List Nat)}, n ∈ Lp s M → n ∈ Gy D k M
  | [], h => by simp [Lp] at h
  | (s', ns) :: M, h => by
    simp only [Lp] at h
    simp only [Gy]
    cases hb : Nat.beq s' s with
    | true =>
      have := Atk hb
      subst this
      rw [hb] at h
      rw [ha]
      simp only [As2, List.mem_append] at h ⊢
      exact h.imp id (R8 ha)
    | false =>
      rw [hb] at h
      simp only [As6] at h
      have := R8 ha h
      cases Mm D s' k
      · exact this
      · exact List.mem_append.2 (.inr this)
theorem Ajc {D : List (List Nat)} {s k : Nat} (ha : Mm D s k = true) (hk : k < D.length) : Pw D s = true := by
  unfold Pw
  exact List.any_eq_true.2 ⟨k, List.mem_range.2 hk, ha⟩
def Aau (E : Env) (ops : Array Oper) (M : List (Nat × List Nat)) (tr : Nat → St) (n : Nat) (k : Nat) : Prop :=
  ∃ o, ops[k]? = some o ∧ (n ∈ E8 E ops (Ni (Gy (ops.toList.map H4) k M) (tr k)) o ∨ (look (tr k).heap n = none ∧ look (tr (k + 1)).heap n ≠ none))
def Aku (ops : Array Oper) (len : Nat) (t : Nat) (k : Nat) : Prop := t < len ∧ ∃ o, ops[k]? = some o ∧ o.dst = some t
def P4 (E : Env) (ops : Array Oper) (M : List (Nat × List Nat)) (tr : Nat → St) (S : Nat → Prop) (n : Nat) : Option (Bool × OB) := after (fun k => look (tr k).heap n) (Aau E ops M tr n) S ops.size
def Zc (ops : Array Oper) (tr : Nat → St) (S : Nat → Prop) (t : Nat) : DV := after (fun k => (tr k).tmps.getD t .undef) (Aku ops (tr 0).tmps.length t) S ops.size
section
variable {P : Program} {E : Env} {ops : Array Oper} {M : List (Nat × List Nat)} {tr : Nat → St} (hd : So ops) (T : Trace P E ops (ops.toList.map H4) M tr)
include T
theorem Trace.len {k : Nat} (h : k ≤ ops.size) : (tr k).tmps.length = (tr 0).tmps.length := by
  induction k with
  | zero => rfl
  | succ k ih =>
    obtain ⟨mk, mk', d, hs⟩ := T.saw k ops[k] (Atm (by omega))
    rw [hs.length, ih (by omega)]
theorem Trace.stays {n j k : Nat} (hj : look (tr j).heap n ≠ none) (hjk : j ≤ k) (hk : k ≤ ops.size) : look (tr k).heap n ≠ none := by
  induction k with
  | zero => obtain rfl : j = 0 := by omega
            exact hj
  | succ k ih =>
    by_cases e : j = k + 1
    · rw [← e]; exact hj
    · obtain ⟨mk, mk', d, hs⟩ := T.saw k ops[k] (Atm (by omega))
      exact hs.stays (ih (by omega) (by omega))
theorem Trace.Akg {n j : Nat} (hj : j < ops.size) (ht : ¬ Aau E ops M tr n j) : look (tr (j + 1)).heap n = look (tr j).heap n := by
  obtain ⟨mk, mk', d, hs⟩ := T.saw j ops[j] (Atm hj)
  exact hs.same (fun h => ht ⟨_, Atm hj, .inl h⟩) (fun h => ht ⟨_, Atm hj, .inr h⟩)
theorem Trace.Aqg {t j : Nat} (hj : j < ops.size) (ht : ¬ Aku ops (tr 0).tmps.length t j) : (tr (j + 1)).tmps.getD t .undef = (tr j).tmps.getD t .undef := by
  obtain ⟨mk, mk', d, hs⟩ := T.saw j ops[j] (Atm hj)
  rw [hs.getD, T.len (by omega), if_neg (fun e => ht ⟨e.2, _, Atm hj, e.1⟩)]
theorem Trace.Lj {n j : Nat} {o : Oper} (ho : ops[j]? = some o) (ht : Aau E ops M tr n j) : (n ∈ E8 E ops (Ni (Gy (ops.toList.map H4) j M) (tr j)) o ∧ look (tr j).heap n ≠ none) ∨ (look (tr j).heap n = none ∧ look (tr (j + 1)).heap n ≠ none) := by
  obtain ⟨o', ho', h⟩ := ht
  rw [ho] at ho'; cases ho'
  rcases h with h | h
  · obtain ⟨mk, mk', d, hs⟩ := T.saw j o ho
    exact .inl ⟨h, (hs.Aq8 h).1⟩
  · exact .inr h
theorem Trace.Amm {s k n : Nat} {o : Oper} (hs : ops[s]? = some o) (hk : k < ops.size) (ha : Mm (ops.toList.map H4) s k = true) (hn : n ∈ E8 E ops (Ni (Gy (ops.toList.map H4) s M) (tr s)) o) : n ∈ Gy (ops.toList.map H4) k M :=
  R8 ha (T.Aq8 s o hs (Ajc ha (by simpa using hk)) n hn)
omit T in
theorem Qj {S : Nat → Prop} (hd : So ops) (hc : U7 ops S) {k : Nat} (hk : ¬ S k) {j : Nat} (hj : S j) (hlt : k < j) : Mm (ops.toList.map H4) j k = true := by
  refine U5 (by omega) (fun e => ?_) (fun e => ?_)
  · have := hd.Yn e; omega
  · exact hk (hc.bef (fun p hp => hc j p hp hj) e)
omit T in
theorem Ab4 {S : Nat → Prop} (hd : So ops) (hc : U7 ops S) {k : Nat} {o : Oper} (ho : ops[k]? = some o) (hr : ∀ i ∈ H4 o, S i) {j : Nat} (hj : ¬ S j) (hlt : j < k) : Mm (ops.toList.map H4) j k = true := by
  refine U5 (by omega) (fun e => ?_) (fun e => ?_)
  · exact hj (hc.bef (fun p hp => by rw [ho] at hp; cases hp; exact hr) e)
  · have := hd.Yn e; omega
include hd
variable {S : Nat → Prop} (hc : U7 ops S) {k : Nat} {o : Oper} (ho : ops[k]? = some o) (hk : ¬ S k) (hr : ∀ i ∈ H4 o, S i)
include hc ho hk hr
theorem Trace.Aoz {n : Nat} (hm : n ∉ Gy (ops.toList.map H4) k M) (h1 : look (tr k).heap n ≠ none) (h2 : P4 E ops M tr S n ≠ none) : P4 E ops M tr S n = look (tr k).heap n := by
  have hkN := lt_size ho
  refine K4 (val := fun k => look (tr k).heap n) (fun j hj ht => T.Akg hj ht) (by omega) fun j hj ht => ?_
  have hoj : ops[j]? = some ops[j] := Atm hj
  constructor
  · intro hS
    rcases Nat.lt_or_ge j k with h | h
    · exact h
    · have hne : j ≠ k := fun e => hk (e ▸ hS)
      have ha := Qj hd hc hk hS (by omega)
      rcases T.Lj hoj ht with ⟨h3, _⟩ | ⟨h3, _⟩
      · exact absurd (T.Amm hoj hkN ha h3) hm
      · exact absurd h3 (T.stays h1 (by omega) (by omega))
  · intro hlt
    refine Classical.byContradiction fun hS => ?_
    have ha := Ab4 hd hc ho hr hS hlt
    rcases T.Lj hoj ht with ⟨h3, _⟩ | ⟨h3, h4⟩
    · exact hm (T.Amm hoj hkN ha h3)
    ·
      refine h2 ?_
      have : P4 E ops M tr S n = look (tr 0).heap n := by
        refine K4 (k := 0) (val := fun k => look (tr k).heap n) (fun j hj ht => T.Akg hj ht) (by omega) fun i hi hti => ⟨fun hSi => ?_, fun h => by omega⟩
        exfalso
        have hoi : ops[i]? = some ops[i] := Atm hi
        have hij : i ≠ j := fun e => hS (e ▸ hSi)
        have hji : j < i := by
          rcases T.Lj hoi hti with ⟨_, h5⟩ | ⟨h5, h6⟩
          · rcases Nat.lt_or_ge j i with h | h
            · exact h
            · exact absurd h3 (T.stays h5 h (by omega))
          · rcases Nat.lt_or_ge j i with h | h
            · exact h
            · exact absurd h3 (T.stays h6 (by omega) (by omega))
        have hap : Mm (ops.toList.map H4) i j = true := by
          refine U5 hij (fun e => ?_) (fun e => ?_)
          · have := hd.Yn e; omega
          · exact hS (hc.bef (fun p hp => hc i p hp hSi) e)
        rcases T.Lj hoi hti with ⟨h5, _⟩ | ⟨h5, _⟩
        · obtain ⟨mk, mk', d, hsj⟩ := T.saw j _ hoj
          exact hsj.made h3 h4 (T.Amm hoi hj hap h5)
        · exact absurd h5 (T.stays h4 (by omega) (by omega))
      rw [this]
      cases hq : look (tr 0).heap n with
      | none => rfl
      | some x => exact absurd h3 (T.stays (j := 0) (by rw [hq]; simp) (by omega) (by omega))
theorem Trace.Aqr {t : Nat} (ht : t ∈ o.looksAt ops) : Zc ops tr S t = (tr k).tmps.getD t .undef := by
  have hkN := lt_size ho
  refine K4 (val := fun k => (tr k).tmps.getD t .undef) (fun j hj h => T.Aqg hj h) (by omega) fun j hj hj' => ?_
  obtain ⟨_, p, hp, hdst⟩ := hj'
  rcases hd.told k j o p t ho hp hdst ht with h | h
  · have := hd.Yn h
    exact ⟨fun _ => this, fun _ => hc.bef (fun p hp => by rw [ho] at hp; cases hp; exact hr) h⟩
  · have := hd.Yn h
    exact ⟨fun hS => absurd (hc.bef (fun p hp => hc j p hp hS) h) hk, fun h => by omega⟩
theorem Trace.step {S0 I0 : Nat → Prop} {B : Nat} {w0 : World} {A : Nat → Option Place} {a : Act} {w : World} (h : I6 S0 I0 B w0 A (P4 E ops M tr S) (Zc ops tr S) (tr 0).tmps.length a w) {Q : Exit → Act → World → Prop} :
    Iz P ops o a w Q fun v w' => ∃ A', I6 S0 I0 B w0 A' (P4 E ops M tr fun j => S j ∨ j = k) (Zc ops tr fun j => S j ∨ j = k) (tr 0).tmps.length (a.put o.dst v) w' := by
  have hkN := lt_size ho
  obtain ⟨mk, mk', d, hs⟩ := T.saw k o ho
  have hout : ∀ {n}, look mk'.heap n ≠ none → look mk'.heap n = look (tr (k + 1)).heap n := by
    intro n hn
    rw [hs.heap, if_neg (hs.out n hn)]
  refine h.step hs.ok (fun n hA hl => ?_) (fun t ht => ?_) (by rw [hs.tmps, T.len (by omega)]) (fun n h1 h2 => ?_) (fun n h1 h2 => ?_) (fun n h1 h2 => ?_) (fun t => ?_)
  · have hm : n ∉ Gy (ops.toList.map H4) k M := fun e => hl (by rw [hs.mask, if_pos e])
    rw [hs.mask, if_neg hm] at hl ⊢
    refine (T.Aoz hd hc ho hk hr hm hl ?_).symm
    cases hA' : A n with
    | none => exact absurd hA' hA
    | some p =>
      obtain ⟨fo, hfo, _⟩ := h.obj n p hA'
      rw [hfo]; simp
  · rw [hs.tmps]; exact (T.Aqr hd hc ho hk hr ht).symm
  ·
    have hm := hs.out n h2
    rw [hs.mask, if_neg hm] at h1
    rw [hout h2] at h2
    have : P4 E ops M tr S n = look (tr 0).heap n := by
      refine K4 (k := 0) (val := fun k => look (tr k).heap n) (fun j hj ht => T.Akg hj ht) (by omega) fun i hi hti => ⟨fun hSi => ?_, fun h => by omega⟩
      exfalso
      have hoi : ops[i]? = some ops[i] := Atm hi
      have hik : i ≠ k := fun e => hk (e ▸ hSi)
      rcases T.Lj hoi hti with ⟨h5, h6⟩ | ⟨h5, h6⟩
      · rcases Nat.lt_or_ge i k with hlt | hge
        · exact absurd h1 (T.stays h6 (by omega) (by omega))
        · exact hm (T.Amm hoi hkN (Qj hd hc hk hSi (by omega)) h5)
      · rcases Nat.lt_or_ge i k with hlt | hge
        · exact absurd h1 (T.stays h6 (by omega) (by omega))
        · exact absurd h5 (T.stays h2 (by omega) (by omega))
    rw [this]
    cases hq : look (tr 0).heap n with
    | none => rfl
    | some x => exact absurd h1 (T.stays (j := 0) (by rw [hq]; simp) (by omega) (by omega))
  · have hm := hs.out n h1
    rw [hs.mask, if_neg hm, hs.seen] at h2
    have e1 := hout h1
    rw [e1] at h1 ⊢
    have ht : Aau E ops M tr n k := ⟨o, ho, h2.imp id fun e => ⟨e, h1⟩⟩
    refine Yp (val := fun k => look (tr k).heap n) hkN ht (.inr rfl) fun i hlt hi hti hSi => ?_
    have hSi := hSi.resolve_right (by omega)
    have hoi : ops[i]? = some ops[i] := Atm hi
    rcases T.Lj hoi hti with ⟨h5, _⟩ | ⟨h5, _⟩
    · exact hm (T.Amm hoi hkN (Qj hd hc hk hSi hlt) h5)
    · exact absurd h5 (T.stays h1 (by omega) (by omega))
  · rw [hs.seen] at h1
    refine Nd fun j hj ht => ⟨fun h => h.resolve_right fun e => ?_, .inl⟩
    subst e
    obtain ⟨o', ho', h3⟩ := ht
    rw [ho] at ho'; cases ho'
    rcases h3 with h3 | ⟨h3, h4⟩
    · exact h1 h3
    · have hm := hs.made h3 h4
      refine h2 ⟨by rw [hs.mask, if_neg hm]; exact h3, ?_⟩
      rw [hs.heap, if_neg hm] at h4; exact h4
  · split
    · rename_i ht
      have h1 : Zc ops tr (fun j => S j ∨ j = k) t = (tr (k + 1)).tmps.getD t .undef := by
        refine Yp (val := fun k => (tr k).tmps.getD t .undef) hkN ⟨ht.2, o, ho, ht.1⟩ (.inr rfl) fun i hlt hi hti hSi => ?_
        obtain ⟨_, p, hp, hdst⟩ := hti
        have := hd.once i k p o t hp ho ht.1 hdst
        omega
      rw [h1, hs.getD, if_pos ⟨ht.1, by rw [T.len (by omega)]; exact ht.2⟩]
    · rename_i ht
      refine Nd fun j hj hj' => ⟨fun h => h.resolve_right fun e => ?_, .inl⟩
      subst e
      obtain ⟨h1, p, hp, hdst⟩ := hj'
      rw [ho] at hp; cases hp
      exact ht ⟨hdst, h1⟩
end
end Go.Den
namespace Go.Den
open Go.RowKit (Below)
section
variable {P : Program} {E : Env} {S I0 : Nat → Prop} {B : Nat} {w0 : World}
theorem Ahc {β : Type} (he : J6 P E) {ops : Array Oper} {draw : Bool} {Q : Exit → Act → World → Prop} {K : St → Option β} {r : β} :
    ∀ (l : List Oper) (k : Nat) (st : St), (∀ j, l[j]? = ops[k + j]?) → Aon E ops draw l st K = some r → ∀ a w, E7 S I0 B w0 st a w →
    (∀ st a w, K st = some r → E7 S I0 B w0 st a w → Q .normal a w) → wpOps P ops Q (List.range' k l.length) a w
  | [], k, st, _, h, a, w, hh, hQ => hQ st a w h hh
  | o :: l, k, st, hl, h, a, w, hh, hQ => by
    simp only [Aon] at h
    cases hs : Le E ops draw st o with
    | none => rw [hs] at h; cases h
    | some x =>
      obtain ⟨b, st'⟩ := x
      rw [hs] at h
      simp only at h
      cases b with
      | false => cases h
      | true =>
        simp only [As2] at h
        obtain ⟨d, hd⟩ := Wo he hs
        have ho : ops[k]? = some o := by simpa using (hl 0).symm
        rw [List.length_cons, List.range'_succ]
        simp only [wpOps, ho]
        have := hh.step hd (Q := Q) (wpOps P ops Q (List.range' (k + 1) l.length)) (fun v w' hv => Ahc he l (k + 1) st' (fun j => by have := hl (j + 1); simpa [Nat.add_assoc, Nat.add_comm 1 j] using this) h _ _ hv hQ)
        split
        · rename_i hw; rw [if_pos hw] at this; exact .inl this
        · rename_i hw; rw [if_neg hw] at this; exact this
theorem I6.congr {A : Nat → Option Place} {f f' : Nat → Option (Bool × OB)} {g g' : Nat → DV} {len len' : Nat} {a : Act} {w : World} (h : I6 S I0 B w0 A f g len a w) (hf : ∀ n, f n = f' n) (hg : ∀ t, g t = g' t) (hl : len = len') : I6 S I0 B w0 A f' g' len' a w := by
  obtain rfl : f = f' := funext hf
  obtain rfl : g = g' := funext hg
  subst hl; exact h
def Lh (listed : Array Bool) (j : Nat) : Prop := listed.getD j false = true
theorem Pf {l : Array Bool} {j : Nat} (h : l.getD j true = false) : j < l.size ∧ l.getD j false = false := by
  rcases Nat.lt_or_ge j l.size with h' | h'
  · refine ⟨h', ?_⟩
    simp only [Array.getD_eq_getD_getElem?, Atm h', Option.getD_some] at h ⊢; exact h
  · simp [Array.getD_eq_getD_getElem?, Array.getElem?_eq_none h'] at h
theorem U0 {listed : Array Bool} {k : Nat} (hk : k < listed.size) (j : Nat) : Lh (listed.setIfInBounds k true) j ↔ Lh listed j ∨ j = k := by
  unfold Lh
  simp only [Array.getD_eq_getD_getElem?]
  by_cases e : k = j
  · subst e; simp [hk]
  · rw [Array.getElem?_setIfInBounds_ne e]
    exact ⟨.inl, fun h => h.resolve_right (fun h => e h.symm)⟩
theorem count_set {listed : Array Bool} {k : Nat} (h : listed.getD k true = false) : (listed.setIfInBounds k true).toList.count false + 1 = listed.toList.count false := by
  obtain ⟨hk, h2⟩ := Pf h
  have hk' : k < listed.toList.length := by simpa using hk
  have hv : listed.toList[k] = false := by
    simpa [Array.getD_eq_getD_getElem?, Atm hk] using h2
  have hp : 0 < List.count false listed.toList := List.count_pos_iff.2 (hv ▸ List.getElem_mem hk')
  rw [Array.toList_setIfInBounds, List.count_set hk', hv, if_pos (beq_self_eq_true _), if_neg (by simp)]
  omega
theorem Arq {ops : Array Oper} {M : List (Nat × List Nat)} {tr : Nat → St} (hd : So ops) (T : Trace P E ops (ops.toList.map H4) M tr) {Q : Exit → Act → World → Prop}
    (hQ : ∀ a w, E7 S I0 B w0 (tr ops.size) a w → Q .normal a w) : ∀ (fuel : Nat) (listed : Array Bool) (a : Act) (w : World), listed.size = ops.size → U7 ops (Lh listed) → listed.toList.count false = fuel →
    (∃ A, I6 S I0 B w0 A (P4 E ops M tr (Lh listed)) (Zc ops tr (Lh listed)) (tr 0).tmps.length a w) → wpAny P .any ops Q fuel listed a w := by
  have last : ∀ (listed : Array Bool) (a : Act) (w : World), listed.size = ops.size → Region.ready .any ops listed = [] → (∃ A, I6 S I0 B w0 A (P4 E ops M tr (Lh listed)) (Zc ops tr (Lh listed)) (tr 0).tmps.length a w) → Q .normal a w := by
    rintro listed a w hsz hr ⟨A, h⟩
    have all : ∀ k, k < ops.size → Lh listed k := by
      intro k
      induction k using Nat.strongRecOn with
      | _ k ih =>
        intro hk
        refine Classical.byContradiction fun hn => ?_
        have : k ∈ Region.ready .any ops listed := mem_ready.2 ⟨?_, ops[k], Atm hk, fun e he hb => ?_⟩
        · rw [hr] at this; cases this
        · unfold Lh at hn
          have hk' : k < listed.size := by omega
          simp only [Array.getD_eq_getD_getElem?, Atm hk', Option.getD_some, Bool.not_eq_true] at hn ⊢
          exact hn
        · have hlt := hd.lt k ops[k] (Atm hk) e.on (Adm.2 ⟨e, he, hb, rfl⟩)
          exact ih e.on hlt (by omega)
    refine hQ a w ⟨A, h.congr (fun n => ?_) (fun t => ?_) (T.len (Nat.le_refl _)).symm⟩
    · exact K4 (val := fun k => look (tr k).heap n) (fun j hj ht => T.Akg hj ht) (Nat.le_refl _) fun j hj _ => ⟨fun _ => hj, fun _ => all j hj⟩
    · exact K4 (val := fun k => (tr k).tmps.getD t .undef) (fun j hj ht => T.Aqg hj ht) (Nat.le_refl _) fun j hj _ => ⟨fun _ => hj, fun _ => all j hj⟩
  intro fuel
  induction fuel with
  | zero =>
    intro listed a w hsz hc hf h
    have hr : Region.ready .any ops listed = [] := by
      refine List.eq_nil_iff_forall_not_mem.2 fun k hk => ?_
      have h1 := count_set (mem_ready.1 hk).1
      omega
    exact ⟨hr, last listed a w hsz hr h⟩
  | succ fuel ih =>
    intro listed a w hsz hc hf h
    refine ⟨fun hr => last listed a w hsz hr h, fun k hk => ?_⟩
    obtain ⟨hun, o, ho, hall⟩ := mem_ready.1 hk
    obtain ⟨hks, hkf⟩ := Pf hun
    have hkS : ¬ Lh listed k := by unfold Lh; rw [hkf]; simp
    have hrS : ∀ i ∈ H4 o, Lh listed i := fun i hi => by
      obtain ⟨e, he, hb, rfl⟩ := Adm.1 hi
      exact hall e he hb
    obtain ⟨A, h⟩ := h
    have hstep := T.step hd hc ho hkS hrS h (Q := Q) (wpAny P .any ops Q fuel (listed.setIfInBounds k true)) (fun v w' hv => by
      obtain ⟨A', hv⟩ := hv
      refine ih _ _ _ (by simp [hsz]) ?_ ?_ ⟨A', hv.congr (fun n => ?_) (fun t => ?_) rfl⟩
      · intro j p hp hj i hi
        rw [U0 hks] at hj ⊢
        rcases hj with hj | rfl
        · exact .inl (hc j p hp hj i hi)
        · rw [ho] at hp; cases hp
          exact .inl (hrS i hi)
      · have := count_set hun; omega
      · exact Nd fun j _ _ => (U0 hks j).symm
      · exact Nd fun j _ _ => (U0 hks j).symm)
    unfold wpOp
    rw [ho]
    simp only
    split
    · rename_i hw; rw [if_pos hw] at hstep; exact .inl hstep
    · rename_i hw; rw [if_neg hw] at hstep; exact hstep
theorem E7.drew {st : St} {a : Act} {w : World} (h : E7 S I0 B w0 st a w) : E7 S I0 B w0 st a { w with drawn := w.drawn + 1 } := by
  obtain ⟨A, h⟩ := h
  have hmv : Ij A w A { w with drawn := w.drawn + 1 } := ⟨Nat.le_refl _, (Ij.refl A w).names, (Ij.refl A w).live, fun _ _ _ => rfl⟩
  have hl := hmv.Dd (I0 := I0) (B := B)
  exact ⟨A, h.defers, h.size, h.below.trans ⟨rfl, rfl, rfl, Nat.le_refl _, fun _ _ => rfl⟩, h.hB, h.I0lt, fun n p hp => by
    obtain ⟨fo, h1, h2⟩ := h.obj n p hp
    exact ⟨fo, h1, Pu hl (fun _ _ _ => rfl) h2⟩, h.blkB, h.inj, fun t => Ao.Dd hl _ _ (h.tmps t), h.kept⟩
theorem Am1 {β : Type} (he : J6 P E) {id : Nat} {ops : Array Oper} {Q : Exit → Act → World → Prop} {K : St → Option β} {r : β} {st : St} (h : Am2 E ops st K = some r) {a : Act} {w : World} (hh : E7 S I0 B w0 st a w)
    (hQ : ∀ st a w, K st = some r → E7 S I0 B w0 st a w → Q .normal a w) : (Code.region id ops true).wp P Q a w := by
  unfold Am2 at h
  cases hc : Abv ops (ops.toList.map H4) with
  | false => rw [hc] at h; cases h
  | true =>
    rw [hc, As2] at h
    have hd := Aeg hc
    generalize (bif Afz ops (ops.toList.map H4) 0 ops.toList then Abq E ops 0 ops.toList st else []) = M at h
    obtain ⟨tr, h0, h1, h2⟩ := Vd he ops.toList 0 st (fun j => by simp) h
    have T : Trace P E ops (ops.toList.map H4) M tr := ⟨fun k o ho => by
      have := (h2 k o (by simpa using ho)).1
      rw [Nat.zero_add] at this; exact this, fun k o ho hlo => by
      have := (h2 k o (by simpa using ho)).2
      rw [Nat.zero_add] at this; exact this hlo⟩
    refine wp_region_any he.mixed (Arq hd T (fun a w hw => hQ _ a w (by simpa using h1) hw) _ _ _ _ (by simp) ?_ (by simp) ?_)
    · intro k o _ hk
      unfold Lh at hk
      simp only [Array.getD_eq_getD_getElem?, Array.getElem?_replicate] at hk
      split at hk <;> cases hk
    · obtain ⟨A, hA⟩ := hh.drew
      subst h0
      refine ⟨A, hA.congr (fun n => ?_) (fun t => ?_) rfl⟩
      · refine (K4 (k := 0) (val := fun k => look (tr k).heap n) (fun j hj ht => T.Akg hj ht) (by omega) fun j hj _ => ⟨fun hk => ?_, fun h => by omega⟩).symm
        unfold Lh at hk
        simp only [Array.getD_eq_getD_getElem?, Array.getElem?_replicate] at hk
        split at hk <;> cases hk
      · refine (K4 (k := 0) (val := fun k => (tr k).tmps.getD t .undef) (fun j hj ht => T.Aqg hj ht) (by omega) fun j hj _ => ⟨fun hk => ?_, fun h => by omega⟩).symm
        unfold Lh at hk
        simp only [Array.getD_eq_getD_getElem?, Array.getElem?_replicate] at hk
        split at hk <;> cases hk
end
end Go.Den
end
