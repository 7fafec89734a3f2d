/- A verified evaluator of the program's form and its use for this seat: S1PHouse, S1PApply, S1EqSol, S1PTri, S1EqFew, S1PSol, S1EqQr, S1PQr, S1PQrA, S1EqRef17. -/
import Derived.Test.YtjbokjpbiobjpaaGreatTK
import Derived.Test.YtjbokjpbiobjpaaGreatTL
import Derived.Test.YtjbokjpbiobjpaaGreatTE
import Derived.Test.YtjbokjpbiobjpaaGreatTF
import Derived.Test.YtjbokjpbiobjpaaGreatTJ
set_option linter.unusedVariables false
set_option linter.unusedSimpArgs false
noncomputable section
namespace Go.Proofs.S1
open Go Go.Den Go.Rnd Go.Proofs
open EqHouse
theorem V9 (x : Int) : ((Bd x) != (0 : Int)) = !(decide (Bd x = 0)) := by
  rw [Ati]; simp
theorem Abg (N : Nat) {x : List Int} (hx : Cp x = true) : ∀ (k i F : Nat), i + k = x.length → k < F → Aq.Bv.L0 N F x (i : Int) = some (.bool (Dx (x.drop i))) := by
  obtain ⟨hl, hu⟩ := Hj hx
  intro k
  induction k with
  | zero =>
    intro i F hi hF
    obtain ⟨F, rfl⟩ : ∃ G, F = G + 1 := ⟨F - 1, by omega⟩
    rw [Aq.Bv.As, Ar, As7 (by omega), As6, Atg (by omega)]; rfl
  | succ k ih =>
    intro i F hi hF
    obtain ⟨F, rfl⟩ : ∃ G, F = G + 1 := ⟨F - 1, by omega⟩
    rw [Aq.Bv.As, Ar, As3 (show (i : Int) < (x.length : Int) by omega), As2, As3 (show (0 : Int) ≤ (i : Int) by omega), As8, As2, As4, hu i (by omega), As2, V9, Gj (by omega)]
    unfold Dx
    rw [List.all_cons]
    cases decide (Bd (x.getD i 0) = 0) with
    | false => rfl
    | true =>
      rw [Bool.not_true, As6, Bool.true_and, Am (by omega) (by omega)]
      exact ih (i + 1) F (by omega) (by omega)
theorem Aq.Bv.known : Aq.Bv.Kn := Aq.Bv.Ac (.cons soft.Kind.known .nil) fun x hp => by
  refine ⟨x.length + 1, Aq.Bv.out [.l x], [], ?_, .bool⟩
  rw [Aq.Bv.ev]
  exact Abg (x.length + 1) hp x.length 0 (x.length + 1) (by omega) (by omega)
theorem Aji (N : Nat) {x : List Int} (hx : Cp x = true) : ∀ (k i F : Nat), i + k = x.length → k < F → Aq.lead.L0 N F x (i : Int) = some (.int .u64 (N6 (x.drop i))) := by
  obtain ⟨hl, hu⟩ := Hj hx
  intro k
  induction k with
  | zero =>
    intro i F hi hF
    obtain ⟨F, rfl⟩ : ∃ G, F = G + 1 := ⟨F - 1, by omega⟩
    rw [Aq.lead.As, Ar, As7 (by omega), As6, Atg (by omega)]; rfl
  | succ k ih =>
    intro i F hi hF
    obtain ⟨F, rfl⟩ : ∃ G, F = G + 1 := ⟨F - 1, by omega⟩
    rw [Aq.lead.As, Ar, As3 (show (i : Int) < (x.length : Int) by omega), As2, As3 (show (0 : Int) ≤ (i : Int) by omega), As8, As2, As4, hu i (by omega), As2, V9, Gj (by omega), N6]
    by_cases h : Bd (x.getD i 0) = 0
    · rw [As3 h, if_pos h, Bool.not_true, As6, Am (by omega) (by omega)]
      exact ih (i + 1) F (by omega) (by omega)
    · rw [As7 h, if_neg h]; rfl
theorem Aq.lead.known : Aq.lead.Kn := Aq.lead.Ac (.cons soft.Kind.known .nil) fun x hp => by
  refine ⟨x.length + 1, Aq.lead.out [.l x], [], ?_, .int⟩
  rw [Aq.lead.ev]
  exact Aji (x.length + 1) hp x.length 0 (x.length + 1) (by omega) (by omega)
theorem Wj {x : List Int} {i : Nat} (h : i < x.length) (f : Int → Int) : (x.take (i + 1)).map f = (x.take i).map f ++ [f (x.getD i 0)] := by
  rw [List.take_succ_eq_append_getElem h, List.map_append, Atc, Atj h]; rfl
theorem Aa0 (N : Nat) {x : List Int} {e : Int} (hx : Cp x = true) (hl : x.length ≤ 1000) (he : -2300 ≤ e ∧ e ≤ 2300) : ∀ (k i F : Nat), i + k = x.length → k < F →
    Aq.Da.L0 N F x e (i : Int) ((x.take i).map fun b => Bu b e) = some (.ints (.own 100005 tB) .u64 (Bl x e)) := by
  obtain ⟨_, hu⟩ := Hj hx
  intro k
  induction k with
  | zero =>
    intro i F hi hF
    obtain ⟨F, rfl⟩ : ∃ G, F = G + 1 := ⟨F - 1, by omega⟩
    rw [Aq.Da.As, Ar, As7 (by omega), As6, List.take_of_length_le (by omega)]; rfl
  | succ k ih =>
    intro i F hi hF
    obtain ⟨F, rfl⟩ : ∃ G, F = G + 1 := ⟨F - 1, by omega⟩
    rw [Aq.Da.As, Ar, As3 (show (i : Int) < (x.length : Int) by omega), As2, As3 (show (0 : Int) ≤ (i : Int) by omega), As8, As2, As4,
      show C4 (List.getD x i 0) e = true from Ad.2 ⟨hu i (by omega), Av.2 he⟩, As2, As3 (by rw [List.length_map, List.length_take]; unfold Hc; omega), As2, Am (by omega) (by omega)]
    have := ih (i + 1) F (by omega) (by omega)
    rw [Wj (by omega)] at this
    exact this
theorem Aq.Da.known : Aq.Da.Kn := Aq.Da.Ac (.cons Ae.Bp.known .nil) fun x k hp => by
  obtain ⟨h1, h2⟩ := Ad.1 hp
  have h2 := Av.1 h2
  refine ⟨x.length + 1, .ints (.own 100005 tB) .u64 (Bl x k), [100005], ?_, .drop _ _ _ _ (List.mem_singleton.2 rfl)⟩
  rw [Aq.Da.ev]
  exact Aa0 (x.length + 1) h1 h2.1 h2.2 x.length 0 (x.length + 1) (by omega) (by omega)
theorem Aq.Fi.known : Aq.Fi.Kn := Aq.Fi.Ac .nil fun i _ => ⟨0, Aq.Fi.out [.i i], [], by rw [Aq.Fi.ev]; rfl, .int⟩
theorem Aq.Fh.known : Aq.Fh.Kn := Aq.Fh.Ac (.cons Ae.Div.known .nil) fun i y d hp => by
  obtain ⟨h1, h2⟩ := Ad.1 (show ((C3 (0 ≤ i ∧ i < List.length y) && Al y) && Ag d) = true from hp)
  obtain ⟨h3, h4⟩ := Ad.1 h1
  have h3 := Av.1 h3
  refine ⟨0, Aq.Fh.out [.i i, .l y, .i d], [], ?_, .int⟩
  rw [Aq.Fh.ev, As3 h3.1, As3 h3.2, H7 h4, h2]; rfl
theorem I9 (n i : Nat) (f : Nat → Int) (h : i + 1 = n) : Ip n f = Aq4 :: (List.range i).map fun j => f (j + 1) := by unfold Ip; rw [show n - 1 = i by omega]
theorem Ag4 {n : Nat} (f : Nat → Int) (h : n ≠ 0) : (((decide ((0 : Int) ≤ (n : Int))) && (decide ((n : Int) ≤ (n : Int)))) && ((decide ((0 : Int) ≤ (n : Int))) && (decide ((n : Int) ≤ (List.length (Ip n f) : Int))))) = true ∧
    List.take (Int.toNat ((n : Int) - (0 : Int))) (List.drop 0 (Ip n f)) = Ip n f := by
  have := Oo h f
  refine ⟨?_, ?_⟩
  · rw [As3 (by omega), As3 (by omega), As3 (by omega)]; rfl
  · rw [List.drop_zero, List.take_of_length_le (by omega)]
theorem Ys (N : Nat) {n : Nat} (h64 : n ≤ 64) (h0 : n ≠ 0) : ∀ (k i F : Nat), i + 1 + k = n → k < F →
    Aq.row.Zero.L0 N F (n : Int) ((i + 1 : Nat) : Int) (Ip (i + 1) fun _ => 0) = some (.ints .fresh .u64 (Ip n fun _ => 0)) := by
  intro k
  induction k with
  | zero =>
    intro i F hi hF
    obtain ⟨F, rfl⟩ : ∃ G, F = G + 1 := ⟨F - 1, by omega⟩
    obtain rfl : i + 1 = n := by omega
    obtain ⟨e1, e2⟩ := Ag4 (fun _ => 0) h0
    rw [Aq.row.Zero.As, Ar, As7 (by omega), As6, e1, As2, e2]
  | succ k ih =>
    intro i F hi hF
    obtain ⟨F, rfl⟩ : ∃ G, F = G + 1 := ⟨F - 1, by omega⟩
    rw [Aq.row.Zero.As, Ar, As3 (by omega), As2, As3 (by rw [Oo (by omega)]; unfold Hc; omega), As2, Am (by omega) (by omega)]
    have := ih (i + 1) F (by omega) (by omega)
    rw [I9 (i + 1 + 1) (i + 1) _ rfl, Io] at this
    rw [I9 (i + 1) i _ rfl]
    exact this
theorem Aq.row.Zero.known : Aq.row.Zero.Kn := Aq.row.Zero.Ac (.cons Aq.Fi.known .nil) fun n hp => by
  have hp := Av.1 (show C3 (1 ≤ n ∧ n ≤ 64) = true from hp)
  obtain ⟨m, rfl⟩ : ∃ m : Nat, n = m := ⟨n.toNat, by omega⟩
  refine ⟨65, Aq.row.Zero.out [.i m], [], ?_, .P5⟩
  show _ = some (DV.ints .fresh .u64 (Ip (Int.toNat (m : Int)) fun _ => 0))
  rw [Aq.row.Zero.ev, As4]
  exact Ys 65 (by omega) (by omega) (m - 1) 0 65 (by omega) (by omega)
theorem Aa3 (N : Nat) {n : Nat} {y : List Int} {d : Int} (h64 : n ≤ 64) (h0 : n ≠ 0) (hy : n = y.length) (al : Al y = true) (hd : Ag d = true) : ∀ (k i F : Nat), i + 1 + k = n → k < F →
    Aq.row.Div.L0 N F (n : Int) y d ((i + 1 : Nat) : Int) (Ip (i + 1) fun j => Ex (y.getD j 0) d) = some (.ints .fresh .u64 (Ip n fun j => Ex (y.getD j 0) d)) := by
  intro k
  induction k with
  | zero =>
    intro i F hi hF
    obtain ⟨F, rfl⟩ : ∃ G, F = G + 1 := ⟨F - 1, by omega⟩
    obtain rfl : i + 1 = n := by omega
    obtain ⟨e1, e2⟩ := Ag4 (fun j => Ex (y.getD j 0) d) h0
    rw [Aq.row.Div.As, Ar, As7 (by omega), As6, e1, As2, e2]
  | succ k ih =>
    intro i F hi hF
    obtain ⟨F, rfl⟩ : ∃ G, F = G + 1 := ⟨F - 1, by omega⟩
    rw [Aq.row.Div.As, Ar, As3 (by omega), As2, Av.2 (show 0 ≤ ((i + 1 : Nat) : Int) ∧ ((i + 1 : Nat) : Int) < (y.length : Int) by omega), al, hd, As8, As8, As2, As3 (by rw [Oo (by omega)]; unfold Hc; omega), As2, Am (by omega) (by omega), As4]
    have := ih (i + 1) F (by omega) (by omega)
    rw [I9 (i + 1 + 1) (i + 1) _ rfl, Io] at this
    rw [I9 (i + 1) i _ rfl]
    exact this
theorem Aq.row.Div.known : Aq.row.Div.Kn := Aq.row.Div.Ac (.cons Aq.Fh.known .nil) fun n y d hp => by
  obtain ⟨h1, h2⟩ := Ad.1 (show ((C3 (1 ≤ n ∧ n ≤ 64 ∧ n = List.length y) && Al y) && Ag d) = true from hp)
  obtain ⟨h3, h4⟩ := Ad.1 h1
  have h3 := Av.1 h3
  obtain ⟨m, rfl⟩ : ∃ m : Nat, n = m := ⟨n.toNat, by omega⟩
  refine ⟨65, Aq.row.Div.out [.i m, .l y, .i d], [], ?_, .P5⟩
  show _ = some (DV.ints .fresh .u64 (Ip (Int.toNat (m : Int)) fun j => Ex (List.getD y j 0) d))
  rw [Aq.row.Div.ev, As4]
  exact Aa3 65 (by omega) (by omega) (by omega) h4 h2 (m - 1) 0 65 (by omega) (by omega)
theorem Qu {x : List Int} {k : Int} {j : Nat} (h : j < x.length) : (Bl x k).getD j 0 = Bu (x.getD j 0) k := by
  unfold Bl
  rw [Atc, List.getElem?_map, Atj h, Atc, Atj h]; rfl
theorem Zf (x : List Int) (k : Int) : (Bl x k).length = x.length := by unfold Bl; rw [List.length_map]
theorem Zg {x : List Int} (k : Int) (h : Al x = true) : Al (Bl x k) = true := Rb fun y hy => by
  obtain ⟨b, hb, rfl⟩ := List.mem_map.1 hy
  exact G9 (Av.1 h b hb)
theorem V8 : ∀ {x : List Int}, Al x = true → Ag (N6 x) = true
  | [], _ => Iv
  | b :: l, h => by
    unfold N6
    split
    · exact V8 (Rb fun y hy => Av.1 h y (List.mem_cons_of_mem _ hy))
    · exact Av.1 h b List.mem_cons_self
theorem Aaj {x : List Int} (h : Cp x = true) : Al x = true := Av.2 (Av.1 h).2
theorem Li {drops : List Nat} {g : Aez} : Wk drops .nil (.ints g .u64 []) := .nil g .u64
theorem Zi {n : Nat} {f g : Nat → Int} (h : ∀ j, j < n → f j = g j) : Ip n f = Ip n g := by
  unfold Ip
  congr 1
  exact List.map_congr_left fun j hj => h _ (by have := List.mem_range.1 hj; omega)
theorem Aq.Df.known : Aq.Df.Kn := Aq.Df.Ac (.cons compare.K8.known (.cons Aq.lead.known (.cons Aq.Bv.known (.cons (A3.alt Aq.row.Zero.known Aq.row.Div.known) (.cons Aq.Da.known (.cons soft.Finite.known (.cons soft.De.known (.cons soft.Sign.known (.cons Ae.Bm.known (.cons Ae.Div.known (.cons Ae.Finite.known (.cons Ae.Norm.known (.cons Ae.Bp.known (.cons Ae.Sub.known .nil)))))))))))))) fun x hp => by
  have hx : Cp x = true := hp
  have al := Aaj hx
  have he := Ya (Be x)
  show ∃ N dv drops, _ = some dv ∧ Wk drops dv (DV.tup [.ints .fresh .u64 (Ce x).1, .int .u64 (Ce x).2.1, .int .u64 (Ce x).2.2.1, .int .i64 (Ce x).2.2.2])
  unfold Ce
  by_cases h1 : x.length = 0 ∨ 64 < x.length
  · rw [if_pos h1]
    refine ⟨0, .tup [.nil, .int .u64 0, .int .u64 0, .int .i64 3], [], ?_, Wk.Gm (.cons Li (.cons .int (.cons .int (.cons .int .nil))))⟩
    have : (((List.length x : Int) == (0 : Int)) || (A4 (64 : Int) (List.length x : Int))) = true := by
      rw [Ar, Bool.or_eq_true, beq_iff_eq, As9]; omega
    rw [Aq.Df.ev, this, As2]
  have c1 : (((List.length x : Int) == (0 : Int)) || (A4 (64 : Int) (List.length x : Int))) = false := by
    rw [Ar, Bool.or_eq_false_iff, beq_eq_false_iff_ne, Atl]; omega
  rw [if_neg h1]
  by_cases h2 : Dl x = true
  · rw [if_pos h2]
    unfold I4
    have ok1 : Cp (x.drop 1) = true := Ik (Rb fun y hy => Av.1 al y (List.mem_of_mem_drop hy)) (by rw [List.length_drop]; omega)
    have d1 : decide ((1 : Int) ≤ (x.length : Int)) = true := As3 (by omega)
    have d0 : decide ((0 : Int) < (x.length : Int)) = true := As3 (by omega)
    by_cases h3 : Dx (x.drop 1) = true
    · rw [if_pos h3]
      refine ⟨0, .tup [.ints .fresh .u64 (Ip x.length fun _ => 0), .int .u64 0, .int .u64 (x.getD 0 0), .int .i64 0], [], ?_, Wk.Gm (.cons .P5 (.cons .int (.cons .int (.cons .int .nil))))⟩
      rw [Aq.Df.ev, c1, As6, hx, As2, h2, Bool.not_true, As6, d1, As2, ok1, As2, h3, As2, Av.2 (show 1 ≤ (x.length : Int) ∧ (x.length : Int) ≤ 64 by omega), As2, d0, As2, As4]
    · rw [if_neg h3]
      have h3 : Dx (x.drop 1) = false := by simpa using h3
      have ew : Ab (0 - Bo (Be x)) = -Bo (Be x) := by rw [Am (by omega) (by omega)]; omega
      have ly := Zf x (-Bo (Be x))
      have ay := Zg (-Bo (Be x)) al
      have oky : Cp (Bl x (-Bo (Be x))) = true := Ik ay (by omega)
      have gy := Qu (x := x) (k := -Bo (Be x)) (j := 0) (by omega)
      have iy := H7 ay 0
      have key : ∀ mu : Int, muI x = mu → Ag mu = true → ∀ b : Bool, Cv (Er x) = b → ∃ dv : DV, (bif (!b) then
              some (.tup [.nil, .int .u64 (0 : Int), .int .u64 (0 : Int), .int .i64 (2 : Int)])
            else some (.tup [.ints .fresh .u64 (Ip (Int.toNat (List.length (Bl x (-Bo (Be x))) : Int)) (fun j => Ex (List.getD (Bl x (-Bo (Be x))) j 0) (Ei (List.getD (Bl x (-Bo (Be x))) 0 0) mu))), .int .u64 (Ex (Ei mu (List.getD (Bl x (-Bo (Be x))) 0 0)) mu), .int .u64 (Bu mu (Bo (Be x))), .int .i64 (0 : Int)])) = some dv ∧
          Wk [] dv (DV.tup [.ints .fresh .u64 (if Cv (Er x) = true then (Ri x, R7 x, Er x, (0 : Int)) else ([], 0, 0, 2)).1, .int .u64 (if Cv (Er x) = true then (Ri x, R7 x, Er x, (0 : Int)) else ([], 0, 0, 2)).2.1, .int .u64 (if Cv (Er x) = true then (Ri x, R7 x, Er x, (0 : Int)) else ([], 0, 0, 2)).2.2.1, .int .i64 (if Cv (Er x) = true then (Ri x, R7 x, Er x, (0 : Int)) else ([], 0, 0, 2)).2.2.2]) := by
        intro mu hmu _ b hb
        rw [hb]
        cases b with
        | false => exact ⟨_, rfl, Wk.Gm (.cons Li (.cons .int (.cons .int (.cons .int .nil))))⟩
        | true =>
          refine ⟨_, rfl, ?_⟩
          rw [if_pos rfl]
          dsimp only
          have e1 : Ip (Int.toNat (List.length (Bl x (-Bo (Be x))) : Int)) (fun j => Ex (List.getD (Bl x (-Bo (Be x))) j 0) (Ei (List.getD (Bl x (-Bo (Be x))) 0 0) mu)) = Ri x := by
            unfold Ri
            rw [As4, ly, gy, ← hmu]
            exact Zi fun j hj => by rw [Qu hj]; rfl
          have e2 : Ex (Ei mu (List.getD (Bl x (-Bo (Be x))) 0 0)) mu = R7 x := by
            unfold R7
            rw [gy, hmu]; rfl
          have e3 : Bu mu (Bo (Be x)) = Er x := by unfold Er; rw [hmu]
          rw [e1, e2, e3]
          exact Wk.Gm (.cons .P5 (.cons .int (.cons .int (.cons .int .nil))))
      have dz : decide ((0 : Int) < ((Bl x (-Bo (Be x))).length : Int)) = true := As3 (by omega)
      have cz' : C3 (1 ≤ ((Bl x (-Bo (Be x))).length : Int) ∧ ((Bl x (-Bo (Be x))).length : Int) ≤ 64 ∧ True) = true := Av.2 ⟨by omega, by omega, trivial⟩
      have p1 : C3 (x.length ≤ 1000 ∧ -2300 ≤ -Bo (Be x) ∧ -Bo (Be x) ≤ 2300) = true := Av.2 (by omega)
      have p2 : C3 ((Bl x (-Bo (Be x))).length ≤ 64) = true := Av.2 (by omega)
      have sp : ∀ mu : Int, Ag mu = true → C4 mu (Bo (Be x)) = true := fun mu h => Ad.2 ⟨h, Av.2 (by omega)⟩
      have ny := V5 (Bl x (-Bo (Be x)))
      cases hn : Dh (N6 x) with
      | true =>
        have hm : muI x = C9 (Bl x (-Bo (Be x))) := by unfold muI; rw [if_pos hn]
        obtain ⟨dv, k1, k2⟩ := key _ hm ny (Cv (Er x)) rfl
        refine ⟨0, dv, [], ?_, k2⟩
        rw [← k1]
        have eb : Er x = Bu (C9 (Bl x (-Bo (Be x)))) (Bo (Be x)) := by unfold Er; rw [hm]
        rw [Aq.Df.ev, ew, eb]
        simp only [c1, As6, hx, As2, h2, Bool.not_true, d1, ok1, h3, Nl, p1, oky, p2, As8, V8 al, hn, sp _ ny, G9 ny, dz, cz', ay, iy, ny, Ok iy ny, Ok ny iy]
      | false =>
        have hm : muI x = Cz (C9 (Bl x (-Bo (Be x)))) := by unfold muI; rw [if_neg (by rw [hn]; decide)]
        have my := Xj ny
        obtain ⟨dv, k1, k2⟩ := key _ hm my (Cv (Er x)) rfl
        refine ⟨0, dv, [], ?_, k2⟩
        rw [← k1]
        have eb : Er x = Bu (Cz (C9 (Bl x (-Bo (Be x))))) (Bo (Be x)) := by unfold Er; rw [hm]
        rw [Aq.Df.ev, ew, eb]
        simp only [c1, As6, hx, As2, h2, Bool.not_true, d1, ok1, h3, Nl, p1, oky, p2, As8, V8 al, hn, Bool.not_false, sp _ my, G9 my, dz, cz', ay, iy, ny, my, Ok iy my, Ok my iy]
  · rw [if_neg h2]
    have h2 : Dl x = false := by simpa using h2
    refine ⟨0, .tup [.nil, .int .u64 0, .int .u64 0, .int .i64 4], [], ?_, Wk.Gm (.cons Li (.cons .int (.cons .int (.cons .int .nil))))⟩
    rw [Aq.Df.ev, c1, As6, hx, As2, h2, Bool.not_false, As2]
open EqHouse
def apD (i k c j a b : Nat) : Bool := decide (k ≤ b ∧ i ≤ a ∧ (b < c ∨ (b = c ∧ a < i + j)))
def apS (R C : Nat) (l : List Int) (i k : Nat) (v : List Int) (t : Int) (c j : Nat) : List Int :=
  Cd R C fun a b => if apD i k c j a b = true ∧ a < i + v.length then O9 (C : Int) l (i : Int) (k : Int) v t (a : Int) (b : Int) else D0 (C : Int) l (a : Int) (b : Int)
section
variable {R C i k : Nat} {l v : List Int} {t : Int}
theorem Ah0 (c j : Nat) : (apS R C l i k v t c j).length = R * C := Ci _ _ _
theorem Aer (h : l.length = R * C) : apS R C l i k v t k 0 = l := by
  unfold apS
  conv => rhs; rw [← Z2 h]
  refine Dz fun a b ha hb => ?_
  rw [if_neg]
  rintro ⟨h, _⟩
  have := of_decide_eq_true h
  omega
theorem Aes (c : Nat) : apS R C l i k v t c v.length = apS R C l i k v t (c + 1) 0 := by
  unfold apS
  refine Dz fun a b ha hb => ?_
  have : (apD i k c v.length a b = true ∧ a < i + v.length) ↔ (apD i k (c + 1) 0 a b = true ∧ a < i + v.length) := by
    unfold apD
    rw [As9, As9]
    omega
  by_cases h : apD i k c v.length a b = true ∧ a < i + v.length
  · rw [if_pos h, if_pos (this.1 h)]
  · rw [if_neg h, if_neg (fun hh => h (this.2 hh))]
theorem Ah1 : apS R C l i k v t C 0 = Et R C l (i : Int) (k : Int) v t := by
  unfold apS Et
  refine Dz fun a b ha hb => ?_
  by_cases h : apD i k C 0 a b = true ∧ a < i + v.length
  · rw [if_pos h]
  · rw [if_neg h]
    unfold O9
    rw [if_neg]
    intro hh
    refine h ⟨?_, by omega⟩
    unfold apD
    rw [As9]; omega
theorem Ahz {c j : Nat} (hc : c < C) (hk : k ≤ c) (hj : j < v.length) {x : Int} (hx : x = O9 (C : Int) l (i : Int) (k : Int) v t ((i + j : Nat) : Int) (c : Int)) :
    List.set (apS R C l i k v t c j) ((i + j) * C + c) x = apS R C l i k v t c (j + 1) := by
  unfold apS
  rw [Ty hc]
  refine Dz fun a b ha hb => ?_
  by_cases h : a = i + j ∧ b = c
  · obtain ⟨rfl, rfl⟩ := h
    rw [if_pos ⟨rfl, rfl⟩, if_pos ⟨by unfold apD; rw [As9]; omega, by omega⟩, hx]
  · rw [if_neg h]
    have : (apD i k c j a b = true ∧ a < i + v.length) ↔ (apD i k c (j + 1) a b = true ∧ a < i + v.length) := by
      unfold apD
      rw [As9, As9]
      omega
    by_cases h2 : apD i k c j a b = true ∧ a < i + v.length
    · rw [if_pos h2, if_pos (this.1 h2)]
    · rw [if_neg h2, if_neg (fun hh => h2 (this.2 hh))]
theorem Aeq {c j : Nat} (hk : k ≤ c) (hj : j < v.length) : O9 (C : Int) l (i : Int) (k : Int) v t ((i + j : Nat) : Int) (c : Int) =
    Ei ((Cn (C : Int) l (c : Int) (i : Int) v.length).getD j 0) (Ea (Sl (C : Int) l (i : Int) v t (c : Int)) (v.getD j 0)) := by
  unfold O9
  rw [if_pos ⟨by omega, by omega, by omega⟩]
  have e1 : (((i + j : Nat) : Int) - (i : Int)).toNat = j := by omega
  have e2 : (Cn (C : Int) l (c : Int) (i : Int) v.length).getD j 0 = D0 (C : Int) l ((i + j : Nat) : Int) (c : Int) := by
    unfold Cn
    rw [Atc, List.getElem?_map, List.getElem?_range hj]
    show D0 (C : Int) l ((i : Int) + (j : Int)) (c : Int) = _
    rw [← Int.natCast_add]
  rw [e1, e2]
theorem Ac2 {c b i : Int} {l : List Int} {m n : Nat} (h : m ≤ n) : List.take m (Cn c l b i n) = Cn c l b i m := by
  unfold Cn
  rw [← List.map_take, List.take_range, Nat.min_eq_left h]
theorem Agl (N M0 : Nat) (r6 : R ≤ 6) (c6 : C ≤ 6) (al : Al l = true) (av : Al v = true) (hv : i + v.length ≤ R) {c : Nat} (hc : c < C) (hk : k ≤ c) : ∀ (cnt j F : Nat), j + cnt = v.length → cnt < F →
    Aq.Apply.L1 N M0 F (R : Int) (C : Int) l (i : Int) v t (j : Int) (apS R C l i k v t c j) (c : Int) (Sl (C : Int) l (i : Int) v t (c : Int)) (Cn (C : Int) l (c : Int) (i : Int) v.length) (v.length : Int) =
    Aq.Apply.L0 N M0 (R : Int) (C : Int) l (i : Int) v t ((c + 1 : Nat) : Int) (apS R C l i k v t (c + 1) 0) := by
  intro cnt
  induction cnt with
  | zero =>
    intro j F hj hF
    obtain ⟨F, rfl⟩ : ∃ G, F = G + 1 := ⟨F - 1, by omega⟩
    obtain rfl : j = v.length := by omega
    rw [Aq.Apply.B5, Ar, As7 (by omega), As6, Am (by omega) (by omega), Aes]
    rfl
  | succ cnt ih =>
    intro j F hj hF
    obtain ⟨F, rfl⟩ : ∃ G, F = G + 1 := ⟨F - 1, by omega⟩
    have hm := I7 (a := ((i + j : Nat) : Int)) (b := (C : Int)) (by omega) (by omega) (by omega) (by omega)
    have hpl := L6 (show i + j < R by omega) hc
    have e1 : Ab ((i : Int) + (j : Int)) = ((i + j : Nat) : Int) := by rw [Am (by omega) (by omega)]; omega
    have e2 : Ab (((i + j : Nat) : Int) * (C : Int)) = (((i + j) * C : Nat) : Int) := by rw [Am (by omega) (by omega)]; exact (Atn _ _).symm
    have h36 := Nat.mul_le_mul r6 c6
    have e3 : Ab ((((i + j) * C : Nat) : Int) + (c : Int)) = (((i + j) * C + c : Nat) : Int) := by rw [Am (by omega) (by omega)]; omega
    have hlen := Ah0 (R := R) (C := C) (l := l) (i := i) (k := k) (v := v) (t := t) c j
    have sl := Fv (C : Int) (c : Int) (i : Int) v.length l
    rw [Aq.Apply.B5, Ar, As3 (show (j : Int) < (v.length : Int) by omega), As2, e1, e2, e3, sl, As3 (show (0 : Int) ≤ (j : Int) by omega), As3 (show (j : Int) < (v.length : Int) by omega), As8, As2, As4, As4]
    have a1 := H7 av j
    have a2 := H7 (Ol (c := (C : Int)) (b := (c : Int)) (i := (i : Int)) (n := v.length) al) j
    have a3 : Ag (Sl (C : Int) l (i : Int) v t (c : Int)) = true := Ju _ _
    rw [As2, a3, a1, As8, As2, a2, Ju, As8, As2, As3 (by omega), As3 (by omega), As8, As2, As3 (by omega), As2,
      Ahz hc hk (by omega) (Aeq hk (by omega)).symm, Am (by omega) (by omega)]
    exact ih (j + 1) F (by omega) (by omega)
theorem Agm (N : Nat) (r6 : R ≤ 6) (c6 : C ≤ 6) (hN : 7 < N) (hr : A9 (R : Int) (C : Int) l = true) (al : Al l = true) (av : Al v = true) (ht : Ag t = true) (hv : i + v.length ≤ R) : ∀ (cnt c F : Nat), c + cnt = C → k ≤ c → cnt < F →
    Aq.Apply.L0 N F (R : Int) (C : Int) l (i : Int) v t (c : Int) (apS R C l i k v t c 0) =
    some (.tup [.agg [.int .i64 (R : Int), .int .i64 (C : Int), .ints (.own 114002 tB) .u64 (Et R C l (i : Int) (k : Int) v t)], .int .i64 (0 : Int)]) := by
  intro cnt
  induction cnt with
  | zero =>
    intro c F hc hk hF
    obtain ⟨F, rfl⟩ : ∃ G, F = G + 1 := ⟨F - 1, by omega⟩
    obtain rfl : c = C := by omega
    rw [Aq.Apply.As, Ar, As7 (by omega), As6, Ah1]
  | succ cnt ih =>
    intro c F hc hk hF
    obtain ⟨F, rfl⟩ : ∃ G, F = G + 1 := ⟨F - 1, by omega⟩
    have cp : Gk (R : Int) (C : Int) l (c : Int) = true := Ad.2 ⟨hr, Av.2 (by omega)⟩
    have e0 : Int.toNat ((R : Int) - (i : Int)) = R - i := by omega
    have st := Ac2 (c := (C : Int)) (b := (c : Int)) (i := (i : Int)) (l := l) (m := v.length) (n := R - i) (by omega)
    have sl := Fv (C : Int) (c : Int) (i : Int) v.length l
    have sl2 := Fv (C : Int) (c : Int) (i : Int) (R - i) l
    have sa := Ol (c := (C : Int)) (b := (c : Int)) (i := (i : Int)) (n := v.length) al
    have ft : Oc v (Cn (C : Int) l (c : Int) (i : Int) v.length) = true := Q7.2 ⟨by omega, by omega⟩
    rw [Aq.Apply.As, Ar, As3 (by omega), As2, cp, Av.2 (show 0 ≤ (i : Int) ∧ (i : Int) ≤ (R : Int) by omega), As8, As2, e0, As4, st, sl2, sl,
      As3 (show (0 : Int) ≤ (v.length : Int) by omega), As3 (show (v.length : Int) ≤ (v.length : Int) by omega), As3 (show (v.length : Int) ≤ ((R - i : Nat) : Int) by omega), As8, As8, As2, ft, av, sa, As8, As8, As2, ht, T4, As8, As2]
    have := Agl (t := t) N F r6 c6 al av hv (show c < C by omega) hk v.length 0 N (by omega) (by omega)
    exact this.trans (ih (c + 1) F (by omega) (by omega) (by omega))
end
theorem Aq.Apply.known : Aq.Apply.Kn := Aq.Apply.Ac (.cons Aa.Check.known (.cons Aa.Dr.known (.cons Ae.Hg.known (.cons Ae.Mul.known (.cons Ae.Sub.known .nil))))) fun r c l i k v t hp => by
  obtain ⟨h1, ht⟩ := Ad.1 (show (((A9 r c l && G2 r c i k v) && (Al l && Al v)) && Ag t) = true from hp)
  obtain ⟨h2, h3⟩ := Ad.1 h1
  obtain ⟨hr, hb⟩ := Ad.1 h2
  obtain ⟨al, av⟩ := Ad.1 h3
  have hb := of_decide_eq_true hb
  have hc : Kh r c l = 0 := by unfold Kh; rw [if_pos hr]
  have h36 := Nt hr
  obtain ⟨R, C, rfl, rfl, r6, c6, hl⟩ := C0 hr
  obtain ⟨i, rfl⟩ : ∃ j : Nat, i = j := ⟨i.toNat, by omega⟩
  obtain ⟨k, rfl⟩ : ∃ j : Nat, k = j := ⟨k.toNat, by omega⟩
  refine ⟨8, Aq.Apply.out [.i (R : Int), .i (C : Int), .l l, .i (i : Int), .i (k : Int), .l v, .i t], [], ?_, Wk.Gm (.cons (Wk.G3 (.cons .int (.cons .int (.cons (.keep _ _ _ _ List.not_mem_nil) .nil)))) (.cons .int .nil))⟩
  show _ = some (DV.tup [.agg [.int .i64 (R : Int), .int .i64 (C : Int), .ints (.own 114002 tB) .u64 (Et (Int.toNat (R : Int)) (Int.toNat (C : Int)) l (i : Int) (k : Int) v t)], .int .i64 0])
  have hlt : (((((A4 (i : Int) (0 : Int)) || (A4 (R : Int) (List.length v : Int))) || (A4 (Ab ((R : Int) - (List.length v : Int))) (i : Int))) || (A4 (k : Int) (0 : Int))) || (A4 (C : Int) (k : Int))) = false := by
    rw [Ar, Ar, Ar, Ar, Ar, Am (by omega) (by omega), As7 (by omega), As7 (by omega), As7 (by omega), As7 (by omega), As7 (by omega)]; rfl
  rw [Aq.Apply.ev, hc, show ((0 : Int) != (0 : Int)) = false from rfl, As6, hlt, As6, As3 (show 0 + l.length ≤ Hc by unfold Hc; omega), As2, List.nil_append, As4, As4]
  have := Agm (R := R) (C := C) (i := i) (k := k) (l := l) (v := v) (t := t) 8 r6 c6 (by omega) hr al av ht (by omega) (C - k) k 8 (by omega) (by omega) (by omega)
  rw [Aer hl] at this
  exact this
set_option maxRecDepth 100000
namespace EqSol
theorem E3 : ∀ a b : Bool, (bif a then true else b) = (a || b) := by decide
theorem Jn : ∀ a : Bool, ((!(!a)) || (a == false)) = true := by decide
theorem Iw : ∀ a : Bool, ((!(a == false)) || ((((!(a == false)) || (a == false)) && (((!(a == false)) || (a == false)) && true)) && true)) = true := by decide
theorem Ia : ∀ a : Bool, ((!(a == false)) || ((((!(a == false)) || (a == false)) && true) && true)) = true := by decide
theorem Gd : ∀ a : Bool, ((!(a == false)) || true) = true := by decide
theorem Jg : ∀ a : Bool, (a && true) = a := by decide
theorem Ld : ∀ a b : Bool, (bif (!a) then true else (!b)) = ((!a) || (!b)) := by decide
theorem Lx : ∀ a : Bool, ((!(!(!a))) || ((!a) == false)) = true := by decide
theorem Pm : ∀ a : Bool, ((!((!a) == false)) || ((((!((!a) == false)) || ((!a) == false)) && true) && true)) = true := by decide
theorem Sp : ∀ a : Bool, ((!((!a) == false)) || true) = true := by decide
theorem Hx : ∀ a b : Bool, ((a && b) && true) = (a && b) := by decide
theorem I1 : ∀ a b : Bool, (bif a then b else false) = (a && b) := by decide
theorem J9 : ∀ a : Bool, (((!a) || (a == true)) && true) = true := by decide
theorem Mr : ∀ a : Bool, ((!(a == true)) || ((((!(a == true)) || (a == true)) && (((!(a == true)) || (a == true)) && true)) && true)) = true := by decide
theorem Oi : ∀ a : Bool, ((!(a == true)) || ((((!(a == true)) || (a == true)) && true) && true)) = true := by decide
theorem Jh : ∀ a : Bool, ((!(a == true)) || true) = true := by decide
def solve.check.hint : Nat → Option Ba
  | 0 => some { keep := [2, 3, 11, 12], objs := [], boxes := [2, 3] }
  | 2 => some { keep := [2, 34, 35], objs := [], boxes := [2] }
  | _ => none
def solve.check.A7 : List (Nat × Entry) := [(86, Cs.Check.spec), (155, soft.Kind.spec)]
def solve.check.E : Env := Bb (A5 solve.check.A7) (fun _ => false) solve.check.hint (fun _ => none)
def solve.check.L0 (N M : Nat) (r c : Int) (l : List Int) (p35 : Int) : Option DV := B0 solve.check.E N Tryz.f75 (An Tryz.f75) [1, 1, 1, 0, 1, 0] [] M ⟨F7 51 [(2, .ptr 2 0 0), (34, .int .i64 r), (35, .int .i64 p35)], [(2, false, .box [.int .i64 r, .int .i64 c, .ints .arg .u64 l])]⟩
theorem solve.check.As (N M : Nat) (r c : Int) (l : List Int) (p35 : Int) : solve.check.L0 (N + 4) (M + 1) r c l p35 = bif (A4 p35 r) then bif ((decide (0 ≤ (Ab ((Ab (p35 * c)) + p35)))) && (decide ((Ab ((Ab (p35 * c)) + p35)) < (List.length l : Int)))) then bif (Ag (List.getD l (Int.toNat (Ab ((Ab (p35 * c)) + p35))) 0)) then bif ((Bd (List.getD l (Int.toNat (Ab ((Ab (p35 * c)) + p35))) 0)) == (0 : Int)) then some (.int .i64 5) else solve.check.L0 (N + 4) M r c l (Ab (p35 + (1 : Int))) else none else none else some (.int .i64 0) := by kernel_rfl
theorem solve.check.ev (N : Nat) (r c : Int) (l : List Int) (p q : Int) (m : List Int) : Bx solve.check.E (N + 4) Tryz.f75 (An Tryz.f75) [.agg [.int .i64 r, .int .i64 c, .ints .arg .u64 l], .agg [.int .i64 p, .int .i64 q, .ints .arg .u64 m]] = bif (Al l) then bif ((C5 r c l) != (0 : Int)) then some (.int .i64 (C5 r c l)) else bif (Al m) then bif ((C5 p q m) != (0 : Int)) then some (.int .i64 (C5 p q m)) else bif ((r != c) || (r != p)) then some (.int .i64 3) else solve.check.L0 (N + 4) (N + 4) r c l (0 : Int) else none else none :=
  Eq.trans (by kernel_rfl)
  (Ee (Ee rfl (Ee (Ee rfl (Ax (Gd (r != c)) (Ax (Ia (r != c)) (Ax (Gd (r != c)) (Ax (Ia (r != c)) (Ax (Iw (r != c)) (Ax (Jn (r != c)) (Cx (E3 (r != c) (r != p)) rfl rfl)))))))) rfl)) rfl)
abbrev _root_.Go.Proofs.S1.solve.check.Kn := A3 Tryz.prog 75 solve.check.spec
theorem solve.check.Ac (hk : Ay Tryz.prog solve.check.A7) (h : ∀ (r c : Int) (l : List Int) (p q : Int) (m : List Int), solve.check.pre [.i r, .i c, .l l, .i p, .i q, .l m] = true → Bc solve.check.E Tryz.f75 [.agg [.int .i64 r, .int .i64 c, .ints .arg .u64 l], .agg [.int .i64 p, .int .i64 q, .ints .arg .u64 m]] (solve.check.out [.i r, .i c, .l l, .i p, .i q, .l m])) : solve.check.Kn :=
  Ak (Az hk _ _ _) Tryz.func75 (by kernel_rfl) (by kernel_rfl) h
def F3.F2.up.A7 : List (Nat × Entry) := []
def F3.F2.up.E : Env := Bb (A5 F3.F2.up.A7) (fun _ => false) (fun _ => none) (fun _ => none)
theorem F3.F2.up.ev (N : Nat) (n k : Int) : Bx F3.F2.up.E N Tryz.f103 (An Tryz.f103) [.int .i64 n, .int .i64 k] = some (.int .i64 (Ab ((Ab (n - (1 : Int))) - k))) := by kernel_rfl
abbrev _root_.Go.Proofs.S1.F3.F2.up.Kn := A3 Tryz.prog 103 F3.F2.up.spec
theorem F3.F2.up.Ac (hk : Ay Tryz.prog F3.F2.up.A7) (h : ∀ (n k : Int), F3.F2.up.pre [.i n, .i k] = true → Bc F3.F2.up.E Tryz.f103 [.int .i64 n, .int .i64 k] (F3.F2.up.out [.i n, .i k])) : F3.F2.up.Kn :=
  Ak (Az hk _ _ _) Tryz.func103 (by kernel_rfl) (by kernel_rfl) h
def solve.Ef.A7 : List (Nat × Entry) := []
def solve.Ef.E : Env := Bb (A5 solve.Ef.A7) (fun _ => false) (fun _ => none) (fun _ => none)
theorem solve.Ef.ev (N : Nat) (i k : Int) : Bx solve.Ef.E N Tryz.f104 (An Tryz.f104) [.int .i64 i, .int .i64 k] = some (.bool (A4 i k)) := by kernel_rfl
abbrev _root_.Go.Proofs.S1.solve.Ef.Kn := A3 Tryz.prog 104 solve.Ef.spec
theorem solve.Ef.Ac (hk : Ay Tryz.prog solve.Ef.A7) (h : ∀ (i k : Int), solve.Ef.pre [.i i, .i k] = true → Bc solve.Ef.E Tryz.f104 [.int .i64 i, .int .i64 k] (solve.Ef.out [.i i, .i k])) : solve.Ef.Kn :=
  Ak (Az hk _ _ _) Tryz.func104 (by kernel_rfl) (by kernel_rfl) h
def Aa.of.Bz.own.hint : Nat → Option Ba
  | 0 => some { keep := [1, 2, 6, 7, 13, 14], objs := [(8, 2, 108002, .ints 37 .u64 [])], boxes := [6, 7] }
  | 2 => some { keep := [1, 2, 6, 7, 8, 13, 14, 17, 18], objs := [(8, 2, 108002, .ints 37 .u64 [])], boxes := [6, 7] }
  | _ => none
def Aa.of.Bz.own.A7 : List (Nat × Entry) := [(205, Aa.D7.spec)]
def Aa.of.Bz.own.E : Env := Bb (A5 Aa.of.Bz.own.A7) (fun _ => false) Aa.of.Bz.own.hint (fun _ => none)
abbrev _root_.Go.Proofs.S1.Aa.of.Bz.own.Kn := A3 Tryz.prog 187 Aa.of.Bz.own.spec
theorem Aa.of.Bz.own.Ac (hk : Ay Tryz.prog Aa.of.Bz.own.A7) (h : ∀ (a b : Int), Aa.of.Bz.own.pre [.i a, .i b] = true → Bc Aa.of.Bz.own.E Tryz.f187 [.int .i64 a, .int .i64 b, .fn 205 [] []] (Aa.of.Bz.own.out [.i a, .i b])) : Aa.of.Bz.own.Kn :=
  Ak (Az hk _ _ _) Tryz.func187 (by kernel_rfl) (by kernel_rfl) h
def Aa.Bz.own.A7 : List (Nat × Entry) := [(187, Aa.of.Bz.own.spec), (204, Aa.size.spec)]
def Aa.Bz.own.E : Env := Bb (A5 Aa.Bz.own.A7) (fun n => Nat.beq n 17) (fun _ => none) (fun _ => none)
theorem Aa.Bz.own.ev (N : Nat) (a b : Int) : Bx Aa.Bz.own.E N Tryz.f151 (An Tryz.f151) [.int .i64 a, .int .i64 b] = bif ((!(Bw a)) || (!(Bw b))) then some (.tup [.agg [.int .i64 0, .int .i64 0, .nil], .int .i64 3]) else bif (Bw a && Bw b) then some (.tup [.agg [.int .i64 a, .int .i64 b, .ints (.own 1136 37) .u64 (Cd (Int.toNat a) (Int.toNat b) (fun _ _ => 0))], .int .i64 0]) else none :=
  Eq.trans (by kernel_rfl)
  (Ax (Sp (Bw a)) (Ax (Pm (Bw a)) (Ax (Pm (Bw a)) (Ax (Lx (Bw a)) (Cx (Ld (Bw a) (Bw b)) rfl rfl)))))
abbrev _root_.Go.Proofs.S1.Aa.Bz.own.Kn := A3 Tryz.prog 151 Aa.Bz.own.spec
theorem Aa.Bz.own.Ac (hk : Ay Tryz.prog Aa.Bz.own.A7) (h : ∀ (a b : Int), Aa.Bz.own.pre [.i a, .i b] = true → Bc Aa.Bz.own.E Tryz.f151 [.int .i64 a, .int .i64 b] (Aa.Bz.own.out [.i a, .i b])) : Aa.Bz.own.Kn :=
  Ak (Az hk _ _ _) Tryz.func151 (by kernel_rfl) (by kernel_rfl) h
def solve.Bt.Up.hint : Nat → Option Ba
  | 0 => some { keep := [2, 3, 4, 5, 8, 10, 11, 28, 29], objs := [(12, 2, 112002, .ints 37 .u64 [])], boxes := [4, 5, 8, 11] }
  | 2 => some { keep := [2, 3, 4, 5, 8, 10, 11, 13, 28, 29, 32, 33], objs := [(12, 2, 112002, .ints 37 .u64 [])], boxes := [4, 5, 8, 11] }
  | 4 => some { keep := [2, 3, 4, 5, 8, 10, 11, 13, 15, 16, 28, 29, 32, 33, 49, 50], objs := [(12, 2, 112002, .ints 37 .u64 [])], boxes := [4, 5, 8, 11] }
  | _ => none
def solve.Bt.Up.A7 : List (Nat × Entry) := [(103, F3.F2.up.spec), (151, Aa.Bz.own.spec), (104, solve.Ef.spec), (158, Ae.Div.spec), (150, Ae.Finite.spec), (157, Ae.Mul.spec), (156, Ae.Sub.spec)]
def solve.Bt.Up.E : Env := Bb (A5 solve.Bt.Up.A7) (fun n => Nat.beq n 24) solve.Bt.Up.hint (fun _ => none)
def solve.Bt.Up.L0 (N M : Nat) (r c : Int) (l : List Int) (p q : Int) (m : List Int) (n p29 : Int) (p2_2 : List Int) : Option DV := B0 solve.Bt.Up.E N Tryz.f76 (An Tryz.f76) [1, 1, 1, 0, 1, 0] [] M ⟨F7 108 [(2, .fn 103 [.int .i64 n] []), (3, .fn 104 [] []), (4, .ptr 4 0 0), (5, .ptr 5 0 0), (8, .ptr 8 0 0), (10, .int .i64 r), (11, .ptr 11 0 0), (28, .int .i64 q), (29, .int .i64 p29)], [(4, false, .box [.int .i64 r, .int .i64 c, .ints .arg .u64 l]), (5, false, .box [.int .i64 p, .int .i64 q, .ints .arg .u64 m]), (8, false, .box [.int .i64 0, .int .i64 0, .nil]), (11, false, .box [.int .i64 r, .int .i64 q, .oref 112002]), (112002, false, .ints 37 .u64 p2_2)]⟩
def solve.Bt.Up.L1 (N M0 M : Nat) (r c : Int) (l : List Int) (p q : Int) (m : List Int) (n p33 : Int) (p2 : List Int) (p13 p29_1 : Int) : Option DV := B0 solve.Bt.Up.E N Tryz.f76 (An Tryz.f76) [1, 1, 1, 0, 1, 0, 0, 1, 1, 0, 0, 1, 0, 1, 1, 0] [M0] M ⟨F7 108 [(2, .fn 103 [.int .i64 n] []), (3, .fn 104 [] []), (4, .ptr 4 0 0), (5, .ptr 5 0 0), (8, .ptr 8 0 0), (10, .int .i64 r), (11, .ptr 11 0 0), (13, .int .i64 p13), (28, .int .i64 q), (29, .int .i64 p29_1), (32, .int .i64 r), (33, .int .i64 p33)], [(4, false, .box [.int .i64 r, .int .i64 c, .ints .arg .u64 l]), (5, false, .box [.int .i64 p, .int .i64 q, .ints .arg .u64 m]), (8, false, .box [.int .i64 0, .int .i64 0, .nil]), (11, false, .box [.int .i64 r, .int .i64 q, .oref 112002]), (112002, false, .ints 37 .u64 p2)]⟩
def solve.Bt.Up.L2 (N M0 M1 M : Nat) (r c : Int) (l : List Int) (p q : Int) (m : List Int) (n p16 : Int) (p50 p13_1 : Int) (p15 p29_2 p33_1 : Int) (p2_1 : List Int) : Option DV := B0 solve.Bt.Up.E N Tryz.f76 (An Tryz.f76) [1, 1, 1, 0, 1, 0, 0, 1, 1, 0, 0, 1, 0, 1, 1, 0, 0, 1, 1, 0, 0, 1, 1, 1, 0, 1, 0] [M0, M1] M ⟨F7 108 [(2, .fn 103 [.int .i64 n] []), (3, .fn 104 [] []), (4, .ptr 4 0 0), (5, .ptr 5 0 0), (8, .ptr 8 0 0), (10, .int .i64 r), (11, .ptr 11 0 0), (13, .int .i64 p13_1), (15, .int .i64 p15), (16, .int .u64 p16), (28, .int .i64 q), (29, .int .i64 p29_2), (32, .int .i64 r), (33, .int .i64 p33_1), (49, .int .i64 r), (50, .int .i64 p50)], [(4, false, .box [.int .i64 r, .int .i64 c, .ints .arg .u64 l]), (5, false, .box [.int .i64 p, .int .i64 q, .ints .arg .u64 m]), (8, false, .box [.int .i64 0, .int .i64 0, .nil]), (11, false, .box [.int .i64 r, .int .i64 q, .oref 112002]), (112002, false, .ints 37 .u64 p2_1)]⟩
theorem solve.Bt.Up.As (N M : Nat) (r c : Int) (l : List Int) (p q : Int) (m : List Int) (n p29 : Int) (p2_2 : List Int) : solve.Bt.Up.L0 N (M + 1) r c l p q m n p29 p2_2 = bif (A4 p29 q) then solve.Bt.Up.L1 N M N r c l p q m n (0 : Int) p2_2 p29 p29 else bif (Cp p2_2) then bif (!(Dl p2_2)) then some (.tup [.agg [.int .i64 0, .int .i64 0, .nil], .int .i64 2]) else some (.tup [.agg [.int .i64 r, .int .i64 q, .ints (.own 112002 37) .u64 p2_2], .int .i64 0]) else none := by kernel_rfl
theorem solve.Bt.Up.B5 (N M0 M : Nat) (r c : Int) (l : List Int) (p q : Int) (m : List Int) (n p33 : Int) (p2 : List Int) (p13 p29_1 : Int) : solve.Bt.Up.L1 N M0 (M + 1) r c l p q m n p33 p2 p13 p29_1 = bif (A4 p33 r) then bif (C3 (0 ≤ p33 ∧ p33 < n ∧ n ≤ 10)) then bif ((decide (0 ≤ (Ab ((Ab ((n - 1 - p33) * q)) + p13)))) && (decide ((Ab ((Ab ((n - 1 - p33) * q)) + p13)) < (List.length m : Int)))) then solve.Bt.Up.L2 N M0 M N r c l p q m n (List.getD m (Int.toNat (Ab ((Ab ((n - 1 - p33) * q)) + p13))) 0) (0 : Int) p13 (n - 1 - p33) p29_1 p33 p2 else none else none else solve.Bt.Up.L0 N M0 r c l p q m n (Ab (p29_1 + (1 : Int))) p2 := by kernel_rfl
theorem solve.Bt.Up.G5 (N M0 M1 M : Nat) (r c : Int) (l : List Int) (p q : Int) (m : List Int) (n p16 : Int) (p50 p13_1 : Int) (p15 p29_2 p33_1 : Int) (p2_1 : List Int) : solve.Bt.Up.L2 N M0 M1 (M + 1) r c l p q m n p16 p50 p13_1 p15 p29_2 p33_1 p2_1 = bif (A4 p50 r) then bif (decide (p15 < p50)) then bif ((decide (0 ≤ (Ab ((Ab (p15 * r)) + p50)))) && (decide ((Ab ((Ab (p15 * r)) + p50)) < (List.length l : Int)))) then bif ((decide (0 ≤ (Ab ((Ab (p50 * q)) + p13_1)))) && (decide ((Ab ((Ab (p50 * q)) + p13_1)) < (List.length p2_1 : Int)))) then bif (decide ((Int.toNat (Ab ((Ab (p50 * q)) + p13_1))) < (List.length p2_1))) then bif (Ag (List.getD l (Int.toNat (Ab ((Ab (p15 * r)) + p50))) 0) && Ag (List.getD p2_1 (Int.toNat (Ab ((Ab (p50 * q)) + p13_1))) 0)) then bif (Ag p16 && Ag (Ea (List.getD l (Int.toNat (Ab ((Ab (p15 * r)) + p50))) 0) (List.getD p2_1 (Int.toNat (Ab ((Ab (p50 * q)) + p13_1))) 0))) then solve.Bt.Up.L2 N M0 M1 M r c l p q m n (Ei p16 (Ea (List.getD l (Int.toNat (Ab ((Ab (p15 * r)) + p50))) 0) (List.getD p2_1 (Int.toNat (Ab ((Ab (p50 * q)) + p13_1))) 0))) (Ab (p50 + (1 : Int))) p13_1 p15 p29_2 p33_1 p2_1 else none else none else none else none else none else solve.Bt.Up.L2 N M0 M1 M r c l p q m n p16 (Ab (p50 + (1 : Int))) p13_1 p15 p29_2 p33_1 p2_1 else bif ((decide (0 ≤ (Ab ((Ab (p15 * r)) + p15)))) && (decide ((Ab ((Ab (p15 * r)) + p15)) < (List.length l : Int)))) then bif (Ag p16 && Ag (List.getD l (Int.toNat (Ab ((Ab (p15 * r)) + p15))) 0)) then bif ((decide (0 ≤ (Ab ((Ab (p15 * q)) + p13_1)))) && (decide ((Ab ((Ab (p15 * q)) + p13_1)) < (List.length p2_1 : Int)))) then bif (decide ((Int.toNat (Ab ((Ab (p15 * q)) + p13_1))) < (List.length p2_1))) then solve.Bt.Up.L1 N M0 M1 r c l p q m n (Ab (p33_1 + (1 : Int))) (List.set p2_1 (Int.toNat (Ab ((Ab (p15 * q)) + p13_1))) (Ex p16 (List.getD l (Int.toNat (Ab ((Ab (p15 * r)) + p15))) 0))) p13_1 p29_2 else none else none else none else none :=
  Eq.trans (by kernel_rfl)
  (Ee (Ee (Cx (Hx (decide (0 ≤ (Ab ((Ab (p15 * r)) + p50)))) (decide ((Ab ((Ab (p15 * r)) + p50)) < (List.length l : Int)))) (Cx (Hx (decide (0 ≤ (Ab ((Ab (p50 * q)) + p13_1)))) (decide ((Ab ((Ab (p50 * q)) + p13_1)) < (List.length p2_1 : Int)))) (Cx (Jg (decide ((Int.toNat (Ab ((Ab (p50 * q)) + p13_1))) < (List.length p2_1)))) (Cx (Jg (Ag (List.getD l (Int.toNat (Ab ((Ab (p15 * r)) + p50))) 0) && Ag (List.getD p2_1 (Int.toNat (Ab ((Ab (p50 * q)) + p13_1))) 0))) (Cx (Jg (Ag p16 && Ag (Ea (List.getD l (Int.toNat (Ab ((Ab (p15 * r)) + p50))) 0) (List.getD p2_1 (Int.toNat (Ab ((Ab (p50 * q)) + p13_1))) 0)))) rfl rfl) rfl) rfl) rfl) rfl) rfl) (Cx (Hx (decide (0 ≤ (Ab ((Ab (p15 * r)) + p15)))) (decide ((Ab ((Ab (p15 * r)) + p15)) < (List.length l : Int)))) (Cx (Jg (Ag p16 && Ag (List.getD l (Int.toNat (Ab ((Ab (p15 * r)) + p15))) 0))) (Cx (Hx (decide (0 ≤ (Ab ((Ab (p15 * q)) + p13_1)))) (decide ((Ab ((Ab (p15 * q)) + p13_1)) < (List.length p2_1 : Int)))) (Cx (Jg (decide ((Int.toNat (Ab ((Ab (p15 * q)) + p13_1))) < (List.length p2_1)))) rfl rfl) rfl) rfl) rfl))
theorem solve.Bt.Up.ev (N : Nat) (r c : Int) (l : List Int) (p q : Int) (m : List Int) (n : Int) : Bx solve.Bt.Up.E N Tryz.f76 (An Tryz.f76) [.agg [.int .i64 r, .int .i64 c, .ints .arg .u64 l], .agg [.int .i64 p, .int .i64 q, .ints .arg .u64 m], .fn 103 [.int .i64 n] [], .fn 104 [] []] = bif (Bw r && Bw q) then solve.Bt.Up.L0 N N r c l p q m n (0 : Int) (Cd (Int.toNat r) (Int.toNat q) (fun _ _ => 0)) else none := by kernel_rfl
abbrev _root_.Go.Proofs.S1.solve.Bt.Up.Kn := A3 Tryz.prog 76 solve.Bt.Up.spec
theorem solve.Bt.Up.Ac (hk : Ay Tryz.prog solve.Bt.Up.A7) (h : ∀ (r c : Int) (l : List Int) (p q : Int) (m : List Int) (n : Int), solve.Bt.Up.pre [.i r, .i c, .l l, .i p, .i q, .l m, .i n] = true → Bc solve.Bt.Up.E Tryz.f76 [.agg [.int .i64 r, .int .i64 c, .ints .arg .u64 l], .agg [.int .i64 p, .int .i64 q, .ints .arg .u64 m], .fn 103 [.int .i64 n] [], .fn 104 [] []] (solve.Bt.Up.out [.i r, .i c, .l l, .i p, .i q, .l m, .i n])) : solve.Bt.Up.Kn :=
  Ak (Az hk _ _ _) Tryz.func76 (by kernel_rfl) (by kernel_rfl) h
def solve.Cj.A7 : List (Nat × Entry) := [(75, solve.check.spec), (76, solve.Bt.Up.spec)]
def solve.Cj.E : Env := Bb (A5 solve.Cj.A7) (fun _ => false) (fun _ => none) (fun _ => none)
theorem solve.Cj.ev (N : Nat) (r c : Int) (l : List Int) (p q : Int) (m : List Int) : Bx solve.Cj.E N Tryz.f36 (An Tryz.f36) [.agg [.int .i64 r, .int .i64 c, .ints .arg .u64 l], .agg [.int .i64 p, .int .i64 q, .ints .arg .u64 m]] = bif (Al l && Al m) then bif ((Qf r c l p q m) != (0 : Int)) then some (.tup [.agg [.int .i64 0, .int .i64 0, .nil], .int .i64 (Qf r c l p q m)]) else bif (Aat r c l p q m && decide (r = r)) then some (.tup [.agg [.int .i64 ((Lt r q (upG c l q m (Int.toNat r) (Int.toNat q))).1), .int .i64 ((Lt r q (upG c l q m (Int.toNat r) (Int.toNat q))).2.1), .ints .fresh .u64 ((Lt r q (upG c l q m (Int.toNat r) (Int.toNat q))).2.2.1)], .int .i64 ((Lt r q (upG c l q m (Int.toNat r) (Int.toNat q))).2.2.2)]) else none else none := by kernel_rfl
abbrev _root_.Go.Proofs.S1.solve.Cj.Kn := A3 Tryz.prog 36 solve.Cj.spec
theorem solve.Cj.Ac (hk : Ay Tryz.prog solve.Cj.A7) (h : ∀ (r c : Int) (l : List Int) (p q : Int) (m : List Int), solve.Cj.pre [.i r, .i c, .l l, .i p, .i q, .l m] = true → Bc solve.Cj.E Tryz.f36 [.agg [.int .i64 r, .int .i64 c, .ints .arg .u64 l], .agg [.int .i64 p, .int .i64 q, .ints .arg .u64 m]] (solve.Cj.out [.i r, .i c, .l l, .i p, .i q, .l m])) : solve.Cj.Kn :=
  Ak (Az hk _ _ _) Tryz.func36 (by kernel_rfl) (by kernel_rfl) h
def solve.Flat.hint : Nat → Option Ba
  | 0 => some { keep := [1, 5, 6], objs := [(0, 5, 100005, .ints 37 .u64 [])], boxes := [1] }
  | 2 => some { keep := [7, 44, 45, 46], objs := [(0, 44, 100044, .ints 37 .u64 [])], boxes := [] }
  | _ => none
def solve.Flat.A7 : List (Nat × Entry) := [(86, Cs.Check.spec), (87, compare.G6.spec), (90, compare.Lv.spec), (89, Ae.Bm.spec), (88, Ae.Bp.spec)]
def solve.Flat.E : Env := Bb (A5 solve.Flat.A7) (fun _ => false) solve.Flat.hint (fun _ => none)
def solve.Flat.L0 (N M : Nat) (r c : Int) (l : List Int) (p6 : Int) (p5 : List Int) : Option DV := B0 solve.Flat.E N Tryz.f24 (An Tryz.f24) [1, 1, 1, 0, 1, 0] [] M ⟨F7 55 [(1, .ptr 1 0 0), (5, .oref 100005), (6, .int .i64 p6)], [(1, false, .box [.int .i64 r, .int .i64 c, .ints .arg .u64 l]), (100005, false, .ints 37 .u64 p5)]⟩
def solve.Flat.L1 (N M : Nat) (p5 : List Int) (p46 : Int) : Option DV := B0 solve.Flat.E N Tryz.f24 (An Tryz.f24) [1, 1, 1, 1, 1, 0, 1, 0] [] M ⟨F7 55 [(7, .int .u64 (Bu (Be p5) (-40 : Int))), (44, .oref 100044), (45, .int .i64 (List.length p5 : Int)), (46, .int .i64 p46)], [(100044, false, .ints 37 .u64 p5)]⟩
theorem solve.Flat.As (N M : Nat) (r c : Int) (l : List Int) (p6 : Int) (p5 : List Int) : solve.Flat.L0 N (M + 1) r c l p6 p5 = bif ((A4 p6 r) && (A4 p6 c)) then bif ((decide (0 ≤ (Ab ((Ab (p6 * c)) + p6)))) && (decide ((Ab ((Ab (p6 * c)) + p6)) < (List.length l : Int)))) then bif (Ag (List.getD l (Int.toNat (Ab ((Ab (p6 * c)) + p6))) 0)) then bif (decide ((List.length p5) + 1 ≤ Hc)) then solve.Flat.L0 N M r c l (Ab (p6 + (1 : Int))) (p5 ++ [(Ir (List.getD l (Int.toNat (Ab ((Ab (p6 * c)) + p6))) 0))]) else none else none else none else bif (Cp p5) then bif (C4 (Be p5) (-40 : Int)) then solve.Flat.L1 N N p5 (0 : Int) else none else none :=
  Eq.trans (by kernel_rfl)
  (Ax (Jh (A4 p6 r)) (Ax (Jh (A4 p6 r)) (Ax (Oi (A4 p6 r)) (Ax (Mr (A4 p6 r)) (Ax (J9 (A4 p6 r)) (Cx (I1 (A4 p6 r) (A4 p6 c)) rfl rfl))))))
theorem solve.Flat.B5 (N M : Nat) (p5 : List Int) (p46 : Int) : solve.Flat.L1 N (M + 1) p5 p46 = bif (A4 p46 (List.length p5 : Int)) then bif ((decide (0 ≤ p46)) && (decide (p46 < (List.length p5 : Int)))) then bif (decide ((Int.toNat p46) < (List.length p5))) then bif (Ag (Bu (Be p5) (-40 : Int)) && Ag (List.getD p5 (Int.toNat p46) 0)) then bif (!(decide (R4 (Bu (Be p5) (-40 : Int)) (List.getD p5 (Int.toNat p46) 0) < 0))) then some (.tup [.bool true, .int .i64 0]) else solve.Flat.L1 N M p5 (Ab (p46 + (1 : Int))) else none else none else none else some (.tup [.bool false, .int .i64 0]) := by kernel_rfl
theorem solve.Flat.ev (N : Nat) (r c : Int) (l : List Int) : Bx solve.Flat.E N Tryz.f24 (An Tryz.f24) [.agg [.int .i64 r, .int .i64 c, .ints .arg .u64 l]] = bif (Al l) then bif ((C5 r c l) != (0 : Int)) then some (.tup [.bool false, .int .i64 (C5 r c l)]) else solve.Flat.L0 N N r c l (0 : Int) [] else none := by kernel_rfl
abbrev _root_.Go.Proofs.S1.solve.Flat.Kn := A3 Tryz.prog 24 solve.Flat.spec
theorem solve.Flat.Ac (hk : Ay Tryz.prog solve.Flat.A7) (h : ∀ (r c : Int) (l : List Int), solve.Flat.pre [.i r, .i c, .l l] = true → Bc solve.Flat.E Tryz.f24 [.agg [.int .i64 r, .int .i64 c, .ints .arg .u64 l]] (solve.Flat.out [.i r, .i c, .l l])) : solve.Flat.Kn :=
  Ak (Az hk _ _ _) Tryz.func24 (by kernel_rfl) (by kernel_rfl) h
end EqSol
open EqSol
theorem solve.Ef.known : solve.Ef.Kn := solve.Ef.Ac .nil fun i k _ => by
  refine ⟨0, solve.Ef.out [.i i, .i k], [], ?_, .bool⟩
  rw [solve.Ef.ev, Ar]; rfl
theorem Alh.known : F3.F2.up.Kn := F3.F2.up.Ac .nil fun n k hp => by
  have hp := Av.1 (show C3 (0 ≤ k ∧ k < n ∧ n ≤ 10) = true from hp)
  refine ⟨0, F3.F2.up.out [.i n, .i k], [], ?_, .int⟩
  rw [F3.F2.up.ev, Am (x := n - 1) (by omega) (by omega), Am (by omega) (by omega)]; rfl
theorem Aa.of.Bz.own.known : Aa.of.Bz.own.Kn := Aa.of.Bz.own.Ac (.cons Aa.D7.known .nil) fun a b hp => by
  have h1 : (Bw a && Bw b) = true := hp
  obtain ⟨ha, hb⟩ := Ad.1 h1
  obtain ⟨A, rfl, hA⟩ := Fu ha
  obtain ⟨B, rfl, hB⟩ := Fu hb
  refine ⟨8, .agg [.int .i64 (A : Int), .int .i64 (B : Int), .ints (.own 108002 tB) .u64 (Cd A B fun (i j : Nat) => (0 : Int))], [], ?_, Wk.G3 (.cons .int (.cons .int (.cons (.keep _ _ _ _ List.not_mem_nil) .nil)))⟩
  have n := of.Bz.outer 8 hA hB (by omega) (F := fun (i j : Nat) => (0 : Int)) (fun _ _ => rfl) A 0 8 (by omega) (by omega)
  rw [N9] at n
  exact (EqOf.Aa.of.Bz.ev 8 (A : Int) (B : Int)).trans n
theorem Aa.Bz.own.known : Aa.Bz.own.Kn := Aa.Bz.own.Ac (.cons Aa.of.Bz.own.known (.cons Aa.size.known .nil)) fun a b hp => by
  have hp : (Bw a && Bw b) = true := hp
  obtain ⟨ha, hb⟩ := Ad.1 hp
  refine ⟨0, Aa.Bz.own.out [.i a, .i b], [], ?_, ?_⟩
  · rw [Aa.Bz.own.ev, ha, hb]; rfl
  · exact Wk.Gm (.cons (Wk.G3 (.cons .int (.cons .int (.cons (.keep _ _ _ _ List.not_mem_nil) .nil)))) (.cons .int .nil))
section
variable {n Q : Nat} {l m : List Int}
def upF (n Q : Nat) (l m : List Int) (i j : Nat) : Int := (Y8 (n : Int) l (fun i => D0 (Q : Int) m (i : Int) (j : Int)) n n).getD i 0
def upD (n j k a b : Nat) : Bool := decide (b < j ∨ (b = j ∧ n - k ≤ a))
def Rf (n Q : Nat) (l m : List Int) (j k : Nat) : List Int := Cd n Q fun a b => if upD n j k a b = true then upF n Q l m a b else 0
theorem Ae6 (i j : Nat) : Ag (upF n Q l m i j) = true := Ahn (Akm _ _ _ _ _) i
theorem Akl (j k : Nat) : Al (Rf n Q l m j k) = true := Jv fun a b => by
  split
  · exact Ae6 _ _
  · exact B7 (n := 0) (by decide)
theorem Agu {j k t : Nat} (ht : t < n) (hj : j < Q) (hk : n - k ≤ t) : D0 (Q : Int) (Rf n Q l m j k) (t : Int) (j : Int) = upF n Q l m t j := by
  unfold Rf
  have hd : upD n j k t j = true := As3 (.inr ⟨rfl, hk⟩)
  rw [Apa ht hj, hd, if_pos rfl]
theorem Sr (j k : Nat) : (Rf n Q l m j k).length = n * Q := Ci _ _ _
theorem Aki (N : Nat) (n6 : n ≤ 6) (q6 : Q ≤ 6) (hl : l.length = n * n) (al : Al l = true) {i j k : Nat} (hi : i + k + 1 = n) (hj : j < Q) (M0 M1 : Nat) (p29 p33 : Int) :
    ∀ (cnt t F : Nat) (s : Int), t + cnt = n → cnt < F → i + 1 ≤ t → Ag s = true →
    solve.Bt.Up.L2 N M0 M1 F (n : Int) (n : Int) l (n : Int) (Q : Int) m (n : Int) s (t : Int) (j : Int) (i : Int) p29 p33 (Rf n Q l m j k) =
    solve.Bt.Up.L1 N M0 M1 (n : Int) (n : Int) l (n : Int) (Q : Int) m (n : Int) (Ab (p33 + (1 : Int))) (List.set (Rf n Q l m j k) (Int.toNat ((i : Int) * (Q : Int) + (j : Int))) (Ex (Rr (n : Int) l (i : Int) s (t : Int) ((Y8 (n : Int) l (fun i => D0 (Q : Int) m (i : Int) (j : Int)) n n).drop t)) (D0 (n : Int) l (i : Int) (i : Int)))) (j : Int) p29 := by
  intro cnt
  induction cnt with
  | zero =>
    intro t F s ht hF hit hs
    obtain ⟨F, rfl⟩ : ∃ G, F = G + 1 := ⟨F - 1, by omega⟩
    obtain ⟨e1, g1, g2⟩ := Kp (R := (n : Int)) (Di n6 n6 hl (show i < n by omega) (show i < n by omega))
    obtain ⟨e2, g3, g4⟩ := Kp (R := (n : Int)) (Di n6 q6 (Sr (l := l) (m := m) j k) (show i < n by omega) hj)
    rw [Atg (by rw [Ma]; omega), Rr]
    rw [solve.Bt.Up.G5, Ar, As7 (show ¬ (t : Int) < (n : Int) by omega), As6, e1, As3 g1, As3 g2, As8, As2, hs, show Ag (List.getD l (Int.toNat ((i : Int) * (n : Int) + (i : Int))) 0) = true from H6 (c := (n : Int)) al, As8, As2,
      e2, As3 g3, As3 g4, As8, As2, As3 (show Int.toNat ((i : Int) * (Q : Int) + (j : Int)) < (Rf n Q l m j k).length by omega), As2]
    rfl
  | succ cnt ih =>
    intro t F s ht hF hit hs
    obtain ⟨F, rfl⟩ : ∃ G, F = G + 1 := ⟨F - 1, by omega⟩
    obtain ⟨e1, g1, g2⟩ := Kp (R := (n : Int)) (Di n6 n6 hl (show i < n by omega) (show t < n by omega))
    obtain ⟨e2, g3, g4⟩ := Kp (R := (n : Int)) (Di n6 q6 (Sr (l := l) (m := m) j k) (show t < n by omega) hj)
    have hx : List.getD (Rf n Q l m j k) (Int.toNat ((t : Int) * (Q : Int) + (j : Int))) 0 = upF n Q l m t j := Agu (by omega) hj (by omega)
    rw [solve.Bt.Up.G5, Ar, As3 (show (t : Int) < (n : Int) by omega), As2, As3 (show (i : Int) < (t : Int) by omega), As2, e1, As3 g1, As3 g2, As8, As2,
      e2, As3 g3, As3 g4, As8, As2, As3 (show Int.toNat ((t : Int) * (Q : Int) + (j : Int)) < (Rf n Q l m j k).length by omega), As2, hx,
      show Ag (List.getD l (Int.toNat ((i : Int) * (n : Int) + (t : Int))) 0) = true from H6 (c := (n : Int)) al, Ae6, As8, As2, hs, Ju, As8, As2, Am (x := (t : Int) + 1) (by omega) (by omega)]
    have := ih (t + 1) F (Ei s (Ea (D0 (n : Int) l (i : Int) (t : Int)) (upF n Q l m t j))) (by omega) (by omega) (by omega) (Ok hs (Ju _ _))
    rw [Zz (by rw [Ma]; omega)]
    exact this
theorem An0 (N : Nat) (n6 : n ≤ 6) {i j k : Nat} (hi : i < n) (M0 M1 : Nat) (p29 p33 s : Int) : ∀ (cnt t F : Nat), t + cnt = i + 1 →
    solve.Bt.Up.L2 N M0 M1 (F + cnt) (n : Int) (n : Int) l (n : Int) (Q : Int) m (n : Int) s (t : Int) (j : Int) (i : Int) p29 p33 (Rf n Q l m j k) =
    solve.Bt.Up.L2 N M0 M1 F (n : Int) (n : Int) l (n : Int) (Q : Int) m (n : Int) s ((i + 1 : Nat) : Int) (j : Int) (i : Int) p29 p33 (Rf n Q l m j k) := by
  intro cnt
  induction cnt with
  | zero =>
    intro t F ht
    obtain rfl : t = i + 1 := by omega
    rfl
  | succ cnt ih =>
    intro t F ht
    rw [← Nat.add_assoc, solve.Bt.Up.G5, Ar, As3 (show (t : Int) < (n : Int) by omega), As2, As7 (show ¬ (i : Int) < (t : Int) by omega), As6, Am (by omega) (by omega)]
    exact ih (t + 1) F (by omega)
theorem Agt {i j k : Nat} (hi : i + k + 1 = n) (hj : j < Q) {x : Int} (hx : x = upF n Q l m i j) : List.set (Rf n Q l m j k) (Int.toNat ((i : Int) * (Q : Int) + (j : Int))) x = Rf n Q l m j (k + 1) := by
  refine Aej hj hx fun a b ha hb => ?_
  unfold upD
  rw [As9, As9]
  omega
theorem An1 (N : Nat) (n6 : n ≤ 6) (q6 : Q ≤ 6) (hN : 7 < N) (hl : l.length = n * n) (hm : m.length = n * Q) (al : Al l = true) (am : Al m = true) {j : Nat} (hj : j < Q) (M0 : Nat) : ∀ (cnt k F : Nat), k + cnt = n → cnt < F →
    solve.Bt.Up.L1 N M0 F (n : Int) (n : Int) l (n : Int) (Q : Int) m (n : Int) (k : Int) (Rf n Q l m j k) (j : Int) (j : Int) =
    solve.Bt.Up.L0 N M0 (n : Int) (n : Int) l (n : Int) (Q : Int) m (n : Int) ((j + 1 : Nat) : Int) (Rf n Q l m j n) := by
  intro cnt
  induction cnt with
  | zero =>
    intro k F hk hF
    obtain ⟨F, rfl⟩ : ∃ G, F = G + 1 := ⟨F - 1, by omega⟩
    obtain rfl : k = n := by omega
    rw [solve.Bt.Up.B5, Ar, As7 (by omega), As6, Am (by omega) (by omega)]
    rfl
  | succ cnt ih =>
    intro k F hk hF
    obtain ⟨F, rfl⟩ : ∃ G, F = G + 1 := ⟨F - 1, by omega⟩
    obtain ⟨i, hi⟩ : ∃ i : Nat, i + k + 1 = n := ⟨n - k - 1, by omega⟩
    have ei : (n : Int) - 1 - (k : Int) = (i : Int) := by omega
    obtain ⟨e2, g3, g4⟩ := Kp (R := (n : Int)) (Di n6 q6 hm (show i < n by omega) hj)
    rw [solve.Bt.Up.B5, Ar, As3 (show (k : Int) < (n : Int) by omega), As2, Av.2 (show 0 ≤ (k : Int) ∧ (k : Int) < (n : Int) ∧ (n : Int) ≤ 10 by omega), As2, ei, e2, As3 g3, As3 g4, As8, As2]
    obtain ⟨G, rfl⟩ : ∃ G, N = G + (i + 1) := ⟨N - (i + 1), by omega⟩
    have hs := An0 (n := n) (Q := Q) (l := l) (m := m) (G + (i + 1)) n6 (i := i) (j := j) (k := k) (by omega) M0 F (j : Int) (k : Int) (D0 (Q : Int) m (i : Int) (j : Int)) (i + 1) 0 G (by omega)
    have hr := Aki (n := n) (Q := Q) (l := l) (m := m) (G + (i + 1)) n6 q6 hl al hi hj M0 F (j : Int) (k : Int) (n - (i + 1)) (i + 1) G (D0 (Q : Int) m (i : Int) (j : Int)) (by omega) (by omega) (by omega) (H6 (c := (Q : Int)) am)
    rw [Agt hi hj (Agw (show i < n by omega)).symm, Am (by omega) (by omega)] at hr
    exact (hs.trans hr).trans (ih (k + 1) F (by omega) (by omega))
theorem Ack (j : Nat) : Rf n Q l m j n = Rf n Q l m (j + 1) 0 := by
  unfold Rf
  refine Dz fun a b ha hb => ?_
  have : upD n j n a b = upD n (j + 1) 0 a b := by
    unfold upD
    rw [decide_eq_decide]
    omega
  rw [this]
theorem Acj : Rf n Q l m 0 0 = Cd n Q fun _ _ => 0 := by
  unfold Rf
  refine Dz fun a b ha hb => ?_
  have : upD n 0 0 a b = false := As7 (by omega)
  rw [this]; rfl
theorem Agv : Rf n Q l m Q 0 = upG (n : Int) l (Q : Int) m n Q := by
  unfold Rf upG
  refine Dz fun a b ha hb => ?_
  have : upD n Q 0 a b = true := As3 (.inl hb)
  rw [this]; rfl
theorem An2 (N : Nat) (n6 : n ≤ 6) (q6 : Q ≤ 6) (hN : 7 < N) (hl : l.length = n * n) (hm : m.length = n * Q) (al : Al l = true) (am : Al m = true) : ∀ (cnt j F : Nat), j + cnt = Q → cnt < F →
    solve.Bt.Up.L0 N F (n : Int) (n : Int) l (n : Int) (Q : Int) m (n : Int) (j : Int) (Rf n Q l m j 0) =
    bif Dl (Rf n Q l m Q 0) then some (.tup [.agg [.int .i64 (n : Int), .int .i64 (Q : Int), .ints (.own 112002 tB) .u64 (Rf n Q l m Q 0)], .int .i64 (0 : Int)]) else some (Aos 2) := by
  intro cnt
  induction cnt with
  | zero =>
    intro j F hj hF
    obtain ⟨F, rfl⟩ : ∃ G, F = G + 1 := ⟨F - 1, by omega⟩
    obtain rfl : j = Q := by omega
    have h36 := Nat.mul_le_mul n6 q6
    rw [solve.Bt.Up.As, Ar, As7 (by omega), As6, Ik (Akl _ _) (by rw [Sr]; omega), As2]
    cases Dl (Rf n j l m j 0) <;> rfl
  | succ cnt ih =>
    intro j F hj hF
    obtain ⟨F, rfl⟩ : ∃ G, F = G + 1 := ⟨F - 1, by omega⟩
    have hr := An1 N n6 q6 hN hl hm al am (show j < Q by omega) F n 0 N (by omega) (by omega)
    rw [Ack] at hr
    rw [solve.Bt.Up.As, Ar, As3 (show (j : Int) < (Q : Int) by omega), As2]
    exact hr.trans (ih (j + 1) F (by omega) (by omega))
end
theorem solve.Bt.Up.known : solve.Bt.Up.Kn := solve.Bt.Up.Ac (.cons Alh.known (.cons Aa.Bz.own.known (.cons solve.Ef.known (.cons Ae.Div.known (.cons Ae.Finite.known (.cons Ae.Mul.known (.cons Ae.Sub.known .nil))))))) fun r c l p q m n hp => by
  show ∃ N dv drops, _ = some dv ∧ Wk drops dv (W7 (Lt r q (upG c l q m (Int.toNat r) (Int.toNat q))))
  obtain ⟨h1, hn⟩ := Ad.1 (show (Aat r c l p q m && decide (n = r)) = true from hp)
  obtain ⟨h2, h3⟩ := Ad.1 h1
  obtain ⟨hr, hm⟩ := Ad.1 h2
  obtain ⟨h4, h5⟩ := Ad.1 h3
  obtain ⟨al, am⟩ := Ad.1 h4
  obtain ⟨rfl, rfl⟩ := Av.1 h5
  obtain rfl := of_decide_eq_true hn
  have s1 := (Ja hr).1
  have s2 := (Ja hm).2
  obtain ⟨R, C, rfl, hC, r6, c6, hl⟩ := C0 hr
  obtain ⟨P, Q, hP, rfl, p6, q6, hl2⟩ := C0 hm
  obtain rfl : R = C := by omega
  obtain rfl : R = P := by omega
  have h := An2 (n := R) (Q := Q) (l := l) (m := m) 8 r6 q6 (by omega) hl hl2 al am Q 0 8 (by omega) (by omega)
  rw [Acj, Agv, show ((0 : Nat) : Int) = 0 from rfl] at h
  rw [As4, As4]
  unfold Lt
  cases hf : Dl (upG (R : Int) l (Q : Int) m R Q) with
  | true =>
    rw [hf, As2] at h
    rw [if_pos rfl]
    refine ⟨8, .tup [.agg [.int .i64 (R : Int), .int .i64 (Q : Int), .ints (.own 112002 tB) .u64 (upG (R : Int) l (Q : Int) m R Q)], .int .i64 0], [112002], ?_, Wk.Gm (.cons (Ae4 (List.mem_singleton.2 rfl)) (.cons .int .nil))⟩
    rw [solve.Bt.Up.ev, s1, s2, As8, As2, As4, As4]
    exact h
  | false =>
    rw [hf, As6] at h
    rw [if_neg (by decide)]
    refine ⟨8, Aos 2, [], ?_, L8⟩
    rw [solve.Bt.Up.ev, s1, s2, As8, As2, As4, As4]
    exact h
namespace EqFew
theorem E3 : ∀ a b : Bool, (bif a then b else false) = (a && b) := by decide
theorem Jn : ∀ a : Bool, (((!a) || (a == true)) && true) = true := by decide
theorem Iw : ∀ a : Bool, ((!(a == true)) || ((((!(a == true)) || (a == true)) && (((!(a == true)) || (a == true)) && true)) && true)) = true := by decide
theorem Ia : ∀ a : Bool, ((!(a == true)) || ((((!(a == true)) || (a == true)) && true) && true)) = true := by decide
theorem Gd : ∀ a : Bool, ((!(a == true)) || true) = true := by decide
theorem Jg : ∀ a b : Bool, (bif (!a) then true else (!b)) = ((!a) || (!b)) := by decide
theorem Ld : ∀ a : Bool, ((!(!(!a))) || ((!a) == false)) = true := by decide
theorem Lx : ∀ a : Bool, ((!((!a) == false)) || ((((!((!a) == false)) || ((!a) == false)) && true) && true)) = true := by decide
theorem Pm : ∀ a b : Bool, ((!((!a) == false)) || ((((!((!a) == false)) || ((!a) == false)) && true) && b)) = ((!a) || b) := by decide
theorem Sp : ∀ a : Bool, ((!((!a) == false)) || true) = true := by decide
theorem Hx : ∀ a : Bool, (a && true) = a := by decide
theorem I1 : ∀ a b : Bool, (bif a then true else b) = (a || b) := by decide
theorem J9 : ∀ a : Bool, ((!(!a)) || (a == false)) = true := by decide
theorem Mr : ∀ a : Bool, ((!(a == false)) || ((((!(a == false)) || (a == false)) && (((!(a == false)) || (a == false)) && true)) && true)) = true := by decide
theorem Oi : ∀ a : Bool, ((!(a == false)) || ((((!(a == false)) || (a == false)) && true) && true)) = true := by decide
theorem Jh : ∀ a : Bool, ((!(a == false)) || true) = true := by decide
def qr.Fc.A7 : List (Nat × Entry) := [(123, Aa.Mul.spec), (167, Aa.Cl.spec)]
def qr.Fc.E : Env := Bb (A5 qr.Fc.A7) (fun _ => false) (fun _ => none) (fun _ => none)
theorem qr.Fc.ev (N : Nat) (r c : Int) (l : List Int) (p q : Int) (m : List Int) : Bx qr.Fc.E N Tryz.f98 (An Tryz.f98) [.agg [.int .i64 r, .int .i64 c, .ints .arg .u64 l], .agg [.int .i64 p, .int .i64 q, .ints .arg .u64 m]] = bif (((Ft r c l).2.2.2) != (0 : Int)) then some (.tup [.agg [.int .i64 0, .int .i64 0, .nil], .int .i64 ((Ft r c l).2.2.2)]) else bif (Al ((Ft r c l).2.2.1) && Al m) then some (.tup [.agg [.int .i64 ((Tm ((Ft r c l).1) ((Ft r c l).2.1) ((Ft r c l).2.2.1) p q m).1), .int .i64 ((Tm ((Ft r c l).1) ((Ft r c l).2.1) ((Ft r c l).2.2.1) p q m).2.1), .ints .fresh .u64 ((Tm ((Ft r c l).1) ((Ft r c l).2.1) ((Ft r c l).2.2.1) p q m).2.2.1)], .int .i64 ((Tm ((Ft r c l).1) ((Ft r c l).2.1) ((Ft r c l).2.2.1) p q m).2.2.2)]) else none := by kernel_rfl
abbrev _root_.Go.Proofs.S1.qr.Fc.Kn := A3 Tryz.prog 98 qr.Fc.spec
theorem qr.Fc.Ac (hk : Ay Tryz.prog qr.Fc.A7) (h : ∀ (r c : Int) (l : List Int) (p q : Int) (m : List Int), qr.Fc.pre [.i r, .i c, .l l, .i p, .i q, .l m] = true → Bc qr.Fc.E Tryz.f98 [.agg [.int .i64 r, .int .i64 c, .ints .arg .u64 l], .agg [.int .i64 p, .int .i64 q, .ints .arg .u64 m]] (qr.Fc.out [.i r, .i c, .l l, .i p, .i q, .l m])) : qr.Fc.Kn :=
  Ak (Az hk _ _ _) Tryz.func98 (by kernel_rfl) (by kernel_rfl) h
end EqFew
open EqSol EqFew
theorem W3 {n i : Nat} (h : i < n) : (List.range n).drop i = i :: (List.range n).drop (i + 1) := by
  rw [List.drop_eq_getElem_cons (by rw [List.length_range]; exact h), List.getElem_range]
theorem J1 {r c : Int} {l : List Int} (h : C5 r c l = 0) : A9 r c l = true ∧ Dl l = true := by
  unfold C5 at h
  by_cases h1 : A9 r c l = true
  · rw [if_pos h1] at h
    by_cases h2 : Dl l = true
    · exact ⟨h1, h2⟩
    · rw [if_neg h2] at h; exact absurd h (by decide)
  · rw [if_neg h1] at h; exact absurd h (by decide)
theorem Anc {r c : Int} {l : List Int} (h1 : A9 r c l = true) (h2 : Dl l = true) : C5 r c l = 0 := by unfold C5; rw [if_pos h1, if_pos h2]
theorem neI {x : Int} (h : x ≠ 0) : (x != (0 : Int)) = true := by simpa using h
theorem Jk {x : Int} (h : x = 0) : (x != (0 : Int)) = false := by rw [h]; rfl
theorem Agh (N : Nat) {n : Nat} {l : List Int} (n6 : n ≤ 6) (hl : l.length = n * n) (al : Al l = true) : ∀ (cnt i F : Nat), i + cnt = n → cnt < F →
    solve.check.L0 (N + 4) F (n : Int) (n : Int) l (i : Int) = some (.int .i64 (if ((List.range n).drop i).any (fun i : Nat => decide (Bd (D0 (n : Int) l (i : Int) (i : Int)) = 0)) = true then 5 else 0)) := by
  intro cnt
  induction cnt with
  | zero =>
    intro i F hi hF
    obtain ⟨F, rfl⟩ : ∃ G, F = G + 1 := ⟨F - 1, by omega⟩
    rw [solve.check.As, Ar, As7 (by omega), As6, Atg (by rw [List.length_range]; omega)]; rfl
  | succ cnt ih =>
    intro i F hi hF
    obtain ⟨F, rfl⟩ : ∃ G, F = G + 1 := ⟨F - 1, by omega⟩
    obtain ⟨e1, g1, g2⟩ := Kp (R := (n : Int)) (Di n6 n6 hl (show i < n by omega) (show i < n by omega))
    have hx : List.getD l (Int.toNat ((i : Int) * (n : Int) + (i : Int))) 0 = D0 (n : Int) l (i : Int) (i : Int) := rfl
    rw [solve.check.As, Ar, As3 (show (i : Int) < (n : Int) by omega), As2, e1, As3 g1, As3 g2, As8, As2, hx, H6 al, As2, W3 (by omega), List.any_cons]
    by_cases hk : Bd (D0 (n : Int) l (i : Int) (i : Int)) = 0
    · have e : (Bd (D0 (n : Int) l (i : Int) (i : Int)) == (0 : Int)) = true := by rw [hk]; rfl
      rw [e, As2, As3 hk]; rfl
    · have e : (Bd (D0 (n : Int) l (i : Int) (i : Int)) == (0 : Int)) = false := by simpa using hk
      rw [e, As6, As7 hk, Bool.false_or, Am (by omega) (by omega)]
      exact ih (i + 1) F (by omega) (by omega)
theorem Ap5 {r c p : Int} : ((r != c) || (r != p)) = decide (r ≠ c ∨ r ≠ p) := by
  rw [Ati]; simp
theorem solve.check.known : solve.check.Kn := solve.check.Ac (.cons Cs.Check.known (.cons soft.Kind.known .nil)) fun r c l p q m hp => by
  obtain ⟨al, am⟩ := Ad.1 (show (Al l && Al m) = true from hp)
  refine ⟨14, solve.check.out [.i r, .i c, .l l, .i p, .i q, .l m], [], ?_, .int⟩
  show _ = some (DV.int .i64 (Qf r c l p q m))
  rw [show (14 : Nat) = 10 + 4 from rfl, solve.check.ev, al, As2, am, As2, Ap5]
  unfold Qf
  by_cases h1 : C5 r c l = 0
  · rw [Jk h1, As6, if_neg (by rw [h1]; decide)]
    by_cases h2 : C5 p q m = 0
    · rw [Jk h2, As6, if_neg (by rw [h2]; decide)]
      by_cases h3 : r ≠ c ∨ r ≠ p
      · rw [As3 h3, As2, if_pos h3]
      · rw [As7 h3, As6, if_neg h3]
        obtain rfl : r = c := Decidable.byContradiction fun h => h3 (.inl h)
        obtain ⟨R, C, rfl, hC, r6, c6, hl⟩ := C0 (J1 h1).1
        obtain rfl : R = C := by omega
        rw [As4]
        exact Agh 10 r6 hl al R 0 14 (by omega) (by omega)
    · rw [neI h2, As2, if_pos h2]
  · rw [neI h1, As2, if_pos h1]
theorem U3 {r c : Int} {l : List Int} {p q : Int} {m : List Int} (h : Qf r c l p q m = 0) : A9 r c l = true ∧ A9 p q m = true ∧ r = c ∧ r = p := by
  unfold Qf at h
  by_cases h1 : C5 r c l = 0
  · rw [if_neg (by rw [h1]; decide)] at h
    by_cases h2 : C5 p q m = 0
    · rw [if_neg (by rw [h2]; decide)] at h
      by_cases h3 : r ≠ c ∨ r ≠ p
      · rw [if_pos h3] at h; exact absurd h (by decide)
      · exact ⟨(J1 h1).1, (J1 h2).1, Decidable.byContradiction fun h => h3 (.inl h), Decidable.byContradiction fun h => h3 (.inr h)⟩
    · rw [if_pos h2] at h; exact absurd h h2
  · rw [if_pos h1] at h; exact absurd h h1
theorem solve.Cj.known : solve.Cj.Kn := solve.Cj.Ac (.cons solve.check.known (.cons solve.Bt.Up.known .nil)) fun r c l p q m hp => by
  have hp : (Al l && Al m) = true := hp
  show ∃ N dv drops, _ = some dv ∧ Wk drops dv (W7 (Wh r c l p q m))
  unfold Wh
  by_cases h : Qf r c l p q m = 0
  · obtain ⟨h1, h2, h3, h4⟩ := U3 h
    have ht : Aat r c l p q m = true := Ad.2 ⟨Ad.2 ⟨h1, h2⟩, Ad.2 ⟨hp, Av.2 ⟨h3, h4⟩⟩⟩
    rw [if_neg (by rw [h]; decide)]
    exact ⟨0, _, [], by rw [solve.Cj.ev, hp, As2, Jk h, As6, ht, As3 rfl]; rfl, Ry⟩
  · rw [if_pos h]
    exact ⟨0, _, [], by rw [solve.Cj.ev, hp, As2, neI h, As2]; rfl, L8⟩
theorem Ak1 {b : Nat} {n : Int} (h : b < 2 ^ 64) : (F1 b n).1 < 2 ^ 64 := by
  unfold F1
  by_cases h4 : Aj b = 4
  · rw [if_pos h4]; exact (by decide : Ph < 2 ^ 64)
  rw [if_neg h4]
  by_cases h3 : Aj b = 3 ∨ Aj b = 0
  · rw [if_pos h3]; exact h
  rw [if_neg h3]
  exact Sy _ _ _
theorem G9 {b n : Int} (h : Ag b = true) : Ag (Bu b n) = true := by
  obtain ⟨x, rfl, hx⟩ := Bj h
  exact B7 (Ak1 (by rw [As4]; exact hx))
theorem Yl : ∀ (l : List Int) (m : Nat), m < 2 ^ 64 → Ym l m < 2 ^ 64
  | [], m, h => h
  | x :: l, m, h => by
    unfold Ym
    split
    · exact (by decide : Ph < 2 ^ 64)
    · have h2 : Gl x.toNat < 2 ^ 63 := Aam x.toNat
      exact Yl l _ (by omega)
theorem Nl (l : List Int) : Ag (Be l) = true := B7 (Yl l 0 (by decide))
theorem Sb (x : Int) : Ag (Ir x) = true := B7 (Nat.lt_trans (Aam x.toNat) (by decide))
theorem Ajm (N : Nat) {d : List Int} (hd : Cp d = true) (h7 : d.length ≤ 1000) : ∀ (cnt i F : Nat), i + cnt = d.length → cnt < F →
    solve.Flat.L1 N F d (i : Int) = some (.tup [.bool ((d.drop i).any fun x => !(decide (R4 (Bu (Be d) (-40)) x < 0))), .int .i64 0]) := by
  obtain ⟨_, hu⟩ := Hj hd
  intro cnt
  induction cnt with
  | zero =>
    intro i F hi hF
    obtain ⟨F, rfl⟩ : ∃ G, F = G + 1 := ⟨F - 1, by omega⟩
    rw [solve.Flat.B5, Ar, As7 (by omega), As6, Atg (by omega)]; rfl
  | succ cnt ih =>
    intro i F hi hF
    obtain ⟨F, rfl⟩ : ∃ G, F = G + 1 := ⟨F - 1, by omega⟩
    rw [solve.Flat.B5, Ar, As3 (show (i : Int) < (d.length : Int) by omega), As2, As3 (show (0 : Int) ≤ (i : Int) by omega), As8, As2, As4, As3 (show i < d.length by omega), As2,
      G9 (Nl d), hu i (by omega), As8, As2, Gj (by omega), List.any_cons]
    cases decide (R4 (Bu (Be d) (-40)) (d.getD i 0) < 0) with
    | false => rfl
    | true =>
      rw [Bool.not_true, As6, Bool.false_or, Am (by omega) (by omega)]
      exact ih (i + 1) F (by omega) (by omega)
theorem Apj (c : Int) (l : List Int) (n : Nat) : Al (J8 c l n) = true := Av.2 fun x hx => by
  obtain ⟨j, _, rfl⟩ := List.mem_map.1 hx
  exact Sb _
theorem H5 (c : Int) (l : List Int) (n : Nat) : (J8 c l n).length = n := by unfold J8; rw [List.length_map, List.length_range]
theorem Ajn (N : Nat) {R C : Nat} {l : List Int} (r6 : R ≤ 6) (c6 : C ≤ 6) (hN : 7 < N) (hl : l.length = R * C) (al : Al l = true) : ∀ (cnt i F : Nat), i + cnt = min R C → cnt < F →
    solve.Flat.L0 N F (R : Int) (C : Int) l (i : Int) (J8 (C : Int) l i) = some (.tup [.bool (Amq (J8 (C : Int) l (min R C))), .int .i64 0]) := by
  intro cnt
  induction cnt with
  | zero =>
    intro i F hi hF
    obtain ⟨F, rfl⟩ : ∃ G, F = G + 1 := ⟨F - 1, by omega⟩
    obtain rfl : i = min R C := by omega
    have hlt : (A4 (((min R C : Nat)) : Int) (R : Int) && A4 (((min R C : Nat)) : Int) (C : Int)) = false := by
      rw [Ar, Ar, Bool.and_eq_false_iff, Atl, Atl]; omega
    have ok := Ik (Apj (C : Int) l (min R C)) (by rw [H5]; omega)
    have sp : C4 (Be (J8 (C : Int) l (min R C))) (-40 : Int) = true := Ad.2 ⟨Nl _, Av.2 (by omega)⟩
    rw [solve.Flat.As, hlt, As6, ok, As2, sp, As2]
    exact Ajm N ok (by rw [H5]; omega) (min R C) 0 N (by rw [H5]; omega) (by omega)
  | succ cnt ih =>
    intro i F hi hF
    obtain ⟨F, rfl⟩ : ∃ G, F = G + 1 := ⟨F - 1, by omega⟩
    obtain ⟨e1, g1, g2⟩ := Kp (R := (R : Int)) (Di r6 c6 hl (show i < R by omega) (show i < C by omega))
    have hx : List.getD l (Int.toNat ((i : Int) * (C : Int) + (i : Int))) 0 = D0 (C : Int) l (i : Int) (i : Int) := rfl
    rw [solve.Flat.As, Ar, Ar, As3 (show (i : Int) < (R : Int) by omega), As3 (show (i : Int) < (C : Int) by omega), As8, As2, e1, As3 g1, As3 g2, As8, As2, hx, H6 al, As2,
      H5, As3 (show i + 1 ≤ Hc by unfold Hc; omega), As2, Am (by omega) (by omega)]
    have := ih (i + 1) F (by omega) (by omega)
    unfold J8 at this ⊢
    rw [Io] at this
    exact this
theorem solve.Flat.known : solve.Flat.Kn := solve.Flat.Ac (.cons Cs.Check.known (.cons compare.G6.known (.cons compare.Lv.known (.cons Ae.Bm.known (.cons Ae.Bp.known .nil))))) fun r c l hp => by
  have hp : Al l = true := hp
  refine ⟨8, solve.Flat.out [.i r, .i c, .l l], [], ?_, Wk.Gm (.cons .bool (.cons .int .nil))⟩
  show _ = some (DV.tup [.bool (P7 r c l).1, .int .i64 (P7 r c l).2])
  rw [solve.Flat.ev, hp, As2]
  unfold P7 P8
  by_cases h1 : C5 r c l = 0
  · obtain ⟨R, C, rfl, rfl, r6, c6, hl⟩ := C0 (J1 h1).1
    rw [Jk h1, As6, if_neg (by rw [h1]; decide), As4, As4]
    exact Ajn 8 r6 c6 (by omega) hl hp (min R C) 0 8 (by omega) (by omega)
  · rw [neI h1, As2, if_pos h1]
theorem Aha {r c : Int} {l : List Int} (al : Al l = true) (x y a b : Int) : Al (Jb r c l x y a b).2.2.1 = true := by
  unfold Jb
  split
  · split
    · dsimp only
      exact Jv fun i k => H6 al
    · exact Av.2 fun x h => by cases h
  · exact Av.2 fun x h => by cases h
theorem An5 {r c : Int} {l : List Int} (al : Al l = true) : Al (Ft r c l).2.2.1 = true := by
  unfold Ft
  split
  · dsimp only
    exact Jv fun i k => H6 al
  · exact Av.2 fun x h => by cases h
theorem T4 (x y : List Int) : Ag (It x y) = true := B7 (Abw x y 0 (by decide))
theorem Aou (r c : Int) (l : List Int) (p q : Int) (m : List Int) : Al (Tm r c l p q m).2.2.1 = true := by
  unfold Tm
  split
  · split
    · dsimp only
      exact Jv fun i k => T4 _ _
    · exact Av.2 fun x h => by cases h
  · exact Av.2 fun x h => by cases h
theorem Ah7 (r c : Int) (l : List Int) (p q : Int) (m : List Int) : Al (Dj r c l p q m).2.2.1 = true := by
  unfold Dj
  split
  · exact Av.2 fun x h => by cases h
  · exact Aou _ _ _ _ _ _
theorem qr.Fc.known : qr.Fc.Kn := qr.Fc.Ac (.cons Aa.Mul.known (.cons Aa.Cl.known .nil)) fun r c l p q m hp => by
  obtain ⟨al, am⟩ := Ad.1 (show (Al l && Al m) = true from hp)
  show ∃ N dv drops, _ = some dv ∧ Wk drops dv (W7 (Dj r c l p q m))
  unfold Dj
  by_cases h : (Ft r c l).2.2.2 = 0
  · rw [if_neg (by rw [h]; decide)]
    exact ⟨0, _, [], by rw [qr.Fc.ev, Jk h, As6, An5 al, am]; rfl, Ry⟩
  · rw [if_pos h]
    exact ⟨0, _, [], by rw [qr.Fc.ev, neI h, As2]; rfl, L8⟩
namespace EqQr
theorem E3 : ∀ a b : Bool, (bif a then b else false) = (a && b) := by decide
theorem Jn : ∀ a : Bool, (((!a) || (a == true)) && true) = true := by decide
theorem Iw : ∀ a : Bool, ((!(a == true)) || ((((!(a == true)) || (a == true)) && (((!(a == true)) || (a == true)) && true)) && true)) = true := by decide
theorem Ia : ∀ a : Bool, ((!(a == true)) || ((((!(a == true)) || (a == true)) && true) && true)) = true := by decide
theorem Gd : ∀ a : Bool, ((!(a == true)) || true) = true := by decide
theorem Jg : ∀ a b : Bool, (bif (!a) then true else (!b)) = ((!a) || (!b)) := by decide
theorem Ld : ∀ a : Bool, ((!(!(!a))) || ((!a) == false)) = true := by decide
theorem Lx : ∀ a : Bool, ((!((!a) == false)) || ((((!((!a) == false)) || ((!a) == false)) && true) && true)) = true := by decide
theorem Pm : ∀ a b : Bool, ((!((!a) == false)) || ((((!((!a) == false)) || ((!a) == false)) && true) && b)) = ((!a) || b) := by decide
theorem Sp : ∀ a : Bool, ((!((!a) == false)) || true) = true := by decide
theorem Hx : ∀ a : Bool, (a && true) = a := by decide
theorem I1 : ∀ a b : Bool, ((a && b) && true) = (a && b) := by decide
theorem J9 : ∀ a b : Bool, (bif a then true else b) = (a || b) := by decide
theorem Mr : ∀ a : Bool, ((!(!a)) || (a == false)) = true := by decide
theorem Oi : ∀ a : Bool, ((!(a == false)) || ((((!(a == false)) || (a == false)) && (((!(a == false)) || (a == false)) && true)) && true)) = true := by decide
theorem Jh : ∀ a : Bool, ((!(a == false)) || ((((!(a == false)) || (a == false)) && true) && true)) = true := by decide
theorem Pn : ∀ a : Bool, ((!(a == false)) || true) = true := by decide
def qr.down.hint : Nat → Option Ba
  | 0 => some { keep := [1, 2, 5, 6, 7], objs := [(0, 6, 100006, .recs 214 2 []), (6, 2, 106002, .ints 37 .u64 [])], boxes := [1, 2, 5] }
  | 2 => some { keep := [1, 2, 5, 6, 7, 8, 9, 12], objs := [(6, 2, 106002, .ints 37 .u64 []), (0, 6, 100006, .recs 214 2 [])], boxes := [1, 2, 5] }
  | _ => none
def qr.down.A7 : List (Nat × Entry) := [(219, Aq.Apply.spec), (245, Aq.Df.spec), (191, Aa.Dr.spec)]
def qr.down.E : Env := Bb (A5 qr.down.A7) (fun n => Nat.beq n 46) qr.down.hint (fun _ => none)
def qr.down.L0 (N M0 M : Nat) (r c : Int) (l : List Int) (p12_1 : Int) (p2_1 : List Int) (p7_1 : Int) (p8 : List Int) (p9 : Int) (p6_1 : List (List DV)) : Option DV := B0 qr.down.E N Tryz.f217 (An Tryz.f217) [1, 1, 1, 0, 1, 0, 0, 1, 0, 0, 1, 1, 1, 1, 0, 1, 0] [M0] M ⟨F7 88 [(1, .ptr 1 0 0), (2, .ptr 2 0 0), (5, .ptr 5 0 0), (6, .oref 100006), (7, .int .i64 p7_1), (8, .ints .fresh .u64 p8), (9, .int .u64 p9), (12, .int .i64 p12_1)], [(1, false, .box [.int .i64 r, .int .i64 c, .ints .arg .u64 l]), (2, false, .box [.int .i64 0, .int .i64 0, .nil]), (5, false, .box [.int .i64 r, .int .i64 c, .oref 106002]), (106002, false, .ints 37 .u64 p2_1), (100006, false, .recs 214 2 p6_1)]⟩
def qr.down.L1 (N M : Nat) (r c : Int) (l : List Int) (p7 : Int) (p6 : List (List DV)) (p2_2 : List Int) : Option DV := B0 qr.down.E N Tryz.f217 (An Tryz.f217) [1, 1, 1, 0, 1, 0] [] M ⟨F7 88 [(1, .ptr 1 0 0), (2, .ptr 2 0 0), (5, .ptr 5 0 0), (6, .oref 100006), (7, .int .i64 p7)], [(1, false, .box [.int .i64 r, .int .i64 c, .ints .arg .u64 l]), (2, false, .box [.int .i64 0, .int .i64 0, .nil]), (5, false, .box [.int .i64 r, .int .i64 c, .oref 106002]), (100006, false, .recs 214 2 p6), (106002, false, .ints 37 .u64 p2_2)]⟩
def qr.down.L2 (N M : Nat) (r c : Int) (l : List Int) : Option DV := B0 qr.down.E N Tryz.f217 (An Tryz.f217) [1, 1, 1, 0, 1, 0] [] M ⟨F7 88 [(1, .ptr 1 0 0), (2, .ptr 2 0 0), (5, .ptr 5 0 0), (6, .oref 100006), (7, .int .i64 0)], [(1, false, .box [.int .i64 r, .int .i64 c, .ints .arg .u64 l]), (2, false, .box [.int .i64 0, .int .i64 0, .nil]), (5, false, .box [.int .i64 r, .int .i64 c, .ints .arg .u64 l]), (100006, false, .recs 214 2 [])]⟩
theorem qr.down.As (N M0 M : Nat) (r c : Int) (l : List Int) (p12_1 : Int) (p2_1 : List Int) (p7_1 : Int) (p8 : List Int) (p9 : Int) (p6_1 : List (List DV)) : qr.down.L0 N M0 (M + 1) r c l p12_1 p2_1 p7_1 p8 p9 p6_1 = bif (A4 p12_1 r) then bif ((decide (0 ≤ (Ab ((Ab (p12_1 * c)) + p7_1)))) && (decide ((Ab ((Ab (p12_1 * c)) + p7_1)) < (List.length p2_1 : Int)))) then bif (decide ((Int.toNat (Ab ((Ab (p12_1 * c)) + p7_1))) < (List.length p2_1))) then qr.down.L0 N M0 M r c l (Ab (p12_1 + (1 : Int))) (List.set p2_1 (Int.toNat (Ab ((Ab (p12_1 * c)) + p7_1))) (0 : Int)) p7_1 p8 p9 p6_1 else none else none else bif (decide ((List.length p6_1) + 1 ≤ Adw)) then qr.down.L1 N M0 r c l (Ab (p7_1 + (1 : Int))) (p6_1 ++ [[.ints .arg .u64 p8, .int .u64 p9]]) p2_1 else none := by kernel_rfl
theorem qr.down.B5 (N M : Nat) (r c : Int) (l : List Int) (p7 : Int) (p6 : List (List DV)) (p2_2 : List Int) : qr.down.L1 N (M + 1) r c l p7 p6 p2_2 = bif ((A4 p7 c) && (A4 p7 (Ab (r - (1 : Int))))) then bif (Gk r c p2_2 p7 && C3 (0 ≤ p7 ∧ p7 ≤ r)) then bif (Cp (Cn c p2_2 p7 p7 (Int.toNat (r - p7)))) then bif (((Ce (Cn c p2_2 p7 p7 (Int.toNat (r - p7)))).2.2.2) != (0 : Int)) then some (.tup [.agg [.int .i64 0, .int .i64 0, .nil], .nil, .int .i64 2]) else bif (((A9 r c p2_2 && G2 r c p7 p7 ((Ce (Cn c p2_2 p7 p7 (Int.toNat (r - p7)))).1)) && (Al p2_2 && Al ((Ce (Cn c p2_2 p7 p7 (Int.toNat (r - p7)))).1))) && Ag ((Ce (Cn c p2_2 p7 p7 (Int.toNat (r - p7)))).2.1)) then bif ((decide (0 ≤ (Ab ((Ab (p7 * c)) + p7)))) && (decide ((Ab ((Ab (p7 * c)) + p7)) < (List.length (Et (Int.toNat r) (Int.toNat c) p2_2 p7 p7 ((Ce (Cn c p2_2 p7 p7 (Int.toNat (r - p7)))).1) ((Ce (Cn c p2_2 p7 p7 (Int.toNat (r - p7)))).2.1)) : Int)))) then bif (decide ((Int.toNat (Ab ((Ab (p7 * c)) + p7))) < (List.length (Et (Int.toNat r) (Int.toNat c) p2_2 p7 p7 ((Ce (Cn c p2_2 p7 p7 (Int.toNat (r - p7)))).1) ((Ce (Cn c p2_2 p7 p7 (Int.toNat (r - p7)))).2.1))))) then qr.down.L0 N M N r c l (Ab (p7 + (1 : Int))) (List.set (Et (Int.toNat r) (Int.toNat c) p2_2 p7 p7 ((Ce (Cn c p2_2 p7 p7 (Int.toNat (r - p7)))).1) ((Ce (Cn c p2_2 p7 p7 (Int.toNat (r - p7)))).2.1)) (Int.toNat (Ab ((Ab (p7 * c)) + p7))) ((Ce (Cn c p2_2 p7 p7 (Int.toNat (r - p7)))).2.2.1)) p7 ((Ce (Cn c p2_2 p7 p7 (Int.toNat (r - p7)))).1) ((Ce (Cn c p2_2 p7 p7 (Int.toNat (r - p7)))).2.1) p6 else none else none else none else none else none else some (.tup [.agg [.int .i64 r, .int .i64 c, .ints (.own 106002 37) .u64 p2_2], .recs (.own 100006 214) 2 p6, .int .i64 0]) :=
  Eq.trans (by kernel_rfl)
  (Ax (Gd (A4 p7 c)) (Ax (Gd (A4 p7 c)) (Ax (Ia (A4 p7 c)) (Ax (Ia (A4 p7 c)) (Ax (Iw (A4 p7 c)) (Ax (Jn (A4 p7 c)) (Cx (E3 (A4 p7 c) (A4 p7 (Ab (r - (1 : Int))))) rfl rfl)))))))
theorem qr.down.G5 (N M : Nat) (r c : Int) (l : List Int) : qr.down.L2 N (M + 1) r c l = bif ((A4 (0 : Int) c) && (A4 (0 : Int) (Ab (r - (1 : Int))))) then bif (Gk r c l (0 : Int) && C3 (0 ≤ (0 : Int) ∧ (0 : Int) ≤ r)) then bif (Cp (Cn c l (0 : Int) (0 : Int) (Int.toNat (r - (0 : Int))))) then bif (((Ce (Cn c l (0 : Int) (0 : Int) (Int.toNat (r - (0 : Int))))).2.2.2) != (0 : Int)) then some (.tup [.agg [.int .i64 0, .int .i64 0, .nil], .nil, .int .i64 2]) else bif (((A9 r c l && G2 r c (0 : Int) (0 : Int) ((Ce (Cn c l (0 : Int) (0 : Int) (Int.toNat (r - (0 : Int))))).1)) && (Al l && Al ((Ce (Cn c l (0 : Int) (0 : Int) (Int.toNat (r - (0 : Int))))).1))) && Ag ((Ce (Cn c l (0 : Int) (0 : Int) (Int.toNat (r - (0 : Int))))).2.1)) then bif ((decide (0 ≤ (Ab ((Ab ((0 : Int) * c)) + (0 : Int))))) && (decide ((Ab ((Ab ((0 : Int) * c)) + (0 : Int))) < (List.length (Et (Int.toNat r) (Int.toNat c) l (0 : Int) (0 : Int) ((Ce (Cn c l (0 : Int) (0 : Int) (Int.toNat (r - (0 : Int))))).1) ((Ce (Cn c l (0 : Int) (0 : Int) (Int.toNat (r - (0 : Int))))).2.1)) : Int)))) then bif (decide ((Int.toNat (Ab ((Ab ((0 : Int) * c)) + (0 : Int)))) < (List.length (Et (Int.toNat r) (Int.toNat c) l (0 : Int) (0 : Int) ((Ce (Cn c l (0 : Int) (0 : Int) (Int.toNat (r - (0 : Int))))).1) ((Ce (Cn c l (0 : Int) (0 : Int) (Int.toNat (r - (0 : Int))))).2.1))))) then qr.down.L0 N M N r c l (1 : Int) (List.set (Et (Int.toNat r) (Int.toNat c) l (0 : Int) (0 : Int) ((Ce (Cn c l (0 : Int) (0 : Int) (Int.toNat (r - (0 : Int))))).1) ((Ce (Cn c l (0 : Int) (0 : Int) (Int.toNat (r - (0 : Int))))).2.1)) (Int.toNat (Ab ((Ab ((0 : Int) * c)) + (0 : Int)))) ((Ce (Cn c l (0 : Int) (0 : Int) (Int.toNat (r - (0 : Int))))).2.2.1)) (0 : Int) ((Ce (Cn c l (0 : Int) (0 : Int) (Int.toNat (r - (0 : Int))))).1) ((Ce (Cn c l (0 : Int) (0 : Int) (Int.toNat (r - (0 : Int))))).2.1) [] else none else none else none else none else none else some (.tup [.agg [.int .i64 r, .int .i64 c, .ints .arg .u64 l], .recs (.own 100006 214) 2 [], .int .i64 0]) :=
  Eq.trans (by kernel_rfl)
  (Ax (Gd (A4 (0 : Int) c)) (Ax (Gd (A4 (0 : Int) c)) (Ax (Ia (A4 (0 : Int) c)) (Ax (Ia (A4 (0 : Int) c)) (Ax (Iw (A4 (0 : Int) c)) (Ax (Jn (A4 (0 : Int) c)) (Cx (E3 (A4 (0 : Int) c) (A4 (0 : Int) (Ab (r - (1 : Int))))) rfl rfl)))))))
theorem qr.down.ev (N : Nat) (r c : Int) (l : List Int) : Bx qr.down.E N Tryz.f217 (An Tryz.f217) [.agg [.int .i64 r, .int .i64 c, .ints .arg .u64 l]] =
  qr.down.L2 N N r c l := by kernel_rfl
abbrev _root_.Go.Proofs.S1.qr.down.Kn := A3 Tryz.prog 217 qr.down.spec
theorem qr.down.Ac (hk : Ay Tryz.prog qr.down.A7) (h : ∀ (r c : Int) (l : List Int), qr.down.pre [.i r, .i c, .l l] = true → Bc qr.down.E Tryz.f217 [.agg [.int .i64 r, .int .i64 c, .ints .arg .u64 l]] (qr.down.out [.i r, .i c, .l l])) : qr.down.Kn :=
  Ak (Az hk _ _ _) Tryz.func217 (by kernel_rfl) (by kernel_rfl) h
def qr.By.hint : Nat → Option Ba
  | 0 => some { keep := [2, 3, 5, 6], objs := [], boxes := [2, 3] }
  | _ => none
def qr.By.A7 : List (Nat × Entry) := [(86, Cs.Check.spec), (219, Aq.Apply.spec), (218, Aa.Eh.spec), (217, qr.down.spec), (150, Ae.Finite.spec)]
def qr.By.E : Env := Uz (A5 qr.By.A7) (fun _ => false) qr.By.hint (fun _ => none) (Aev [(22, [.s .u64]), (37, [.i .u64])])
def qr.By.L0 (N M : Nat) (r c : Int) (l : List Int) (p6 : Int) (p2 : List Int) : Option DV := B0 qr.By.E N Tryz.f166 (An Tryz.f166) [1, 0, 1, 1, 1, 1, 1, 1, 0, 0] [] M ⟨F7 81 [(2, .ptr 2 0 0), (3, .ptr 3 0 0), (5, .recs .fresh 2 (Kf r c ([] ++ l))), (6, .int .i64 p6)], [(2, false, .box [.int .i64 ((Mi r).1), .int .i64 ((Mi r).2.1), .ints .fresh .u64 p2]), (3, false, .box [.int .i64 ((Fo r c ([] ++ l)).1), .int .i64 ((Fo r c ([] ++ l)).2.1), .ints .arg .u64 ((Fo r c ([] ++ l)).2.2.1)])]⟩
theorem qr.By.As (N M : Nat) (r c : Int) (l : List Int) (p6 : Int) (p2 : List Int) : qr.By.L0 N (M + 1) r c l p6 p2 = bif (A4 p6 (0 : Int)) then bif (Cp p2) then bif ((!(Dl p2)) || (Cp ((Fo r c ([] ++ l)).2.2.1))) then bif ((!(Dl p2)) || (!(Dl ((Fo r c ([] ++ l)).2.2.1)))) then some (.tup [.agg [.int .i64 0, .int .i64 0, .nil], .agg [.int .i64 0, .int .i64 0, .nil], .int .i64 2]) else some (.tup [.agg [.int .i64 ((Mi r).1), .int .i64 ((Mi r).2.1), .ints .fresh .u64 p2], .agg [.int .i64 ((Fo r c ([] ++ l)).1), .int .i64 ((Fo r c ([] ++ l)).2.1), .ints .arg .u64 ((Fo r c ([] ++ l)).2.2.1)], .int .i64 0]) else none else none else bif ((decide (0 ≤ p6)) && (decide (p6 < (List.length (Kf r c ([] ++ l)) : Int)))) then bif (isC (.s .u64) (List.getD (List.getD (Kf r c ([] ++ l)) (Int.toNat p6) []) 0 .undef)) then bif ((decide (0 ≤ p6)) && (decide (p6 < (List.length (Kf r c ([] ++ l)) : Int)))) then bif (isC (.i .u64) (List.getD (List.getD (Kf r c ([] ++ l)) (Int.toNat p6) []) 1 .undef)) then bif (((A9 ((Mi r).1) ((Mi r).2.1) p2 && G2 ((Mi r).1) ((Mi r).2.1) p6 (0 : Int) (Lc (List.getD (List.getD (Kf r c ([] ++ l)) (Int.toNat p6) []) 0 .undef))) && (Al p2 && Al (Lc (List.getD (List.getD (Kf r c ([] ++ l)) (Int.toNat p6) []) 0 .undef)))) && Ag (Yc (List.getD (List.getD (Kf r c ([] ++ l)) (Int.toNat p6) []) 1 .undef))) then qr.By.L0 N M r c l (Ab (p6 - (1 : Int))) (Et (Int.toNat ((Mi r).1)) (Int.toNat ((Mi r).2.1)) p2 p6 (0 : Int) (Lc (List.getD (List.getD (Kf r c ([] ++ l)) (Int.toNat p6) []) 0 .undef)) (Yc (List.getD (List.getD (Kf r c ([] ++ l)) (Int.toNat p6) []) 1 .undef))) else none else none else none else none else none :=
  Eq.trans (by kernel_rfl)
  (Ee (Ee (Ax (Sp (Dl p2)) (Ax (Lx (Dl p2)) (Cx (Pm (Dl p2) (Cp ((Fo r c ([] ++ l)).2.2.1))) (Ax (Lx (Dl p2)) (Ax (Ld (Dl p2)) (Cx (Jg (Dl p2) (Dl ((Fo r c ([] ++ l)).2.2.1))) rfl rfl))) rfl))) rfl) (Cx (I1 (decide (0 ≤ p6)) (decide (p6 < (List.length (Kf r c ([] ++ l)) : Int)))) (Cx (Hx (isC (.s .u64) (List.getD (List.getD (Kf r c ([] ++ l)) (Int.toNat p6) []) 0 .undef))) (Cx (I1 (decide (0 ≤ p6)) (decide (p6 < (List.length (Kf r c ([] ++ l)) : Int)))) (Cx (Hx (isC (.i .u64) (List.getD (List.getD (Kf r c ([] ++ l)) (Int.toNat p6) []) 1 .undef))) (Cx (Hx (((A9 ((Mi r).1) ((Mi r).2.1) p2 && G2 ((Mi r).1) ((Mi r).2.1) p6 (0 : Int) (Lc (List.getD (List.getD (Kf r c ([] ++ l)) (Int.toNat p6) []) 0 .undef))) && (Al p2 && Al (Lc (List.getD (List.getD (Kf r c ([] ++ l)) (Int.toNat p6) []) 0 .undef)))) && Ag (Yc (List.getD (List.getD (Kf r c ([] ++ l)) (Int.toNat p6) []) 1 .undef)))) rfl rfl) rfl) rfl) rfl) rfl))
theorem qr.By.ev (N : Nat) (r c : Int) (l : List Int) : Bx qr.By.E N Tryz.f166 (An Tryz.f166) [.agg [.int .i64 r, .int .i64 c, .ints .arg .u64 l]] = bif (Al l) then bif ((C5 r c l) != (0 : Int)) then some (.tup [.agg [.int .i64 0, .int .i64 0, .nil], .agg [.int .i64 0, .int .i64 0, .nil], .int .i64 (C5 r c l)]) else bif (decide (0 + (List.length l) ≤ Hc)) then bif ((A9 r c ([] ++ l) && Dl ([] ++ l)) && Al ([] ++ l)) then bif (((Fo r c ([] ++ l)).2.2.2) != (0 : Int)) then some (.tup [.agg [.int .i64 0, .int .i64 0, .nil], .agg [.int .i64 0, .int .i64 0, .nil], .int .i64 ((Fo r c ([] ++ l)).2.2.2)]) else qr.By.L0 N N r c l (Ab ((List.length (Kf r c ([] ++ l)) : Int) - (1 : Int))) ((Mi r).2.2.1) else none else none else none :=
  Eq.trans (by kernel_rfl)
  (Ee (Ee rfl (Cx (Hx (decide (0 + (List.length l) ≤ Hc))) (Cx (Hx ((A9 r c ([] ++ l) && Dl ([] ++ l)) && Al ([] ++ l))) rfl rfl) rfl)) rfl)
abbrev _root_.Go.Proofs.S1.qr.By.Kn := A3 Tryz.prog 166 qr.By.spec
theorem qr.By.Ac (hk : Ay Tryz.prog qr.By.A7) (h : ∀ (r c : Int) (l : List Int), qr.By.pre [.i r, .i c, .l l] = true → Bc qr.By.E Tryz.f166 [.agg [.int .i64 r, .int .i64 c, .ints .arg .u64 l]] (qr.By.out [.i r, .i c, .l l])) : qr.By.Kn :=
  Ak (Wa hk _ _ _ _) Tryz.func166 (by kernel_rfl) (by kernel_rfl) h
def qr.Fs.A7 : List (Nat × Entry) := [(124, Aa.Part.spec), (166, qr.By.spec)]
def qr.Fs.E : Env := Bb (A5 qr.Fs.A7) (fun _ => false) (fun _ => none) (fun _ => none)
theorem qr.Fs.ev (N : Nat) (r c : Int) (l : List Int) : Bx qr.Fs.E N Tryz.f97 (An Tryz.f97) [.agg [.int .i64 r, .int .i64 c, .ints .arg .u64 l]] = bif (Al l) then bif ((Ez r c l) != (0 : Int)) then some (.tup [.agg [.int .i64 0, .int .i64 0, .nil], .agg [.int .i64 0, .int .i64 0, .nil], .int .i64 (Ez r c l)]) else some (.tup [.agg [.int .i64 ((Jb ((qX r c l).1) ((qX r c l).2.1) ((qX r c l).2.2.1) (0 : Int) (0 : Int) r (min r c)).1), .int .i64 ((Jb ((qX r c l).1) ((qX r c l).2.1) ((qX r c l).2.2.1) (0 : Int) (0 : Int) r (min r c)).2.1), .ints .fresh .u64 ((Jb ((qX r c l).1) ((qX r c l).2.1) ((qX r c l).2.2.1) (0 : Int) (0 : Int) r (min r c)).2.2.1)], .agg [.int .i64 ((Jb ((rX r c l).1) ((rX r c l).2.1) ((rX r c l).2.2.1) (0 : Int) (0 : Int) (min r c) c).1), .int .i64 ((Jb ((rX r c l).1) ((rX r c l).2.1) ((rX r c l).2.2.1) (0 : Int) (0 : Int) (min r c) c).2.1), .ints .fresh .u64 ((Jb ((rX r c l).1) ((rX r c l).2.1) ((rX r c l).2.2.1) (0 : Int) (0 : Int) (min r c) c).2.2.1)], .int .i64 0]) else none := by kernel_rfl
abbrev _root_.Go.Proofs.S1.qr.Fs.Kn := A3 Tryz.prog 97 qr.Fs.spec
theorem qr.Fs.Ac (hk : Ay Tryz.prog qr.Fs.A7) (h : ∀ (r c : Int) (l : List Int), qr.Fs.pre [.i r, .i c, .l l] = true → Bc qr.Fs.E Tryz.f97 [.agg [.int .i64 r, .int .i64 c, .ints .arg .u64 l]] (qr.Fs.out [.i r, .i c, .l l])) : qr.Fs.Kn :=
  Ak (Az hk _ _ _) Tryz.func97 (by kernel_rfl) (by kernel_rfl) h
def solve.Dq.hint : Nat → Option Ba
  | 0 => some { keep := [2, 3, 4, 17, 18], objs := [], boxes := [2, 3, 4] }
  | _ => none
def solve.Dq.A7 : List (Nat × Entry) := [(86, Cs.Check.spec), (97, qr.Fs.spec), (98, qr.Fc.spec), (24, solve.Flat.spec), (36, solve.Cj.spec)]
def solve.Dq.E : Env := Bb (A5 solve.Dq.A7) (fun _ => false) solve.Dq.hint (fun _ => none)
theorem solve.Dq.ev (N : Nat) (r c : Int) (l : List Int) (p q : Int) (m : List Int) : Bx solve.Dq.E (N + 4) Tryz.f30 (An Tryz.f30) [.agg [.int .i64 r, .int .i64 c, .ints .arg .u64 l], .agg [.int .i64 p, .int .i64 q, .ints .arg .u64 m]] = bif (Al l) then bif ((C5 r c l) != (0 : Int)) then some (.tup [.agg [.int .i64 0, .int .i64 0, .nil], .int .i64 (C5 r c l)]) else bif (Al m) then bif ((C5 p q m) != (0 : Int)) then some (.tup [.agg [.int .i64 0, .int .i64 0, .nil], .int .i64 (C5 p q m)]) else bif ((A4 r c) || (r != p)) then some (.tup [.agg [.int .i64 0, .int .i64 0, .nil], .int .i64 3]) else bif (Al l) then bif ((Ez r c l) != (0 : Int)) then some (.tup [.agg [.int .i64 0, .int .i64 0, .nil], .int .i64 (Ez r c l)]) else bif (Al ((Hv r c l).2.2.1)) then bif ((P7 ((Hv r c l).1) ((Hv r c l).2.1) ((Hv r c l).2.2.1)).1) then some (.tup [.agg [.int .i64 0, .int .i64 0, .nil], .int .i64 5]) else bif (Al ((Du r c l).2.2.1) && Al m) then bif (((Dj ((Du r c l).1) ((Du r c l).2.1) ((Du r c l).2.2.1) p q m).2.2.2) != (0 : Int)) then some (.tup [.agg [.int .i64 0, .int .i64 0, .nil], .int .i64 ((Dj ((Du r c l).1) ((Du r c l).2.1) ((Du r c l).2.2.1) p q m).2.2.2)]) else bif (Al ((Hv r c l).2.2.1) && Al ((Dj ((Du r c l).1) ((Du r c l).2.1) ((Du r c l).2.2.1) p q m).2.2.1)) then some (.tup [.agg [.int .i64 ((Wh ((Hv r c l).1) ((Hv r c l).2.1) ((Hv r c l).2.2.1) ((Dj ((Du r c l).1) ((Du r c l).2.1) ((Du r c l).2.2.1) p q m).1) ((Dj ((Du r c l).1) ((Du r c l).2.1) ((Du r c l).2.2.1) p q m).2.1) ((Dj ((Du r c l).1) ((Du r c l).2.1) ((Du r c l).2.2.1) p q m).2.2.1)).1), .int .i64 ((Wh ((Hv r c l).1) ((Hv r c l).2.1) ((Hv r c l).2.2.1) ((Dj ((Du r c l).1) ((Du r c l).2.1) ((Du r c l).2.2.1) p q m).1) ((Dj ((Du r c l).1) ((Du r c l).2.1) ((Du r c l).2.2.1) p q m).2.1) ((Dj ((Du r c l).1) ((Du r c l).2.1) ((Du r c l).2.2.1) p q m).2.2.1)).2.1), .ints .fresh .u64 ((Wh ((Hv r c l).1) ((Hv r c l).2.1) ((Hv r c l).2.2.1) ((Dj ((Du r c l).1) ((Du r c l).2.1) ((Du r c l).2.2.1) p q m).1) ((Dj ((Du r c l).1) ((Du r c l).2.1) ((Du r c l).2.2.1) p q m).2.1) ((Dj ((Du r c l).1) ((Du r c l).2.1) ((Du r c l).2.2.1) p q m).2.2.1)).2.2.1)], .int .i64 ((Wh ((Hv r c l).1) ((Hv r c l).2.1) ((Hv r c l).2.2.1) ((Dj ((Du r c l).1) ((Du r c l).2.1) ((Du r c l).2.2.1) p q m).1) ((Dj ((Du r c l).1) ((Du r c l).2.1) ((Du r c l).2.2.1) p q m).2.1) ((Dj ((Du r c l).1) ((Du r c l).2.1) ((Du r c l).2.2.1) p q m).2.2.1)).2.2.2)]) else none else none else none else none else none else none :=
  Eq.trans (by kernel_rfl)
  (Ee (Ee rfl (Ee (Ee rfl (Ax (Pn (A4 r c)) (Ax (Jh (A4 r c)) (Ax (Pn (A4 r c)) (Ax (Jh (A4 r c)) (Ax (Oi (A4 r c)) (Ax (Mr (A4 r c)) (Cx (J9 (A4 r c) (r != p)) rfl rfl)))))))) rfl)) rfl)
abbrev _root_.Go.Proofs.S1.solve.Dq.Kn := A3 Tryz.prog 30 solve.Dq.spec
theorem solve.Dq.Ac (hk : Ay Tryz.prog solve.Dq.A7) (h : ∀ (r c : Int) (l : List Int) (p q : Int) (m : List Int), solve.Dq.pre [.i r, .i c, .l l, .i p, .i q, .l m] = true → Bc solve.Dq.E Tryz.f30 [.agg [.int .i64 r, .int .i64 c, .ints .arg .u64 l], .agg [.int .i64 p, .int .i64 q, .ints .arg .u64 m]] (solve.Dq.out [.i r, .i c, .l l, .i p, .i q, .l m])) : solve.Dq.Kn :=
  Ak (Az hk _ _ _) Tryz.func30 (by kernel_rfl) (by kernel_rfl) h
end EqQr
open EqQr
def clS (R C : Nat) (l : List Int) (j : Nat) (x : Int) (i : Nat) : List Int := Cd R C fun a b => if b = j ∧ j ≤ a ∧ a < i then (if a = j then x else 0) else D0 (C : Int) l (a : Int) (b : Int)
section
variable {R C j : Nat} {l : List Int} {x : Int}
theorem Ahv (i : Nat) : (clS R C l j x i).length = R * C := Ci _ _ _
theorem U2 (hl : l.length = R * C) (hj : j < C) : List.set l (j * C + j) x = clS R C l j x (j + 1) := by
  unfold clS
  conv => lhs; rw [← Z2 hl]
  rw [Ty hj]
  refine Dz fun a b ha hb => ?_
  by_cases h : a = j ∧ b = j
  · rw [if_pos h, if_pos (by omega), if_pos h.1]
  · rw [if_neg h, if_neg (by omega)]
theorem Ahu {i : Nat} (hj : j < C) (hi : j < i) : List.set (clS R C l j x i) (i * C + j) 0 = clS R C l j x (i + 1) := by
  unfold clS
  rw [Ty hj]
  refine Dz fun a b ha hb => ?_
  by_cases h : a = i ∧ b = j
  · rw [if_pos h, if_pos (by omega), if_neg (by omega)]
  · rw [if_neg h]
    by_cases h2 : b = j ∧ j ≤ a ∧ a < i
    · rw [if_pos h2, if_pos (show b = j ∧ j ≤ a ∧ a < i + 1 by omega)]
    · rw [if_neg h2, if_neg (by omega)]
theorem Ahw : clS R C l j x R = Mk R C l j x := by
  unfold clS Mk
  refine Dz fun a b ha hb => ?_
  by_cases h : b = j ∧ j ≤ a
  · rw [if_pos h, if_pos (by omega)]
  · rw [if_neg h, if_neg (by omega)]
end
theorem Xf {C i j : Nat} (hi : i ≤ 6) (hC : C ≤ 6) (hj : j ≤ 6) : Ab (Ab ((i : Int) * (C : Int)) + (j : Int)) = ((i * C + j : Nat) : Int) := by
  have h36 := Nat.mul_le_mul hi hC
  rw [Am (x := (i : Int) * (C : Int)) (by rw [← Atn]; omega) (by rw [← Atn]; omega), ← Atn, Am (by omega) (by omega)]
  omega
section
variable {R C : Nat}
theorem Yd (N M0 : Nat) (l0 : List Int) (r6 : R ≤ 6) (c6 : C ≤ 6) {j : Nat} (hj : j < C) (l : List Int) (x : Int) (v : List Int) (t : Int) (ms : List (List DV)) (hms : ms.length ≤ 100) : ∀ (cnt i F : Nat), i + cnt = R → j < i → cnt < F →
    qr.down.L0 N M0 F (R : Int) (C : Int) l0 (i : Int) (clS R C l j x i) (j : Int) v t ms = qr.down.L1 N M0 (R : Int) (C : Int) l0 ((j + 1 : Nat) : Int) (ms ++ [[.ints .arg .u64 v, .int .u64 t]]) (Mk R C l j x) := by
  intro cnt
  induction cnt with
  | zero =>
    intro i F hi hji hF
    obtain ⟨F, rfl⟩ : ∃ G, F = G + 1 := ⟨F - 1, by omega⟩
    obtain rfl : i = R := by omega
    rw [qr.down.As, Ar, As7 (by omega), As6, As3 (by unfold Adw; omega), As2, Am (by omega) (by omega), Ahw]
    rfl
  | succ cnt ih =>
    intro i F hi hji hF
    obtain ⟨F, rfl⟩ : ∃ G, F = G + 1 := ⟨F - 1, by omega⟩
    have hlen := Ahv (R := R) (C := C) (l := l) (j := j) (x := x) i
    have hp := L6 (show i < R by omega) hj
    rw [qr.down.As, Ar, As3 (by omega), As2, Xf (by omega) c6 (by omega), As3 (by omega), As3 (by omega), As8, As2, As4, As3 (by omega), As2, Ahu hj hji, Am (by omega) (by omega)]
    exact ih (i + 1) F (by omega) (by omega) (by omega)
def Rw (r c : Nat) (ms : List (List DV)) : Option (List Int × List (List Int × Int)) → DV
  | none => .tup [.agg [.int .i64 0, .int .i64 0, .nil], .nil, .int .i64 2]
  | some x => .tup [.agg [.int .i64 (r : Int), .int .i64 (c : Int), .ints (.own 106002 tB) .u64 x.1], .recs (.own 100006 tMR) 2 (ms ++ Xg x.2), .int .i64 0]
theorem Ajt (N : Nat) (hN : 7 < N) (l0 : List Int) (r6 : R ≤ 6) (c6 : C ≤ 6) : ∀ (cnt j F : Nat) (l : List Int) (ms : List (List DV)), j + cnt = Hm R C → cnt < F → l.length = R * C → Al l = true → ms.length = j →
    qr.down.L1 N F (R : Int) (C : Int) l0 (j : Int) ms l = some (Rw R C ms (Mj R C cnt j l)) := by
  intro cnt
  induction cnt with
  | zero =>
    intro j F l ms hj hF hl al hms
    obtain ⟨F, rfl⟩ : ∃ G, F = G + 1 := ⟨F - 1, by omega⟩
    unfold Hm at hj
    have hlt : (A4 (j : Int) (C : Int) && A4 (j : Int) (Ab ((R : Int) - 1))) = false := by
      rw [Ar, Ar, Am (by omega) (by omega), Bool.and_eq_false_iff, Atl, Atl]; omega
    rw [qr.down.B5, hlt, As6]
    simp [Mj, Rw, Xg]
  | succ cnt ih =>
    intro j F l ms hj hF hl al hms
    obtain ⟨F, rfl⟩ : ∃ G, F = G + 1 := ⟨F - 1, by omega⟩
    have hj0 := hj
    unfold Hm at hj
    have hr := Iq r6 c6 hl
    have hlt : (A4 (j : Int) (C : Int) && A4 (j : Int) (Ab ((R : Int) - 1))) = true := by
      rw [Ar, Ar, Am (by omega) (by omega), As3 (by omega), As3 (by omega)]; rfl
    have cp : Gk (R : Int) (C : Int) l (j : Int) = true := Ad.2 ⟨hr, Av.2 (by omega)⟩
    have ec : Cn (C : Int) l (j : Int) (j : Int) (Int.toNat ((R : Int) - (j : Int))) = Ep R C l j := by unfold Ep; rw [show Int.toNat ((R : Int) - (j : Int)) = R - j by omega]
    have ca : Al (Ep R C l j) = true := Ol al
    have cl : (Ep R C l j).length = R - j := Fv _ _ _ _ _
    rw [qr.down.B5, hlt, As2, cp, Av.2 (show 0 ≤ (j : Int) ∧ (j : Int) ≤ (R : Int) by omega), As8, As2, ec, Ik ca (by omega), As2]
    unfold Mj
    by_cases he : (Ce (Ep R C l j)).2.2.2 = 0
    · have hml := Tn he
      have hma := To ca
      have hap : G2 (R : Int) (C : Int) (j : Int) (j : Int) (Ce (Ep R C l j)).1 = true := As3 (by omega)
      have hp := L6 (show j < R by omega) (show j < C by omega)
      have hlen := Kq R C l (j : Int) (j : Int) (Ce (Ep R C l j)).1 (Ce (Ep R C l j)).2.1
      have hg := Yd N F l0 r6 c6 (show j < C by omega) (Et R C l (j : Int) (j : Int) (Ce (Ep R C l j)).1 (Ce (Ep R C l j)).2.1) (Ce (Ep R C l j)).2.2.1 (Ce (Ep R C l j)).1 (Ce (Ep R C l j)).2.1 ms (by omega) (R - (j + 1)) (j + 1) N (by omega) (by omega) (by omega)
      have hn := ih (j + 1) F (Xh R C l j) (ms ++ [[.ints .arg .u64 (Ce (Ep R C l j)).1, .int .u64 (Ce (Ep R C l j)).2.1]]) (by omega) (by omega) (M5 _ _ _ _) (V6 al j) (by rw [List.length_append, hms]; rfl)
      rw [Jk he, As6, hr, hap, al, hma.1, hma.2.1, As8, As8, As8, As2, Xf (by omega) c6 (by omega), As4, As4, As4, As3 (by omega), As3 (by omega), As8, As2, As3 (by omega), As2,
        U2 hlen (by omega), Am (by omega) (by omega), if_pos he]
      refine (hg.trans hn).trans ?_
      show some (Rw R C _ (Mj R C cnt (j + 1) (Xh R C l j))) = some (Rw R C ms _)
      cases Mj R C cnt (j + 1) (Xh R C l j) with
      | none => rfl
      | some x => simp [Rw, Xg]
    · rw [neI he, As2, if_neg he]; rfl
theorem Aga (N : Nat) (hN : 7 < N) {l : List Int} (r6 : R ≤ 6) (c6 : C ≤ 6) (hl : l.length = R * C) (al : Al l = true) (h0 : Hm R C ≠ 0) :
    qr.down.L2 N N (R : Int) (C : Int) l = some (Rw R C [] (J0 R C l)) := by
  obtain ⟨cnt, hc⟩ : ∃ cnt, Hm R C = cnt + 1 := ⟨Hm R C - 1, by omega⟩
  obtain ⟨F, rfl⟩ : ∃ G, N = G + 1 := ⟨N - 1, by omega⟩
  have hj := hc
  unfold Hm at hj
  have hr := Iq r6 c6 hl
  have hlt : (A4 (0 : Int) (C : Int) && A4 (0 : Int) (Ab ((R : Int) - 1))) = true := by
    rw [Ar, Ar, Am (by omega) (by omega), As3 (by omega), As3 (by omega)]; rfl
  have cp : Gk (R : Int) (C : Int) l (0 : Int) = true := Ad.2 ⟨hr, Av.2 (by omega)⟩
  have ec : Cn (C : Int) l (0 : Int) (0 : Int) (Int.toNat ((R : Int) - (0 : Int))) = Ep R C l 0 := by unfold Ep; rw [show Int.toNat ((R : Int) - (0 : Int)) = R - 0 by omega]; rfl
  have ca : Al (Ep R C l 0) = true := Ol al
  have cl : (Ep R C l 0).length = R - 0 := Fv _ _ _ _ _
  unfold J0
  rw [hc, qr.down.G5, hlt, As2, cp, Av.2 (show 0 ≤ (0 : Int) ∧ (0 : Int) ≤ (R : Int) by omega), As8, As2, ec, Ik ca (by omega), As2]
  unfold Mj
  by_cases he : (Ce (Ep R C l 0)).2.2.2 = 0
  · have hml := Tn he
    have hma := To ca
    have hap : G2 (R : Int) (C : Int) (0 : Int) (0 : Int) (Ce (Ep R C l 0)).1 = true := As3 (by omega)
    have hp := L6 (show 0 < R by omega) (show 0 < C by omega)
    have hlen := Kq R C l (0 : Int) (0 : Int) (Ce (Ep R C l 0)).1 (Ce (Ep R C l 0)).2.1
    have hg := Yd (F + 1) F l r6 c6 (show 0 < C by omega) (Et R C l (0 : Int) (0 : Int) (Ce (Ep R C l 0)).1 (Ce (Ep R C l 0)).2.1) (Ce (Ep R C l 0)).2.2.1 (Ce (Ep R C l 0)).1 (Ce (Ep R C l 0)).2.1 [] (Nat.zero_le _) (R - 1) 1 (F + 1) (by omega) (by omega) (by omega)
    have hn := Ajt (R := R) (C := C) (F + 1) hN l r6 c6 cnt 1 F (Xh R C l 0) [[.ints .arg .u64 (Ce (Ep R C l 0)).1, .int .u64 (Ce (Ep R C l 0)).2.1]] (by omega) (by unfold Hm at hc; omega) (M5 _ _ _ _) (V6 al 0) rfl
    have mc := Xf (i := 0) (C := C) (j := 0) (by omega) c6 (by omega)
    have mc : Ab (Ab ((0 : Int) * (C : Int)) + (0 : Int)) = ((0 * C + 0 : Nat) : Int) := mc
    rw [Jk he, As6, hr, hap, al, hma.1, hma.2.1, As8, As8, As8, As2, mc, As4, As4, As4, As3 (by omega), As3 (by omega), As8, As2, As3 (by omega), As2,
      U2 hlen (by omega), if_pos he]
    refine (hg.trans hn).trans ?_
    show some (Rw R C _ (Mj R C cnt 1 (Xh R C l 0))) = some (Rw R C [] _)
    cases Mj R C cnt (0 + 1) (Xh R C l 0) with
    | none => rfl
    | some x => simp [Rw, Xg]
  · rw [neI he, As2, if_neg he]; rfl
end
theorem qr.down.known : qr.down.Kn := qr.down.Ac (.cons Aq.Apply.known (.cons Aq.Df.known (.cons Aa.Dr.known .nil))) fun r c l hp => by
  obtain ⟨h1, al⟩ := Ad.1 (show ((A9 r c l && Dl l) && Al l) = true from hp)
  obtain ⟨hr, hf⟩ := Ad.1 h1
  obtain ⟨R, C, rfl, rfl, r6, c6, hl⟩ := C0 hr
  by_cases h0 : Hm R C = 0
  · have hx : J0 R C l = some (l, []) := by unfold J0; rw [h0]; rfl
    refine ⟨8, .tup [.agg [.int .i64 (R : Int), .int .i64 (C : Int), .ints .arg .u64 l], .recs (.own 100006 tMR) 2 [], .int .i64 0], [100006], ?_, ?_⟩
    · unfold Hm at h0
      have hlt : (A4 (0 : Int) (C : Int) && A4 (0 : Int) (Ab ((R : Int) - 1))) = false := by
        rw [Ar, Ar, Am (by omega) (by omega), Bool.and_eq_false_iff, Atl, Atl]; omega
      rw [qr.down.ev, show (8 : Nat) = 7 + 1 from rfl, qr.down.G5, hlt, As6]
    · show Wk _ _ (DV.tup [.agg [.int .i64 (Fo (R : Int) (C : Int) l).1, .int .i64 (Fo (R : Int) (C : Int) l).2.1, .ints .arg .u64 (Fo (R : Int) (C : Int) l).2.2.1], .recs .fresh 2 (Kf (R : Int) (C : Int) l), .int .i64 (Fo (R : Int) (C : Int) l).2.2.2])
      unfold Fo Kf Jz
      rw [As4, As4, hx]
      exact Wk.Gm (.cons (Wk.G3 (.cons .int (.cons .int (.cons .Vw .nil)))) (.cons (.dropR _ _ _ _ (List.mem_singleton.2 rfl)) (.cons .int .nil)))
  · refine ⟨8, Rw R C [] (J0 R C l), [106002, 100006], ?_, ?_⟩
    · rw [qr.down.ev]
      exact Aga 8 (by omega) r6 c6 hl al h0
    · show Wk _ _ (DV.tup [.agg [.int .i64 (Fo (R : Int) (C : Int) l).1, .int .i64 (Fo (R : Int) (C : Int) l).2.1, .ints .arg .u64 (Fo (R : Int) (C : Int) l).2.2.1], .recs .fresh 2 (Kf (R : Int) (C : Int) l), .int .i64 (Fo (R : Int) (C : Int) l).2.2.2])
      unfold Fo Kf Jz
      rw [As4, As4]
      cases J0 R C l with
      | none => exact Wk.Gm (.cons (Wk.G3 (.cons .int (.cons .int (.cons Li .nil)))) (.cons (.nilR _ _) (.cons .int .nil)))
      | some x => exact Wk.Gm (.cons (Wk.G3 (.cons .int (.cons .int (.cons (.dropA _ _ _ _ List.mem_cons_self) .nil)))) (.cons (.dropR _ _ _ _ (List.mem_cons_of_mem _ List.mem_cons_self)) (.cons .int .nil)))
open EqQr
def Zs (e : Int) : DV := .tup [.agg [.int .i64 0, .int .i64 0, .nil], .agg [.int .i64 0, .int .i64 0, .nil], .int .i64 e]
theorem Ut {r : Nat} : ∀ {j : Nat} {ms : List (List Int × Int)}, Zu r j ms → ∀ i : Nat, i < ms.length → Al (ms.getD i ([], 0)).1 = true ∧ Ag (ms.getD i ([], 0)).2 = true ∧ (ms.getD i ([], 0)).1.length + (j + i) = r
  | _, [], _, i, h => absurd h (Nat.not_lt_zero _)
  | j, m :: ms, hm, 0, _ => hm.1
  | j, m :: ms, hm, i + 1, h => by
    have := Ut hm.2 i (by simpa using h)
    rw [show j + (i + 1) = j + 1 + i by omega]
    exact this
theorem Al0 {ms : List (List Int × Int)} {i : Nat} (h : i < ms.length) : List.getD (Xg ms) i [] = [.ints .arg .u64 (ms.getD i ([], 0)).1, .int .u64 (ms.getD i ([], 0)).2] := by
  unfold Xg
  rw [Atc, List.getElem?_map, Atj h, Atc, Atj h]; rfl
theorem Adk (ms : List (List Int × Int)) : (Xg ms).length = ms.length := by unfold Xg; rw [List.length_map]
theorem Aah {n i : Nat} {ms : List (List Int × Int)} (h : i < ms.length) (q : List Int) : Gu n i (ms.drop i) q = Et n n (Gu n (i + 1) (ms.drop (i + 1)) q) (i : Int) 0 (ms.getD i ([], 0)).1 (ms.getD i ([], 0)).2 := by
  rw [List.drop_eq_getElem_cons h, Gu, Atc, Atj h]; rfl
theorem Af8 {R : Nat} (h : R ≤ 6) : Mi (R : Int) = ((R : Int), (R : Int), Ih R, 0) := by
  unfold Mi Ih
  rw [if_pos (Qs h), As4]
theorem Akz {n : Nat} (h : n ≤ 6) : n * n ≤ 36 := Nat.mul_le_mul h h
theorem Aed (N : Nat) {R C : Nat} {l : List Int} (r6 : R ≤ 6) {x : List Int × List (List Int × Int)} (hx : J0 R C l = some x) (hm : Zu R 0 x.2) (hxr : Al x.1 = true) (hxl : x.1.length ≤ 36) : ∀ (j F : Nat), j ≤ x.2.length → j < F →
    qr.By.L0 N F (R : Int) (C : Int) l ((j : Int) - 1) (Gu R j (x.2.drop j) (Ih R)) =
    bif Lg R C l then some (.tup [.agg [.int .i64 (R : Int), .int .i64 (R : Int), .ints .fresh .u64 (Lu R C l)], .agg [.int .i64 (R : Int), .int .i64 (C : Int), .ints .arg .u64 (Jz R C l)], .int .i64 0])
    else some (Zs 2) := by
  have hq : Lu R C l = Gu R 0 x.2 (Ih R) := by unfold Lu; rw [hx]
  have hr : Jz R C l = x.1 := by unfold Jz; rw [hx]
  have hd : Fo (R : Int) (C : Int) ([] ++ l) = ((R : Int), (C : Int), x.1, 0) := by
    unfold Fo
    rw [List.nil_append, As4, As4, hx, hr]; rfl
  have hmd : Kf (R : Int) (C : Int) ([] ++ l) = Xg x.2 := by
    unfold Kf
    rw [List.nil_append, As4, As4, hx]
  have h36 := Akz r6
  intro j
  induction j with
  | zero =>
    intro F _ hF
    obtain ⟨F, rfl⟩ : ∃ G, F = G + 1 := ⟨F - 1, by omega⟩
    have hb := Ra R x.2 0 (Ih R) (T2 R) (by unfold Ih; exact Ci _ _ _)
    have ok1 : Cp (Gu R 0 x.2 (Ih R)) = true := Ik hb.1 (by omega)
    have ok2 : Cp x.1 = true := Ik hxr (by omega)
    have hfo : Lg R C l = (Dl (Gu R 0 x.2 (Ih R)) && Dl x.1) := by unfold Lg; rw [hx, hq, hr]; rfl
    rw [qr.By.As, Ar, As3 (by omega), As2, List.drop_zero, ok1, As2, hd, Af8 r6, ok2, Bool.or_true, As2, hfo, hq, hr]
    cases Dl (Gu R 0 x.2 (Ih R)) with
    | false => rfl
    | true => cases Dl x.1 <;> rfl
  | succ j ih =>
    intro F hj hF
    obtain ⟨F, rfl⟩ : ∃ G, F = G + 1 := ⟨F - 1, by omega⟩
    have ej : (((j + 1 : Nat) : Int)) - 1 = (j : Int) := by omega
    have hg := Ut hm j (by omega)
    have hb := Ra R (x.2.drop (j + 1)) (j + 1) (Ih R) (T2 R) (by unfold Ih; exact Ci _ _ _)
    have hr1 := Iq r6 r6 hb.2
    have hap : G2 (R : Int) (R : Int) (j : Int) 0 (x.2.getD j ([], 0)).1 = true := As3 (by omega)
    have hmg := Al0 (ms := x.2) (i := j) (by omega)
    rw [qr.By.As, ej, Ar, As7 (show ¬ (j : Int) < 0 by omega), As6, hmd, Adk, As3 (show (0 : Int) ≤ (j : Int) by omega), As3 (show (j : Int) < (x.2.length : Int) by omega), As8, As2, As4, hmg, Af8 r6]
    show (bif true then bif true then bif true then (bif (((A9 (R : Int) (R : Int) (Gu R (j + 1) (x.2.drop (j + 1)) (Ih R)) && G2 (R : Int) (R : Int) (j : Int) (0 : Int) (x.2.getD j ([], 0)).1) && (Al (Gu R (j + 1) (x.2.drop (j + 1)) (Ih R)) && Al (x.2.getD j ([], 0)).1)) && Ag (x.2.getD j ([], 0)).2) then
      qr.By.L0 N F (R : Int) (C : Int) l (Ab ((j : Int) - (1 : Int))) (Et (Int.toNat (R : Int)) (Int.toNat (R : Int)) (Gu R (j + 1) (x.2.drop (j + 1)) (Ih R)) (j : Int) (0 : Int) (x.2.getD j ([], 0)).1 (x.2.getD j ([], 0)).2) else none) else none else none else none) = _
    rw [As2, As2, As2, hr1, hap, hb.1, hg.1, hg.2.1, As8, As8, As8, As2, As4, Am (by omega) (by omega), ← Aah (by omega)]
    exact ih F (by omega) (by omega)
theorem Aeh {R C : Nat} {l : List Int} (hl : l.length = R * C) (al : Al l = true) {x : List Int × List (List Int × Int)} (hx : J0 R C l = some x) : Al x.1 = true ∧ x.1.length = R * C ∧ x.2.length = Hm R C ∧ Zu R 0 x.2 :=
  Ye R C (Hm R C) 0 l x al hl (by unfold Hm; omega) hx
theorem Q9 {r c : Int} {l : List Int} (h : C5 r c l = 0) : Ez r c l = if Lg r.toNat c.toNat l = true then 0 else 2 := by
  unfold Ez; rw [if_neg (by rw [h]; decide)]
theorem Aee {r c : Int} {l : List Int} (h : C5 r c l ≠ 0) : Ez r c l = C5 r c l := by unfold Ez; rw [if_pos h]
theorem W4 {r c : Int} {l : List Int} {e : Int} (h : Ez r c l = e) (he : e ≠ 0) : qX r c l = Nh e ∧ rX r c l = Nh e := by unfold qX rX; rw [h, if_pos he, if_pos he]; exact ⟨rfl, rfl⟩
theorem V1 {r c : Int} {l : List Int} (h : Ez r c l = 0) : qX r c l = (r, r, Lu r.toNat c.toNat l, 0) ∧ rX r c l = (r, c, Jz r.toNat c.toNat l, 0) := by unfold qX rX; rw [h]; exact ⟨rfl, rfl⟩
theorem Aan {drops : List Nat} {e : Int} {g h : Aez} : Wk drops (Zs e) (DV.tup [.agg [.int .i64 (Nh e).1, .int .i64 (Nh e).2.1, .ints g .u64 (Nh e).2.2.1], .agg [.int .i64 (Nh e).1, .int .i64 (Nh e).2.1, .ints h .u64 (Nh e).2.2.1], .int .i64 e]) :=
  Wk.Gm (.cons (Wk.G3 (.cons .int (.cons .int (.cons Li .nil)))) (.cons (Wk.G3 (.cons .int (.cons .int (.cons Li .nil)))) (.cons .int .nil)))
theorem qr.By.known : qr.By.Kn := qr.By.Ac (.cons Cs.Check.known (.cons Aq.Apply.known (.cons Aa.Eh.known (.cons qr.down.known (.cons Ae.Finite.known .nil))))) fun r c l hp => by
  have al : Al l = true := hp
  show ∃ N dv drops, _ = some dv ∧ Wk drops dv (DV.tup [.agg [.int .i64 (qX r c l).1, .int .i64 (qX r c l).2.1, .ints .arg .u64 (qX r c l).2.2.1], .agg [.int .i64 (rX r c l).1, .int .i64 (rX r c l).2.1, .ints .arg .u64 (rX r c l).2.2.1], .int .i64 (Ez r c l)])
  by_cases h1 : C5 r c l = 0
  · obtain ⟨hr, hf⟩ := J1 h1
    have h36 := Nt hr
    obtain ⟨R, C, rfl, rfl, r6, c6, hl⟩ := C0 hr
    have d0 : decide (0 + l.length ≤ Hc) = true := As3 (by unfold Hc; omega)
    cases hx : J0 R C l with
    | none =>
      have hfo : Lg R C l = false := by unfold Lg; rw [hx]; rfl
      have he : Ez (R : Int) (C : Int) l = 2 := by rw [Q9 h1, As4, As4, hfo]; rfl
      obtain ⟨e1, e2⟩ := W4 he (by decide)
      have hd : Fo (R : Int) (C : Int) ([] ++ l) = Nh 2 := by
        unfold Fo
        rw [List.nil_append, As4, As4, hx]; rfl
      rw [e1, e2, he]
      exact ⟨0, Zs 2, [], by rw [qr.By.ev, al, As2, Jk h1, As6, d0, As2, hd, List.nil_append, hr, hf, al, As8, As8, As2, show ((Nh 2).2.2.2 != (0 : Int)) = true from rfl, As2]; rfl, Aan⟩
    | some x =>
      obtain ⟨x1, x2, x3, x4⟩ := Aeh hl al hx
      have hd : Fo (R : Int) (C : Int) ([] ++ l) = ((R : Int), (C : Int), x.1, 0) := by
        unfold Fo Jz
        rw [List.nil_append, As4, As4, hx]; rfl
      have hmd : Kf (R : Int) (C : Int) ([] ++ l) = Xg x.2 := by
        unfold Kf
        rw [List.nil_append, As4, As4, hx]
      have hn : x.2.length ≤ 6 := by rw [x3]; unfold Hm; omega
      have hloop := Aed 8 r6 hx x4 x1 (by rw [x2]; exact Nat.mul_le_mul r6 c6) x.2.length 8 (Nat.le_refl _) (by omega)
      rw [Atg (Nat.le_refl _)] at hloop
      have hrun := qr.By.ev 8 (R : Int) (C : Int) l
      rw [al, As2, Jk h1, As6, d0, As2, hd, hmd, Adk, List.nil_append, hr, hf, al, As8, As8, As2, show (((R : Int), (C : Int), x.1, (0 : Int)).2.2.2 != (0 : Int)) = false from rfl, As6, Af8 r6, Am (by omega) (by omega)] at hrun
      have hrun := hrun.trans hloop
      cases hfo : Lg R C l with
      | false =>
        have he : Ez (R : Int) (C : Int) l = 2 := by rw [Q9 h1, As4, As4, hfo]; rfl
        obtain ⟨e1, e2⟩ := W4 he (by decide)
        rw [hfo, As6] at hrun
        rw [e1, e2, he]
        exact ⟨8, Zs 2, [], hrun, Aan⟩
      | true =>
        have he : Ez (R : Int) (C : Int) l = 0 := by rw [Q9 h1, As4, As4, hfo]; rfl
        obtain ⟨e1, e2⟩ := V1 he
        rw [hfo, As2] at hrun
        rw [e1, e2, he, As4, As4]
        exact ⟨8, _, [], hrun, Wk.Gm (.cons (Wk.G3 (.cons .int (.cons .int (.cons (.fresh _ _) .nil)))) (.cons (Wk.G3 (.cons .int (.cons .int (.cons .Vw .nil)))) (.cons .int .nil)))⟩
  · have he := Aee h1
    obtain ⟨e1, e2⟩ := W4 he h1
    rw [e1, e2, he]
    exact ⟨0, Zs (C5 r c l), [], by rw [qr.By.ev, al, As2, neI h1, As2]; rfl, Aan⟩
theorem Agg {r c : Int} {l : List Int} (h : Ez r c l = 0) : C5 r c l = 0 := by
  by_cases h1 : C5 r c l = 0
  · exact h1
  · rw [Aee h1] at h; exact absurd h h1
theorem X9 {r c : Int} {l : List Int} (al : Al l = true) (h : Ez r c l = 0) : ∃ R C : Nat, r = R ∧ c = C ∧ R ≤ 6 ∧ C ≤ 6 ∧ l.length = R * C ∧ Al (Lu R C l) = true ∧ (Lu R C l).length = R * R ∧ Al (Jz R C l) = true ∧ (Jz R C l).length = R * C ∧ Dl (Lu R C l) = true ∧ Dl (Jz R C l) = true := by
  have h1 := Agg h
  rw [Q9 h1] at h
  obtain ⟨R, C, rfl, rfl, r6, c6, hl⟩ := C0 (J1 h1).1
  rw [As4, As4] at h
  by_cases ho : Lg R C l = true
  · unfold Lg at ho
    obtain ⟨o1, o2⟩ := Ad.1 ho
    obtain ⟨o3, o4⟩ := Ad.1 o2
    obtain ⟨q1, q2⟩ := Apf o1
    obtain ⟨g1, g2⟩ := Ape al hl o1
    exact ⟨R, C, rfl, rfl, r6, c6, hl, q1, q2, g1, g2, o3, o4⟩
  · rw [if_neg ho] at h; exact absurd h (by decide)
theorem V3 {R C : Nat} {l : List Int} (r6 : R ≤ 6) (c6 : C ≤ 6) (hl : l.length = R * C) {x y a b : Int} (hp : Hi (R : Int) (C : Int) x y a b = true) :
    Jb (R : Int) (C : Int) l x y a b = (a, b, Cd a.toNat b.toNat fun i k => D0 (C : Int) l (x + (i : Int)) (y + (k : Int)), 0) := by
  unfold Jb; rw [if_pos (Iq r6 c6 hl), if_pos hp]
theorem Uc {r c : Int} {l : List Int} (al : Al l = true) (h : Ez r c l = 0) :
    Jb r r (Lu r.toNat c.toNat l) 0 0 r (min r c) = Du r c l ∧ Jb r c (Jz r.toNat c.toNat l) 0 0 (min r c) c = Hv r c l := by
  obtain ⟨R, C, rfl, rfl, r6, c6, hl, q1, q2, g1, g2, _, _⟩ := X9 al h
  unfold Du Hv
  rw [h, if_neg (by decide), if_neg (by decide), As4, As4]
  have p1 : Hi (R : Int) (R : Int) 0 0 (R : Int) (min (R : Int) (C : Int)) = true := As3 (by omega)
  have p2 : Hi (R : Int) (C : Int) 0 0 (min (R : Int) (C : Int)) (C : Int) = true := As3 (by omega)
  rw [V3 r6 r6 q2 p1, V3 r6 c6 g2 p2]
  exact ⟨rfl, rfl⟩
theorem Arh {r c : Int} {l : List Int} (al : Al l = true) (h : Ez r c l = 0) : Al (Lu r.toNat c.toNat l) = true ∧ Al (Jz r.toNat c.toNat l) = true := by
  obtain ⟨R, C, rfl, rfl, _, _, _, q1, _, g1, _, _, _⟩ := X9 al h
  rw [As4, As4]
  exact ⟨q1, g1⟩
theorem An7 {r c : Int} {l : List Int} (al : Al l = true) (h : Ez r c l = 0) : Al (Du r c l).2.2.1 = true ∧ Al (Hv r c l).2.2.1 = true := by
  obtain ⟨a, b⟩ := Uc al h
  obtain ⟨q1, g1⟩ := Arh al h
  rw [← a, ← b]
  exact ⟨Aha q1 _ _ _ _, Aha g1 _ _ _ _⟩
theorem qr.Fs.known : qr.Fs.Kn := qr.Fs.Ac (.cons Aa.Part.known (.cons qr.By.known .nil)) fun r c l hp => by
  have al : Al l = true := hp
  show ∃ N dv drops, _ = some dv ∧ Wk drops dv (DV.tup [.agg [.int .i64 (Du r c l).1, .int .i64 (Du r c l).2.1, .ints .fresh .u64 (Du r c l).2.2.1], .agg [.int .i64 (Hv r c l).1, .int .i64 (Hv r c l).2.1, .ints .fresh .u64 (Hv r c l).2.2.1], .int .i64 (Ez r c l)])
  by_cases h : Ez r c l = 0
  · obtain ⟨e1, e2⟩ := V1 h
    obtain ⟨t1, t2⟩ := Uc al h
    refine ⟨0, DV.tup [.agg [.int .i64 (Du r c l).1, .int .i64 (Du r c l).2.1, .ints .fresh .u64 (Du r c l).2.2.1], .agg [.int .i64 (Hv r c l).1, .int .i64 (Hv r c l).2.1, .ints .fresh .u64 (Hv r c l).2.2.1], .int .i64 0], [], by rw [qr.Fs.ev, al, As2, Jk h, As6, e1, e2, t1, t2], by rw [h]; exact Wk.Gm (.cons (Wk.G3 (.cons .int (.cons .int (.cons .P5 .nil)))) (.cons (Wk.G3 (.cons .int (.cons .int (.cons .P5 .nil)))) (.cons .int .nil)))⟩
  · have e1 : Du r c l = Nh (Ez r c l) := by unfold Du; rw [if_pos h]
    have e2 : Hv r c l = Nh (Ez r c l) := by unfold Hv; rw [if_pos h]
    rw [e1, e2]
    exact ⟨0, Zs (Ez r c l), [], by rw [qr.Fs.ev, al, As2, neI h, As2]; rfl, Aan⟩
theorem Ap7 {r c p : Int} : ((A4 r c) || (r != p)) = decide (r < c ∨ r ≠ p) := by
  rw [Ar, Ati]; simp
theorem solve.Dq.known : solve.Dq.Kn := solve.Dq.Ac (.cons Cs.Check.known (.cons qr.Fs.known (.cons qr.Fc.known (.cons solve.Flat.known (.cons solve.Cj.known .nil))))) fun r c l p q m hp => by
  obtain ⟨al, am⟩ := Ad.1 (show (Al l && Al m) = true from hp)
  show ∃ N dv drops, _ = some dv ∧ Wk drops dv (W7 (B6 r c l p q m))
  have hrun := solve.Dq.ev 0 r c l p q m
  rw [al, As2] at hrun
  unfold B6
  by_cases c1 : C5 r c l = 0
  · rw [Jk c1, As6, am, As2] at hrun
    rw [if_neg (by rw [c1]; decide)]
    by_cases c2 : C5 p q m = 0
    · rw [Jk c2, As6, Ap7] at hrun
      rw [if_neg (by rw [c2]; decide)]
      by_cases c3 : r < c ∨ r ≠ p
      · rw [As3 c3, As2] at hrun
        rw [if_pos c3]
        exact ⟨0 + 4, _, [], hrun, L8⟩
      · rw [As7 c3, As6, As2] at hrun
        rw [if_neg c3]
        by_cases c4 : Ez r c l = 0
        · obtain ⟨i1, i2⟩ := An7 al c4
          rw [Jk c4, As6, i2, As2] at hrun
          rw [if_neg (by rw [c4]; decide)]
          by_cases c5 : (P7 (Hv r c l).1 (Hv r c l).2.1 (Hv r c l).2.2.1).1 = true
          · rw [c5, As2] at hrun
            rw [if_pos c5]
            exact ⟨0 + 4, _, [], hrun, L8⟩
          · have c5' : (P7 (Hv r c l).1 (Hv r c l).2.1 (Hv r c l).2.2.1).1 = false := by simpa using c5
            rw [c5', As6, i1, As8, As2] at hrun
            rw [if_neg c5]
            unfold Akk
            by_cases c6 : (Dj (Du r c l).1 (Du r c l).2.1 (Du r c l).2.2.1 p q m).2.2.2 = 0
            · rw [Jk c6, As6, Ah7, As8, As2] at hrun
              rw [if_neg (by rw [c6]; decide)]
              exact ⟨0 + 4, _, [], hrun, Ry⟩
            · rw [neI c6, As2] at hrun
              rw [if_pos c6]
              exact ⟨0 + 4, _, [], hrun, L8⟩
        · rw [neI c4, As2] at hrun
          rw [if_pos c4]
          exact ⟨0 + 4, _, [], hrun, L8⟩
    · rw [neI c2, As2] at hrun
      rw [if_pos c2]
      exact ⟨0 + 4, _, [], hrun, L8⟩
  · rw [neI c1, As2] at hrun
    rw [if_pos c1]
    exact ⟨0 + 4, _, [], hrun, L8⟩
namespace EqRef17
theorem E3 : ∀ a b : Bool, (bif a then true else b) = (a || b) := by decide
theorem Jn : ∀ a : Bool, ((!(!a)) || (a == false)) = true := by decide
theorem Iw : ∀ a : Bool, ((!(a == false)) || ((((!(a == false)) || (a == false)) && (((!(a == false)) || (a == false)) && true)) && true)) = true := by decide
theorem Ia : ∀ a : Bool, ((!(a == false)) || ((((!(a == false)) || (a == false)) && true) && true)) = true := by decide
theorem Gd : ∀ a : Bool, ((!(a == false)) || true) = true := by decide
theorem Jg : ∀ a : Bool, (a && true) = a := by decide
def Ai.Div.A7 : List (Nat × Entry) := [(102, Ai.B.spec), (159, Ai.F.spec)]
def Ai.Div.E : Env := Bb (A5 Ai.Div.A7) (fun _ => false) (fun _ => none) (fun _ => none)
theorem Ai.Div.ev (N : Nat) (a b : Int) : Bx Ai.Div.E N Tryz.f84 (An Tryz.f84) [.int .u64 a, .int .u64 b] = bif (Ag a) then bif (Ag b) then some (.int .u64 (Fb ((Ieee.double.div (Int.toNat a) (Int.toNat b)).getD nanBits))) else none else none := by kernel_rfl
abbrev _root_.Go.Proofs.S1.Ai.Div.Kn := A3 Tryz.prog 84 Ai.Div.spec
theorem Ai.Div.Ac (hk : Ay Tryz.prog Ai.Div.A7) (h : ∀ (a b : Int), Ai.Div.pre [.i a, .i b] = true → Bc Ai.Div.E Tryz.f84 [.int .u64 a, .int .u64 b] (Ai.Div.out [.i a, .i b])) : Ai.Div.Kn :=
  Ak (Az hk _ _ _) Tryz.func84 (by kernel_rfl) (by kernel_rfl) h
def Ai.Finite.hint : Nat → Option Ba
  | 0 => some { keep := [0, 3], objs := [], boxes := [] }
  | _ => none
def Ai.Finite.A7 : List (Nat × Entry) := [(131, A1.Finite.spec)]
def Ai.Finite.E : Env := Bb (A5 Ai.Finite.A7) (fun _ => false) Ai.Finite.hint (fun _ => none)
def Ai.Finite.L0 (N M : Nat) (x : List Int) (p3 : Int) : Option DV := B0 Ai.Finite.E N Tryz.f92 (An Tryz.f92) [1, 0, 1, 0] [] M ⟨F7 16 [(0, .ints .arg .u64 x), (3, .int .i64 p3)], []⟩
theorem Ai.Finite.As (N M : Nat) (x : List Int) (p3 : Int) : Ai.Finite.L0 N (M + 1) x p3 = bif (A4 p3 (List.length x : Int)) then bif ((decide (0 ≤ p3)) && (decide (p3 < (List.length x : Int)))) then bif (Ag (List.getD x (Int.toNat p3) 0)) then bif (!(Cv (List.getD x (Int.toNat p3) 0))) then some (.bool false) else Ai.Finite.L0 N M x (Ab (p3 + (1 : Int))) else none else none else some (.bool true) := by kernel_rfl
theorem Ai.Finite.ev (N : Nat) (x : List Int) : Bx Ai.Finite.E N Tryz.f92 (An Tryz.f92) [.ints .arg .u64 x] =
  Ai.Finite.L0 N N x (0 : Int) := by kernel_rfl
abbrev _root_.Go.Proofs.S1.Ai.Finite.Kn := A3 Tryz.prog 92 Ai.Finite.spec
theorem Ai.Finite.Ac (hk : Ay Tryz.prog Ai.Finite.A7) (h : ∀ (x : List Int), Ai.Finite.pre [.l x] = true → Bc Ai.Finite.E Tryz.f92 [.ints .arg .u64 x] (Ai.Finite.out [.l x])) : Ai.Finite.Kn :=
  Ak (Az hk _ _ _) Tryz.func92 (by kernel_rfl) (by kernel_rfl) h
def Gp.Check.A7 : List (Nat × Entry) := [(92, Ai.Finite.spec), (91, Ah.Hp.spec)]
def Gp.Check.E : Env := Bb (A5 Gp.Check.A7) (fun _ => false) (fun _ => none) (fun _ => none)
theorem Gp.Check.ev (N : Nat) (r c : Int) (l : List Int) : Bx Gp.Check.E N Tryz.f25 (An Tryz.f25) [.agg [.int .i64 r, .int .i64 c, .ints .arg .u64 l]] = bif (!(A9 r c l)) then some (.int .i64 1) else bif (Cp l) then bif (!(Dl l)) then some (.int .i64 4) else some (.int .i64 0) else none := by kernel_rfl
abbrev _root_.Go.Proofs.S1.Gp.Check.Kn := A3 Tryz.prog 25 Gp.Check.spec
theorem Gp.Check.Ac (hk : Ay Tryz.prog Gp.Check.A7) (h : ∀ (r c : Int) (l : List Int), Gp.Check.pre [.i r, .i c, .l l] = true → Bc Gp.Check.E Tryz.f25 [.agg [.int .i64 r, .int .i64 c, .ints .arg .u64 l]] (Gp.Check.out [.i r, .i c, .l l])) : Gp.Check.Kn :=
  Ak (Az hk _ _ _) Tryz.func25 (by kernel_rfl) (by kernel_rfl) h
def A2.Check.hint : Nat → Option Ba
  | 0 => some { keep := [2, 5], objs := [], boxes := [2] }
  | _ => none
def A2.Check.A7 : List (Nat × Entry) := [(62, A1.Kind.spec), (80, Ah.At.spec), (25, Gp.Check.spec)]
def A2.Check.E : Env := Bb (A5 A2.Check.A7) (fun _ => false) A2.Check.hint (fun _ => none)
def A2.Check.L0 (N M : Nat) (r c : Int) (l : List Int) (p5 : Int) : Option DV := B0 A2.Check.E N Tryz.f79 (An Tryz.f79) [1, 1, 1, 1, 0, 1, 0] [] M ⟨F7 40 [(2, .ptr 2 0 0), (5, .int .i64 p5)], [(2, false, .box [.int .i64 r, .int .i64 c, .ints .arg .u64 l])]⟩
theorem A2.Check.As (N M : Nat) (r c : Int) (l : List Int) (p5 : Int) : A2.Check.L0 N (M + 1) r c l p5 = bif (A4 p5 r) then bif (Cy r c l p5 p5) then bif (Kd (D0 c l p5 p5)) then bif ((Bd (D0 c l p5 p5)) == (0 : Int)) then some (.int .i64 5) else A2.Check.L0 N M r c l (Ab (p5 + (1 : Int))) else none else none else some (.int .i64 0) := by kernel_rfl
theorem A2.Check.ev (N : Nat) (r c : Int) (l : List Int) (p q : Int) (m : List Int) : Bx A2.Check.E N Tryz.f79 (An Tryz.f79) [.agg [.int .i64 r, .int .i64 c, .ints .arg .u64 l], .agg [.int .i64 p, .int .i64 q, .ints .arg .u64 m]] = bif (Al l) then bif ((C5 r c l) != (0 : Int)) then bif (Al l) then some (.int .i64 (C5 r c l)) else none else bif (Al m) then bif ((C5 p q m) != (0 : Int)) then bif (Al m) then some (.int .i64 (C5 p q m)) else none else bif ((r != c) || (r != p)) then some (.int .i64 3) else A2.Check.L0 N N r c l (0 : Int) else none else none :=
  Eq.trans (by kernel_rfl)
  (Ee (Ee rfl (Ee (Ee rfl (Ax (Gd (r != c)) (Ax (Ia (r != c)) (Ax (Gd (r != c)) (Ax (Ia (r != c)) (Ax (Iw (r != c)) (Ax (Jn (r != c)) (Cx (E3 (r != c) (r != p)) rfl rfl)))))))) rfl)) rfl)
abbrev _root_.Go.Proofs.S1.A2.Check.Kn := A3 Tryz.prog 79 A2.Check.spec
theorem A2.Check.Ac (hk : Ay Tryz.prog A2.Check.A7) (h : ∀ (r c : Int) (l : List Int) (p q : Int) (m : List Int), A2.Check.pre [.i r, .i c, .l l, .i p, .i q, .l m] = true → Bc A2.Check.E Tryz.f79 [.agg [.int .i64 r, .int .i64 c, .ints .arg .u64 l], .agg [.int .i64 p, .int .i64 q, .ints .arg .u64 m]] (A2.Check.out [.i r, .i c, .l l, .i p, .i q, .l m])) : A2.Check.Kn :=
  Ak (Az hk _ _ _) Tryz.func79 (by kernel_rfl) (by kernel_rfl) h
def A2.finite.A7 : List (Nat × Entry) := [(92, Ai.Finite.spec)]
def A2.finite.E : Env := Bb (A5 A2.finite.A7) (fun _ => false) (fun _ => none) (fun _ => none)
theorem A2.finite.ev (N : Nat) (r c : Int) (l : List Int) : Bx A2.finite.E N Tryz.f85 (An Tryz.f85) [.agg [.int .i64 r, .int .i64 c, .ints .arg .u64 l]] = bif (Cp l) then bif (!(Dl l)) then some (.tup [.agg [.int .i64 0, .int .i64 0, .nil], .int .i64 2]) else some (.tup [.agg [.int .i64 r, .int .i64 c, .ints .arg .u64 l], .int .i64 0]) else none := by kernel_rfl
abbrev _root_.Go.Proofs.S1.A2.finite.Kn := A3 Tryz.prog 85 A2.finite.spec
theorem A2.finite.Ac (hk : Ay Tryz.prog A2.finite.A7) (h : ∀ (r c : Int) (l : List Int), A2.finite.pre [.i r, .i c, .l l] = true → Bc A2.finite.E Tryz.f85 [.agg [.int .i64 r, .int .i64 c, .ints .arg .u64 l]] (A2.finite.out [.i r, .i c, .l l])) : A2.finite.Kn :=
  Ak (Az hk _ _ _) Tryz.func85 (by kernel_rfl) (by kernel_rfl) h
def A2.Cj.hint : Nat → Option Ba
  | 0 => some { keep := [2, 3, 4, 6, 7], objs := [], boxes := [2, 3, 4, 6] }
  | 2 => some { keep := [2, 3, 4, 6, 7, 8], objs := [], boxes := [2, 3, 4, 6] }
  | 4 => some { keep := [2, 3, 4, 6, 7, 8, 9, 10], objs := [], boxes := [2, 3, 4, 6] }
  | _ => none
def A2.Cj.A7 : List (Nat × Entry) := [(84, Ai.Div.spec), (82, Ai.Mul.spec), (81, Ai.Sub.spec), (80, Ah.At.spec), (83, Ah.Fq.spec), (35, Ah.Bz.spec), (79, A2.Check.spec), (85, A2.finite.spec)]
def A2.Cj.E : Env := Bb (A5 A2.Cj.A7) (fun _ => false) A2.Cj.hint (fun _ => none)
def A2.Cj.L0 (N M : Nat) (r c : Int) (l : List Int) (p q : Int) (m : List Int) (p7 : Int) (p6_2 : List Int) : Option DV := B0 A2.Cj.E N Tryz.f101 (An Tryz.f101) [1, 1, 1, 0, 1, 0] [] M ⟨F7 74 [(2, .ptr 2 0 0), (3, .ptr 3 0 0), (4, .ptr 4 0 0), (6, .ptr 6 0 0), (7, .int .i64 p7)], [(2, false, .box [.int .i64 r, .int .i64 c, .ints .arg .u64 l]), (3, false, .box [.int .i64 p, .int .i64 q, .ints .arg .u64 m]), (4, false, .box [.int .i64 0, .int .i64 0, .nil]), (6, false, .box [.int .i64 p, .int .i64 q, .ints .fresh .u64 p6_2])]⟩
def A2.Cj.L1 (N M0 M : Nat) (r c : Int) (l : List Int) (p q : Int) (m : List Int) (p8 : Int) (p6 : List Int) (p7_1 : Int) : Option DV := B0 A2.Cj.E N Tryz.f101 (An Tryz.f101) [1, 1, 1, 0, 1, 0, 0, 1, 0, 0, 1, 0] [M0] M ⟨F7 74 [(2, .ptr 2 0 0), (3, .ptr 3 0 0), (4, .ptr 4 0 0), (6, .ptr 6 0 0), (7, .int .i64 p7_1), (8, .int .i64 p8)], [(2, false, .box [.int .i64 r, .int .i64 c, .ints .arg .u64 l]), (3, false, .box [.int .i64 p, .int .i64 q, .ints .arg .u64 m]), (4, false, .box [.int .i64 0, .int .i64 0, .nil]), (6, false, .box [.int .i64 p, .int .i64 q, .ints .fresh .u64 p6])]⟩
def A2.Cj.L2 (N M0 M1 M : Nat) (r c : Int) (l : List Int) (p q : Int) (m : List Int) (p9 p10 : Int) (p7_2 p8_1 : Int) (p6_1 : List Int) : Option DV := B0 A2.Cj.E N Tryz.f101 (An Tryz.f101) [1, 1, 1, 0, 1, 0, 0, 1, 0, 0, 1, 0, 0, 1, 0, 0, 1, 0, 1, 0] [M0, M1] M ⟨F7 74 [(2, .ptr 2 0 0), (3, .ptr 3 0 0), (4, .ptr 4 0 0), (6, .ptr 6 0 0), (7, .int .i64 p7_2), (8, .int .i64 p8_1), (9, .int .u64 p9), (10, .int .i64 p10)], [(2, false, .box [.int .i64 r, .int .i64 c, .ints .arg .u64 l]), (3, false, .box [.int .i64 p, .int .i64 q, .ints .arg .u64 m]), (4, false, .box [.int .i64 0, .int .i64 0, .nil]), (6, false, .box [.int .i64 p, .int .i64 q, .ints .fresh .u64 p6_1])]⟩
theorem A2.Cj.As (N M : Nat) (r c : Int) (l : List Int) (p q : Int) (m : List Int) (p7 : Int) (p6_2 : List Int) : A2.Cj.L0 N (M + 1) r c l p q m p7 p6_2 = bif (A4 p7 q) then A2.Cj.L1 N M N r c l p q m (Ab (r - (1 : Int))) p6_2 p7 else bif (Al p6_2 && A9 p q p6_2) then some (.tup [.agg [.int .i64 ((Lt p q p6_2).1), .int .i64 ((Lt p q p6_2).2.1), .ints .arg .u64 ((Lt p q p6_2).2.2.1)], .int .i64 ((Lt p q p6_2).2.2.2)]) else none := by kernel_rfl
theorem A2.Cj.B5 (N M0 M : Nat) (r c : Int) (l : List Int) (p q : Int) (m : List Int) (p8 : Int) (p6 : List Int) (p7_1 : Int) : A2.Cj.L1 N M0 (M + 1) r c l p q m p8 p6 p7_1 = bif (D2 (0 : Int) p8) then bif (Cy p q m p8 p7_1) then A2.Cj.L2 N M0 M N r c l p q m (D0 q m p8 p7_1) (Ab (p8 + (1 : Int))) p7_1 p8 p6 else none else A2.Cj.L0 N M0 r c l p q m (Ab (p7_1 + (1 : Int))) p6 := by kernel_rfl
theorem A2.Cj.G5 (N M0 M1 M : Nat) (r c : Int) (l : List Int) (p q : Int) (m : List Int) (p9 p10 : Int) (p7_2 p8_1 : Int) (p6_1 : List Int) : A2.Cj.L2 N M0 M1 (M + 1) r c l p q m p9 p10 p7_2 p8_1 p6_1 = bif (A4 p10 r) then bif (Cy r c l p8_1 p10) then bif (Cy p q p6_1 p10 p7_2) then bif (Ag (D0 c l p8_1 p10) && Ag (D0 q p6_1 p10 p7_2)) then bif (Ag p9 && Ag (Ea (D0 c l p8_1 p10) (D0 q p6_1 p10 p7_2))) then A2.Cj.L2 N M0 M1 M r c l p q m (Ei p9 (Ea (D0 c l p8_1 p10) (D0 q p6_1 p10 p7_2))) (Ab (p10 + (1 : Int))) p7_2 p8_1 p6_1 else none else none else none else none else bif (Cy r c l p8_1 p8_1) then bif (Ag p9 && Ag (D0 c l p8_1 p8_1)) then bif (Cy p q p6_1 p8_1 p7_2) then A2.Cj.L1 N M0 M1 r c l p q m (Ab (p8_1 - (1 : Int))) (List.set p6_1 (Int.toNat (p8_1 * q + p7_2)) (Ex p9 (D0 c l p8_1 p8_1))) p7_2 else none else none else none :=
  Eq.trans (by kernel_rfl)
  (Ee (Cx (Jg (Cy r c l p8_1 p10)) (Cx (Jg (Cy p q p6_1 p10 p7_2)) (Cx (Jg (Ag (D0 c l p8_1 p10) && Ag (D0 q p6_1 p10 p7_2))) (Cx (Jg (Ag p9 && Ag (Ea (D0 c l p8_1 p10) (D0 q p6_1 p10 p7_2)))) rfl rfl) rfl) rfl) rfl) (Cx (Jg (Cy r c l p8_1 p8_1)) (Cx (Jg (Ag p9 && Ag (D0 c l p8_1 p8_1))) (Cx (Jg (Cy p q p6_1 p8_1 p7_2)) rfl rfl) rfl) rfl))
theorem A2.Cj.ev (N : Nat) (r c : Int) (l : List Int) (p q : Int) (m : List Int) : Bx A2.Cj.E N Tryz.f101 (An Tryz.f101) [.agg [.int .i64 r, .int .i64 c, .ints .arg .u64 l], .agg [.int .i64 p, .int .i64 q, .ints .arg .u64 m]] = bif (Al l && Al m) then bif ((Qf r c l p q m) != (0 : Int)) then bif (Al l && Al m) then some (.tup [.agg [.int .i64 0, .int .i64 0, .nil], .int .i64 (Qf r c l p q m)]) else none else bif (Bw p && Bw q) then A2.Cj.L0 N N r c l p q m (0 : Int) (Cd (Int.toNat p) (Int.toNat q) (fun _ _ => 0)) else none else none := by kernel_rfl
abbrev _root_.Go.Proofs.S1.A2.Cj.Kn := A3 Tryz.prog 101 A2.Cj.spec
theorem A2.Cj.Ac (hk : Ay Tryz.prog A2.Cj.A7) (h : ∀ (r c : Int) (l : List Int) (p q : Int) (m : List Int), A2.Cj.pre [.i r, .i c, .l l, .i p, .i q, .l m] = true → Bc A2.Cj.E Tryz.f101 [.agg [.int .i64 r, .int .i64 c, .ints .arg .u64 l], .agg [.int .i64 p, .int .i64 q, .ints .arg .u64 m]] (A2.Cj.out [.i r, .i c, .l l, .i p, .i q, .l m])) : A2.Cj.Kn :=
  Ak (Az hk _ _ _) Tryz.func101 (by kernel_rfl) (by kernel_rfl) h
end EqRef17
end Go.Proofs.S1
end
