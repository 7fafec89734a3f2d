/- A verified evaluator of the program's form and its use for this seat: HouL, S1EqRoot, S1PRoot, S1PRootA, LdxL, S1EqLdx, S1PLdx, S1PLdxA, S1EqRef08, S1EqRef13, S1PRef08. -/
import Derived.Test.YtjbokjpbiobjpaaGreatTF
import Derived.Test.YtjbokjpbiobjpaaGreatTE
import Derived.Test.YtjbokjpbiobjpaaGreatTI
import Derived.Test.YtjbokjpbiobjpaaGreatTG
set_option linter.unusedVariables false
set_option linter.unusedSimpArgs false
noncomputable section
namespace Go.Rnd
open Go.Den
theorem Ik : Ah (0 : Int) = true := By (n := 0) (by decide)
theorem one_in : Ah oneI = true := By (n := 4607182418800017408) (by decide)
theorem scaleN_lt {b : Nat} {n : Int} (h : b < 2 ^ 64) : (Fh b n).1 < 2 ^ 64 := by
  unfold Fh
  by_cases h4 : Ai b = 4
  · rw [if_pos h4]; exact (by decide : Pu < 2 ^ 64)
  rw [if_neg h4]
  by_cases h3 : Ai b = 3 ∨ Ai b = 0
  · rw [if_pos h3]; exact h
  rw [if_neg h3]
  exact Ry _ _ _
theorem It {b n : Int} (h : Ah b = true) : Ah (B3 b n) = true := by
  obtain ⟨x, rfl, hx⟩ := Bg h
  exact By (scaleN_lt (by rw [Int.toNat_natCast]; exact hx))
theorem Qh (b : Nat) : Fz b < 2 ^ 63 := Nat.mod_lt _ (by decide)
theorem W0 : ∀ (l : List Int) (m : Nat), m < 2 ^ 64 → W1 l m < 2 ^ 64
  | [], m, h => h
  | x :: l, m, h => by
    unfold W1
    split
    · exact (by decide : Pu < 2 ^ 64)
    · have h2 := Qh x.toNat
      exact W0 l _ (by omega)
theorem Pl (l : List Int) : Ah (Br l) = true := By (W0 l 0 (by decide))
theorem V5 (x : Int) : Ah (Ix x) = true := By (Nat.lt_trans (Qh x.toNat) (by decide))
theorem add_in {a b : Int} (ha : Ah a = true) (hb : Ah b = true) : Ah (Kk a b) = true := by
  obtain ⟨x, rfl, hx⟩ := Bg ha
  obtain ⟨y, rfl, hy⟩ := Bg hb
  exact By (U6 (by rw [Int.toNat_natCast]; exact hx) (by rw [Int.toNat_natCast]; exact hy)).1
theorem minus_in {a : Int} (ha : Ah a = true) : Ah (C0 a) = true := by
  obtain ⟨x, rfl, hx⟩ := Bg ha
  exact By (Tp (by rw [Int.toNat_natCast]; exact hx))
theorem sqrtN_lt {b : Nat} (h : b < 2 ^ 64) : (N8 b).1 < 2 ^ 64 := by
  by_cases h4 : Ai b = 4
  · rw [sqrt_nan h4]; exact (by decide : Pu < 2 ^ 64)
  by_cases h0 : Ai b = 0 ∨ b = Dt
  · rw [Ta h4 h0]; exact h
  cases hn : Bi b with
  | true => rw [sqrt_neg h4 h0 hn]; exact (by decide : Pu < 2 ^ 64)
  | false =>
    unfold N8
    rw [if_neg h4, if_neg h0, hn, if_neg (by decide)]
    exact Nat.lt_trans (Uw _ _) (by decide)
theorem sqrt_in {a : Int} (ha : Ah a = true) : Ah (Hp a) = true := by
  obtain ⟨x, rfl, hx⟩ := Bg ha
  exact By (sqrtN_lt (by rw [Int.toNat_natCast]; exact hx))
theorem sqs_in (k : Int) : ∀ (l : List Int) {s : Int}, Ah s = true → Ah (sqsI k s l) = true
  | [], _, h => h
  | _ :: l, _, h => sqs_in k l (add_in h (Ke _ _))
theorem Zm (x : List Int) : Ah (Ej x) = true := by
  unfold Ej
  split
  · exact Pl x
  · exact It (sqrt_in (sqs_in _ _ Ik))
theorem mu_in (x : List Int) : Ah (muI x) = true := by
  unfold muI
  split
  · exact Zm _
  · exact minus_in (Zm _)
theorem beta_in (x : List Int) : Ah (Hv x) = true := It (mu_in x)
theorem exp_range (b : Nat) : -1100 ≤ expN b ∧ expN b ≤ 1100 := by
  unfold expN
  split
  · have h1 := D7 b
    have h2 := El b
    rename_i h
    have h3 : (Aq b).log2 < 53 := by
      by_cases h0 : Aq b = 0
      · rw [h0]; decide
      · exact (Nat.log2_lt h0).2 h2
    omega
  · omega
theorem exp_in (x : Int) : -1100 ≤ B4 x ∧ B4 x ≤ 1100 := exp_range x.toNat
theorem Nl {l : List Int} (h : An l = true) (j : Nat) : Ah (l.getD j 0) = true := Z0 (Ar.1 h) j
theorem Qg {l : List Int} (h : ∀ x ∈ l, Ah x = true) : An l = true := Ar.2 h
theorem allU_nil : An [] = true := Qg fun _ h => by cases h
theorem allU_map {α : Type} {l : List α} {f : α → Int} (h : ∀ j, Ah (f j) = true) : An (l.map f) = true := Qg fun x hx => by
  obtain ⟨j, _, rfl⟩ := List.mem_map.1 hx
  exact h j
theorem allU_cons {x : Int} {l : List Int} (h1 : Ah x = true) (h2 : An l = true) : An (x :: l) = true := Qg fun y hy => by
  rcases List.mem_cons.1 hy with rfl | hy
  · exact h1
  · exact Ar.1 h2 y hy
theorem U5 {c i k : Int} {l : List Int} (h : An l = true) : Ah (Eg c l i k) = true := Nl h _
theorem segI_length (c b i : Int) (n : Nat) (l : List Int) : (Dm c l b i n).length = n := by unfold Dm; rw [List.length_map, List.length_range]
theorem Td {c b i : Int} {n : Nat} {l : List Int} (h : An l = true) : An (Dm c l b i n) = true := allU_map fun _ => U5 h
theorem row_in (n : Nat) {f : Nat → Int} (h : ∀ j, Ah (f j) = true) : An (Jd n f) = true := allU_cons one_in (allU_map fun _ => h _)
theorem R8 {n : Nat} (h : n ≠ 0) (f : Nat → Int) : (Jd n f).length = n := by
  unfold Jd
  rw [List.length_cons, List.length_map, List.length_range]
  omega
theorem U1 {x : List Int} (h : An x = true) : An (Cb x).1 = true ∧ Ah (Cb x).2.1 = true ∧ Ah (Cb x).2.2.1 = true := by
  have hz : An [] = true ∧ Ah (0 : Int) = true ∧ Ah (0 : Int) = true := ⟨allU_nil, Ik, Ik⟩
  unfold Cb
  split
  · exact hz
  split
  · unfold mirX
    split
    · dsimp only
      exact ⟨row_in _ fun _ => Ik, Ik, Nl h 0⟩
    · split
      · dsimp only
        exact ⟨row_in _ fun _ => Z9 _ _, Z9 _ _, beta_in x⟩
      · exact hz
  · exact hz
theorem V4 {x : List Int} (h : (Cb x).2.2.2 = 0) : (Cb x).1.length = x.length := by
  unfold Cb at h ⊢
  by_cases h1 : x.length = 0 ∨ 64 < x.length
  · rw [if_pos h1] at h; exact absurd h (by decide)
  rw [if_neg h1] at h ⊢
  by_cases h2 : Ev x = true
  · rw [if_pos h2] at h ⊢
    unfold mirX at h ⊢
    by_cases h3 : Jz (x.drop 1) = true
    · rw [if_pos h3]; dsimp only; exact R8 (n := x.length) (by omega) _
    · rw [if_neg h3] at h ⊢
      by_cases h4 : C8 (Hv x) = true
      · rw [if_pos h4]; dsimp only [mirV]; exact R8 (n := x.length) (by omega) _
      · rw [if_neg h4] at h; exact absurd h (by decide)
  · rw [if_neg h2] at h; exact absurd h (by decide)
theorem Z8 (x y : List Int) : Ah (Qn x y) = true := By (Z7 x y 0 (by decide))
theorem applyF_in {c i k t a b : Int} {l v : List Int} (h : An l = true) : Ah (Pn c l i k v t a b) = true := by
  unfold Pn
  split
  · exact Oo (U5 h) (Ke _ _)
  · exact U5 h
theorem Ys {r c : Nat} {l : List Int} (h : An l = true) (i k : Int) (v : List Int) (t : Int) : An (Fy r c l i k v t) = true := L8 fun _ _ => applyF_in h
theorem Mm (r c : Nat) (l : List Int) (i k : Int) (v : List Int) (t : Int) : (Fy r c l i k v t).length = r * c := Cd _ _ _
theorem clearG_in {r c : Nat} {l : List Int} (h : An l = true) (j : Nat) {x : Int} (hx : Ah x = true) : An (Ty r c l j x) = true := L8 fun a b => by
  split
  · split
    · exact hx
    · exact Ik
  · exact U5 h
theorem O1 (r c : Nat) (l : List Int) (j : Nat) : (Xb r c l j).length = r * c := by unfold Xb Ty; exact Cd _ _ _
theorem Zp {r c : Nat} {l : List Int} (h : An l = true) (j : Nat) : An (Xb r c l j) = true := clearG_in (Ys h _ _ _ _) _ (U1 (Td h)).2.2
def mirOk (r : Nat) : Nat → List (List Int × Int) → Prop
  | _, [] => True
  | j, m :: ms => (An m.1 = true ∧ Ah m.2 = true ∧ m.1.length + j = r) ∧ mirOk r (j + 1) ms
theorem Wu (r c : Nat) : ∀ (n j : Nat) (l : List Int) (x : List Int × List (List Int × Int)), An l = true → l.length = r * c → j + n ≤ r → Oe r c n j l = some x → An x.1 = true ∧ x.1.length = r * c ∧ x.2.length = n ∧ mirOk r j x.2
  | 0, j, l, x, ha, hl, _, h => by
    cases h
    exact ⟨ha, hl, rfl, trivial⟩
  | n + 1, j, l, x, ha, hl, hj, h => by
    unfold Oe at h
    by_cases h1 : (Cb (F0 r c l j)).2.2.2 = 0
    · rw [if_pos h1, Option.map_eq_some_iff] at h
      obtain ⟨y, hy, rfl⟩ := h
      obtain ⟨a1, a2, a3, a4⟩ := Wu r c n (j + 1) _ y (Zp ha j) (O1 r c l j) (by omega) hy
      have hm := U1 (x := F0 r c l j) (Td ha)
      have hlen := V4 h1
      refine ⟨a1, a2, by rw [List.length_cons, a3], ⟨hm.1, hm.2.1, ?_⟩, a4⟩
      show (Cb (F0 r c l j)).1.length + j = r
      rw [hlen]
      unfold F0
      rw [segI_length]
      omega
    · rw [if_neg h1] at h; cases h
theorem Z4 (n : Nat) : An (Pd n) = true := L8 fun i k => by
  unfold Tv
  split
  · exact one_in
  · exact Ik
theorem U4 (n : Nat) : ∀ (ms : List (List Int × Int)) (j : Nat) (q : List Int), An q = true → q.length = n * n → An (Kj n j ms q) = true ∧ (Kj n j ms q).length = n * n
  | [], _, _, h1, h2 => ⟨h1, h2⟩
  | m :: ms, j, q, h1, h2 => by
    unfold Kj
    exact ⟨Ys (U4 n ms (j + 1) q h1 h2).1 _ _ _ _, Mm _ _ _ _ _ _ _⟩
theorem facQ_ok {r c : Nat} {l : List Int} (h : (I9 r c l).isSome = true) : An (Rg r c l) = true ∧ (Rg r c l).length = r * r := by
  unfold Rg
  cases hd : I9 r c l with
  | none => rw [hd] at h; cases h
  | some x => exact U4 r x.2 0 _ (Z4 r) (by unfold Pd; exact Cd _ _ _)
theorem facR_ok {r c : Nat} {l : List Int} (ha : An l = true) (hl : l.length = r * c) (h : (I9 r c l).isSome = true) : An (N1 r c l) = true ∧ (N1 r c l).length = r * c := by
  unfold N1
  cases hd : I9 r c l with
  | none => rw [hd] at h; cases h
  | some x =>
    have hn : Ja r c ≤ r := by unfold Ja; omega
    have := Wu r c (Ja r c) 0 l x ha hl (by omega) hd
    exact ⟨this.1, this.2.1⟩
end Go.Rnd
namespace Go.Proofs.S1
open Go Go.Den Go.Rnd Go.Proofs
set_option linter.unusedVariables false
set_option maxRecDepth 100000
namespace EqRoot
theorem Eu : ∀ a : Bool, (((!a) || (a == true)) && true) = true := by decide
theorem I7 : ∀ a : Bool, ((!(a == true)) || ((((!(a == true)) || (a == true)) && true) && true)) = true := by decide
theorem H8 : ∀ a : Bool, ((!(a == true)) || true) = true := by decide
theorem Hr : ∀ a : Bool, ((!(!a)) || (a == false)) = true := by decide
theorem Ge : ∀ a : Bool, ((!(a == false)) || ((((!(a == false)) || (a == false)) && true) && true)) = true := by decide
theorem Kb : ∀ a : Bool, ((!(a == false)) || true) = true := by decide
theorem Lu : ∀ a b : Bool, (bif (!a) then true else b) = ((!a) || b) := by decide
theorem Ld : ∀ a : Bool, ((!(!(!a))) || ((!a) == false)) = true := by decide
theorem Qk : ∀ a : Bool, ((!((!a) == false)) || ((((!((!a) == false)) || ((!a) == false)) && true) && true)) = true := by decide
theorem Ru : ∀ a b : Bool, ((!((!a) == false)) || ((((!((!a) == false)) || ((!a) == false)) && true) && b)) = ((!a) || b) := by decide
theorem Ho : ∀ a : Bool, ((!((!a) == false)) || true) = true := by decide
theorem Ip : ∀ a b : Bool, (bif a then true else (!b)) = (a || (!b)) := by decide
theorem I8 : ∀ a b : Bool, ((!(a == false)) || ((((!(a == false)) || (a == false)) && true) && b)) = (a || b) := by decide
def root.Fm.hint : Nat → Option Bf
  | 0 => some { keep := [0, 4, 5, 6, 14], objs := [], boxes := [] }
  | _ => none
def root.Fm.A9 : List (Nat × Entry) := []
def root.Fm.E : Env := Bb (A8 root.Fm.A9) (fun _ => false) root.Fm.hint (fun _ => none)
def root.Fm.L0 (N M : Nat) (m p4 : Int) (p5 p6 p14 : Int) : Option DV := B6 root.Fm.E N Tryz.f265 (Ad Tryz.f265) [1, 1, 0, 1, 0] [] M ⟨Hq 68 [(0, .int .u64 m), (4, .int .u64 p4), (5, .int .u64 p5), (6, .int .u64 p6), (14, .int .i64 p14)], []⟩
theorem root.Fm.Az (N M : Nat) (m p4 : Int) (p5 p6 p14 : Int) : root.Fm.L0 N (M + 1) m p4 p5 p6 p14 =
  bif (A5 p14 (64 : Int)) then
  bif (A5 p14 (32 : Int)) then
  bif (decide (0 ≤ (Ab ((62 : Int) - (Ab ((2 : Int) * p14)))))) then
  bif (decide ((Ft (Gy .u64 (Bp .u64 p6 (2 : Int)) (D3 .u64 (Ct .u64 m (Ab ((62 : Int) - (Ab ((2 : Int) * p14))))) (3 : Int))) (Gy .u64 (Bp .u64 p4 (2 : Int)) (1 : Int)) (0 : Int)) ≤ 1)) then
  bif ((Ft (Gy .u64 (Bp .u64 p5 (2 : Int)) (Ct .u64 p6 (62 : Int))) (Ct .u64 p4 (62 : Int)) (Ft (Gy .u64 (Bp .u64 p6 (2 : Int)) (D3 .u64 (Ct .u64 m (Ab ((62 : Int) - (Ab ((2 : Int) * p14))))) (3 : Int))) (Gy .u64 (Bp .u64 p4 (2 : Int)) (1 : Int)) (0 : Int))) == (0 : Int)) then
  root.Fm.L0 N M m (Gy .u64 (Bp .u64 p4 (1 : Int)) (1 : Int)) (Ly (Gy .u64 (Bp .u64 p5 (2 : Int)) (Ct .u64 p6 (62 : Int))) (Ct .u64 p4 (62 : Int)) (Ft (Gy .u64 (Bp .u64 p6 (2 : Int)) (D3 .u64 (Ct .u64 m (Ab ((62 : Int) - (Ab ((2 : Int) * p14))))) (3 : Int))) (Gy .u64 (Bp .u64 p4 (2 : Int)) (1 : Int)) (0 : Int))) (Ly (Gy .u64 (Bp .u64 p6 (2 : Int)) (D3 .u64 (Ct .u64 m (Ab ((62 : Int) - (Ab ((2 : Int) * p14))))) (3 : Int))) (Gy .u64 (Bp .u64 p4 (2 : Int)) (1 : Int)) (0 : Int)) (Ab (p14 + (1 : Int)))
  else root.Fm.L0 N M m (Bp .u64 p4 (1 : Int)) (Gy .u64 (Bp .u64 p5 (2 : Int)) (Ct .u64 p6 (62 : Int))) (Gy .u64 (Bp .u64 p6 (2 : Int)) (D3 .u64 (Ct .u64 m (Ab ((62 : Int) - (Ab ((2 : Int) * p14))))) (3 : Int))) (Ab (p14 + (1 : Int)))
  else none
  else none
  else bif (decide ((Ft (Gy .u64 (Bp .u64 p6 (2 : Int)) (0 : Int)) (Gy .u64 (Bp .u64 p4 (2 : Int)) (1 : Int)) (0 : Int)) ≤ 1)) then
  bif ((Ft (Gy .u64 (Bp .u64 p5 (2 : Int)) (Ct .u64 p6 (62 : Int))) (Ct .u64 p4 (62 : Int)) (Ft (Gy .u64 (Bp .u64 p6 (2 : Int)) (0 : Int)) (Gy .u64 (Bp .u64 p4 (2 : Int)) (1 : Int)) (0 : Int))) == (0 : Int)) then
  root.Fm.L0 N M m (Gy .u64 (Bp .u64 p4 (1 : Int)) (1 : Int)) (Ly (Gy .u64 (Bp .u64 p5 (2 : Int)) (Ct .u64 p6 (62 : Int))) (Ct .u64 p4 (62 : Int)) (Ft (Gy .u64 (Bp .u64 p6 (2 : Int)) (0 : Int)) (Gy .u64 (Bp .u64 p4 (2 : Int)) (1 : Int)) (0 : Int))) (Ly (Gy .u64 (Bp .u64 p6 (2 : Int)) (0 : Int)) (Gy .u64 (Bp .u64 p4 (2 : Int)) (1 : Int)) (0 : Int)) (Ab (p14 + (1 : Int)))
  else root.Fm.L0 N M m (Bp .u64 p4 (1 : Int)) (Gy .u64 (Bp .u64 p5 (2 : Int)) (Ct .u64 p6 (62 : Int))) (Gy .u64 (Bp .u64 p6 (2 : Int)) (0 : Int)) (Ab (p14 + (1 : Int)))
  else none
  else some (.tup [.int .u64 p4, .bool (bif (p5 == (0 : Int)) then (p6 == (0 : Int)) else false)]) :=
  Eq.trans (by kernel_rfl)
  (Fb rfl (Ax (H8 (p5 == (0 : Int))) (Ax (I7 (p5 == (0 : Int))) (Ax (Eu (p5 == (0 : Int))) rfl))))
theorem root.Fm.ev (N : Nat) (m : Int) : A1 root.Fm.E N Tryz.f265 (Ad Tryz.f265) [.int .u64 m] =
  root.Fm.L0 N N m (0 : Int) (0 : Int) (0 : Int) (0 : Int) := by kernel_rfl
theorem root.Fm.Ac (hk : A0 Tryz.prog root.Fm.A9) (h : ∀ (m : Int), root.Fm.pre [.i m] = true → ∃ N dv drops, A1 root.Fm.E N Tryz.f265 (Ad Tryz.f265) [.int .u64 m] = some dv ∧ Wk drops dv (root.Fm.out [.i m])) : Am Tryz.prog 265 root.Fm.spec :=
  Aj (A2 hk _ _ _) Tryz.func265 (by kernel_rfl) (by kernel_rfl) h
abbrev _root_.Go.Proofs.S1.root.Fm.Kn : Prop := Am Tryz.prog 265 root.Fm.spec
def root.Sqrt.hint : Nat → Option Bf
  | 5 => some { keep := [5, 7, 9], objs := [], boxes := [] }
  | _ => none
def root.Sqrt.A9 : List (Nat × Entry) := [(250, Ce.Bq.spec), (265, root.Fm.spec), (155, soft.Kind.spec), (212, soft.Cs.spec), (211, soft.Fa.spec), (213, soft.Sign.spec)]
def root.Sqrt.E : Env := Bb (A8 root.Sqrt.A9) (fun _ => false) root.Sqrt.hint (fun _ => none)
def root.Sqrt.L0 (N M : Nat) (p5 p7 : Int) (p9 : Bool) : Option DV := B6 root.Sqrt.E N Tryz.f264 (Ad Tryz.f264) [1, 1, 1, 1, 1, 1, 1, 1, 1, 0, 0] [] M ⟨Hq 73 [(5, .int .i64 p5), (7, .int .u64 p7), (9, .bool p9)], []⟩
theorem root.Sqrt.Az (N M : Nat) (p5 p7 : Int) (p9 : Bool) : root.Sqrt.L0 N (M + 1) p5 p7 p9 =
  bif (Ds (4611686018427387904 : Int) p7) then
  root.Sqrt.L0 N M (Ab (p5 + (2 : Int))) (Ct .u64 p7 (1 : Int)) (bif p9 then true else ((D3 .u64 p7 (1 : Int)) == (1 : Int)))
  else bif (Dn p7 (Ab ((Ab (Int.tdiv p5 (2 : Int))) - (32 : Int))) p9) then
  some (.tup [.int .u64 (Ea false p7 (Ab ((Ab (Int.tdiv p5 (2 : Int))) - (32 : Int))) p9), .int .u8 (D9 false p7 (Ab ((Ab (Int.tdiv p5 (2 : Int))) - (32 : Int))) p9)])
  else none :=
  Eq.trans (by kernel_rfl)
  (Fb (Ax (Kb p9) (Ax (Ge p9) (Ax (Ge p9) (Ax (Hr p9) rfl)))) rfl)
theorem root.Sqrt.ev (N : Nat) (a : Int) : A1 root.Sqrt.E N Tryz.f264 (Ad Tryz.f264) [.int .u64 a] =
  bif (Ah a) then
  bif ((A7 a) == (4 : Int)) then
  some (.tup [.int .u64 9221120237041090560, .int .u8 0])
  else bif (Ah a) then
  bif ((A7 a) == (0 : Int)) then
  some (.tup [.int .u64 a, .int .u8 0])
  else bif (a == (9218868437227405312 : Int)) then
  some (.tup [.int .u64 a, .int .u8 0])
  else bif (Ah a) then
  bif (C6 a) then
  some (.tup [.int .u64 9221120237041090560, .int .u8 16])
  else bif (Ah a) then
  bif (Ah (Bk a)) then
  bif ((Int.tmod (Ab ((Ba a) - (Ab ((64 - Eb (Bk a)) - (2 : Int))))) (2 : Int)) != (0 : Int)) then
  bif (decide (0 ≤ (Ab ((Ab ((64 - Eb (Bk a)) - (2 : Int))) - (1 : Int))))) then
  bif (C2 (0 ≤ (Bp .u64 (Bk a) (Ab ((Ab ((64 - Eb (Bk a)) - (2 : Int))) - (1 : Int)))) ∧ (Bp .u64 (Bk a) (Ab ((Ab ((64 - Eb (Bk a)) - (2 : Int))) - (1 : Int)))) < 9223372036854775808)) then
  root.Sqrt.L0 N N (Ab ((Ba a) - (Ab ((Ab ((64 - Eb (Bk a)) - (2 : Int))) - (1 : Int))))) (Sn (Bp .u64 (Bk a) (Ab ((Ab ((64 - Eb (Bk a)) - (2 : Int))) - (1 : Int))))) (!(So (Bp .u64 (Bk a) (Ab ((Ab ((64 - Eb (Bk a)) - (2 : Int))) - (1 : Int))))))
  else none
  else none
  else bif (decide (0 ≤ (Ab ((64 - Eb (Bk a)) - (2 : Int))))) then
  bif (C2 (0 ≤ (Bp .u64 (Bk a) (Ab ((64 - Eb (Bk a)) - (2 : Int)))) ∧ (Bp .u64 (Bk a) (Ab ((64 - Eb (Bk a)) - (2 : Int)))) < 9223372036854775808)) then
  root.Sqrt.L0 N N (Ab ((Ba a) - (Ab ((64 - Eb (Bk a)) - (2 : Int))))) (Sn (Bp .u64 (Bk a) (Ab ((64 - Eb (Bk a)) - (2 : Int))))) (!(So (Bp .u64 (Bk a) (Ab ((64 - Eb (Bk a)) - (2 : Int))))))
  else none
  else none
  else none
  else none
  else none
  else none
  else none := by kernel_rfl
theorem root.Sqrt.Ac (hk : A0 Tryz.prog root.Sqrt.A9) (h : ∀ (a : Int), root.Sqrt.pre [.i a] = true → ∃ N dv drops, A1 root.Sqrt.E N Tryz.f264 (Ad Tryz.f264) [.int .u64 a] = some dv ∧ Wk drops dv (root.Sqrt.out [.i a])) : Am Tryz.prog 264 root.Sqrt.spec :=
  Aj (A2 hk _ _ _) Tryz.func264 (by kernel_rfl) (by kernel_rfl) h
abbrev _root_.Go.Proofs.S1.root.Sqrt.Kn : Prop := Am Tryz.prog 264 root.Sqrt.spec
def Ae.Sqrt.A9 : List (Nat × Entry) := [(264, root.Sqrt.spec)]
def Ae.Sqrt.E : Env := Bb (A8 Ae.Sqrt.A9) (fun _ => false) (fun _ => none) (fun _ => none)
theorem Ae.Sqrt.ev (N : Nat) (a : Int) : A1 Ae.Sqrt.E N Tryz.f262 (Ad Tryz.f262) [.int .u64 a] =
  bif (Ah a) then
  some (.int .u64 (Hp a))
  else none := by kernel_rfl
theorem Ae.Sqrt.Ac (hk : A0 Tryz.prog Ae.Sqrt.A9) (h : ∀ (a : Int), Ae.Sqrt.pre [.i a] = true → ∃ N dv drops, A1 Ae.Sqrt.E N Tryz.f262 (Ad Tryz.f262) [.int .u64 a] = some dv ∧ Wk drops dv (Ae.Sqrt.out [.i a])) : Am Tryz.prog 262 Ae.Sqrt.spec :=
  Aj (A2 hk _ _ _) Tryz.func262 (by kernel_rfl) (by kernel_rfl) h
abbrev _root_.Go.Proofs.S1.Ae.Sqrt.Kn : Prop := Am Tryz.prog 262 Ae.Sqrt.spec
def compare.Um.A9 : List (Nat × Entry) := [(261, Ce.J9.spec), (148, soft.Finite.spec), (155, soft.Kind.spec), (211, soft.Fa.spec)]
def compare.Um.E : Env := Bb (A8 compare.Um.A9) (fun _ => false) (fun _ => none) (fun _ => none)
theorem compare.Um.ev (N : Nat) (a : Int) : A1 compare.Um.E N Tryz.f255 (Ad Tryz.f255) [.int .u64 a] =
  bif (Ah a) then
  bif ((!(C8 a)) || (Ah a)) then
  bif ((!(C8 a)) || ((A7 a) == (0 : Int))) then
  some (.int .i64 0)
  else bif (Ah a) then
  bif (Ah (Bk a)) then
  some (.int .i64 (Ab ((Ab ((Eb (Bk a)) - (1 : Int))) + (Ba a))))
  else none
  else none
  else none
  else none :=
  Eq.trans (by kernel_rfl)
  (Fb (Ax (Ho (C8 a)) (C1 (Ru (C8 a) (Ah a)) (Ax (Qk (C8 a)) (Ax (Ld (C8 a)) (C1 (Lu (C8 a) ((A7 a) == (0 : Int))) rfl rfl))) rfl)) rfl)
theorem compare.Um.Ac (hk : A0 Tryz.prog compare.Um.A9) (h : ∀ (a : Int), compare.Um.pre [.i a] = true → ∃ N dv drops, A1 compare.Um.E N Tryz.f255 (Ad Tryz.f255) [.int .u64 a] = some dv ∧ Wk drops dv (compare.Um.out [.i a])) : Am Tryz.prog 255 compare.Um.spec :=
  Aj (A2 hk _ _ _) Tryz.func255 (by kernel_rfl) (by kernel_rfl) h
abbrev _root_.Go.Proofs.S1.compare.Um.Kn : Prop := Am Tryz.prog 255 compare.Um.spec
def Ae.Norm.hint : Nat → Option Bf
  | 0 => some { keep := [5, 6, 25, 26, 27], objs := [], boxes := [] }
  | _ => none
def Ae.Norm.A9 : List (Nat × Entry) := [(255, compare.Um.spec), (148, soft.Finite.spec), (226, Ae.Add.spec), (89, Ae.Cm.spec), (157, Ae.Mul.spec), (88, Ae.Bj.spec), (262, Ae.Sqrt.spec)]
def Ae.Norm.E : Env := Bb (A8 Ae.Norm.A9) (fun _ => false) Ae.Norm.hint (fun _ => none)
def Ae.Norm.L0 (N M : Nat) (x : List Int) (p6 p27 : Int) : Option DV := B6 Ae.Norm.E N Tryz.f257 (Ad Tryz.f257) [1, 1, 1, 1, 1, 1, 0, 1, 0] [] M ⟨Hq 45 [(5, .int .i64 (B4 (Br x))), (6, .int .u64 p6), (25, .ints .arg .u64 x), (26, .int .i64 (List.length x : Int)), (27, .int .i64 p27)], []⟩
theorem Ae.Norm.Az (N M : Nat) (x : List Int) (p6 p27 : Int) : Ae.Norm.L0 N (M + 1) x p6 p27 =
  bif (A5 p27 (List.length x : Int)) then
  bif ((decide (0 ≤ p27)) && (decide (p27 < (List.length x : Int)))) then
  bif (Dp (List.getD x (Int.toNat p27) 0) (Ab (0 - (B4 (Br x))))) then
  bif (Ah (B3 (List.getD x (Int.toNat p27) 0) (Ab (0 - (B4 (Br x))))) && Ah (B3 (List.getD x (Int.toNat p27) 0) (Ab (0 - (B4 (Br x)))))) then
  bif (Ah p6 && Ah (Ed (B3 (List.getD x (Int.toNat p27) 0) (Ab (0 - (B4 (Br x))))) (B3 (List.getD x (Int.toNat p27) 0) (Ab (0 - (B4 (Br x))))))) then
  Ae.Norm.L0 N M x (Kk p6 (Ed (B3 (List.getD x (Int.toNat p27) 0) (Ab (0 - (B4 (Br x))))) (B3 (List.getD x (Int.toNat p27) 0) (Ab (0 - (B4 (Br x))))))) (Ab (p27 + (1 : Int)))
  else none
  else none
  else none
  else none
  else bif (Ah p6) then
  bif (Dp (Hp p6) (B4 (Br x))) then
  some (.tup [.int .u64 (B3 (Hp p6) (B4 (Br x))), .int .i64 0])
  else none
  else none := by kernel_rfl
theorem Ae.Norm.ev (N : Nat) (x : List Int) : A1 Ae.Norm.E N Tryz.f257 (Ad Tryz.f257) [.ints .arg .u64 x] =
  bif (A5 (64 : Int) (List.length x : Int)) then
  some (.tup [.int .u64 0, .int .i64 3])
  else bif (Di x) then
  bif (((Br x) == (0 : Int)) || (Ah (Br x))) then
  bif (((Br x) == (0 : Int)) || (!(C8 (Br x)))) then
  some (.tup [.int .u64 (Br x), .int .i64 0])
  else bif (Ah (Br x)) then
  Ae.Norm.L0 N N x (0 : Int) (0 : Int)
  else none
  else none
  else none :=
  Eq.trans (by kernel_rfl)
  (Fb rfl (Fb (Ax (Kb ((Br x) == (0 : Int))) (C1 (I8 ((Br x) == (0 : Int)) (Ah (Br x))) (Ax (Ge ((Br x) == (0 : Int))) (Ax (Hr ((Br x) == (0 : Int))) (C1 (Ip ((Br x) == (0 : Int)) (C8 (Br x))) rfl rfl))) rfl)) rfl))
theorem Ae.Norm.Ac (hk : A0 Tryz.prog Ae.Norm.A9) (h : ∀ (x : List Int), Ae.Norm.pre [.l x] = true → ∃ N dv drops, A1 Ae.Norm.E N Tryz.f257 (Ad Tryz.f257) [.ints .arg .u64 x] = some dv ∧ Wk drops dv (Ae.Norm.out [.l x])) : Am Tryz.prog 257 Ae.Norm.spec :=
  Aj (A2 hk _ _ _) Tryz.func257 (by kernel_rfl) (by kernel_rfl) h
abbrev _root_.Go.Proofs.S1.Ae.Norm.Kn : Prop := Am Tryz.prog 257 Ae.Norm.spec
end EqRoot
end Go.Proofs.S1
namespace Go.Proofs.S1
open Go Go.Den Go.Rnd Go.Proofs
open EqRoot
theorem Pm (n s : Nat) (h : s ≤ 64) : Ct .u64 (n : Int) (s : Int) = ((n / 2 ^ s : Nat) : Int) := Gk .u64 n s h
theorem sh2 {n t : Nat} (ht : t < 4) : Gy .u64 (Bp .u64 (n : Int) (2 : Int)) (t : Int) = ((n % 2 ^ 62 * 4 + t : Nat) : Int) := by
  rw [show (2 : Int) = ((2 : Nat) : Int) from rfl, Em n 2 (by decide), show n * 2 ^ 2 % 2 ^ 64 = (n % 2 ^ 62) * 2 ^ 2 by omega]
  exact Ln ht (by omega)
theorem sh1 {n : Nat} (h : n < 2 ^ 63) : Bp .u64 (n : Int) (1 : Int) = ((2 * n : Nat) : Int) := by
  rw [show (1 : Int) = ((1 : Nat) : Int) from rfl, Em n 1 (by decide)]
  congr 1; omega
theorem sh1o {n : Nat} (h : n < 2 ^ 63) : Gy .u64 (Bp .u64 (n : Int) (1 : Int)) (1 : Int) = ((2 * n + 1 : Nat) : Int) := by
  rw [show (1 : Int) = ((1 : Nat) : Int) from rfl, Em n 1 (by decide), show n * 2 ^ 1 % 2 ^ 64 = n * 2 ^ 1 by omega, Nat.mul_comm 2 n]
  exact Ln (k := 1) (by decide) (by omega)
theorem two_bits {m i : Nat} (hi : i < 32) : D3 .u64 (Ct .u64 (m : Int) (Ab ((62 : Int) - (Ab ((2 : Int) * (i : Int)))))) (3 : Int) = ((m / 2 ^ (62 - 2 * i) % 2 ^ 64 % 4 : Nat) : Int) ∨ 2 ^ 64 ≤ m := by
  by_cases hm : m < 2 ^ 64
  · left
    rw [Ap (x := (2 : Int) * (i : Int)) (by omega) (by omega), Ap (x := (62 : Int) - 2 * (i : Int)) (by omega) (by omega), show (62 : Int) - 2 * (i : Int) = ((62 - 2 * i : Nat) : Int) by omega, Pm _ _ (by omega)]
    have hd : m / 2 ^ (62 - 2 * i) < 2 ^ 64 := Nat.lt_of_le_of_lt (Nat.div_le_self _ _) hm
    rw [show (3 : Int) = ((2 ^ 2 - 1 : Nat) : Int) from rfl, Hm 2 hd (by decide)]
    congr 1
    omega
  · right; omega
def Ql (m i : Nat) : Nat := m * 2 ^ 64 / 2 ^ (128 - 2 * i)
theorem pre2_low {m i : Nat} (hi : i < 32) : Ql m (i + 1) = 4 * Ql m i + m / 2 ^ (62 - 2 * i) % 4 := by
  unfold Ql
  have e1 : 128 - 2 * i = 64 + (64 - 2 * i) := by omega
  have e2 : 128 - 2 * (i + 1) = 64 + (62 - 2 * i) := by omega
  rw [e1, e2, Nat.pow_add, Nat.pow_add, Nat.mul_comm (2 ^ 64), Nat.mul_comm (2 ^ 64), Nat.mul_div_mul_right _ _ (by decide), Nat.mul_div_mul_right _ _ (by decide), show 64 - 2 * i = (62 - 2 * i) + 2 by omega, Nat.pow_add, ← Nat.div_div_eq_div_mul]
  omega
theorem pre2_high {m i : Nat} (hi : 32 ≤ i) (h : i < 64) : Ql m (i + 1) = 4 * Ql m i := by
  unfold Ql
  have e1 : (2 : Nat) ^ 64 = 2 ^ (2 * i - 64) * 2 ^ (128 - 2 * i) := by rw [← Nat.pow_add]; congr 1; omega
  have e2 : (2 : Nat) ^ 64 = 2 ^ (2 * i - 64) * 4 * 2 ^ (128 - 2 * (i + 1)) := by
    rw [show (4 : Nat) = 2 ^ 2 from rfl, ← Nat.pow_add, ← Nat.pow_add]; congr 1; omega
  have a1 : m * 2 ^ 64 / 2 ^ (128 - 2 * i) = m * 2 ^ (2 * i - 64) := by rw [e1, ← Nat.mul_assoc, Nat.mul_div_cancel _ (B1 _)]
  have a2 : m * 2 ^ 64 / 2 ^ (128 - 2 * (i + 1)) = m * (2 ^ (2 * i - 64) * 4) := by rw [e2, ← Nat.mul_assoc, Nat.mul_div_cancel _ (B1 _)]
  rw [a1, a2, ← Nat.mul_assoc, Nat.mul_comm 4]
theorem sub_big {A B tl th : Nat} (hA : A < 2 ^ 64) (htl : tl < 2 ^ 64) (hB : B < 2 ^ 64) (hth : th < 4) :
    (Ft (A : Int) (tl : Int) (0 : Int) = 0 ∨ Ft (A : Int) (tl : Int) (0 : Int) = 1) ∧
    (th * 2 ^ 64 + tl ≤ B * 2 ^ 64 + A → (Ft (B : Int) (th : Int) (Ft (A : Int) (tl : Int) (0 : Int)) == (0 : Int)) = true ∧
      ∃ h l : Nat, Ly (B : Int) (th : Int) (Ft (A : Int) (tl : Int) (0 : Int)) = (h : Int) ∧ Ly (A : Int) (tl : Int) (0 : Int) = (l : Int) ∧ l < 2 ^ 64 ∧ h * 2 ^ 64 + l = B * 2 ^ 64 + A - (th * 2 ^ 64 + tl)) ∧
    (B * 2 ^ 64 + A < th * 2 ^ 64 + tl → (Ft (B : Int) (th : Int) (Ft (A : Int) (tl : Int) (0 : Int)) == (0 : Int)) = false) := by
  have e1 : Ft (A : Int) (tl : Int) (0 : Int) = ((if A < tl then 1 else 0 : Nat) : Int) := by
    unfold Ft
    rw [Int.toNat_natCast, Int.toNat_natCast]
    rfl
  by_cases h : A < tl
  · rw [if_pos h] at e1
    rw [e1]
    have e2 : Ft (B : Int) (th : Int) ((1 : Nat) : Int) = ((if B < th + 1 then 1 else 0 : Nat) : Int) := by
      unfold Ft
      rw [Int.toNat_natCast, Int.toNat_natCast]
      rfl
    refine ⟨.inr rfl, fun hle => ?_, fun hlt => ?_⟩
    · rw [if_neg (by omega)] at e2
      rw [e2]
      refine ⟨rfl, B - th - 1, A + 2 ^ 64 - tl, ?_, ?_, by omega, by omega⟩
      · unfold Ly
        rw [Int.toNat_natCast, Int.toNat_natCast, Int.toNat_natCast]
        congr 1; omega
      · unfold Ly
        rw [Int.toNat_natCast, Int.toNat_natCast]
        show ((_ : Nat) : Int) = _
        congr 1
        show (A + 18446744073709551616 - tl - 0) % 18446744073709551616 = _
        omega
    · rw [if_pos (by omega)] at e2
      rw [e2]; rfl
  · rw [if_neg h] at e1
    rw [e1]
    have e2 : Ft (B : Int) (th : Int) ((0 : Nat) : Int) = ((if B < th then 1 else 0 : Nat) : Int) := by
      unfold Ft
      rw [Int.toNat_natCast, Int.toNat_natCast]
      rfl
    refine ⟨.inl rfl, fun hle => ?_, fun hlt => ?_⟩
    · rw [if_neg (by omega)] at e2
      rw [e2]
      refine ⟨rfl, B - th, A - tl, ?_, ?_, by omega, by omega⟩
      · unfold Ly
        rw [Int.toNat_natCast, Int.toNat_natCast, Int.toNat_natCast]
        congr 1; omega
      · unfold Ly
        rw [Int.toNat_natCast, Int.toNat_natCast]
        show ((_ : Nat) : Int) = _
        congr 1
        show (A + 18446744073709551616 - tl - 0) % 18446744073709551616 = _
        omega
    · rw [if_pos (by omega)] at e2
      rw [e2]; rfl
theorem glue (n t : Nat) : n / 2 ^ 62 * 2 ^ 64 + (n % 2 ^ 62 * 4 + t) = 4 * n + t := by omega
theorem long_loop (N : Nat) {m : Nat} (hm : m < 2 ^ 63) : ∀ (k i F rt rest : Nat), i + k = 64 → k < F → Ql m i = rt * rt + rest → rest ≤ 2 * rt → rt < 2 ^ i → ∀ hi lo : Nat, hi * 2 ^ 64 + lo = rest → lo < 2 ^ 64 →
    root.Fm.L0 N F (m : Int) (rt : Int) (hi : Int) (lo : Int) (i : Int) = some (.tup [.int .u64 (Sn m), .bool (So m)]) := by
  intro k
  induction k with
  | zero =>
    intro i F rt rest hi hF hP hr hb h l e hl
    obtain ⟨F, rfl⟩ : ∃ G, F = G + 1 := ⟨F - 1, by omega⟩
    obtain rfl : i = 64 := by omega
    have hP' : m * 2 ^ 64 = rt * rt + rest := by
      rw [← hP]; unfold Ql
      rw [show 128 - 2 * 64 = 0 from rfl, Nat.pow_zero, Nat.div_one]
    have hroot := root_of hP' hr
    rw [root.Fm.Az, Aw, decide_eq_false (by omega), cond_false]
    have e1 : Sn (m : Int) = (rt : Int) := by unfold Sn; rw [Int.toNat_natCast, ← hroot]
    have e2 : So (m : Int) = (bif ((h : Int) == (0 : Int)) then ((l : Int) == (0 : Int)) else false) := by
      unfold So
      rw [Int.toNat_natCast, ← hroot, hP']
      by_cases h0 : h = 0
      · subst h0
        rw [show (((0 : Nat) : Int) == (0 : Int)) = true from rfl, cond_true, Bool.eq_iff_iff, decide_eq_true_eq, beq_iff_eq]
        omega
      · rw [show ((h : Int) == (0 : Int)) = false by rw [beq_eq_false_iff_ne]; omega, cond_false, decide_eq_false]
        omega
    rw [e1, e2]
  | succ k ih =>
    intro i F rt rest hi hF hP hr hb h l e hl
    obtain ⟨F, rfl⟩ : ∃ G, F = G + 1 := ⟨F - 1, by omega⟩
    have hp : 2 ^ i ≤ 2 ^ 63 := Nat.pow_le_pow_right (by decide) (by omega)
    have hi63 : 2 ^ (i + 1) = 2 * 2 ^ i := by rw [Nat.pow_succ, Nat.mul_comm]
    have f1 : 2 * rt + 1 < 2 ^ (i + 1) := by rw [hi63]; omega
    have f2 : 2 * rt < 2 ^ (i + 1) := by omega
    have hh : h = 0 := by omega
    subst hh
    have hrest : rest = l := by omega
    subst hrest
    obtain ⟨two, t4, hP', hcode⟩ : ∃ two : Nat, two < 4 ∧ Ql m (i + 1) = 4 * Ql m i + two ∧
        root.Fm.L0 N (F + 1) (m : Int) (rt : Int) ((0 : Nat) : Int) (rest : Int) (i : Int) =
        (bif (decide ((Ft (Gy .u64 (Bp .u64 (rest : Int) (2 : Int)) (two : Int)) (Gy .u64 (Bp .u64 (rt : Int) (2 : Int)) (1 : Int)) (0 : Int)) ≤ 1)) then
          bif ((Ft (Gy .u64 (Bp .u64 ((0 : Nat) : Int) (2 : Int)) (Ct .u64 (rest : Int) (62 : Int))) (Ct .u64 (rt : Int) (62 : Int)) (Ft (Gy .u64 (Bp .u64 (rest : Int) (2 : Int)) (two : Int)) (Gy .u64 (Bp .u64 (rt : Int) (2 : Int)) (1 : Int)) (0 : Int))) == (0 : Int)) then
            root.Fm.L0 N F (m : Int) (Gy .u64 (Bp .u64 (rt : Int) (1 : Int)) (1 : Int)) (Ly (Gy .u64 (Bp .u64 ((0 : Nat) : Int) (2 : Int)) (Ct .u64 (rest : Int) (62 : Int))) (Ct .u64 (rt : Int) (62 : Int)) (Ft (Gy .u64 (Bp .u64 (rest : Int) (2 : Int)) (two : Int)) (Gy .u64 (Bp .u64 (rt : Int) (2 : Int)) (1 : Int)) (0 : Int))) (Ly (Gy .u64 (Bp .u64 (rest : Int) (2 : Int)) (two : Int)) (Gy .u64 (Bp .u64 (rt : Int) (2 : Int)) (1 : Int)) (0 : Int)) (Ab ((i : Int) + (1 : Int)))
          else root.Fm.L0 N F (m : Int) (Bp .u64 (rt : Int) (1 : Int)) (Gy .u64 (Bp .u64 ((0 : Nat) : Int) (2 : Int)) (Ct .u64 (rest : Int) (62 : Int))) (Gy .u64 (Bp .u64 (rest : Int) (2 : Int)) (two : Int)) (Ab ((i : Int) + (1 : Int)))
        else none) := by
      by_cases h32 : i < 32
      · refine ⟨m / 2 ^ (62 - 2 * i) % 4, Nat.mod_lt _ (by decide), pre2_low h32, ?_⟩
        have ht := (two_bits (m := m) h32).resolve_right (by omega)
        have hq : m / 2 ^ (62 - 2 * i) % 2 ^ 64 % 4 = m / 2 ^ (62 - 2 * i) % 4 := by omega
        rw [hq] at ht
        rw [root.Fm.Az, Aw, decide_eq_true (show (i : Int) < 64 by omega), cond_true, Aw, decide_eq_true (show (i : Int) < 32 by omega), cond_true, ht, Ap (x := (2 : Int) * (i : Int)) (by omega) (by omega), Ap (x := (62 : Int) - 2 * (i : Int)) (by omega) (by omega), decide_eq_true (show (0 : Int) ≤ 62 - 2 * (i : Int) by omega), cond_true]
      · refine ⟨0, by decide, by rw [pre2_high (by omega) (by omega), Nat.add_zero], ?_⟩
        rw [root.Fm.Az, Aw, decide_eq_true (show (i : Int) < 64 by omega), cond_true, Aw, decide_eq_false (show ¬ (i : Int) < 32 by omega), cond_false]
        rfl
    obtain ⟨s1, s2⟩ := digit_step hP hr t4
    have eA := sh2 (n := rest) t4
    have eT := sh2 (n := rt) (t := 1) (by decide)
    have eB : Gy .u64 (Bp .u64 ((0 : Nat) : Int) (2 : Int)) (Ct .u64 (rest : Int) (62 : Int)) = ((rest / 2 ^ 62 : Nat) : Int) := by
      rw [show (62 : Int) = ((62 : Nat) : Int) from rfl, Pm _ _ (by decide), sh2 (n := 0) (t := rest / 2 ^ 62) (by omega)]
      congr 1; omega
    have eH : Ct .u64 (rt : Int) (62 : Int) = ((rt / 2 ^ 62 : Nat) : Int) := by rw [show (62 : Int) = ((62 : Nat) : Int) from rfl, Pm _ _ (by decide)]
    have eT' : Gy .u64 (Bp .u64 (rt : Int) (2 : Int)) (1 : Int) = ((rt % 2 ^ 62 * 4 + 1 : Nat) : Int) := eT
    obtain ⟨b1, b2, b3⟩ := sub_big (A := rest % 2 ^ 62 * 4 + two) (B := rest / 2 ^ 62) (tl := rt % 2 ^ 62 * 4 + 1) (th := rt / 2 ^ 62) (by omega) (by omega) (by omega) (by omega)
    rw [hcode, eA, eT', eB, eH, decide_eq_true (by rcases b1 with b | b <;> rw [b] <;> decide), cond_true, Ap (by omega) (by omega)]
    by_cases hc : 4 * rt + 1 ≤ 4 * rest + two
    · obtain ⟨c1, hh, ll, c2, c3, c4, c5⟩ := b2 (by rw [glue, glue]; exact hc)
      obtain ⟨d1, d2⟩ := s1 hc
      rw [c1, cond_true, c2, c3, sh1o (by omega)]
      refine ih (i + 1) F (2 * rt + 1) (4 * rest + two - (4 * rt + 1)) (by omega) (by omega) (hP'.trans d1) d2 f1 hh ll ?_ c4
      rw [c5, glue, glue]
    · rw [b3 (by rw [glue, glue]; omega), cond_false, sh1 (by omega)]
      obtain ⟨d1, d2⟩ := s2 (by omega)
      refine ih (i + 1) F (2 * rt) (4 * rest + two) (by omega) (by omega) (hP'.trans d1) d2 f2 _ _ (glue _ _) ?_
      clear hcode
      omega
theorem root.Fm.known : root.Fm.Kn := root.Fm.Ac .nil fun m hp => by
  have hp := Ar.1 hp
  obtain ⟨n, rfl⟩ : ∃ n : Nat, m = n := ⟨m.toNat, by omega⟩
  refine ⟨65, root.Fm.out [.i n], [], ?_, Wk.Gg (.cons .int (.cons .bool .nil))⟩
  rw [root.Fm.ev]
  have h0 : Ql n 0 = 0 * 0 + 0 := by
    unfold Ql
    rw [Nat.div_eq_of_lt]
    show n * 18446744073709551616 < 340282366920938463463374607431768211456
    omega
  exact long_loop 65 (by omega) 64 0 65 0 0 rfl (by omega) h0 (Nat.le_refl 0) Nat.one_pos 0 0 rfl (Nat.pow_pos (by decide))
end Go.Proofs.S1
namespace Go.Proofs.S1
open Go Go.Den Go.Rnd Go.Proofs
open EqRoot
theorem Wd {b : Nat} (h : Aq b ≠ 0) : Eb (Aq b : Int) = ((Aq b).log2 : Int) + 1 := by
  unfold Eb
  rw [if_neg (by omega), Int.toNat_natCast]
theorem sqrt_near {w : Nat} {E : Int} {s : Bool} (hw : 2 ^ 62 ≤ w) (n : Nat) (h : Rs n = w) (hs : s = decide (w * w ≠ n)) :
    Fg false (w / 2) (E + 2) (bif s then true else decide (w % 2 = 1)) = (B5 (Fv n) E, flagsOf (Fv n) E) := by
  have e1 : Fv n / 2 ^ 2 = w / 2 := by unfold Fv; rw [h]; split <;> omega
  have e2 : (bif s then true else decide (w % 2 = 1)) = decide (Fv n % 2 ^ 2 ≠ 0) := by
    rw [hs]
    unfold Fv
    rw [h]
    by_cases h0 : w * w = n
    · rw [decide_eq_false (by omega), cond_false, if_pos h0, decide_eq_decide]; omega
    · rw [decide_eq_true h0, cond_true, if_neg h0]; symm; exact decide_eq_true (by omega)
  rw [← e1]
  have := Sj false (V := Fv n) (k := 2) (E := E) (e := E + 2) rfl e2 (by rw [e1]; omega) (by left; rw [e1]; omega)
  rw [sign_pos] at this
  exact this
theorem root.Sqrt.num {b : Nat} (hb : b < 2 ^ 64) (h4 : Ai b ≠ 4) (h : ¬ (Ai b = 0 ∨ b = Dt)) (hn : Bi b = false) {z : Nat} (hz : 2 ^ 60 ≤ Aq b * 2 ^ z) (hz2 : Aq b * 2 ^ z < 2 ^ 62) (he : (Ay b - (z : Int)) % 2 = 0) (z60 : z ≤ 62) :
    root.Sqrt.L0 2 2 (Ay b - (z : Int)) (Sn ((Aq b * 2 ^ z : Nat) : Int)) (!(So ((Aq b * 2 ^ z : Nat) : Int))) = some (.tup [.int .u64 (Hp (b : Int)), .int .u8 (Oq (b : Int))]) := by
  have hE := D7 b
  have hM := El b
  have h3 : Ai b ≠ 3 := fun h3 => by
    refine h (.inr ?_)
    have hpn : Bi b = false := hn
    unfold Bi at hpn
    have hlt : b < 2 ^ 63 := by simpa using hpn
    unfold Ai at h3
    have hp := Hy b
    unfold C5 at h3
    unfold Cl at h3
    unfold Dt
    split at h3
    · split at h3
      · omega
      · omega
    · split at h3
      · omega
      · split at h3 <;> omega
  have hm : Aq b ≠ 0 := fun h0 => h (.inl ((H3 h3 h4).1 h0))
  have eN : Aq b * 2 ^ z * 2 ^ 64 = Aq b * 2 ^ (z + 64) := by rw [Nat.mul_assoc, ← Nat.pow_add]
  have i1 : 2 ^ 62 ≤ Rs (Aq b * 2 ^ z * 2 ^ 64) := Zx (t := 62) (by omega)
  have i2 := (O9 (Aq b * 2 ^ z * 2 ^ 64)).1
  have i3 : Rs (Aq b * 2 ^ z * 2 ^ 64) < 2 ^ 63 := by
    refine sq_lt (Nat.lt_of_le_of_lt i2 ?_)
    show _ < 9223372036854775808 * 9223372036854775808
    omega
  have r1 : Sn ((Aq b * 2 ^ z : Nat) : Int) = (Rs (Aq b * 2 ^ z * 2 ^ 64) : Int) := by unfold Sn; rw [Int.toNat_natCast]
  have r2 : (!(So ((Aq b * 2 ^ z : Nat) : Int))) = decide (Rs (Aq b * 2 ^ z * 2 ^ 64) * Rs (Aq b * 2 ^ z * 2 ^ 64) ≠ Aq b * 2 ^ z * 2 ^ 64) := by
    unfold So; rw [Int.toNat_natCast, ← decide_not]
  obtain ⟨k1, k2⟩ := rootK_ok hm
  have same := root_same (m := Aq b) (k := z + 64) (l := Kh b) (E := (Ay b - (z : Int)) / 2 - 33) (F := (Ay b - (Kh b : Int)) / 2 - 1) (by rw [← eN]; omega) k1 (by omega)
  rw [← eN] at same
  have near := sqrt_near (E := (Ay b - (z : Int)) / 2 - 33) i1 _ rfl r2
  rw [same.1, same.2] at near
  have sq : N8 b = _ := sqrt_num h4 h hn
  rw [r1, r2]
  rw [r2] at near
  generalize Rs (Aq b * 2 ^ z * 2 ^ 64) = w at *
  have w1 : Ds (4611686018427387904 : Int) (w : Int) = true := by rw [Ef]; exact decide_eq_true (by omega)
  have w2 : Ct .u64 (w : Int) (1 : Int) = ((w / 2 : Nat) : Int) := by rw [show (1 : Int) = ((1 : Nat) : Int) from rfl, Pm _ _ (by decide)]
  have w3 : ((D3 .u64 (w : Int) (1 : Int)) == (1 : Int)) = decide (w % 2 = 1) := by
    rw [show D3 .u64 (w : Int) (1 : Int) = ((w % 2 ^ 1 : Nat) : Int) from Hm 1 (by omega) (by decide), Bool.eq_iff_iff, beq_iff_eq, decide_eq_true_eq]
    omega
  have w4 : Ds (4611686018427387904 : Int) ((w / 2 : Nat) : Int) = false := by rw [Ef]; exact decide_eq_false (by omega)
  have w5 : Ab (Ab (Int.tdiv (Ay b - (z : Int) + 2) 2) - 32) = (Ay b - (z : Int)) / 2 - 33 + 2 := by
    have : Int.tdiv (Ay b - (z : Int) + 2) 2 = (Ay b - (z : Int)) / 2 + 1 := by
      rw [Int.tdiv_eq_ediv]
      split <;> omega
    rw [this, Ap (x := (Ay b - (z : Int)) / 2 + 1) (by omega) (by omega), Ap (by omega) (by omega)]
    omega
  have w6 : Ab (Ay b - (z : Int) + 2) = Ay b - (z : Int) + 2 := Ap (by omega) (by omega)
  generalize hs : decide (w * w ≠ Aq b * 2 ^ z * 2 ^ 64) = s at *
  have pre : Dn ((w / 2 : Nat) : Int) ((Ay b - (z : Int)) / 2 - 33 + 2) (bif s then true else decide (w % 2 = 1)) = true := Ar.2 ⟨by omega, by omega, by omega, by omega, fun _ => .inl (by omega)⟩
  rw [show (2 : Nat) = 1 + 1 from rfl, root.Sqrt.Az, w1, cond_true, w2, w3, w6, show (1 : Nat) = 0 + 1 from rfl, root.Sqrt.Az, w4, cond_false, w5, pre, cond_true]
  unfold Ea D9 Hp Oq
  rw [Int.toNat_natCast, Int.toNat_natCast, near, sq]
theorem root.Sqrt.known : root.Sqrt.Kn := root.Sqrt.Ac (.cons Ce.Bq.known (.cons root.Fm.known (.cons soft.Kind.known (.cons soft.Cs.known (.cons soft.Fa.known (.cons soft.Sign.known .nil)))))) fun a hp => by
  obtain ⟨b, rfl, hb⟩ := Bg (x := a) hp
  refine ⟨2, root.Sqrt.out [.i b], [], ?_, Wk.Gg (.cons .int (.cons .int .nil))⟩
  show _ = some (DV.tup [.int .u64 (Hp (b : Int)), .int .u8 (Oq (b : Int))])
  have hk : A7 (b : Int) = (Ai b : Int) := rfl
  rw [root.Sqrt.ev, By hb, cond_true, cond_true, cond_true, cond_true, hk]
  by_cases h4 : Ai b = 4
  · rw [h4, show (((4 : Nat) : Int) == (4 : Int)) = true from rfl, cond_true]
    unfold Hp Oq
    rw [Int.toNat_natCast, sqrt_nan h4]; rfl
  have k4 : (((Ai b : Nat) : Int) == (4 : Int)) = false := by rw [beq_eq_false_iff_ne]; omega
  rw [k4, cond_false]
  by_cases h0 : Ai b = 0
  · rw [h0, show (((0 : Nat) : Int) == (0 : Int)) = true from rfl, cond_true]
    unfold Hp Oq
    rw [Int.toNat_natCast, Ta h4 (.inl h0)]; rfl
  have k0 : (((Ai b : Nat) : Int) == (0 : Int)) = false := by rw [beq_eq_false_iff_ne]; omega
  rw [k0, cond_false]
  by_cases hi : b = Dt
  · rw [show (((b : Nat) : Int) == (9218868437227405312 : Int)) = true by rw [hi]; rfl, cond_true]
    unfold Hp Oq
    rw [Int.toNat_natCast, Ta h4 (.inr hi)]; rfl
  have ki : (((b : Nat) : Int) == (9218868437227405312 : Int)) = false := by
    rw [beq_eq_false_iff_ne]; intro hh; refine hi (show b = 9218868437227405312 from ?_); omega
  rw [ki, cond_false]
  have hh : ¬ (Ai b = 0 ∨ b = Dt) := by rintro (h | h); exact h0 h; exact hi h
  have hneg : C6 (b : Int) = Bi b := rfl
  rw [hneg]
  cases hn : Bi b with
  | true =>
    rw [cond_true]
    unfold Hp Oq
    rw [Int.toNat_natCast, sqrt_neg h4 hh hn]; rfl
  | false =>
    rw [cond_false]
    have hm : Aq b ≠ 0 := fun hz => by
      have h3 : Ai b ≠ 3 := fun h3 => by
        rcases Gb b with ⟨p, _, _⟩ | ⟨_, _, q⟩ | ⟨_, q, _⟩
        · unfold Aq at hz
          rw [if_neg (by omega)] at hz
          omega
        · omega
        · exact q h3
      exact hh (.inl ((H3 h3 h4).1 hz))
    have hM := El b
    have hE := D7 b
    have hl : (Aq b).log2 ≤ 52 := by have := (Nat.log2_lt hm).2 (show Aq b < 2 ^ 53 by omega); omega
    have e1 : Bk (b : Int) = (Aq b : Int) := rfl
    have e2 : Ba (b : Int) = Ay b := rfl
    have l1 : ∀ z : Nat, (Aq b).log2 + z = 60 ∨ (Aq b).log2 + z = 61 → 2 ^ 60 ≤ Aq b * 2 ^ z ∧ Aq b * 2 ^ z < 2 ^ 62 := by
      intro z hz
      have hlz := Li (Aq b) z hm
      have hne : Aq b * 2 ^ z ≠ 0 := Ha hm
      constructor
      · rw [← Nat.le_log2 hne]; omega
      · rw [← Nat.log2_lt hne]; omega
    have ez : Ab ((64 - (((Aq b).log2 : Int) + 1)) - (2 : Int)) = ((61 - (Aq b).log2 : Nat) : Int) := by rw [Ap (by omega) (by omega)]; omega
    have ez' : Ab (((61 - (Aq b).log2 : Nat) : Int) - (1 : Int)) = ((60 - (Aq b).log2 : Nat) : Int) := by rw [Ap (by omega) (by omega)]; omega
    rw [e1, e2, By (n := Aq b) (by omega), cond_true, Wd hm, ez, ez', Ap (x := Ay b - ((61 - (Aq b).log2 : Nat) : Int)) (by omega) (by omega), Ap (x := Ay b - ((60 - (Aq b).log2 : Nat) : Int)) (by omega) (by omega)]
    by_cases hp2 : (Ay b - ((61 - (Aq b).log2 : Nat) : Int)) % 2 = 0
    · have t0 : (Int.tmod (Ay b - ((61 - (Aq b).log2 : Nat) : Int)) (2 : Int) != (0 : Int)) = false := by
        rw [bne_eq_false_iff_eq]; exact Int.tmod_eq_zero_of_dvd (Int.dvd_of_emod_eq_zero hp2)
      obtain ⟨m1, m2⟩ := l1 (61 - (Aq b).log2) (by omega)
      rw [t0, cond_false, decide_eq_true (by omega), cond_true, Em _ _ (by omega), Nat.mod_eq_of_lt (by omega), Ar.2 (by omega), cond_true]
      exact root.Sqrt.num hb h4 hh hn m1 m2 hp2 (by omega)
    · have t0 : (Int.tmod (Ay b - ((61 - (Aq b).log2 : Nat) : Int)) (2 : Int) != (0 : Int)) = true := by
        rw [bne_iff_ne]; intro hz; exact hp2 (Int.emod_eq_zero_of_dvd (Int.dvd_of_tmod_eq_zero hz))
      obtain ⟨m1, m2⟩ := l1 (60 - (Aq b).log2) (by omega)
      rw [t0, cond_true, decide_eq_true (by omega), cond_true, Em _ _ (by omega), Nat.mod_eq_of_lt (by omega), Ar.2 (by omega), cond_true]
      exact root.Sqrt.num hb h4 hh hn m1 m2 (by omega) (by omega)
theorem Ae.Sqrt.known : Ae.Sqrt.Kn := Ae.Sqrt.Ac (.cons root.Sqrt.known .nil) fun a hp => by
  have hp : Ah a = true := hp
  refine ⟨0, Ae.Sqrt.out [.i a], [], ?_, .int⟩
  rw [Ae.Sqrt.ev, hp]; rfl
theorem compare.Um.known : compare.Um.Kn := compare.Um.Ac (.cons Ce.J9.known (.cons soft.Finite.known (.cons soft.Kind.known (.cons soft.Fa.known .nil)))) fun a hp => by
  obtain ⟨b, rfl, hb⟩ := Bg (x := a) hp
  refine ⟨0, compare.Um.out [.i b], [], ?_, .int⟩
  show _ = some (DV.int .i64 (B4 (b : Int)))
  have hk : A7 (b : Int) = (Ai b : Int) := rfl
  have hf : C8 (b : Int) = Jl b := rfl
  have hE := D7 b
  have hM := El b
  rw [compare.Um.ev, By hb, cond_true, Bool.or_true, cond_true, hk, hf]
  unfold B4
  rw [Int.toNat_natCast]
  unfold expN
  cases hfin : Jl b with
  | false => rfl
  | true =>
    by_cases h0 : Ai b = 0
    · rw [h0]; rfl
    · have k0 : (((Ai b : Nat) : Int) == (0 : Int)) = false := by rw [beq_eq_false_iff_ne]; omega
      have hm : Aq b ≠ 0 := fun hz => by
        obtain ⟨f4, f3⟩ := Sy hfin
        exact h0 ((H3 f3 f4).1 hz)
      have hl : (Aq b).log2 ≤ 52 := by have := (Nat.log2_lt hm).2 (show Aq b < 2 ^ 53 by omega); omega
      have e1 : Bk (b : Int) = (Aq b : Int) := rfl
      have e2 : Ba (b : Int) = Ay b := rfl
      rw [k0, if_pos ⟨rfl, h0⟩, Bool.not_true, Bool.false_or, cond_false, cond_true, e1, e2, By (n := Aq b) (by omega), cond_true, Wd hm, Ap (x := ((Aq b).log2 : Int) + 1 - 1) (by omega) (by omega), Ap (by omega) (by omega)]
      congr 2; omega
theorem sqs_drop {x : List Int} {i : Nat} (h : i < x.length) (k s : Int) : sqsI k s (x.drop i) = sqsI k (Kk s (Ed (B3 (x.getD i 0) k) (B3 (x.getD i 0) k))) (x.drop (i + 1)) := by
  rw [Ih h, sqsI]
theorem norm_loop (N : Nat) {x : List Int} (hx : Di x = true) (hl : x.length ≤ 1000) : ∀ (k i F : Nat) (s : Int), i + k = x.length → k < F → Ah s = true →
    Ae.Norm.L0 N F x s (i : Int) = some (.tup [.int .u64 (B3 (Hp (sqsI (-B4 (Br x)) s (x.drop i))) (B4 (Br x))), .int .i64 0]) := by
  obtain ⟨_, hu⟩ := Ks hx
  have he := exp_in (Br x)
  intro k
  induction k with
  | zero =>
    intro i F s hi hF hs
    obtain ⟨F, rfl⟩ : ∃ G, F = G + 1 := ⟨F - 1, by omega⟩
    rw [Ae.Norm.Az, Aw, decide_eq_false (by omega), cond_false, hs, cond_true, show Dp (Hp s) (B4 (Br x)) = true from Ag.2 ⟨sqrt_in hs, Ar.2 (by omega)⟩, cond_true, List.drop_of_length_le (by omega)]
    rfl
  | succ k ih =>
    intro i F s hi hF hs
    obtain ⟨F, rfl⟩ : ∃ G, F = G + 1 := ⟨F - 1, by omega⟩
    rw [Ae.Norm.Az, Aw, decide_eq_true (show (i : Int) < (x.length : Int) by omega), cond_true, decide_eq_true (show (0 : Int) ≤ (i : Int) by omega), Bool.and_self, cond_true, Int.toNat_natCast, Ap (x := 0 - B4 (Br x)) (by omega) (by omega), show (0 : Int) - B4 (Br x) = -B4 (Br x) by omega,
      show Dp (List.getD x i 0) (-B4 (Br x)) = true from Ag.2 ⟨hu i (by omega), Ar.2 (by omega)⟩, cond_true, It (hu i (by omega)), Bool.and_self, cond_true, hs, Ke, Bool.and_self, cond_true, sqs_drop (by omega), Ap (by omega) (by omega)]
    exact ih (i + 1) F _ (by omega) (by omega) (add_in hs (Ke _ _))
theorem Ae.Norm.known : Ae.Norm.Kn := Ae.Norm.Ac (.cons compare.Um.known (.cons soft.Finite.known (.cons Ae.Add.known (.cons Ae.Cm.known (.cons Ae.Mul.known (.cons Ae.Bj.known (.cons Ae.Sqrt.known .nil))))))) fun x hp => by
  obtain ⟨hx, hl⟩ := Ag.1 (show (Di x && C2 (List.length x ≤ 64)) = true from hp)
  have hl := Ar.1 hl
  refine ⟨65, Ae.Norm.out [.l x], [], ?_, Wk.Gg (.cons .int (.cons .int .nil))⟩
  show _ = some (DV.tup [.int .u64 (Ej x), .int .i64 0])
  rw [Ae.Norm.ev, Aw, decide_eq_false (by omega), cond_false, hx, cond_true, Pl, Bool.or_true, cond_true]
  unfold Ej
  by_cases h : Br x = 0 ∨ C8 (Br x) = false
  · have : ((Br x == (0 : Int)) || (!(C8 (Br x)))) = true := by
      rcases h with h | h
      · rw [h]; rfl
      · rw [h, Bool.not_false, Bool.or_true]
    rw [this, cond_true, if_pos h]
  · have : ((Br x == (0 : Int)) || (!(C8 (Br x)))) = false := by
      rw [Bool.or_eq_false_iff, beq_eq_false_iff_ne, Bool.not_eq_false']
      refine ⟨fun h0 => h (.inl h0), ?_⟩
      cases hf : C8 (Br x) with
      | true => rfl
      | false => exact absurd (.inr hf) h
    rw [this, cond_false, cond_true, if_neg h]
    exact norm_loop 65 hx (by omega) x.length 0 65 0 (by omega) (by omega) Ik
end Go.Proofs.S1
namespace Go.Rnd
open Go.Den
theorem p52 : Aq 4841369599423283200 = 2 ^ 52 ∧ Ay 4841369599423283200 = 0 ∧ Ai 4841369599423283200 = 2 ∧ Bi 4841369599423283200 = false := by decide +kernel
theorem p53 : Aq 4368491638549381120 = 2 ^ 52 ∧ Ay 4368491638549381120 = -105 ∧ Ai 4368491638549381120 = 2 ∧ Bi 4368491638549381120 = false := by decide +kernel
theorem rung_min {L : Int} {q : Nat} (b1 : 2 ^ 52 ≤ q) (b2 : q < 2 ^ 53) (he : -1074 ≤ L) (hi : L + 1074 ≤ 2045) : min ((L + 1074).toNat * 2 ^ 52 + q) 9218868437227405312 = (L + 1075).toNat * 2 ^ 52 + (q - 2 ^ 52) := by
  obtain ⟨t, rfl⟩ : ∃ t : Nat, L = t - 1074 := ⟨(L + 1074).toNat, by omega⟩
  have e1 : ((t : Int) - 1074 + 1074).toNat = t := by omega
  have e2 : ((t : Int) - 1074 + 1075).toNat = t + 1 := by omega
  rw [e1, e2]
  omega
theorem rung_log {m : Nat} (h0 : m ≠ 0) (h : m.log2 ≤ 52) {e : Int} (he : -1074 ≤ e + m.log2 - 52) (hi : e + m.log2 - 52 + 1074 ≤ 2045) :
    B5 m e = (e + m.log2 - 52 + 1075).toNat * 2 ^ 52 + (m * 2 ^ (52 - m.log2) - 2 ^ 52) ∧ 2 ^ 52 ≤ m * 2 ^ (52 - m.log2) ∧ m * 2 ^ (52 - m.log2) < 2 ^ 53 := by
  have hl := Li m (52 - m.log2) h0
  have hne : m * 2 ^ (52 - m.log2) ≠ 0 := Ha h0
  have b1 : 2 ^ 52 ≤ m * 2 ^ (52 - m.log2) := by rw [← Nat.le_log2 hne, hl]; omega
  have b2 : m * 2 ^ (52 - m.log2) < 2 ^ 53 := by rw [← Nat.log2_lt hne, hl]; omega
  have hs := (Dg m (52 - m.log2) e).1
  have ee : e - ((52 - m.log2 : Nat) : Int) = e + m.log2 - 52 := by omega
  rw [ee] at hs
  exact ⟨hs.symm.trans ((K5 b1 b2 (by omega)).trans (rung_min b1 b2 he hi)), b1, b2⟩
theorem nrm_word {x : Nat} (hx : x < 2 ^ 64) (h3 : Ai x ≠ 3) (h4 : Ai x ≠ 4) (h0 : Ai x ≠ 0) :
    ∃ P f d : Nat, 1 ≤ P ∧ P ≤ 2046 ∧ f < 2 ^ 52 ∧ Kt x = Be (Bi x) (P * 2 ^ 52 + f) ∧ f + 2 ^ 52 = Aq x * 2 ^ d ∧ (P : Int) - 1075 = Ay x - Hk x - d := by
  have hf := Iy x
  have hp := Hy x
  have hm : Aq x ≠ 0 := fun h => h0 ((H3 h3 h4).1 h)
  have hw := K4 hx
  have hab : Fz x = C5 x * 2 ^ 52 + Cl x := by unfold Fz C5 Cl; omega
  have hp2 : C5 x ≠ 2047 := fun h => by
    rcases Gb x with ⟨_, _, k⟩ | ⟨_, _, k⟩ | ⟨k, _, _⟩
    · exact h3 k
    · exact h4 k
    · omega
  unfold Kt Hk
  by_cases hs : Fz x < 4503599627370496
  · have hz : C5 x = 0 := by omega
    have eM : Aq x = Cl x := by unfold Aq; rw [if_pos hz]
    have eE : Ay x = -1074 := by unfold Ay; rw [if_pos hz]
    have hl : (Aq x).log2 ≤ 51 := by have := (Nat.log2_lt hm).2 (show Aq x < 2 ^ 52 by omega); omega
    rw [if_pos hs, if_pos hs]
    have hmul := mul_pow h3 h4 (by rw [p52.2.2.1]; decide) (by rw [p52.2.2.1]; decide) p52.1 p52.2.2.2
    rw [hmul, p52.2.1, eE]
    obtain ⟨r1, r2, r3⟩ := rung_log (e := -1074 + 0 + 52) hm (by omega) (by omega) (by omega)
    refine ⟨(Aq x).log2 + 1, Aq x * 2 ^ (52 - (Aq x).log2) - 2 ^ 52, 52 - (Aq x).log2, by omega, by omega, by omega, ?_, by omega, by omega⟩
    have ht : (-1074 + 0 + 52 + ((Aq x).log2 : Int) - 52 + 1075).toNat = (Aq x).log2 + 1 := by omega
    rw [ht] at r1
    exact congrArg (Be (Bi x)) r1
  · rw [if_neg hs, if_neg hs]
    have hz : C5 x ≠ 0 := by
      intro h
      rw [h] at hab
      omega
    have eM : Aq x = Cl x + 2 ^ 52 := by unfold Aq; rw [if_neg hz]
    have eE : Ay x = (C5 x : Int) - 1075 := by unfold Ay; rw [if_neg hz]
    refine ⟨C5 x, Cl x, 0, by omega, by omega, hf, ?_, by rw [eM, Nat.pow_zero, Nat.mul_one], by omega⟩
    rw [← hab]
    exact hw.symm
theorem Py {s : Bool} {P f : Nat} (h1 : 1 ≤ P) (h2 : P ≤ 2046) (hf : f < 2 ^ 52) :
    C5 (Be s (P * 2 ^ 52 + f)) = P ∧ Cl (Be s (P * 2 ^ 52 + f)) = f ∧ Bi (Be s (P * 2 ^ 52 + f)) = s ∧ Be s (P * 2 ^ 52 + f) < 2 ^ 64 ∧ Ai (Be s (P * 2 ^ 52 + f)) = 2 ∧
    Aq (Be s (P * 2 ^ 52 + f)) = f + 2 ^ 52 ∧ Ay (Be s (P * 2 ^ 52 + f)) = (P : Int) - 1075 := by
  have e1 : C5 (Be s (P * 2 ^ 52 + f)) = P := by
    unfold C5 Be
    cases s
    · rw [if_neg (by decide)]; omega
    · rw [if_pos rfl]; omega
  have e2 : Cl (Be s (P * 2 ^ 52 + f)) = f := by
    unfold Cl Be
    cases s
    · rw [if_neg (by decide)]; omega
    · rw [if_pos rfl]; omega
  have e3 : Bi (Be s (P * 2 ^ 52 + f)) = s := sign_neg s (by omega)
  have e4 : Be s (P * 2 ^ 52 + f) < 2 ^ 64 := by
    unfold Be
    cases s
    · rw [if_neg (by decide)]; omega
    · rw [if_pos rfl]; omega
  refine ⟨e1, e2, e3, e4, ?_, ?_, ?_⟩
  · unfold Ai; rw [e1, if_neg (by omega), if_pos (by omega)]
  · unfold Aq; rw [e1, e2, if_neg (by omega)]
  · unfold Ay; rw [e1, if_neg (by omega)]
theorem rung_put {L : Int} {q f : Nat} (hf : f < 2 ^ 52) (h1 : -1074 ≤ L) (h2 : L + 1074 ≤ 2045) (hq : (L + 1075).toNat = q) : B5 (f + 2 ^ 52) L = q * 2 ^ 52 + f := by
  have em := rung_min (L := L) (q := f + 2 ^ 52) (by omega) (by omega) h1 h2
  rw [hq, Nat.add_sub_cancel] at em
  exact (K5 (by omega) (by omega) h1).trans em
theorem huge {V : Nat} {E : Int} (h0 : V ≠ 0) (h : 1024 ≤ E + V.log2) : B5 V E = Dt := by
  have hl : B2 V E = E + V.log2 - 52 := by unfold B2; omega
  have hk := Zw h0 hl
  have hle := L4 V E
  unfold B5 at hle ⊢
  rw [if_neg h0] at hle ⊢
  rw [hl, Gv] at hle ⊢
  generalize kept V E = q at *
  obtain ⟨t, ht⟩ : ∃ t : Nat, E + (V.log2 : Int) - 52 = t := ⟨(E + (V.log2 : Int) - 52).toNat, by omega⟩
  rw [ht]
  have : ((t : Int) + 1074).toNat = t + 1074 := by omega
  rw [this]
  omega
theorem Vt {y m : Nat} (h : Dj y = m) (hm : Ai m ≠ 4) : y = m := by
  unfold Dj at h
  by_cases h4 : Ai y = 4
  · rw [if_pos h4] at h
    exact absurd (by rw [← h]; decide) hm
  · rw [if_neg h4] at h; exact h
theorem O6 (s : Bool) (V : Nat) (E : Int) : Ai (Be s (B5 V E)) ≠ 4 := by
  rw [Ts s (L4 V E)]
  split
  · decide
  · split
    · decide
    · split <;> decide
theorem scale_by {x P f d : Nat} {k : Int} (hm : Aq x ≠ 0) (he : f + 2 ^ 52 = Aq x * 2 ^ d) (hP : (P : Int) - 1075 = Ay x - Hk x - d) :
    B5 (Aq x) (Ay x + k) = B5 (f + 2 ^ 52) ((P : Int) - 1075 + Hk x + k) := by
  have := (Dg (Aq x) d (Ay x + k)).1
  rw [← he] at this
  rw [← this]
  congr 1
  omega
end Go.Rnd
namespace Go.Proofs.S1
open Go Go.Den Go.Rnd Go.Proofs
set_option linter.unusedVariables false
set_option maxRecDepth 100000
namespace EqLdx
theorem Eu : ∀ a b : Bool, (bif a then true else b) = (a || b) := by decide
theorem I7 : ∀ a : Bool, ((!(!a)) || (a == false)) = true := by decide
theorem H8 : ∀ a b : Bool, ((!(a == false)) || ((((!(a == false)) || (a == false)) && true) && b)) = (a || b) := by decide
theorem Hr : ∀ a : Bool, ((!(a == false)) || true) = true := by decide
def math.Gm.A9 : List (Nat × Entry) := []
def math.Gm.E : Env := Bb (A8 math.Gm.A9) (fun _ => false) (fun _ => none) (fun _ => none)
theorem math.Gm.ev (N x : Nat) : A1 math.Gm.E N Tryz.f251 (Ad Tryz.f251) [.fl x] =
  some (.fl (x % 9223372036854775808)) := by kernel_rfl
theorem math.Gm.Ac (hk : A0 Tryz.prog math.Gm.A9) (h : ∀ (x : Nat), math.Gm.pre [.f x] = true → ∃ N dv drops, A1 math.Gm.E N Tryz.f251 (Ad Tryz.f251) [.fl x] = some dv ∧ Wk drops dv (math.Gm.out [.f x])) : Am Tryz.prog 251 math.Gm.spec :=
  Aj (A2 hk _ _ _) Tryz.func251 (by kernel_rfl) (by kernel_rfl) h
abbrev _root_.Go.Proofs.S1.math.Gm.Kn : Prop := Am Tryz.prog 251 math.Gm.spec
def math.G4.A9 : List (Nat × Entry) := []
def math.G4.E : Env := Bb (A8 math.G4.A9) (fun _ => false) (fun _ => none) (fun _ => none)
theorem math.G4.ev (N x : Nat) : A1 math.G4.E N Tryz.f241 (Ad Tryz.f241) [.fl x] =
  some (.bool (Ieee.double.order x x != some .eq)) := by kernel_rfl
theorem math.G4.Ac (hk : A0 Tryz.prog math.G4.A9) (h : ∀ (x : Nat), math.G4.pre [.f x] = true → ∃ N dv drops, A1 math.G4.E N Tryz.f241 (Ad Tryz.f241) [.fl x] = some dv ∧ Wk drops dv (math.G4.out [.f x])) : Am Tryz.prog 241 math.G4.spec :=
  Aj (A2 hk _ _ _) Tryz.func241 (by kernel_rfl) (by kernel_rfl) h
abbrev _root_.Go.Proofs.S1.math.G4.Kn : Prop := Am Tryz.prog 241 math.G4.spec
def math.G5.A9 : List (Nat × Entry) := [(251, math.Gm.spec)]
def math.G5.E : Env := Bb (A8 math.G5.A9) (fun _ => false) (fun _ => none) (fun _ => none)
theorem math.G5.ev (N x : Nat) (s : Int) : A1 math.G5.E N Tryz.f240 (Ad Tryz.f240) [.fl x, .int .i64 s] =
  bif (s == (0 : Int)) then
  some (.bool (Ieee.double.order (Fz x) 9218868437227405311 == some .gt))
  else bif (A5 s (0 : Int)) then
  none
  else some (.bool (Ieee.double.order x 9218868437227405311 == some .gt)) := by kernel_rfl
theorem math.G5.Ac (hk : A0 Tryz.prog math.G5.A9) (h : ∀ (x : Nat) (s : Int), math.G5.pre [.f x, .i s] = true → ∃ N dv drops, A1 math.G5.E N Tryz.f240 (Ad Tryz.f240) [.fl x, .int .i64 s] = some dv ∧ Wk drops dv (math.G5.out [.f x, .i s])) : Am Tryz.prog 240 math.G5.spec :=
  Aj (A2 hk _ _ _) Tryz.func240 (by kernel_rfl) (by kernel_rfl) h
abbrev _root_.Go.Proofs.S1.math.G5.Kn : Prop := Am Tryz.prog 240 math.G5.spec
def math.normalize.A9 : List (Nat × Entry) := [(251, math.Gm.spec)]
def math.normalize.E : Env := Bb (A8 math.normalize.A9) (fun _ => false) (fun _ => none) (fun _ => none)
theorem math.normalize.ev (N x : Nat) : A1 math.normalize.E N Tryz.f242 (Ad Tryz.f242) [.fl x] =
  bif (Ieee.double.order (Fz x) 4503599627370496 == some .lt) then
  some (.tup [.fl ((Ieee.double.mul x 4841369599423283200).getD nanBits), .int .i64 (-52 : Int)])
  else some (.tup [.fl x, .int .i64 0]) := by kernel_rfl
theorem math.normalize.Ac (hk : A0 Tryz.prog math.normalize.A9) (h : ∀ (x : Nat), math.normalize.pre [.f x] = true → ∃ N dv drops, A1 math.normalize.E N Tryz.f242 (Ad Tryz.f242) [.fl x] = some dv ∧ Wk drops dv (math.normalize.out [.f x])) : Am Tryz.prog 242 math.normalize.spec :=
  Aj (A2 hk _ _ _) Tryz.func242 (by kernel_rfl) (by kernel_rfl) h
abbrev _root_.Go.Proofs.S1.math.normalize.Kn : Prop := Am Tryz.prog 242 math.normalize.spec
def math.De.A9 : List (Nat × Entry) := []
def math.De.E : Env := Ws (A8 math.De.A9) (fun _ => false) (fun _ => none) (fun _ => none) (advOf [])
theorem math.De.ev (N x y : Nat) : A1 math.De.E N Tryz.f243 (Ad Tryz.f243) [.fl x, .fl y] =
  bif (!(Er x)) then
  bif (!(Er y)) then
  bif (decide (0 ≤ (Gy .u64 (Fj .u64 (x : Int) (9223372036854775808 : Int)) (D3 .u64 (y : Int) (9223372036854775808 : Int))))) then
  some (.fl (Int.toNat (Gy .u64 (Fj .u64 (x : Int) (9223372036854775808 : Int)) (D3 .u64 (y : Int) (9223372036854775808 : Int)))))
  else none
  else none
  else none := by kernel_rfl
theorem math.De.Ac (hk : A0 Tryz.prog math.De.A9) (h : ∀ (x y : Nat), math.De.pre [.f x, .f y] = true → ∃ N dv drops, A1 math.De.E N Tryz.f243 (Ad Tryz.f243) [.fl x, .fl y] = some dv ∧ Wk drops dv (math.De.out [.f x, .f y])) : Am Tryz.prog 243 math.De.spec :=
  Aj (Z5 hk _ _ _ _) Tryz.func243 (by kernel_rfl) (by kernel_rfl) h
abbrev _root_.Go.Proofs.S1.math.De.Kn : Prop := Am Tryz.prog 243 math.De.spec
def math.Va.A9 : List (Nat × Entry) := []
def math.Va.E : Env := Bb (A8 math.Va.A9) (fun _ => false) (fun _ => none) (fun _ => none)
theorem math.Va.ev (N : Nat) (s : Int) : A1 math.Va.E N Tryz.f244 (Ad Tryz.f244) [.int .i64 s] =
  bif (Ds (0 : Int) s) then
  some (.fl 9218868437227405312)
  else some (.fl 18442240474082181120) := by kernel_rfl
theorem math.Va.Ac (hk : A0 Tryz.prog math.Va.A9) (h : ∀ (s : Int), math.Va.pre [.i s] = true → ∃ N dv drops, A1 math.Va.E N Tryz.f244 (Ad Tryz.f244) [.int .i64 s] = some dv ∧ Wk drops dv (math.Va.out [.i s])) : Am Tryz.prog 244 math.Va.spec :=
  Aj (A2 hk _ _ _) Tryz.func244 (by kernel_rfl) (by kernel_rfl) h
abbrev _root_.Go.Proofs.S1.math.Va.Kn : Prop := Am Tryz.prog 244 math.Va.spec
def math.F5.A9 : List (Nat × Entry) := [(243, math.De.spec), (244, math.Va.spec), (240, math.G5.spec), (241, math.G4.spec), (242, math.normalize.spec)]
def math.F5.E : Env := Ws (A8 math.F5.A9) (fun _ => false) (fun _ => none) (fun _ => none) (advOf [])
theorem math.F5.ev (N x : Nat) (k : Int) : A1 math.F5.E N Tryz.f216 (Ad Tryz.f216) [.fl x, .int .i64 k] =
  bif (Ieee.double.order x 0 == some .eq) then
  some (.fl x)
  else bif (Rp x && decide ((0 : Int) = 0)) then
  bif ((decide (Ai x = 3)) || (Rp x)) then
  bif ((decide (Ai x = 3)) || (decide (Ai x = 4))) then
  some (.fl x)
  else bif (finP x) then
  bif (!(Er (Kt x))) then
  bif (A5 (Ab ((Ab (k + (Hk x))) + (Ab ((D3 .i64 (Ab (Ct .u64 ((Kt x) : Int) (52 : Int))) (2047 : Int)) - (1023 : Int))))) (-1075 : Int)) then
  bif (finP (Kt x) && decide ((0 : Int) = 0)) then
  some (.fl (Be (Bi (Kt x)) 0))
  else none
  else bif (A5 (1023 : Int) (Ab ((Ab (k + (Hk x))) + (Ab ((D3 .i64 (Ab (Ct .u64 ((Kt x) : Int) (52 : Int))) (2047 : Int)) - (1023 : Int)))))) then
  bif (Ieee.double.order (Kt x) 0 == some .lt) then
  some (.fl (Be (decide ((-1 : Int) < 0)) Dt))
  else some (.fl (Be (decide ((1 : Int) < 0)) Dt))
  else bif (A5 (Ab ((Ab (k + (Hk x))) + (Ab ((D3 .i64 (Ab (Ct .u64 ((Kt x) : Int) (52 : Int))) (2047 : Int)) - (1023 : Int))))) (-1022 : Int)) then
  bif (decide (0 ≤ (Gy .u64 (Fj .u64 ((Kt x) : Int) (9218868437227405312 : Int)) (Bp .u64 (Bd (Ab ((Ab ((Ab ((Ab (k + (Hk x))) + (Ab ((D3 .i64 (Ab (Ct .u64 ((Kt x) : Int) (52 : Int))) (2047 : Int)) - (1023 : Int))))) + (53 : Int))) + (1023 : Int)))) (52 : Int))))) then
  some (.fl ((Ieee.double.mul 4368491638549381120 (Int.toNat (Gy .u64 (Fj .u64 ((Kt x) : Int) (9218868437227405312 : Int)) (Bp .u64 (Bd (Ab ((Ab ((Ab ((Ab (k + (Hk x))) + (Ab ((D3 .i64 (Ab (Ct .u64 ((Kt x) : Int) (52 : Int))) (2047 : Int)) - (1023 : Int))))) + (53 : Int))) + (1023 : Int)))) (52 : Int))))).getD nanBits))
  else none
  else bif (decide (0 ≤ (Gy .u64 (Fj .u64 ((Kt x) : Int) (9218868437227405312 : Int)) (Bp .u64 (Bd (Ab ((Ab ((Ab (k + (Hk x))) + (Ab ((D3 .i64 (Ab (Ct .u64 ((Kt x) : Int) (52 : Int))) (2047 : Int)) - (1023 : Int))))) + (1023 : Int)))) (52 : Int))))) then
  some (.fl ((Ieee.double.mul 4607182418800017408 (Int.toNat (Gy .u64 (Fj .u64 ((Kt x) : Int) (9218868437227405312 : Int)) (Bp .u64 (Bd (Ab ((Ab ((Ab (k + (Hk x))) + (Ab ((D3 .i64 (Ab (Ct .u64 ((Kt x) : Int) (52 : Int))) (2047 : Int)) - (1023 : Int))))) + (1023 : Int)))) (52 : Int))))).getD nanBits))
  else none
  else none
  else none
  else none
  else none :=
  Eq.trans (by kernel_rfl)
  (Fb rfl (Fb (Ax (Hr (decide (Ai x = 3))) (C1 (H8 (decide (Ai x = 3)) (Rp x)) (Ax (I7 (decide (Ai x = 3))) (C1 (Eu (decide (Ai x = 3)) (decide (Ai x = 4))) rfl rfl)) rfl)) rfl))
theorem math.F5.Ac (hk : A0 Tryz.prog math.F5.A9) (h : ∀ (x : Nat) (k : Int), math.F5.pre [.f x, .i k] = true → ∃ N dv drops, A1 math.F5.E N Tryz.f216 (Ad Tryz.f216) [.fl x, .int .i64 k] = some dv ∧ Wk drops dv (math.F5.out [.f x, .i k])) : Am Tryz.prog 216 math.F5.spec :=
  Aj (Z5 hk _ _ _ _) Tryz.func216 (by kernel_rfl) (by kernel_rfl) h
abbrev _root_.Go.Proofs.S1.math.F5.Kn : Prop := Am Tryz.prog 216 math.F5.spec
def math.Hh.A9 : List (Nat × Entry) := [(216, math.F5.spec)]
def math.Hh.E : Env := Bb (A8 math.Hh.A9) (fun _ => false) (fun _ => none) (fun _ => none)
theorem math.Hh.ev (N x : Nat) (k : Int) : A1 math.Hh.E N Tryz.f165 (Ad Tryz.f165) [.fl x, .int .i64 k] =
  bif (Rp x && C2 (-2300 ≤ k ∧ k ≤ 2300)) then
  some (.fl (Hb x k))
  else none := by kernel_rfl
theorem math.Hh.Ac (hk : A0 Tryz.prog math.Hh.A9) (h : ∀ (x : Nat) (k : Int), math.Hh.pre [.f x, .i k] = true → ∃ N dv drops, A1 math.Hh.E N Tryz.f165 (Ad Tryz.f165) [.fl x, .int .i64 k] = some dv ∧ Wk drops dv (math.Hh.out [.f x, .i k])) : Am Tryz.prog 165 math.Hh.spec :=
  Aj (A2 hk _ _ _) Tryz.func165 (by kernel_rfl) (by kernel_rfl) h
abbrev _root_.Go.Proofs.S1.math.Hh.Kn : Prop := Am Tryz.prog 165 math.Hh.spec
def Av.Bj.A9 : List (Nat × Entry) := [(165, math.Hh.spec), (102, Av.B.spec), (159, Av.F.spec)]
def Av.Bj.E : Env := Bb (A8 Av.Bj.A9) (fun _ => false) (fun _ => none) (fun _ => none)
theorem Av.Bj.ev (N : Nat) (a k : Int) : A1 Av.Bj.E N Tryz.f96 (Ad Tryz.f96) [.int .u64 a, .int .i64 k] =
  bif (Ah a) then
  bif (Rp (Int.toNat a) && C2 (-2300 ≤ k ∧ k ≤ 2300)) then
  some (.int .u64 (Gx (Hb (Int.toNat a) k)))
  else none
  else none := by kernel_rfl
theorem Av.Bj.Ac (hk : A0 Tryz.prog Av.Bj.A9) (h : ∀ (a k : Int), Av.Bj.pre [.i a, .i k] = true → ∃ N dv drops, A1 Av.Bj.E N Tryz.f96 (Ad Tryz.f96) [.int .u64 a, .int .i64 k] = some dv ∧ Wk drops dv (Av.Bj.out [.i a, .i k])) : Am Tryz.prog 96 Av.Bj.spec :=
  Aj (A2 hk _ _ _) Tryz.func96 (by kernel_rfl) (by kernel_rfl) h
abbrev _root_.Go.Proofs.S1.Av.Bj.Kn : Prop := Am Tryz.prog 96 Av.Bj.spec
end EqLdx
end Go.Proofs.S1
namespace Go.Proofs.S1
open Go Go.Den Go.Rnd Go.Proofs
open EqLdx
theorem Wi (n : Nat) : Er n = decide (Ai n = 4) := Vz n
theorem Aak (x : Nat) : Fz x < 2 ^ 64 := Nat.lt_trans (Qh x) (by decide)
theorem O7 (x : Nat) : Ai (Fz x) = Ai x := by
  have e1 : C5 (Fz x) = C5 x := by unfold C5 Fz; omega
  have e2 : Cl (Fz x) = Cl x := by unfold Cl Fz; omega
  unfold Ai
  rw [e1, e2]
theorem Pj (x y : Int) : (compare x y = .lt ↔ x < y) ∧ (compare x y = .gt ↔ y < x) ∧ (compare x y = .eq ↔ x = y) := by
  rcases Int.lt_trichotomy x y with h | h | h
  · rw [cmp_lt h]; refine ⟨by simp [h], ?_, ?_⟩ <;> simp <;> omega
  · subst h
    have : compare x x = .eq := by simp [compare, compareOfLessAndEq]
    rw [this]; simp
  · rw [cmp_gt h]; refine ⟨?_, by simp [h], ?_⟩ <;> simp <;> omega
theorem math.Gm.known : math.Gm.Kn := math.Gm.Ac .nil fun x _ => ⟨0, math.Gm.out [.f x], [], by rw [math.Gm.ev]; rfl, .fl⟩
theorem math.G4.known : math.G4.Kn := math.G4.Ac .nil fun x hp => by
  have hx := Ar.1 (show Rp x = true from hp)
  refine ⟨0, math.G4.out [.f x], [], ?_, .bool⟩
  show _ = some (DV.bool (decide (Ai x = 4)))
  rw [math.G4.ev]
  by_cases h : Ai x = 4
  · rw [Tm hx hx (.inl h), decide_eq_true h]; rfl
  · rw [M9 hx hx h h, decide_eq_false h, (Pj _ _).2.2.2 rfl]; rfl
theorem big_fin {x : Nat} (hx : x < 2 ^ 64) (h4 : Ai x ≠ 4) : (Ieee.double.order (Fz x) 9218868437227405311 == some .gt) = decide (Ai x = 3) := by
  have k1 : Ai 9218868437227405311 ≠ 4 := by decide +kernel
  have k2 : Gq 9218868437227405311 = 9218868437227405311 := by decide +kernel
  have ka : Gq (Fz x) = ((Fz x : Nat) : Int) := by
    have := Nd false (r := Fz x) (Qh x)
    exact this
  rw [M9 (Aak x) (by decide) (by rw [O7]; exact h4) k1, k2, ka]
  have hl := key_le h4
  rw [Bool.eq_iff_iff, beq_iff_eq, Option.some.injEq, (Pj _ _).2.1, decide_eq_true_eq]
  constructor
  · intro h
    refine Decidable.byContradiction fun h3 => ?_
    have := Su h3 h4
    rw [Gv] at this
    unfold Fz at h
    omega
  · intro h3
    have := Ss h3
    rw [Gv] at this
    unfold Fz
    omega
theorem math.G5.known : math.G5.Kn := math.G5.Ac (.cons math.Gm.known .nil) fun x s hp => by
  obtain ⟨h1, h2⟩ := Ag.1 (show (Rp x && decide (s = 0)) = true from hp)
  have hx := Ar.1 h1
  obtain rfl := of_decide_eq_true h2
  refine ⟨0, math.G5.out [.f x, .i 0], [], ?_, .bool⟩
  show _ = some (DV.bool (decide (Ai x = 3)))
  rw [math.G5.ev, show ((0 : Int) == (0 : Int)) = true from rfl, cond_true]
  by_cases h4 : Ai x = 4
  · rw [Tm (Aak x) (by decide) (.inl (by rw [O7]; exact h4)), decide_eq_false (by omega)]; rfl
  · rw [big_fin hx h4]
theorem math.normalize.known : math.normalize.Kn := math.normalize.Ac (.cons math.Gm.known .nil) fun x hp => by
  obtain ⟨hx, h3, h4⟩ := Ar.1 (show finP x = true from hp)
  refine ⟨0, math.normalize.out [.f x], [], ?_, Wk.Gg (.cons .fl (.cons .int .nil))⟩
  show _ = some (DV.tup [.fl (Kt x), .int .i64 (Hk x)])
  have k1 : Ai 4503599627370496 ≠ 4 := by decide +kernel
  have k2 : Gq 4503599627370496 = 4503599627370496 := by decide +kernel
  have ka : Gq (Fz x) = ((Fz x : Nat) : Int) := Nd false (r := Fz x) (Qh x)
  have hc : (Ieee.double.order (Fz x) 4503599627370496 == some .lt) = decide (Fz x < 4503599627370496) := by
    rw [M9 (Aak x) (by decide) (by rw [O7]; exact h4) k1, k2, ka, Bool.eq_iff_iff, beq_iff_eq, Option.some.injEq, (Pj _ _).1, decide_eq_true_eq]
    omega
  rw [math.normalize.ev, hc]
  unfold Kt Hk
  by_cases h : Fz x < 4503599627370496
  · rw [decide_eq_true h, cond_true, if_pos h, if_pos h]
    have hm := mul_pow h3 h4 (by rw [p52.2.2.1]; decide) (by rw [p52.2.2.1]; decide) p52.1 p52.2.2.2
    have := Vt (Sl hx (b := 4841369599423283200) (by decide) Hl) (by rw [hm]; exact O6 _ _ _)
    rw [this]
  · rw [decide_eq_false h, cond_false, if_neg h, if_neg h]
theorem mid_and {n : Nat} (h : n < 2 ^ 64) : n &&& 9227875636482146303 = n / 2 ^ 63 * 2 ^ 63 + n % 2 ^ 52 := by
  have hf : n % 2 ^ 52 < 2 ^ 63 := by omega
  apply Nat.eq_of_testBit_eq
  intro j
  rw [Nat.testBit_and, show (9227875636482146303 : Nat) = 2 ^ 63 * 1 + (2 ^ 52 - 1) from rfl, Nat.mul_comm (n / 2 ^ 63), Nat.testBit_two_pow_mul_add _ (by decide : 2 ^ 52 - 1 < 2 ^ 63), Nat.testBit_two_pow_mul_add _ hf]
  by_cases hj : j < 63
  · rw [if_pos hj, if_pos hj, Nat.testBit_mod_two_pow, Nat.testBit_two_pow_sub_one, Bool.and_comm]
  · rw [if_neg hj, if_neg hj, Nat.testBit_div_two_pow, Nat.sub_add_cancel (by omega)]
    by_cases h63 : j = 63
    · subst h63
      show (n.testBit 63 && true) = _
      rw [Bool.and_true]
    · have e1 : Nat.testBit 1 (j - 63) = false := by rw [show (1 : Nat) = 2 ^ 0 from rfl, Nat.testBit_two_pow]; exact decide_eq_false (by omega)
      have e2 : n.testBit j = false := Nat.testBit_lt_two_pow (Nat.lt_of_lt_of_le h (Nat.pow_le_pow_right (by decide) (by omega)))
      rw [e1, e2]; rfl
theorem and_not_exp {n : Nat} (h : n < 2 ^ 64) : Fj .u64 (n : Int) (9218868437227405312 : Int) = ((n / 2 ^ 63 * 2 ^ 63 + n % 2 ^ 52 : Nat) : Int) := by
  have e : (BitVec.ofInt 64 (n : Int) &&& ~~~(BitVec.ofInt 64 9218868437227405312)).toNat = n / 2 ^ 63 * 2 ^ 63 + n % 2 ^ 52 := by
    have e1 : ~~~(BitVec.ofInt 64 9218868437227405312) = BitVec.ofNat 64 9227875636482146303 := by decide
    rw [e1, BitVec.toNat_and, BitVec.toNat_ofNat, BitVec.toNat_ofInt]
    have e2 : (((n : Int) % ((2 ^ 64 : Nat) : Int)).toNat) = n := by omega
    rw [e2]
    exact mid_and h
  have e' : (BitVec.ofInt IntKind.u64.bits (n : Int) &&& ~~~(BitVec.ofInt IntKind.u64.bits 9218868437227405312)).toNat = n / 2 ^ 63 * 2 ^ 63 + n % 2 ^ 52 := e
  unfold Fj
  rw [e']
  exact Rt (by omega)
theorem or3 {A X Y Z W V f : Nat} (h1 : A = f ||| X) (h2 : X ||| Y = Z) (h3 : f ||| Z = W) (h4 : W = V) : A ||| Y = V := by rw [h1, Nat.or_assoc, h2, h3, h4]
theorem mid4 (s p f : Nat) : (s * 2 ^ 11 + p) * 2 ^ 52 + f = s * 2 ^ 63 + p * 2 ^ 52 + f := by
  rw [Nat.add_mul, Nat.mul_assoc, ← Nat.pow_add]
theorem or_mid {s f p : Nat} (hs : s < 2) (hf : f < 2 ^ 52) (hp : p < 2048) : (s * 2 ^ 63 + f) ||| (p * 2 ^ 52) = s * 2 ^ 63 + p * 2 ^ 52 + f := by
  have e1 : s * 2 ^ 63 + f = f ||| s * 2 ^ 11 * 2 ^ 52 := by rw [Lh hf]; omega
  have e2 : s * 2 ^ 11 * 2 ^ 52 ||| p * 2 ^ 52 = (s * 2 ^ 11 + p) * 2 ^ 52 := by
    have := Lh (a := s) (b := p) (k := 11) hp
    rw [← Nat.shiftLeft_eq, ← Nat.shiftLeft_eq p, ← Nat.shiftLeft_or_distrib, Nat.or_comm, this, Nat.shiftLeft_eq]
  exact or3 e1 e2 (Lh hf) (mid4 s p f)
theorem put_exp {s : Bool} {P f : Nat} (h2 : P ≤ 2046) (hf : f < 2 ^ 52) {q : Nat} (hq : q < 2048) :
    Gy .u64 (Fj .u64 ((Be s (P * 2 ^ 52 + f) : Nat) : Int) (9218868437227405312 : Int)) (Bp .u64 (Bd (q : Int)) (52 : Int)) = ((Be s (q * 2 ^ 52 + f) : Nat) : Int) := by
  have h64 : Be s (P * 2 ^ 52 + f) < 2 ^ 64 := by
    unfold Be
    cases s
    · rw [if_neg (by decide)]; omega
    · rw [if_pos rfl]; omega
  have ef : Be s (P * 2 ^ 52 + f) % 2 ^ 52 = f := by
    unfold Be
    cases s
    · rw [if_neg (by decide)]; omega
    · rw [if_pos rfl]; omega
  have es : Be s (P * 2 ^ 52 + f) / 2 ^ 63 = if s then 1 else 0 := by
    unfold Be
    cases s
    · rw [if_neg (by decide), if_neg (by decide)]; omega
    · rw [if_pos rfl, if_pos rfl]; omega
  rw [and_not_exp h64, ef, es, Cv (by omega) (by omega), show (52 : Int) = ((52 : Nat) : Int) from rfl, Em q 52 (by decide), Nat.mod_eq_of_lt (by omega), S5 (by split <;> omega) (by omega), or_mid (by split <;> decide) hf hq]
  refine congrArg (fun n : Nat => (n : Int)) ?_
  unfold Be
  cases s
  · rw [if_neg (by decide), if_neg (by decide)]; omega
  · rw [if_pos rfl, if_pos rfl]; omega
theorem exp_bits {s : Bool} {P f : Nat} (h1 : 1 ≤ P) (h2 : P ≤ 2046) (hf : f < 2 ^ 52) : D3 .i64 (Ab (Ct .u64 ((Be s (P * 2 ^ 52 + f) : Nat) : Int) (52 : Int))) (2047 : Int) = (P : Int) := by
  obtain ⟨e1, _, _, h64, _⟩ := Py (s := s) h1 h2 hf
  rw [show (52 : Int) = ((52 : Nat) : Int) from rfl, Pm _ _ (by decide), Ap (by omega) (by omega)]
  have hb : D3 .i64 ((Be s (P * 2 ^ 52 + f) / 2 ^ 52 : Nat) : Int) (2047 : Int) = Ab ((Be s (P * 2 ^ 52 + f) / 2 ^ 52 % 2048 : Nat) : Int) := by
    unfold D3
    have e : (BitVec.ofInt 64 ((Be s (P * 2 ^ 52 + f) / 2 ^ 52 : Nat) : Int) &&& BitVec.ofInt 64 2047).toNat = Be s (P * 2 ^ 52 + f) / 2 ^ 52 % 2048 := by
      rw [BitVec.toNat_and, Hj, show (BitVec.ofInt 64 2047).toNat = 2 ^ 11 - 1 from rfl, Nat.and_two_pow_sub_one_eq_mod]
      omega
    have e' : (BitVec.ofInt IntKind.i64.bits ((Be s (P * 2 ^ 52 + f) / 2 ^ 52 : Nat) : Int) &&& BitVec.ofInt IntKind.i64.bits 2047).toNat = Be s (P * 2 ^ 52 + f) / 2 ^ 52 % 2048 := e
    rw [e']
    rfl
  unfold C5 at e1
  rw [hb, e1, Ap (by omega) (by omega)]
theorem math.De.known : math.De.Kn := math.De.Ac .nil fun x y hp => by
  obtain ⟨h1, h2⟩ := Ag.1 (show (finP y && decide (x = 0)) = true from hp)
  obtain ⟨hy, h3, h4⟩ := Ar.1 (show C2 _ = true from h1)
  obtain rfl := of_decide_eq_true h2
  refine ⟨0, math.De.out [.f 0, .f y], [], ?_, .fl⟩
  show _ = some (DV.fl (Be (Bi y) 0))
  have n0 : Er 0 = false := by decide +kernel
  have ny : Er y = false := by rw [Wi]; exact decide_eq_false h4
  have e1 : Fj .u64 ((0 : Nat) : Int) (9223372036854775808 : Int) = ((0 : Nat) : Int) := W3 (by decide)
  have e2 : D3 .u64 (y : Int) (9223372036854775808 : Int) = ((Be (Bi y) 0 : Nat) : Int) := by
    rw [show (9223372036854775808 : Int) = ((9223372036854775808 : Nat) : Int) from rfl, bAnd_u64 hy (by decide)]
    congr 1
    apply Nat.eq_of_testBit_eq
    intro j
    rw [Nat.testBit_and, show (9223372036854775808 : Nat) = 2 ^ 63 from rfl, Nat.testBit_two_pow]
    unfold Be Bi
    by_cases hn : 2 ^ 63 ≤ y
    · rw [decide_eq_true hn, if_pos rfl, Nat.add_zero, Nat.testBit_two_pow]
      by_cases hj : 63 = j
      · subst hj
        have : y.testBit 63 = true := by
          rw [Nat.testBit_eq_decide_div_mod_eq, decide_eq_true_eq]; omega
        rw [this]; rfl
      · rw [decide_eq_false hj, Bool.and_false]
    · rw [decide_eq_false hn, if_neg (by decide), Nat.zero_testBit]
      by_cases hj : 63 = j
      · subst hj
        rw [Nat.testBit_lt_two_pow (by omega)]; rfl
      · rw [decide_eq_false hj, Bool.and_false]
  have e3 : Gy .u64 ((0 : Nat) : Int) ((Be (Bi y) 0 : Nat) : Int) = ((Be (Bi y) 0 : Nat) : Int) := by
    rw [S5 (by decide) (by unfold Be; split <;> decide), Nat.zero_or]
  rw [math.De.ev, n0, ny, e1, e2, e3, decide_eq_true (by omega)]
  rfl
theorem math.Va.known : math.Va.Kn := math.Va.Ac .nil fun s _ => by
  refine ⟨0, math.Va.out [.i s], [], ?_, .fl⟩
  show _ = some (DV.fl (Be (decide (s < 0)) Dt))
  rw [math.Va.ev, Ef]
  by_cases h : s < 0
  · rw [decide_eq_false (by omega), decide_eq_true h]; rfl
  · rw [decide_eq_true (by omega), decide_eq_false h]; rfl
end Go.Proofs.S1
namespace Go.Proofs.S1
open Go Go.Den Go.Rnd Go.Proofs
open EqLdx
theorem Nu {x : Nat} (hx : x < 2 ^ 64) : (Ieee.double.order x 0 == some .eq) = decide (Ai x = 0) := by
  by_cases h4 : Ai x = 4
  · rw [Tm hx (by decide) (.inl h4), decide_eq_false (by omega)]; rfl
  · have k0 : Ai 0 ≠ 4 := by decide +kernel
    have z : Gq 0 = 0 := by decide +kernel
    have hk : Gq x = 0 ↔ x % 2 ^ 63 = 0 := by
      have := Nd (Bi x) (r := x % 2 ^ 63) (Nat.mod_lt _ (by decide))
      rw [K4 hx] at this
      rw [this]
      unfold Gu
      cases Bi x
      · rw [if_neg (by decide)]; omega
      · rw [if_pos rfl]; omega
    have h0 : Ai x = 0 ↔ x % 2 ^ 63 = 0 := by
      have hp : x % 2 ^ 63 = C5 x * 2 ^ 52 + Cl x := by unfold C5 Cl; omega
      rw [hp]
      have := Hy x
      unfold Ai
      split
      · split <;> omega
      · split
        · omega
        · split <;> omega
    rw [M9 hx (by decide) h4 k0, z, Bool.eq_iff_iff, beq_iff_eq, Option.some.injEq, (Pj _ _).2.2, decide_eq_true_eq, hk, h0]
theorem order_neg {x : Nat} (hx : x < 2 ^ 64) (h4 : Ai x ≠ 4) (h0 : Ai x ≠ 0) : (Ieee.double.order x 0 == some .lt) = Bi x := by
  have k0 : Ai 0 ≠ 4 := by decide +kernel
  have z : Gq 0 = 0 := by decide +kernel
  have hp : x % 2 ^ 63 = C5 x * 2 ^ 52 + Cl x := by unfold C5 Cl; omega
  have hne : x % 2 ^ 63 ≠ 0 := by
    intro h
    refine h0 ?_
    unfold Ai
    rw [if_neg (by omega), if_neg (by omega), if_neg (by omega)]
  have := Nd (Bi x) (r := x % 2 ^ 63) (Nat.mod_lt _ (by decide))
  rw [K4 hx] at this
  rw [M9 hx (by decide) h4 k0, z, Bool.eq_iff_iff, beq_iff_eq, Option.some.injEq, (Pj _ _).1, this]
  unfold Gu
  cases Bi x
  · rw [if_neg (by decide)]
    constructor
    · intro h; omega
    · intro h; cases h
  · rw [if_pos rfl]
    constructor
    · intro _; rfl
    · intro _; omega
theorem nrm_range (x : Nat) : Hk x = -52 ∨ Hk x = 0 := by unfold Hk; split <;> simp
theorem log2_53 {f : Nat} (hf : f < 2 ^ 52) : (f + 2 ^ 52).log2 = 52 := Sp (a := 52) (by omega) (by omega)
theorem math.F5.known : math.F5.Kn := math.F5.Ac (.cons math.De.known (.cons math.Va.known (.cons math.G5.known (.cons math.G4.known (.cons math.normalize.known .nil))))) fun x k hp => by
  obtain ⟨h1, h2⟩ := Ag.1 (show (Rp x && C2 (-2300 ≤ k ∧ k ≤ 2300)) = true from hp)
  have hx := Ar.1 (show C2 (x < 2 ^ 64) = true from h1)
  have hk := Ar.1 h2
  refine ⟨0, .fl (Hb x k), [], ?_, .fl⟩
  by_cases h0 : Ai x = 0
  · have : Hb x k = x := by unfold Hb Fh; rw [if_neg (by omega), if_neg (by omega), if_pos (.inr h0)]
    rw [math.F5.ev, Nu hx, decide_eq_true h0, cond_true, this]
  by_cases h3 : Ai x = 3
  · have : Hb x k = x := by unfold Hb Fh; rw [if_neg (by omega), if_neg (by omega), if_pos (.inl h3)]
    rw [math.F5.ev, Nu hx, decide_eq_false h0, cond_false, h1, decide_eq_true (rfl : (0 : Int) = 0), Bool.and_self, cond_true, Bool.or_true, cond_true, decide_eq_true h3, Bool.true_or, cond_true, this]
  by_cases h4 : Ai x = 4
  · have : Hb x k = x := by unfold Hb; rw [if_pos h4]
    rw [math.F5.ev, Nu hx, decide_eq_false h0, cond_false, h1, decide_eq_true (rfl : (0 : Int) = 0), Bool.and_self, cond_true, Bool.or_true, cond_true, decide_eq_true h4, Bool.or_true, cond_true, this]
  obtain ⟨P, f, d, p1, p2, hf, hw, hM, hP⟩ := nrm_word hx h3 h4 h0
  obtain ⟨w1, w2, w3, w4, w5, w6, w7⟩ := Py (s := Bi x) p1 p2 hf
  have hm : Aq x ≠ 0 := fun h => h0 ((H3 h3 h4).1 h)
  have hr := nrm_range x
  have hl := log2_53 hf
  have hld : Hb x k = Be (Bi x) (B5 (f + 2 ^ 52) ((P : Int) - 1075 + Hk x + k)) := by
    have := scale_by (k := k) hm hM hP
    unfold Hb Fh
    rw [if_neg h4, if_neg h4, if_neg (by omega), this]
  have hp : Rp x = true := Ar.2 hx
  have hfp : finP x = true := Ar.2 ⟨hx, h3, h4⟩
  have hnn : Er (Kt x) = false := by rw [Wi, hw, w5]; rfl
  have hfw : finP (Kt x) = true := by rw [hw]; exact Ar.2 ⟨w4, by omega, by omega⟩
  have ee : Ab (Ab (k + Hk x) + Ab (D3 .i64 (Ab (Ct .u64 ((Kt x : Nat) : Int) (52 : Int))) (2047 : Int) - (1023 : Int))) = k + Hk x + (P : Int) - 1023 := by
    rw [hw, exp_bits p1 p2 hf, Ap (x := k + Hk x) (by omega) (by omega), Ap (x := (P : Int) - 1023) (by omega) (by omega), Ap (by omega) (by omega)]
    omega
  have hrun := math.F5.ev 0 x k
  rw [Nu hx, decide_eq_false h0, cond_false, hp, decide_eq_true (rfl : (0 : Int) = 0), Bool.and_self, cond_true, Bool.or_true, cond_true, decide_eq_false h3, decide_eq_false h4, Bool.or_self, cond_false, hfp, cond_true, hnn, Bool.not_false, cond_true, ee, hfw, Bool.and_self, cond_true] at hrun
  refine hrun.trans ?_
  rw [hld]
  rw [Aw, Aw, Aw]
  by_cases c1 : k + Hk x + (P : Int) - 1023 < -1075
  · rw [decide_eq_true c1, cond_true, hw, w3, (Go.Rnd.tiny (V := f + 2 ^ 52) (by omega) (by rw [hl]; omega)).1]
  · rw [decide_eq_false c1, cond_false]
    by_cases c2 : 1023 < k + Hk x + (P : Int) - 1023
    · have hng : (Ieee.double.order (Kt x) 0 == some .lt) = Bi x := by
        rw [hw, order_neg w4 (by omega) (by omega), w3]
      rw [decide_eq_true c2, cond_true, hng, huge (by omega) (by rw [hl]; omega)]
      cases Bi x <;> rfl
    · rw [decide_eq_false c2, cond_false]
      by_cases c3 : k + Hk x + (P : Int) - 1023 < -1022
      · obtain ⟨q, hq⟩ : ∃ q : Nat, k + Hk x + (P : Int) - 1023 + 53 + 1023 = q := ⟨(k + Hk x + (P : Int) - 1023 + 53 + 1023).toNat, by omega⟩
        have e1 : Ab (Ab (k + Hk x + (P : Int) - 1023 + 53) + 1023) = (q : Int) := by
          rw [Ap (x := k + Hk x + (P : Int) - 1023 + 53) (by omega) (by omega), Ap (by omega) (by omega)]; exact hq
        have e2 := put_exp (s := Bi x) (P := P) (f := f) p2 hf (q := q) (by omega)
        obtain ⟨v1, v2, v3, v4, v5, v6, v7⟩ := Py (s := Bi x) (P := q) (f := f) (by omega) (by omega) hf
        have hmul := mul_pow (a := Be (Bi x) (q * 2 ^ 52 + f)) (p := 4368491638549381120) (by omega) (by omega) (by rw [p53.2.2.1]; decide) (by rw [p53.2.2.1]; decide) p53.1 p53.2.2.2
        have hmi := Sl (a := 4368491638549381120) (b := Be (Bi x) (q * 2 ^ 52 + f)) (by decide) v4 Hl
        rw [X2] at hmi
        have := Vt hmi (by rw [hmul]; exact O6 _ _ _)
        have e3 : (q : Int) - 1075 + -105 + 52 = (P : Int) - 1075 + Hk x + k := by omega
        have e4 : (Mi (Be (Bi x) (q * 2 ^ 52 + f)) 4368491638549381120).1 = Be (Bi x) (B5 (f + 2 ^ 52) ((P : Int) - 1075 + Hk x + k)) := by
          rw [hmul, v3, v6, v7, p53.2.1, e3]
        rw [e4] at this
        rw [decide_eq_true c3, cond_true, e1, hw, e2, decide_eq_true (by omega), cond_true, Int.toNat_natCast, this]
      · obtain ⟨q, hq⟩ : ∃ q : Nat, k + Hk x + (P : Int) - 1023 + 1023 = q := ⟨(k + Hk x + (P : Int) - 1023 + 1023).toNat, by omega⟩
        have e1 : Ab (k + Hk x + (P : Int) - 1023 + 1023) = (q : Int) := by rw [Ap (by omega) (by omega)]; exact hq
        have e2 := put_exp (s := Bi x) (P := P) (f := f) p2 hf (q := q) (by omega)
        obtain ⟨v1, v2, v3, v4, v5, v6, v7⟩ := Py (s := Bi x) (P := q) (f := f) (by omega) (by omega) hf
        have hone : Mi 4607182418800017408 (Be (Bi x) (q * 2 ^ 52 + f)) = (Be (Bi x) (q * 2 ^ 52 + f), 0) := by
          rw [X2]; exact mul_one v4 (by omega) (by omega)
        have hmi := Sl (a := 4607182418800017408) (b := Be (Bi x) (q * 2 ^ 52 + f)) (by decide) v4 Hl
        have := Vt hmi (by rw [hone]; show Ai (Be (Bi x) (q * 2 ^ 52 + f)) ≠ 4; omega)
        have er := rung_put (L := (P : Int) - 1075 + Hk x + k) (q := q) hf (by omega) (by omega) (by omega)
        rw [decide_eq_false c3, cond_false, e1, hw, e2, decide_eq_true (by omega), cond_true, Int.toNat_natCast, this, hone, er]
theorem math.Hh.known : math.Hh.Kn := math.Hh.Ac (.cons math.F5.known .nil) fun x k hp => by
  have hp : (Rp x && C2 (-2300 ≤ k ∧ k ≤ 2300)) = true := hp
  exact ⟨0, .fl (Hb x k), [], by rw [math.Hh.ev, hp, cond_true], .fl⟩
theorem canon_scale {x : Nat} (k : Int) : Dj (Hb x k) = (Fh x k).1 := by
  unfold Hb
  by_cases h4 : Ai x = 4
  · rw [if_pos h4]
    unfold Dj Fh
    rw [if_pos h4, if_pos h4]
  · rw [if_neg h4]
    unfold Dj
    rw [if_neg]
    unfold Fh
    rw [if_neg h4]
    by_cases h3 : Ai x = 3 ∨ Ai x = 0
    · rw [if_pos h3]; exact h4
    · rw [if_neg h3]; exact O6 _ _ _
theorem Av.Bj.known : Av.Bj.Kn := Av.Bj.Ac (.cons math.Hh.known (.cons Av.B.known (.cons Av.F.known .nil))) fun a k hp => by
  obtain ⟨h1, h2⟩ := Ag.1 (show Dp a k = true from hp)
  obtain ⟨x, rfl, hx⟩ := Bg h1
  refine ⟨0, .int .u64 (B3 (x : Int) k), [], ?_, .int⟩
  have hp : Rp x = true := Ar.2 hx
  have : Gx (Hb x k) = B3 (x : Int) k := by
    unfold Gx B3
    rw [Int.toNat_natCast, canon_scale]
  rw [Av.Bj.ev, h1, cond_true, Int.toNat_natCast, hp, h2, Bool.and_self, cond_true, this]
end Go.Proofs.S1
namespace Go.Proofs.S1
open Go Go.Den Go.Rnd Go.Proofs
set_option linter.unusedVariables false
set_option maxRecDepth 100000
namespace EqRef08
theorem Eu : ∀ a b : Bool, (bif a then true else b) = (a || b) := by decide
theorem I7 : ∀ a : Bool, ((!(!a)) || (a == false)) = true := by decide
theorem H8 : ∀ a : Bool, ((!(a == false)) || ((((!(a == false)) || (a == false)) && true) && true)) = true := by decide
theorem Hr : ∀ a : Bool, ((!(a == false)) || true) = true := by decide
theorem Ge : ∀ a b : Bool, ((!(a == false)) || ((((!(a == false)) || (a == false)) && true) && b)) = (a || b) := by decide
def Bw.ends.A9 : List (Nat × Entry) := [(131, A3.Finite.spec), (142, A3.Neg.spec)]
def Bw.ends.E : Env := Bb (A8 Bw.ends.A9) (fun _ => false) (fun _ => none) (fun _ => none)
theorem Bw.ends.ev (N : Nat) (b : Int) : A1 Bw.ends.E N Tryz.f164 (Ad Tryz.f164) [.int .u64 b] =
  bif (Ah b) then
  bif (C8 b) then
  some (.int .i64 0)
  else bif (Ah b) then
  bif (C6 b) then
  some (.int .i64 (-1 : Int))
  else some (.int .i64 1)
  else none
  else none := by kernel_rfl
theorem Bw.ends.Ac (hk : A0 Tryz.prog Bw.ends.A9) (h : ∀ (b : Int), Bw.ends.pre [.i b] = true → ∃ N dv drops, A1 Bw.ends.E N Tryz.f164 (Ad Tryz.f164) [.int .u64 b] = some dv ∧ Wk drops dv (Bw.ends.out [.i b])) : Am Tryz.prog 164 Bw.ends.spec :=
  Aj (A2 hk _ _ _) Tryz.func164 (by kernel_rfl) (by kernel_rfl) h
abbrev _root_.Go.Proofs.S1.Bw.ends.Kn : Prop := Am Tryz.prog 164 Bw.ends.spec
def Bw.Order.A9 : List (Nat × Entry) := [(116, As.Compare.spec), (62, A3.Kind.spec), (63, A3.Value.spec), (164, Bw.ends.spec)]
def Bw.Order.E : Env := Bb (A8 Bw.Order.A9) (fun _ => false) (fun _ => none) (fun _ => none)
theorem Bw.Order.ev (N : Nat) (a b : Int) : A1 Bw.Order.E N Tryz.f95 (Ad Tryz.f95) [.int .u64 a, .int .u64 b] =
  bif (Mh a) then
  bif (((A7 a) == (4 : Int)) || (Mh b)) then
  bif (((A7 a) == (4 : Int)) || ((A7 b) == (4 : Int))) then
  some (.tup [.int .i64 0, .bool false])
  else bif (Ah a) then
  bif (Ah b) then
  bif (((Pe a) != (0 : Int)) || ((Pe b) != (0 : Int))) then
  some (.tup [.int .i64 (max (-1 : Int) (min (1 : Int) (Ab ((Pe a) - (Pe b))))), .bool true])
  else bif (Ah a) then
  bif (Ah b) then
  bif (((Uy (Bc (mD (Fs a))) (Al (mD (Fs a))) && Uy (Bc (mD (Fs b))) (Al (mD (Fs b)))) && Uz (eD (Fs a) (Ba a))) && Uz (eD (Fs b) (Ba b))) then
  some (.tup [.int .i64 (Ur (wv (Bc (mD (Fs a))) (Al (mD (Fs a)))) (eD (Fs a) (Ba a)) (wv (Bc (mD (Fs b))) (Al (mD (Fs b)))) (eD (Fs b) (Ba b))), .bool true])
  else none
  else none
  else none
  else none
  else none
  else none
  else none :=
  Eq.trans (by kernel_rfl)
  (Fb (Ax (Hr ((A7 a) == (4 : Int))) (C1 (Ge ((A7 a) == (4 : Int)) (Mh b)) (Ax (H8 ((A7 a) == (4 : Int))) (Ax (I7 ((A7 a) == (4 : Int))) (C1 (Eu ((A7 a) == (4 : Int)) ((A7 b) == (4 : Int))) rfl (Fb (Fb (Ax (Hr ((Pe a) != (0 : Int))) (Ax (H8 ((Pe a) != (0 : Int))) (Ax (I7 ((Pe a) != (0 : Int))) (C1 (Eu ((Pe a) != (0 : Int)) ((Pe b) != (0 : Int))) rfl rfl)))) rfl) rfl)))) rfl)) rfl)
theorem Bw.Order.Ac (hk : A0 Tryz.prog Bw.Order.A9) (h : ∀ (a b : Int), Bw.Order.pre [.i a, .i b] = true → ∃ N dv drops, A1 Bw.Order.E N Tryz.f95 (Ad Tryz.f95) [.int .u64 a, .int .u64 b] = some dv ∧ Wk drops dv (Bw.Order.out [.i a, .i b])) : Am Tryz.prog 95 Bw.Order.spec :=
  Aj (A2 hk _ _ _) Tryz.func95 (by kernel_rfl) (by kernel_rfl) h
abbrev _root_.Go.Proofs.S1.Bw.Order.Kn : Prop := Am Tryz.prog 95 Bw.Order.spec
def Bw.Gm.A9 : List (Nat × Entry) := [(163, A3.Cy.spec), (142, A3.Neg.spec)]
def Bw.Gm.E : Env := Bb (A8 Bw.Gm.A9) (fun _ => false) (fun _ => none) (fun _ => none)
theorem Bw.Gm.ev (N : Nat) (a : Int) : A1 Bw.Gm.E N Tryz.f94 (Ad Tryz.f94) [.int .u64 a] =
  bif (Ah a) then
  bif (C6 a) then
  bif (Ah a) then
  some (.int .u64 (C0 a))
  else none
  else some (.int .u64 a)
  else none := by kernel_rfl
theorem Bw.Gm.Ac (hk : A0 Tryz.prog Bw.Gm.A9) (h : ∀ (a : Int), Bw.Gm.pre [.i a] = true → ∃ N dv drops, A1 Bw.Gm.E N Tryz.f94 (Ad Tryz.f94) [.int .u64 a] = some dv ∧ Wk drops dv (Bw.Gm.out [.i a])) : Am Tryz.prog 94 Bw.Gm.spec :=
  Aj (A2 hk _ _ _) Tryz.func94 (by kernel_rfl) (by kernel_rfl) h
abbrev _root_.Go.Proofs.S1.Bw.Gm.Kn : Prop := Am Tryz.prog 94 Bw.Gm.spec
def Bw.Max.A9 : List (Nat × Entry) := [(95, Bw.Order.spec)]
def Bw.Max.E : Env := Bb (A8 Bw.Max.A9) (fun _ => false) (fun _ => none) (fun _ => none)
theorem Bw.Max.ev (N : Nat) (a b : Int) : A1 Bw.Max.E N Tryz.f93 (Ad Tryz.f93) [.int .u64 a, .int .u64 b] =
  bif (Ah a && Ah b) then
  bif (!(X0 a b)) then
  some (.int .u64 9221120237041090560)
  else bif (A5 (Q9 a b) (0 : Int)) then
  some (.int .u64 b)
  else some (.int .u64 a)
  else none := by kernel_rfl
theorem Bw.Max.Ac (hk : A0 Tryz.prog Bw.Max.A9) (h : ∀ (a b : Int), Bw.Max.pre [.i a, .i b] = true → ∃ N dv drops, A1 Bw.Max.E N Tryz.f93 (Ad Tryz.f93) [.int .u64 a, .int .u64 b] = some dv ∧ Wk drops dv (Bw.Max.out [.i a, .i b])) : Am Tryz.prog 93 Bw.Max.spec :=
  Aj (A2 hk _ _ _) Tryz.func93 (by kernel_rfl) (by kernel_rfl) h
abbrev _root_.Go.Proofs.S1.Bw.Max.Kn : Prop := Am Tryz.prog 93 Bw.Max.spec
end EqRef08
end Go.Proofs.S1
namespace Go.Proofs.S1
open Go Go.Den Go.Rnd Go.Proofs
set_option linter.unusedVariables false
set_option maxRecDepth 100000
namespace EqRef13
theorem Eu : ∀ a b : Bool, (bif (!a) then true else b) = ((!a) || b) := by decide
theorem I7 : ∀ a : Bool, ((!(!(!a))) || ((!a) == false)) = true := by decide
theorem H8 : ∀ a : Bool, ((!((!a) == false)) || ((((!((!a) == false)) || ((!a) == false)) && true) && true)) = true := by decide
theorem Hr : ∀ a b : Bool, ((!((!a) == false)) || ((((!((!a) == false)) || ((!a) == false)) && true) && b)) = ((!a) || b) := by decide
theorem Ge : ∀ a : Bool, ((!((!a) == false)) || true) = true := by decide
theorem Kb : ∀ a b : Bool, (bif a then true else (!b)) = (a || (!b)) := by decide
theorem Lu : ∀ a : Bool, ((!(!a)) || (a == false)) = true := by decide
theorem Ld : ∀ a : Bool, ((!(a == false)) || ((((!(a == false)) || (a == false)) && true) && true)) = true := by decide
theorem Qk : ∀ a b : Bool, ((!(a == false)) || ((((!(a == false)) || (a == false)) && true) && b)) = (a || b) := by decide
theorem Ru : ∀ a : Bool, ((!(a == false)) || true) = true := by decide
theorem Ho : ∀ a b : Bool, ((a && b) && true) = (a && b) := by decide
theorem Ip : ∀ a : Bool, (a && true) = a := by decide
end EqRef13
end Go.Proofs.S1
namespace Go.Proofs.S1
open Go Go.Den Go.Rnd Go.Proofs
open EqRef08 EqRef13
theorem Bw.ends.known : Bw.ends.Kn := Bw.ends.Ac (.cons A3.Finite.known (.cons A3.Neg.known .nil)) fun b hp => by
  have hp : Ah b = true := hp
  refine ⟨0, .int .i64 (Pe b), [], ?_, .int⟩
  rw [Bw.ends.ev, hp, cond_true, cond_true]
  unfold Pe
  cases C8 b with
  | true => rfl
  | false =>
    rw [cond_false, if_neg (by decide)]
    cases C6 b <;> rfl
theorem Bw.Gm.known : Bw.Gm.Kn := Bw.Gm.Ac (.cons A3.Cy.known (.cons A3.Neg.known .nil)) fun a hp => by
  obtain ⟨n, rfl, hn⟩ := Bg (x := a) hp
  refine ⟨0, .int .u64 (Ix (n : Int)), [], ?_, .int⟩
  rw [Bw.Gm.ev, By hn, cond_true, cond_true]
  unfold Ix C6 C0 Fz F6 Bi
  rw [Int.toNat_natCast]
  by_cases h : 2 ^ 63 ≤ n
  · rw [decide_eq_true h, cond_true, if_pos h, show n % 2 ^ 63 = n - 2 ^ 63 by omega]
  · rw [decide_eq_false h, cond_false, show n % 2 ^ 63 = n by omega]
theorem okv_val (b : Nat) : Uy (Bc (mD (Fs (b : Int)))) (Al (mD (Fs (b : Int)))) = true ∧ Ib (Bc (mD (Fs (b : Int)))) (Al (mD (Fs (b : Int)))) = true ∧ Uz (eD (Fs (b : Int)) (Ay b)) = true := by
  obtain ⟨v1, v2, v3⟩ := val_ok b
  have hl : Cz (mD (Fs (b : Int))).natAbs < 3 := Nat.lt_of_le_of_lt (K9 (X5 _)) v1
  exact ⟨okV_of (by omega), H4 (by omega), Ar.2 ⟨v2, v3⟩⟩
theorem cmp_val {a b : Nat} (ha : Ai a ≠ 4) (hb : Ai b ≠ 4) : Ur (mD (Fs (a : Int))) (eD (Fs (a : Int)) (Ay a)) (mD (Fs (b : Int))) (eD (Fs (b : Int)) (Ay b)) = if Gq a < Gq b then -1 else if Gq b < Gq a then 1 else 0 := by
  have pa := D7 a
  have pb := D7 b
  have ga : mD (Fs (a : Int)) ≠ 0 → (-1074 : Int) ≤ eD (Fs (a : Int)) (Ay a) := fun h => eD_ge pa.1 (fun h0 => h (U2.2 h0))
  have gb : mD (Fs (b : Int)) ≠ 0 → (-1074 : Int) ≤ eD (Fs (b : Int)) (Ay b) := fun h => eD_ge pb.1 (fun h0 => h (U2.2 h0))
  rw [cmp_vAt ga gb, vAt_odd pa.1, vAt_odd pb.1, ← val_at, ← val_at]
  have h1 := Yy (f := -1074) ha hb pa.1 pb.1
  have h2 := Yy (f := -1074) hb ha pb.1 pa.1
  unfold Uq
  by_cases c1 : Io a (-1074) < Io b (-1074)
  · rw [if_pos c1, if_pos (h1.1 c1)]
  · rw [if_neg c1, if_neg (fun h => c1 (h1.2 h))]
    by_cases c2 : Io b (-1074) < Io a (-1074)
    · rw [if_pos c2, if_pos (h2.1 c2)]
    · rw [if_neg c2, if_neg (fun h => c2 (h2.2 h))]
theorem key_word {b : Nat} (hb : b < 2 ^ 64) : Gq b = Gu (Bi b) (b % 2 ^ 63) := by
  have := Nd (Bi b) (r := b % 2 ^ 63) (Nat.mod_lt _ (by decide))
  rw [K4 hb] at this
  exact this
theorem end_key {b : Nat} (hb : b < 2 ^ 64) (h4 : Ai b ≠ 4) : (Jl b = true → Pe (b : Int) = 0 ∧ -(Dt : Int) < Gq b ∧ Gq b < Dt) ∧ (Jl b = false → Ai b = 3 ∧ ((Pe (b : Int) = 1 ∧ Gq b = Dt) ∨ (Pe (b : Int) = -1 ∧ Gq b = -(Dt : Int)))) := by
  have hk := key_word hb
  constructor
  · intro hf
    obtain ⟨_, f3⟩ := Sy hf
    have hl := Su f3 h4
    refine ⟨by unfold Pe C8; rw [Int.toNat_natCast, hf, if_pos rfl], ?_⟩
    rw [hk]
    unfold Gu
    cases Bi b
    · rw [if_neg (by decide)]; omega
    · rw [if_pos rfl]; omega
  · intro hf
    have h3 : Ai b = 3 := by
      unfold Jl at hf
      have := of_decide_eq_false hf
      rcases Gb b with ⟨_, _, k⟩ | ⟨_, _, k⟩ | ⟨k, _, _⟩
      · exact k
      · exact absurd k h4
      · omega
    have hi := Ss h3
    refine ⟨h3, ?_⟩
    rw [hk, hi]
    unfold Pe C8 C6 Gu
    rw [Int.toNat_natCast, hf, if_neg (by decide)]
    cases Bi b
    · left; exact ⟨rfl, rfl⟩
    · right; exact ⟨rfl, rfl⟩
theorem Bw.Order.known : Bw.Order.Kn := Bw.Order.Ac (.cons As.Compare.known (.cons A3.Kind.known (.cons A3.Value.known (.cons Bw.ends.known .nil)))) fun a b hp => by
  obtain ⟨ha, hb⟩ := Ag.1 (show (Ah a && Ah b) = true from hp)
  obtain ⟨a, rfl, hn⟩ := Bg ha
  obtain ⟨b, rfl, hm⟩ := Bg hb
  refine ⟨0, .tup [.int .i64 (Q9 (a : Int) (b : Int)), .bool (X0 (a : Int) (b : Int))], [], ?_, Wk.Gg (.cons .int (.cons .bool .nil))⟩
  have kk : ∀ n : Nat, A7 (n : Int) = (Ai n : Int) := fun _ => rfl
  have pe : ∀ n : Nat, Ba (n : Int) = Ay n := fun _ => rfl
  rw [Bw.Order.ev, J0, J0, ha, hb, cond_true, Bool.or_true, cond_true, cond_true, cond_true, cond_true, cond_true, kk, kk, pe, pe, Gt, Gt]
  unfold Q9 X0 ordN W9
  rw [Int.toNat_natCast, Int.toNat_natCast]
  by_cases n4 : Ai a = 4 ∨ Ai b = 4
  · have : (((Ai a : Nat) : Int) == 4 || ((Ai b : Nat) : Int) == 4) = true := by
      rw [Bool.or_eq_true, beq_iff_eq, beq_iff_eq]; omega
    rw [this, cond_true, if_pos n4, decide_eq_true n4]; rfl
  · have : (((Ai a : Nat) : Int) == 4 || ((Ai b : Nat) : Int) == 4) = false := by
      rw [Bool.or_eq_false_iff, beq_eq_false_iff_ne, beq_eq_false_iff_ne]; omega
    rw [this, cond_false, if_neg n4, decide_eq_false n4, Bool.not_false]
    have a4 : Ai a ≠ 4 := fun h => n4 (.inl h)
    have b4 : Ai b ≠ 4 := fun h => n4 (.inr h)
    obtain ⟨a1, a2⟩ := end_key hn a4
    obtain ⟨b1, b2⟩ := end_key hm b4
    have hinf : (0 : Int) < (Dt : Int) := by decide
    cases hfa : Jl a with
    | true =>
      obtain ⟨ea, ka1, ka2⟩ := a1 hfa
      cases hfb : Jl b with
      | true =>
        obtain ⟨eb, kb1, kb2⟩ := b1 hfb
        obtain ⟨o1, _, o3⟩ := okv_val a
        obtain ⟨p1, _, p3⟩ := okv_val b
        have hc := cmp_val a4 b4
        rw [ea, eb, show (((0 : Int) != (0 : Int)) || ((0 : Int) != (0 : Int))) = false from rfl, cond_false, o1, o3, p1, p3, hc]
        rfl
      | false =>
        obtain ⟨_, hb2⟩ := b2 hfb
        rcases hb2 with ⟨eb, kb⟩ | ⟨eb, kb⟩
        · rw [ea, eb, kb, if_pos ka2]; rfl
        · rw [ea, eb, kb, if_neg (by omega), if_pos ka1]; rfl
    | false =>
      obtain ⟨_, ha2⟩ := a2 hfa
      cases hfb : Jl b with
      | true =>
        obtain ⟨eb, kb1, kb2⟩ := b1 hfb
        rcases ha2 with ⟨ea, ka⟩ | ⟨ea, ka⟩
        · rw [ea, eb, ka, if_neg (by omega), if_pos kb2]; rfl
        · rw [ea, eb, ka, if_pos kb1]; rfl
      | false =>
        obtain ⟨_, hb2⟩ := b2 hfb
        rcases ha2 with ⟨ea, ka⟩ | ⟨ea, ka⟩ <;> rcases hb2 with ⟨eb, kb⟩ | ⟨eb, kb⟩
        · rw [ea, eb, ka, kb, if_neg (by omega), if_neg (by omega)]; rfl
        · rw [ea, eb, ka, kb, if_neg (by omega), if_pos (by omega)]; rfl
        · rw [ea, eb, ka, kb, if_pos (by omega)]; rfl
        · rw [ea, eb, ka, kb, if_neg (by omega), if_neg (by omega)]; rfl
theorem Bw.Max.known : Bw.Max.Kn := Bw.Max.Ac (.cons Bw.Order.known .nil) fun a b hp => by
  have hp : (Ah a && Ah b) = true := hp
  refine ⟨0, .int .u64 (Og a b), [], ?_, .int⟩
  rw [Bw.Max.ev, hp, cond_true, Aw]
  unfold Og maxN X0 Q9
  cases W9 a.toNat b.toNat with
  | false => rfl
  | true =>
    rw [Bool.not_true, cond_false, if_pos rfl]
    obtain ⟨h1, h2⟩ := Ag.1 hp
    obtain ⟨x, rfl, _⟩ := Bg h1
    obtain ⟨y, rfl, _⟩ := Bg h2
    rw [Int.toNat_natCast, Int.toNat_natCast]
    by_cases h : ordN x y < 0
    · rw [decide_eq_true h, cond_true, if_pos h]
    · rw [decide_eq_false h, cond_false, if_neg h]
theorem key_pos {b : Nat} (h : b < 2 ^ 63) : Gq b = (b : Int) := Nd false h
theorem max_abs {m x : Nat} (hm : m < 2 ^ 63) (m4 : Ai m ≠ 4) (hx : x < 2 ^ 63) (x4 : Ai x ≠ 4) : maxN m x = max m x := by
  have o : W9 m x = true := by unfold W9; rw [decide_eq_false (by omega)]; rfl
  have ho : ordN m x = if (m : Int) < (x : Int) then -1 else if (x : Int) < (m : Int) then 1 else 0 := by
    unfold ordN
    rw [if_neg (by omega), key_pos hm, key_pos hx]
  unfold maxN
  rw [o, if_pos rfl, ho]
  by_cases h : m < x
  · rw [if_pos (show (m : Int) < (x : Int) by omega), if_pos (by decide), Nat.max_eq_right (by omega)]
  · rw [if_neg (show ¬ (m : Int) < (x : Int) by omega)]
    by_cases h2 : x < m
    · rw [if_pos (show (x : Int) < (m : Int) by omega), if_neg (by decide), Nat.max_eq_left (by omega)]
    · rw [if_neg (show ¬ (x : Int) < (m : Int) by omega), if_neg (by decide), Nat.max_eq_left (by omega)]
theorem max_nan {m x : Nat} (h : Ai m = 4 ∨ Ai x = 4) : maxN m x = Pu := by
  have o : W9 m x = false := by unfold W9; rw [decide_eq_true h]; rfl
  unfold maxN
  rw [o, if_neg (by decide)]
theorem nan_kind4 : Ai Pu = 4 := by decide
theorem fold_nan : ∀ l : List Int, l.foldl (fun m x => Og m (Ix x)) ((Pu : Nat) : Int) = ((Pu : Nat) : Int)
  | [] => rfl
  | x :: l => by
    rw [List.foldl_cons]
    have : Og ((Pu : Nat) : Int) (Ix x) = ((Pu : Nat) : Int) := by unfold Og; rw [Int.toNat_natCast, max_nan (.inl nan_kind4)]
    rw [this]
    exact fold_nan l
theorem fold_big : ∀ (l : List Int) (m : Nat), m < 2 ^ 63 → Ai m ≠ 4 → l.foldl (fun m x => Og m (Ix x)) (m : Int) = ((W1 l m : Nat) : Int)
  | [], m, _, _ => rfl
  | x :: l, m, hm, m4 => by
    rw [List.foldl_cons]
    unfold W1
    have e1 : (Ix x).toNat = Fz x.toNat := by unfold Ix; rw [Int.toNat_natCast]
    by_cases h : Ai x.toNat = 4
    · rw [if_pos h]
      have : Og (m : Int) (Ix x) = ((Pu : Nat) : Int) := by
        unfold Og
        rw [e1, max_nan (.inr (by rw [O7]; exact h))]
      rw [this]
      exact fold_nan l
    · rw [if_neg h]
      have hx := Qh x.toNat
      have x4 : Ai (Fz x.toNat) ≠ 4 := by rw [O7]; exact h
      have : Og (m : Int) (Ix x) = ((max m (Fz x.toNat) : Nat) : Int) := by
        unfold Og
        rw [Int.toNat_natCast, e1, max_abs hm m4 hx x4]
      rw [this]
      refine fold_big l _ (by omega) ?_
      rcases Nat.le_total m (Fz x.toNat) with h2 | h2
      · rw [Nat.max_eq_right h2]; exact x4
      · rw [Nat.max_eq_left h2]; exact m4
theorem max_in {a b : Int} (ha : Ah a = true) (hb : Ah b = true) : Ah (Og a b) = true := by
  obtain ⟨x, rfl, hx⟩ := Bg ha
  obtain ⟨y, rfl, hy⟩ := Bg hb
  unfold Og maxN
  rw [Int.toNat_natCast, Int.toNat_natCast]
  split
  · split
    · exact hb
    · exact ha
  · exact By (by decide)
end Go.Proofs.S1
end
