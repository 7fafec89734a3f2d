/- A verified evaluator of the program's form and its use for this seat: HouL, S1EqRoot, S1PRoot, S1PRootA, LdxL, S1EqLdx, S1PLdx, S1PLdxA, S1EqRef08, S1EqRef13, S1PRef08. -/
import Derived.Test.YtjbokjpbiobjpaaGreatTF
import Derived.Test.YtjbokjpbiobjpaaGreatTE
import Derived.Test.YtjbokjpbiobjpaaGreatTJ
import Derived.Test.YtjbokjpbiobjpaaGreatTG
set_option linter.unusedVariables false
set_option linter.unusedSimpArgs false
noncomputable section
namespace Go.Rnd
open Go.Den
theorem Iv : Ag (0 : Int) = true := B7 (n := 0) (by decide)
theorem Alj : Ag Aq4 = true := B7 (n := 4607182418800017408) (by decide)
theorem Aie {b : Nat} {n : Int} (h : b < 2 ^ 64) : (F1 b n).1 < 2 ^ 64 := by
  unfold F1
  by_cases h4 : Aj b = 4
  · rw [if_pos h4]; exact (by decide : Ph < 2 ^ 64)
  rw [if_neg h4]
  by_cases h3 : Aj b = 3 ∨ Aj b = 0
  · rw [if_pos h3]; exact h
  rw [if_neg h3]
  exact Sy _ _ _
theorem G9 {b n : Int} (h : Ag b = true) : Ag (Bu b n) = true := by
  obtain ⟨x, rfl, hx⟩ := Bj h
  exact B7 (Aie (by rw [As4]; exact hx))
theorem Rc (b : Nat) : Gl b < 2 ^ 63 := Nat.mod_lt _ (by decide)
theorem Yl : ∀ (l : List Int) (m : Nat), m < 2 ^ 64 → Ym l m < 2 ^ 64
  | [], m, h => h
  | x :: l, m, h => by
    unfold Ym
    split
    · exact (by decide : Ph < 2 ^ 64)
    · have h2 := Rc x.toNat
      exact Yl l _ (by omega)
theorem Nl (l : List Int) : Ag (Be l) = true := B7 (Yl l 0 (by decide))
theorem Sb (x : Int) : Ag (Ir x) = true := B7 (Nat.lt_trans (Rc x.toNat) (by decide))
theorem Ago {a b : Int} (ha : Ag a = true) (hb : Ag b = true) : Ag (Jf a b) = true := by
  obtain ⟨x, rfl, hx⟩ := Bj ha
  obtain ⟨y, rfl, hy⟩ := Bj hb
  exact B7 (Ua (by rw [As4]; exact hx) (by rw [As4]; exact hy)).1
theorem Xj {a : Int} (ha : Ag a = true) : Ag (Cz a) = true := by
  obtain ⟨x, rfl, hx⟩ := Bj ha
  exact B7 (Uu (by rw [As4]; exact hx))
theorem Aky {b : Nat} (h : b < 2 ^ 64) : (Ns b).1 < 2 ^ 64 := by
  by_cases h4 : Aj b = 4
  · rw [Wp h4]; exact (by decide : Ph < 2 ^ 64)
  by_cases h0 : Aj b = 0 ∨ b = Dv
  · rw [Nr h4 h0]; exact h
  cases hn : Bq b with
  | true => rw [Sw h4 h0 hn]; exact (by decide : Ph < 2 ^ 64)
  | false =>
    unfold Ns
    rw [if_neg h4, if_neg h0, hn, if_neg (by decide)]
    exact Nat.lt_trans (V0 _ _) (by decide)
theorem Aax {a : Int} (ha : Ag a = true) : Ag (E9 a) = true := by
  obtain ⟨x, rfl, hx⟩ := Bj ha
  exact B7 (Aky (by rw [As4]; exact hx))
theorem Akx (k : Int) : ∀ (l : List Int) {s : Int}, Ag s = true → Ag (Acw k s l) = true
  | [], _, h => h
  | _ :: l, _, h => Akx k l (Ago h (Ju _ _))
theorem V5 (x : List Int) : Ag (C9 x) = true := by
  unfold C9
  split
  · exact Nl x
  · exact G9 (Aax (Akx _ _ Iv))
theorem Ast (x : List Int) : Ag (muI x) = true := by
  unfold muI
  split
  · exact V5 _
  · exact Xj (V5 _)
theorem Apt (x : List Int) : Ag (Er x) = true := G9 (Ast x)
theorem Ajr (b : Nat) : -1100 ≤ Ajs b ∧ Ajs b ≤ 1100 := by
  unfold Ajs
  split
  · have h1 := D8 b
    have h2 := Ev b
    rename_i h
    have h3 : (Au b).log2 < 53 := by
      by_cases h0 : Au b = 0
      · rw [h0]; decide
      · exact (Nat.log2_lt h0).2 h2
    omega
  · omega
theorem Ya (x : Int) : -1100 ≤ Bo x ∧ Bo x ≤ 1100 := Ajr x.toNat
theorem H7 {l : List Int} (h : Al l = true) (j : Nat) : Ag (l.getD j 0) = true := Ahn (Av.1 h) j
theorem Rb {l : List Int} (h : ∀ x ∈ l, Ag x = true) : Al l = true := Av.2 h
theorem Anl : Al [] = true := Rb fun _ h => by cases h
theorem Aeu {α : Type} {l : List α} {f : α → Int} (h : ∀ j, Ag (f j) = true) : Al (l.map f) = true := Rb fun x hx => by
  obtain ⟨j, _, rfl⟩ := List.mem_map.1 hx
  exact h j
theorem Aj5 {x : Int} {l : List Int} (h1 : Ag x = true) (h2 : Al l = true) : Al (x :: l) = true := Rb fun y hy => by
  rcases List.mem_cons.1 hy with rfl | hy
  · exact h1
  · exact Av.1 h2 y hy
theorem Wb {c i k : Int} {l : List Int} (h : Al l = true) : Ag (D0 c l i k) = true := H7 h _
theorem Ac3 (c b i : Int) (n : Nat) (l : List Int) : (Cn c l b i n).length = n := by unfold Cn; rw [List.length_map, List.length_range]
theorem Ol {c b i : Int} {n : Nat} {l : List Int} (h : Al l = true) : Al (Cn c l b i n) = true := Aeu fun _ => Wb h
theorem Ak6 (n : Nat) {f : Nat → Int} (h : ∀ j, Ag (f j) = true) : Al (Ip n f) = true := Aj5 Alj (Aeu fun _ => h _)
theorem Oo {n : Nat} (h : n ≠ 0) (f : Nat → Int) : (Ip n f).length = n := by
  unfold Ip
  rw [List.length_cons, List.length_map, List.length_range]
  omega
theorem To {x : List Int} (h : Al x = true) : Al (Ce x).1 = true ∧ Ag (Ce x).2.1 = true ∧ Ag (Ce x).2.2.1 = true := by
  have hz : Al [] = true ∧ Ag (0 : Int) = true ∧ Ag (0 : Int) = true := ⟨Anl, Iv, Iv⟩
  unfold Ce
  split
  · exact hz
  split
  · unfold I4
    split
    · dsimp only
      exact ⟨Ak6 _ fun _ => Iv, Iv, H7 h 0⟩
    · split
      · dsimp only
        exact ⟨Ak6 _ fun _ => Agb _ _, Agb _ _, Apt x⟩
      · exact hz
  · exact hz
theorem Tn {x : List Int} (h : (Ce x).2.2.2 = 0) : (Ce x).1.length = x.length := by
  unfold Ce at h ⊢
  by_cases h1 : x.length = 0 ∨ 64 < x.length
  · rw [if_pos h1] at h; exact absurd h (by decide)
  rw [if_neg h1] at h ⊢
  by_cases h2 : Dl x = true
  · rw [if_pos h2] at h ⊢
    unfold I4 at h ⊢
    by_cases h3 : Dx (x.drop 1) = true
    · rw [if_pos h3]; dsimp only; exact Oo (n := x.length) (by omega) _
    · rw [if_neg h3] at h ⊢
      by_cases h4 : Cv (Er x) = true
      · rw [if_pos h4]; dsimp only [Ri]; exact Oo (n := x.length) (by omega) _
      · rw [if_neg h4] at h; exact absurd h (by decide)
  · rw [if_neg h2] at h; exact absurd h (by decide)
theorem T4 (x y : List Int) : Ag (It x y) = true := B7 (Abw x y 0 (by decide))
theorem Aj4 {c i k t a b : Int} {l v : List Int} (h : Al l = true) : Ag (O9 c l i k v t a b) = true := by
  unfold O9
  split
  · exact Ok (Wb h) (Ju _ _)
  · exact Wb h
theorem Aai {r c : Nat} {l : List Int} (h : Al l = true) (i k : Int) (v : List Int) (t : Int) : Al (Et r c l i k v t) = true := Jv fun _ _ => Aj4 h
theorem Kq (r c : Nat) (l : List Int) (i k : Int) (v : List Int) (t : Int) : (Et r c l i k v t).length = r * c := Ci _ _ _
theorem Ajx {r c : Nat} {l : List Int} (h : Al l = true) (j : Nat) {x : Int} (hx : Ag x = true) : Al (Mk r c l j x) = true := Jv fun a b => by
  split
  · split
    · exact hx
    · exact Iv
  · exact Wb h
theorem M5 (r c : Nat) (l : List Int) (j : Nat) : (Xh r c l j).length = r * c := by unfold Xh Mk; exact Ci _ _ _
theorem V6 {r c : Nat} {l : List Int} (h : Al l = true) (j : Nat) : Al (Xh r c l j) = true := Ajx (Aai h _ _ _ _) _ (To (Ol h)).2.2
def Zu (r : Nat) : Nat → List (List Int × Int) → Prop
  | _, [] => True
  | j, m :: ms => (Al m.1 = true ∧ Ag m.2 = true ∧ m.1.length + j = r) ∧ Zu r (j + 1) ms
theorem Ye (r c : Nat) : ∀ (n j : Nat) (l : List Int) (x : List Int × List (List Int × Int)), Al l = true → l.length = r * c → j + n ≤ r → Mj r c n j l = some x → Al x.1 = true ∧ x.1.length = r * c ∧ x.2.length = n ∧ Zu r j x.2
  | 0, j, l, x, ha, hl, _, h => by
    cases h
    exact ⟨ha, hl, rfl, trivial⟩
  | n + 1, j, l, x, ha, hl, hj, h => by
    unfold Mj at h
    by_cases h1 : (Ce (Ep r c l j)).2.2.2 = 0
    · rw [if_pos h1, Option.map_eq_some_iff] at h
      obtain ⟨y, hy, rfl⟩ := h
      obtain ⟨a1, a2, a3, a4⟩ := Ye r c n (j + 1) _ y (V6 ha j) (M5 r c l j) (by omega) hy
      have hm := To (x := Ep r c l j) (Ol ha)
      have hlen := Tn h1
      refine ⟨a1, a2, by rw [List.length_cons, a3], ⟨hm.1, hm.2.1, ?_⟩, a4⟩
      show (Ce (Ep r c l j)).1.length + j = r
      rw [hlen]
      unfold Ep
      rw [Ac3]
      omega
    · rw [if_neg h1] at h; cases h
theorem T2 (n : Nat) : Al (Ih n) = true := Jv fun i k => by
  unfold Mt
  split
  · exact Alj
  · exact Iv
theorem Ra (n : Nat) : ∀ (ms : List (List Int × Int)) (j : Nat) (q : List Int), Al q = true → q.length = n * n → Al (Gu n j ms q) = true ∧ (Gu n j ms q).length = n * n
  | [], _, _, h1, h2 => ⟨h1, h2⟩
  | m :: ms, j, q, h1, h2 => by
    unfold Gu
    exact ⟨Aai (Ra n ms (j + 1) q h1 h2).1 _ _ _ _, Kq _ _ _ _ _ _ _⟩
theorem Apf {r c : Nat} {l : List Int} (h : (J0 r c l).isSome = true) : Al (Lu r c l) = true ∧ (Lu r c l).length = r * r := by
  unfold Lu
  cases hd : J0 r c l with
  | none => rw [hd] at h; cases h
  | some x => exact Ra r x.2 0 _ (T2 r) (by unfold Ih; exact Ci _ _ _)
theorem Ape {r c : Nat} {l : List Int} (ha : Al l = true) (hl : l.length = r * c) (h : (J0 r c l).isSome = true) : Al (Jz r c l) = true ∧ (Jz r c l).length = r * c := by
  unfold Jz
  cases hd : J0 r c l with
  | none => rw [hd] at h; cases h
  | some x =>
    have hn : Hm r c ≤ r := by unfold Hm; omega
    have := Ye r c (Hm r c) 0 l x ha hl (by omega) hd
    exact ⟨this.1, this.2.1⟩
end Go.Rnd
namespace Go.Proofs.S1
open Go Go.Den Go.Rnd Go.Proofs
set_option maxRecDepth 100000
namespace EqRoot
theorem E3 : ∀ a : Bool, (((!a) || (a == true)) && true) = true := by decide
theorem Jn : ∀ a : Bool, ((!(a == true)) || ((((!(a == true)) || (a == true)) && true) && true)) = true := by decide
theorem Iw : ∀ a : Bool, ((!(a == true)) || true) = true := by decide
theorem Ia : ∀ a : Bool, ((!(!a)) || (a == false)) = true := by decide
theorem Gd : ∀ a : Bool, ((!(a == false)) || ((((!(a == false)) || (a == false)) && true) && true)) = true := by decide
theorem Jg : ∀ a : Bool, ((!(a == false)) || true) = true := by decide
theorem Ld : ∀ a b : Bool, (bif (!a) then true else b) = ((!a) || b) := by decide
theorem Lx : ∀ a : Bool, ((!(!(!a))) || ((!a) == false)) = true := by decide
theorem Pm : ∀ a : Bool, ((!((!a) == false)) || ((((!((!a) == false)) || ((!a) == false)) && true) && true)) = true := by decide
theorem Sp : ∀ a b : Bool, ((!((!a) == false)) || ((((!((!a) == false)) || ((!a) == false)) && true) && b)) = ((!a) || b) := by decide
theorem Hx : ∀ a : Bool, ((!((!a) == false)) || true) = true := by decide
theorem I1 : ∀ a b : Bool, (bif a then true else (!b)) = (a || (!b)) := by decide
theorem J9 : ∀ a b : Bool, ((!(a == false)) || ((((!(a == false)) || (a == false)) && true) && b)) = (a || b) := by decide
def root.Ga.hint : Nat → Option Ba
  | 0 => some { keep := [0, 4, 5, 6, 14], objs := [], boxes := [] }
  | _ => none
def root.Ga.A7 : List (Nat × Entry) := []
def root.Ga.E : Env := Bb (A5 root.Ga.A7) (fun _ => false) root.Ga.hint (fun _ => none)
def root.Ga.L0 (N M : Nat) (m p4 : Int) (p5 p6 p14 : Int) : Option DV := B0 root.Ga.E N Tryz.f265 (An Tryz.f265) [1, 1, 0, 1, 0] [] M ⟨F7 68 [(0, .int .u64 m), (4, .int .u64 p4), (5, .int .u64 p5), (6, .int .u64 p6), (14, .int .i64 p14)], []⟩
theorem root.Ga.As (N M : Nat) (m p4 : Int) (p5 p6 p14 : Int) : root.Ga.L0 N (M + 1) m p4 p5 p6 p14 = bif (A4 p14 (64 : Int)) then bif (A4 p14 (32 : Int)) then bif (decide (0 ≤ (Ab ((62 : Int) - (Ab ((2 : Int) * p14)))))) then bif (decide ((Ge (Hn .u64 (B2 .u64 p6 (2 : Int)) (Eg .u64 (C8 .u64 m (Ab ((62 : Int) - (Ab ((2 : Int) * p14))))) (3 : Int))) (Hn .u64 (B2 .u64 p4 (2 : Int)) (1 : Int)) (0 : Int)) ≤ 1)) then bif ((Ge (Hn .u64 (B2 .u64 p5 (2 : Int)) (C8 .u64 p6 (62 : Int))) (C8 .u64 p4 (62 : Int)) (Ge (Hn .u64 (B2 .u64 p6 (2 : Int)) (Eg .u64 (C8 .u64 m (Ab ((62 : Int) - (Ab ((2 : Int) * p14))))) (3 : Int))) (Hn .u64 (B2 .u64 p4 (2 : Int)) (1 : Int)) (0 : Int))) == (0 : Int)) then root.Ga.L0 N M m (Hn .u64 (B2 .u64 p4 (1 : Int)) (1 : Int)) (Mz (Hn .u64 (B2 .u64 p5 (2 : Int)) (C8 .u64 p6 (62 : Int))) (C8 .u64 p4 (62 : Int)) (Ge (Hn .u64 (B2 .u64 p6 (2 : Int)) (Eg .u64 (C8 .u64 m (Ab ((62 : Int) - (Ab ((2 : Int) * p14))))) (3 : Int))) (Hn .u64 (B2 .u64 p4 (2 : Int)) (1 : Int)) (0 : Int))) (Mz (Hn .u64 (B2 .u64 p6 (2 : Int)) (Eg .u64 (C8 .u64 m (Ab ((62 : Int) - (Ab ((2 : Int) * p14))))) (3 : Int))) (Hn .u64 (B2 .u64 p4 (2 : Int)) (1 : Int)) (0 : Int)) (Ab (p14 + (1 : Int))) else root.Ga.L0 N M m (B2 .u64 p4 (1 : Int)) (Hn .u64 (B2 .u64 p5 (2 : Int)) (C8 .u64 p6 (62 : Int))) (Hn .u64 (B2 .u64 p6 (2 : Int)) (Eg .u64 (C8 .u64 m (Ab ((62 : Int) - (Ab ((2 : Int) * p14))))) (3 : Int))) (Ab (p14 + (1 : Int))) else none else none else bif (decide ((Ge (Hn .u64 (B2 .u64 p6 (2 : Int)) (0 : Int)) (Hn .u64 (B2 .u64 p4 (2 : Int)) (1 : Int)) (0 : Int)) ≤ 1)) then bif ((Ge (Hn .u64 (B2 .u64 p5 (2 : Int)) (C8 .u64 p6 (62 : Int))) (C8 .u64 p4 (62 : Int)) (Ge (Hn .u64 (B2 .u64 p6 (2 : Int)) (0 : Int)) (Hn .u64 (B2 .u64 p4 (2 : Int)) (1 : Int)) (0 : Int))) == (0 : Int)) then root.Ga.L0 N M m (Hn .u64 (B2 .u64 p4 (1 : Int)) (1 : Int)) (Mz (Hn .u64 (B2 .u64 p5 (2 : Int)) (C8 .u64 p6 (62 : Int))) (C8 .u64 p4 (62 : Int)) (Ge (Hn .u64 (B2 .u64 p6 (2 : Int)) (0 : Int)) (Hn .u64 (B2 .u64 p4 (2 : Int)) (1 : Int)) (0 : Int))) (Mz (Hn .u64 (B2 .u64 p6 (2 : Int)) (0 : Int)) (Hn .u64 (B2 .u64 p4 (2 : Int)) (1 : Int)) (0 : Int)) (Ab (p14 + (1 : Int))) else root.Ga.L0 N M m (B2 .u64 p4 (1 : Int)) (Hn .u64 (B2 .u64 p5 (2 : Int)) (C8 .u64 p6 (62 : Int))) (Hn .u64 (B2 .u64 p6 (2 : Int)) (0 : Int)) (Ab (p14 + (1 : Int))) else none else some (.tup [.int .u64 p4, .bool (bif (p5 == (0 : Int)) then (p6 == (0 : Int)) else false)]) :=
  Eq.trans (by kernel_rfl)
  (Ee rfl (Ax (Iw (p5 == (0 : Int))) (Ax (Jn (p5 == (0 : Int))) (Ax (E3 (p5 == (0 : Int))) rfl))))
theorem root.Ga.ev (N : Nat) (m : Int) : Bx root.Ga.E N Tryz.f265 (An Tryz.f265) [.int .u64 m] =
  root.Ga.L0 N N m (0 : Int) (0 : Int) (0 : Int) (0 : Int) := by kernel_rfl
abbrev _root_.Go.Proofs.S1.root.Ga.Kn := A3 Tryz.prog 265 root.Ga.spec
theorem root.Ga.Ac (hk : Ay Tryz.prog root.Ga.A7) (h : ∀ (m : Int), root.Ga.pre [.i m] = true → Bc root.Ga.E Tryz.f265 [.int .u64 m] (root.Ga.out [.i m])) : root.Ga.Kn :=
  Ak (Az hk _ _ _) Tryz.func265 (by kernel_rfl) (by kernel_rfl) h
def root.Sqrt.hint : Nat → Option Ba
  | 5 => some { keep := [5, 7, 9], objs := [], boxes := [] }
  | _ => none
def root.Sqrt.A7 : List (Nat × Entry) := [(250, Cq.B3.spec), (265, root.Ga.spec), (155, soft.Kind.spec), (212, soft.C6.spec), (211, soft.Fp.spec), (213, soft.Sign.spec)]
def root.Sqrt.E : Env := Bb (A5 root.Sqrt.A7) (fun _ => false) root.Sqrt.hint (fun _ => none)
def root.Sqrt.L0 (N M : Nat) (p5 p7 : Int) (p9 : Bool) : Option DV := B0 root.Sqrt.E N Tryz.f264 (An Tryz.f264) [1, 1, 1, 1, 1, 1, 1, 1, 1, 0, 0] [] M ⟨F7 73 [(5, .int .i64 p5), (7, .int .u64 p7), (9, .bool p9)], []⟩
theorem root.Sqrt.As (N M : Nat) (p5 p7 : Int) (p9 : Bool) : root.Sqrt.L0 N (M + 1) p5 p7 p9 = bif (D2 (4611686018427387904 : Int) p7) then root.Sqrt.L0 N M (Ab (p5 + (2 : Int))) (C8 .u64 p7 (1 : Int)) (bif p9 then true else ((Eg .u64 p7 (1 : Int)) == (1 : Int))) else bif (D1 p7 (Ab ((Ab (Int.tdiv p5 (2 : Int))) - (32 : Int))) p9) then some (.tup [.int .u64 (En false p7 (Ab ((Ab (Int.tdiv p5 (2 : Int))) - (32 : Int))) p9), .int .u8 (Em false p7 (Ab ((Ab (Int.tdiv p5 (2 : Int))) - (32 : Int))) p9)]) else none :=
  Eq.trans (by kernel_rfl)
  (Ee (Ax (Jg p9) (Ax (Gd p9) (Ax (Gd p9) (Ax (Ia p9) rfl)))) rfl)
theorem root.Sqrt.ev (N : Nat) (a : Int) : Bx root.Sqrt.E N Tryz.f264 (An Tryz.f264) [.int .u64 a] = bif (Ag a) then bif ((Bd a) == (4 : Int)) then some (.tup [.int .u64 9221120237041090560, .int .u8 0]) else bif (Ag a) then bif ((Bd a) == (0 : Int)) then some (.tup [.int .u64 a, .int .u8 0]) else bif (a == (9218868437227405312 : Int)) then some (.tup [.int .u64 a, .int .u8 0]) else bif (Ag a) then bif (Dh a) then some (.tup [.int .u64 9221120237041090560, .int .u8 16]) else bif (Ag a) then bif (Ag (Br a)) then bif ((Int.tmod (Ab ((Bf a) - (Ab ((64 - Eo (Br a)) - (2 : Int))))) (2 : Int)) != (0 : Int)) then bif (decide (0 ≤ (Ab ((Ab ((64 - Eo (Br a)) - (2 : Int))) - (1 : Int))))) then bif (C3 (0 ≤ (B2 .u64 (Br a) (Ab ((Ab ((64 - Eo (Br a)) - (2 : Int))) - (1 : Int)))) ∧ (B2 .u64 (Br a) (Ab ((Ab ((64 - Eo (Br a)) - (2 : Int))) - (1 : Int)))) < 9223372036854775808)) then root.Sqrt.L0 N N (Ab ((Bf a) - (Ab ((Ab ((64 - Eo (Br a)) - (2 : Int))) - (1 : Int))))) (Tq (B2 .u64 (Br a) (Ab ((Ab ((64 - Eo (Br a)) - (2 : Int))) - (1 : Int))))) (!(Tr (B2 .u64 (Br a) (Ab ((Ab ((64 - Eo (Br a)) - (2 : Int))) - (1 : Int)))))) else none else none else bif (decide (0 ≤ (Ab ((64 - Eo (Br a)) - (2 : Int))))) then bif (C3 (0 ≤ (B2 .u64 (Br a) (Ab ((64 - Eo (Br a)) - (2 : Int)))) ∧ (B2 .u64 (Br a) (Ab ((64 - Eo (Br a)) - (2 : Int)))) < 9223372036854775808)) then root.Sqrt.L0 N N (Ab ((Bf a) - (Ab ((64 - Eo (Br a)) - (2 : Int))))) (Tq (B2 .u64 (Br a) (Ab ((64 - Eo (Br a)) - (2 : Int))))) (!(Tr (B2 .u64 (Br a) (Ab ((64 - Eo (Br a)) - (2 : Int)))))) else none else none else none else none else none else none else none := by kernel_rfl
abbrev _root_.Go.Proofs.S1.root.Sqrt.Kn := A3 Tryz.prog 264 root.Sqrt.spec
theorem root.Sqrt.Ac (hk : Ay Tryz.prog root.Sqrt.A7) (h : ∀ (a : Int), root.Sqrt.pre [.i a] = true → Bc root.Sqrt.E Tryz.f264 [.int .u64 a] (root.Sqrt.out [.i a])) : root.Sqrt.Kn :=
  Ak (Az hk _ _ _) Tryz.func264 (by kernel_rfl) (by kernel_rfl) h
def Ae.Sqrt.A7 : List (Nat × Entry) := [(264, root.Sqrt.spec)]
def Ae.Sqrt.E : Env := Bb (A5 Ae.Sqrt.A7) (fun _ => false) (fun _ => none) (fun _ => none)
theorem Ae.Sqrt.ev (N : Nat) (a : Int) : Bx Ae.Sqrt.E N Tryz.f262 (An Tryz.f262) [.int .u64 a] = bif (Ag a) then some (.int .u64 (E9 a)) else none := by kernel_rfl
abbrev _root_.Go.Proofs.S1.Ae.Sqrt.Kn := A3 Tryz.prog 262 Ae.Sqrt.spec
theorem Ae.Sqrt.Ac (hk : Ay Tryz.prog Ae.Sqrt.A7) (h : ∀ (a : Int), Ae.Sqrt.pre [.i a] = true → Bc Ae.Sqrt.E Tryz.f262 [.int .u64 a] (Ae.Sqrt.out [.i a])) : Ae.Sqrt.Kn :=
  Ak (Az hk _ _ _) Tryz.func262 (by kernel_rfl) (by kernel_rfl) h
def compare.K8.A7 : List (Nat × Entry) := [(261, Cq.K5.spec), (148, soft.Finite.spec), (155, soft.Kind.spec), (211, soft.Fp.spec)]
def compare.K8.E : Env := Bb (A5 compare.K8.A7) (fun _ => false) (fun _ => none) (fun _ => none)
theorem compare.K8.ev (N : Nat) (a : Int) : Bx compare.K8.E N Tryz.f255 (An Tryz.f255) [.int .u64 a] = bif (Ag a) then bif ((!(Cv a)) || (Ag a)) then bif ((!(Cv a)) || ((Bd a) == (0 : Int))) then some (.int .i64 0) else bif (Ag a) then bif (Ag (Br a)) then some (.int .i64 (Ab ((Ab ((Eo (Br a)) - (1 : Int))) + (Bf a)))) else none else none else none else none :=
  Eq.trans (by kernel_rfl)
  (Ee (Ax (Hx (Cv a)) (Cx (Sp (Cv a) (Ag a)) (Ax (Pm (Cv a)) (Ax (Lx (Cv a)) (Cx (Ld (Cv a) ((Bd a) == (0 : Int))) rfl rfl))) rfl)) rfl)
abbrev _root_.Go.Proofs.S1.compare.K8.Kn := A3 Tryz.prog 255 compare.K8.spec
theorem compare.K8.Ac (hk : Ay Tryz.prog compare.K8.A7) (h : ∀ (a : Int), compare.K8.pre [.i a] = true → Bc compare.K8.E Tryz.f255 [.int .u64 a] (compare.K8.out [.i a])) : compare.K8.Kn :=
  Ak (Az hk _ _ _) Tryz.func255 (by kernel_rfl) (by kernel_rfl) h
def Ae.Norm.hint : Nat → Option Ba
  | 0 => some { keep := [5, 6, 25, 26, 27], objs := [], boxes := [] }
  | _ => none
def Ae.Norm.A7 : List (Nat × Entry) := [(255, compare.K8.spec), (148, soft.Finite.spec), (226, Ae.Add.spec), (89, Ae.Bm.spec), (157, Ae.Mul.spec), (88, Ae.Bp.spec), (262, Ae.Sqrt.spec)]
def Ae.Norm.E : Env := Bb (A5 Ae.Norm.A7) (fun _ => false) Ae.Norm.hint (fun _ => none)
def Ae.Norm.L0 (N M : Nat) (x : List Int) (p6 p27 : Int) : Option DV := B0 Ae.Norm.E N Tryz.f257 (An Tryz.f257) [1, 1, 1, 1, 1, 1, 0, 1, 0] [] M ⟨F7 45 [(5, .int .i64 (Bo (Be x))), (6, .int .u64 p6), (25, .ints .arg .u64 x), (26, .int .i64 (List.length x : Int)), (27, .int .i64 p27)], []⟩
theorem Ae.Norm.As (N M : Nat) (x : List Int) (p6 p27 : Int) : Ae.Norm.L0 N (M + 1) x p6 p27 = bif (A4 p27 (List.length x : Int)) then bif ((decide (0 ≤ p27)) && (decide (p27 < (List.length x : Int)))) then bif (C4 (List.getD x (Int.toNat p27) 0) (Ab (0 - (Bo (Be x))))) then bif (Ag (Bu (List.getD x (Int.toNat p27) 0) (Ab (0 - (Bo (Be x))))) && Ag (Bu (List.getD x (Int.toNat p27) 0) (Ab (0 - (Bo (Be x)))))) then bif (Ag p6 && Ag (Ea (Bu (List.getD x (Int.toNat p27) 0) (Ab (0 - (Bo (Be x))))) (Bu (List.getD x (Int.toNat p27) 0) (Ab (0 - (Bo (Be x))))))) then Ae.Norm.L0 N M x (Jf p6 (Ea (Bu (List.getD x (Int.toNat p27) 0) (Ab (0 - (Bo (Be x))))) (Bu (List.getD x (Int.toNat p27) 0) (Ab (0 - (Bo (Be x))))))) (Ab (p27 + (1 : Int))) else none else none else none else none else bif (Ag p6) then bif (C4 (E9 p6) (Bo (Be x))) then some (.tup [.int .u64 (Bu (E9 p6) (Bo (Be x))), .int .i64 0]) else none else none := by kernel_rfl
theorem Ae.Norm.ev (N : Nat) (x : List Int) : Bx Ae.Norm.E N Tryz.f257 (An Tryz.f257) [.ints .arg .u64 x] = bif (A4 (64 : Int) (List.length x : Int)) then some (.tup [.int .u64 0, .int .i64 3]) else bif (Cp x) then bif (((Be x) == (0 : Int)) || (Ag (Be x))) then bif (((Be x) == (0 : Int)) || (!(Cv (Be x)))) then some (.tup [.int .u64 (Be x), .int .i64 0]) else bif (Ag (Be x)) then Ae.Norm.L0 N N x (0 : Int) (0 : Int) else none else none else none :=
  Eq.trans (by kernel_rfl)
  (Ee rfl (Ee (Ax (Jg ((Be x) == (0 : Int))) (Cx (J9 ((Be x) == (0 : Int)) (Ag (Be x))) (Ax (Gd ((Be x) == (0 : Int))) (Ax (Ia ((Be x) == (0 : Int))) (Cx (I1 ((Be x) == (0 : Int)) (Cv (Be x))) rfl rfl))) rfl)) rfl))
abbrev _root_.Go.Proofs.S1.Ae.Norm.Kn := A3 Tryz.prog 257 Ae.Norm.spec
theorem Ae.Norm.Ac (hk : Ay Tryz.prog Ae.Norm.A7) (h : ∀ (x : List Int), Ae.Norm.pre [.l x] = true → Bc Ae.Norm.E Tryz.f257 [.ints .arg .u64 x] (Ae.Norm.out [.l x])) : Ae.Norm.Kn :=
  Ak (Az hk _ _ _) Tryz.func257 (by kernel_rfl) (by kernel_rfl) h
end EqRoot
open EqRoot
theorem Qh (n s : Nat) (h : s ≤ 64) : C8 .u64 (n : Int) (s : Int) = ((n / 2 ^ s : Nat) : Int) := Hb .u64 n s h
theorem sh2 {n t : Nat} (ht : t < 4) : Hn .u64 (B2 .u64 (n : Int) (2 : Int)) (t : Int) = ((n % 2 ^ 62 * 4 + t : Nat) : Int) := by
  rw [show (2 : Int) = ((2 : Nat) : Int) from rfl, E0 n 2 (by decide), show n * 2 ^ 2 % 2 ^ 64 = (n % 2 ^ 62) * 2 ^ 2 by omega]
  exact Ml ht (by omega)
theorem sh1 {n : Nat} (h : n < 2 ^ 63) : B2 .u64 (n : Int) (1 : Int) = ((2 * n : Nat) : Int) := by
  rw [show (1 : Int) = ((1 : Nat) : Int) from rfl, E0 n 1 (by decide)]
  congr 1; omega
theorem sh1o {n : Nat} (h : n < 2 ^ 63) : Hn .u64 (B2 .u64 (n : Int) (1 : Int)) (1 : Int) = ((2 * n + 1 : Nat) : Int) := by
  rw [show (1 : Int) = ((1 : Nat) : Int) from rfl, E0 n 1 (by decide), show n * 2 ^ 1 % 2 ^ 64 = n * 2 ^ 1 by omega, Nat.mul_comm 2 n]
  exact Ml (k := 1) (by decide) (by omega)
theorem Akr {m i : Nat} (hi : i < 32) : Eg .u64 (C8 .u64 (m : Int) (Ab ((62 : Int) - (Ab ((2 : Int) * (i : Int)))))) (3 : Int) = ((m / 2 ^ (62 - 2 * i) % 2 ^ 64 % 4 : Nat) : Int) ∨ 2 ^ 64 ≤ m := by
  by_cases hm : m < 2 ^ 64
  · left
    rw [Am (x := (2 : Int) * (i : Int)) (by omega) (by omega), Am (x := (62 : Int) - 2 * (i : Int)) (by omega) (by omega), show (62 : Int) - 2 * (i : Int) = ((62 - 2 * i : Nat) : Int) by omega, Qh _ _ (by omega)]
    have hd : m / 2 ^ (62 - 2 * i) < 2 ^ 64 := Nat.lt_of_le_of_lt (Nat.div_le_self _ _) hm
    rw [show (3 : Int) = ((2 ^ 2 - 1 : Nat) : Int) from rfl, Ii 2 hd (by decide)]
    congr 1
    omega
  · right; omega
def Rh (m i : Nat) : Nat := m * 2 ^ 64 / 2 ^ (128 - 2 * i)
theorem Alg {m i : Nat} (hi : i < 32) : Rh m (i + 1) = 4 * Rh m i + m / 2 ^ (62 - 2 * i) % 4 := by
  unfold Rh
  have e1 : 128 - 2 * i = 64 + (64 - 2 * i) := by omega
  have e2 : 128 - 2 * (i + 1) = 64 + (62 - 2 * i) := by omega
  rw [e1, e2, Nat.pow_add, Nat.pow_add, Nat.mul_comm (2 ^ 64), Nat.mul_comm (2 ^ 64), Nat.mul_div_mul_right _ _ (by decide), Nat.mul_div_mul_right _ _ (by decide), show 64 - 2 * i = (62 - 2 * i) + 2 by omega, Nat.pow_add, ← Nat.div_div_eq_div_mul]
  omega
theorem Ais {m i : Nat} (hi : 32 ≤ i) (h : i < 64) : Rh m (i + 1) = 4 * Rh m i := by
  unfold Rh
  have e1 : (2 : Nat) ^ 64 = 2 ^ (2 * i - 64) * 2 ^ (128 - 2 * i) := by rw [← Nat.pow_add]; congr 1; omega
  have e2 : (2 : Nat) ^ 64 = 2 ^ (2 * i - 64) * 4 * 2 ^ (128 - 2 * (i + 1)) := by
    rw [show (4 : Nat) = 2 ^ 2 from rfl, ← Nat.pow_add, ← Nat.pow_add]; congr 1; omega
  have a1 : m * 2 ^ 64 / 2 ^ (128 - 2 * i) = m * 2 ^ (2 * i - 64) := by rw [e1, ← Nat.mul_assoc, Nat.mul_div_cancel _ (Ch _)]
  have a2 : m * 2 ^ 64 / 2 ^ (128 - 2 * (i + 1)) = m * (2 ^ (2 * i - 64) * 4) := by rw [e2, ← Nat.mul_assoc, Nat.mul_div_cancel _ (Ch _)]
  rw [a1, a2, ← Nat.mul_assoc, Nat.mul_comm 4]
theorem Aoa {A B tl th : Nat} (hA : A < 2 ^ 64) (htl : tl < 2 ^ 64) (hB : B < 2 ^ 64) (hth : th < 4) :
    (Ge (A : Int) (tl : Int) (0 : Int) = 0 ∨ Ge (A : Int) (tl : Int) (0 : Int) = 1) ∧
    (th * 2 ^ 64 + tl ≤ B * 2 ^ 64 + A → (Ge (B : Int) (th : Int) (Ge (A : Int) (tl : Int) (0 : Int)) == (0 : Int)) = true ∧
      ∃ h l : Nat, Mz (B : Int) (th : Int) (Ge (A : Int) (tl : Int) (0 : Int)) = (h : Int) ∧ Mz (A : Int) (tl : Int) (0 : Int) = (l : Int) ∧ l < 2 ^ 64 ∧ h * 2 ^ 64 + l = B * 2 ^ 64 + A - (th * 2 ^ 64 + tl)) ∧
    (B * 2 ^ 64 + A < th * 2 ^ 64 + tl → (Ge (B : Int) (th : Int) (Ge (A : Int) (tl : Int) (0 : Int)) == (0 : Int)) = false) := by
  have e1 : Ge (A : Int) (tl : Int) (0 : Int) = ((if A < tl then 1 else 0 : Nat) : Int) := by
    unfold Ge
    rw [As4, As4]
    rfl
  by_cases h : A < tl
  · rw [if_pos h] at e1
    rw [e1]
    have e2 : Ge (B : Int) (th : Int) ((1 : Nat) : Int) = ((if B < th + 1 then 1 else 0 : Nat) : Int) := by
      unfold Ge
      rw [As4, As4]
      rfl
    refine ⟨.inr rfl, fun hle => ?_, fun hlt => ?_⟩
    · rw [if_neg (by omega)] at e2
      rw [e2]
      refine ⟨rfl, B - th - 1, A + 2 ^ 64 - tl, ?_, ?_, by omega, by omega⟩
      · unfold Mz
        rw [As4, As4, As4]
        congr 1; omega
      · unfold Mz
        rw [As4, As4]
        show ((_ : Nat) : Int) = _
        congr 1
        show (A + 18446744073709551616 - tl - 0) % 18446744073709551616 = _
        omega
    · rw [if_pos (by omega)] at e2
      rw [e2]; rfl
  · rw [if_neg h] at e1
    rw [e1]
    have e2 : Ge (B : Int) (th : Int) ((0 : Nat) : Int) = ((if B < th then 1 else 0 : Nat) : Int) := by
      unfold Ge
      rw [As4, As4]
      rfl
    refine ⟨.inl rfl, fun hle => ?_, fun hlt => ?_⟩
    · rw [if_neg (by omega)] at e2
      rw [e2]
      refine ⟨rfl, B - th, A - tl, ?_, ?_, by omega, by omega⟩
      · unfold Mz
        rw [As4, As4, As4]
        congr 1; omega
      · unfold Mz
        rw [As4, As4]
        show ((_ : Nat) : Int) = _
        congr 1
        show (A + 18446744073709551616 - tl - 0) % 18446744073709551616 = _
        omega
    · rw [if_pos (by omega)] at e2
      rw [e2]; rfl
theorem glue (n t : Nat) : n / 2 ^ 62 * 2 ^ 64 + (n % 2 ^ 62 * 4 + t) = 4 * n + t := by omega
theorem Aje (N : Nat) {m : Nat} (hm : m < 2 ^ 63) : ∀ (k i F rt rest : Nat), i + k = 64 → k < F → Rh m i = rt * rt + rest → rest ≤ 2 * rt → rt < 2 ^ i → ∀ hi lo : Nat, hi * 2 ^ 64 + lo = rest → lo < 2 ^ 64 →
    root.Ga.L0 N F (m : Int) (rt : Int) (hi : Int) (lo : Int) (i : Int) = some (.tup [.int .u64 (Tq m), .bool (Tr m)]) := by
  intro k
  induction k with
  | zero =>
    intro i F rt rest hi hF hP hr hb h l e hl
    obtain ⟨F, rfl⟩ : ∃ G, F = G + 1 := ⟨F - 1, by omega⟩
    obtain rfl : i = 64 := by omega
    have hP' : m * 2 ^ 64 = rt * rt + rest := by
      rw [← hP]; unfold Rh
      rw [show 128 - 2 * 64 = 0 from rfl, Nat.pow_zero, Nat.div_one]
    have hroot := Aof hP' hr
    rw [root.Ga.As, Ar, As7 (by omega), As6]
    have e1 : Tq (m : Int) = (rt : Int) := by unfold Tq; rw [As4, ← hroot]
    have e2 : Tr (m : Int) = (bif ((h : Int) == (0 : Int)) then ((l : Int) == (0 : Int)) else false) := by
      unfold Tr
      rw [As4, ← hroot, hP']
      by_cases h0 : h = 0
      · subst h0
        rw [show (((0 : Nat) : Int) == (0 : Int)) = true from rfl, As2, Ati, As9, beq_iff_eq]
        omega
      · rw [show ((h : Int) == (0 : Int)) = false by rw [beq_eq_false_iff_ne]; omega, As6, As7]
        omega
    rw [e1, e2]
  | succ k ih =>
    intro i F rt rest hi hF hP hr hb h l e hl
    obtain ⟨F, rfl⟩ : ∃ G, F = G + 1 := ⟨F - 1, by omega⟩
    have hp : 2 ^ i ≤ 2 ^ 63 := Ath (by decide) (by omega)
    have hi63 : 2 ^ (i + 1) = 2 * 2 ^ i := by rw [Nat.pow_succ, Nat.mul_comm]
    have f1 : 2 * rt + 1 < 2 ^ (i + 1) := by rw [hi63]; omega
    have f2 : 2 * rt < 2 ^ (i + 1) := by omega
    have hh : h = 0 := by omega
    subst hh
    have hrest : rest = l := by omega
    subst hrest
    obtain ⟨two, t4, hP', hcode⟩ : ∃ two : Nat, two < 4 ∧ Rh m (i + 1) = 4 * Rh m i + two ∧
        root.Ga.L0 N (F + 1) (m : Int) (rt : Int) ((0 : Nat) : Int) (rest : Int) (i : Int) =
        (bif (decide ((Ge (Hn .u64 (B2 .u64 (rest : Int) (2 : Int)) (two : Int)) (Hn .u64 (B2 .u64 (rt : Int) (2 : Int)) (1 : Int)) (0 : Int)) ≤ 1)) then
          bif ((Ge (Hn .u64 (B2 .u64 ((0 : Nat) : Int) (2 : Int)) (C8 .u64 (rest : Int) (62 : Int))) (C8 .u64 (rt : Int) (62 : Int)) (Ge (Hn .u64 (B2 .u64 (rest : Int) (2 : Int)) (two : Int)) (Hn .u64 (B2 .u64 (rt : Int) (2 : Int)) (1 : Int)) (0 : Int))) == (0 : Int)) then
            root.Ga.L0 N F (m : Int) (Hn .u64 (B2 .u64 (rt : Int) (1 : Int)) (1 : Int)) (Mz (Hn .u64 (B2 .u64 ((0 : Nat) : Int) (2 : Int)) (C8 .u64 (rest : Int) (62 : Int))) (C8 .u64 (rt : Int) (62 : Int)) (Ge (Hn .u64 (B2 .u64 (rest : Int) (2 : Int)) (two : Int)) (Hn .u64 (B2 .u64 (rt : Int) (2 : Int)) (1 : Int)) (0 : Int))) (Mz (Hn .u64 (B2 .u64 (rest : Int) (2 : Int)) (two : Int)) (Hn .u64 (B2 .u64 (rt : Int) (2 : Int)) (1 : Int)) (0 : Int)) (Ab ((i : Int) + (1 : Int)))
          else root.Ga.L0 N F (m : Int) (B2 .u64 (rt : Int) (1 : Int)) (Hn .u64 (B2 .u64 ((0 : Nat) : Int) (2 : Int)) (C8 .u64 (rest : Int) (62 : Int))) (Hn .u64 (B2 .u64 (rest : Int) (2 : Int)) (two : Int)) (Ab ((i : Int) + (1 : Int)))
        else none) := by
      by_cases h32 : i < 32
      · refine ⟨m / 2 ^ (62 - 2 * i) % 4, Nat.mod_lt _ (by decide), Alg h32, ?_⟩
        have ht := (Akr (m := m) h32).resolve_right (by omega)
        have hq : m / 2 ^ (62 - 2 * i) % 2 ^ 64 % 4 = m / 2 ^ (62 - 2 * i) % 4 := by omega
        rw [hq] at ht
        rw [root.Ga.As, Ar, As3 (show (i : Int) < 64 by omega), As2, Ar, As3 (show (i : Int) < 32 by omega), As2, ht, Am (x := (2 : Int) * (i : Int)) (by omega) (by omega), Am (x := (62 : Int) - 2 * (i : Int)) (by omega) (by omega), As3 (show (0 : Int) ≤ 62 - 2 * (i : Int) by omega), As2]
      · refine ⟨0, by decide, by rw [Ais (by omega) (by omega), Nat.add_zero], ?_⟩
        rw [root.Ga.As, Ar, As3 (show (i : Int) < 64 by omega), As2, Ar, As7 (show ¬ (i : Int) < 32 by omega), As6]
        rfl
    obtain ⟨s1, s2⟩ := Agc hP hr t4
    have eA := sh2 (n := rest) t4
    have eT := sh2 (n := rt) (t := 1) (by decide)
    have eB : Hn .u64 (B2 .u64 ((0 : Nat) : Int) (2 : Int)) (C8 .u64 (rest : Int) (62 : Int)) = ((rest / 2 ^ 62 : Nat) : Int) := by
      rw [show (62 : Int) = ((62 : Nat) : Int) from rfl, Qh _ _ (by decide), sh2 (n := 0) (t := rest / 2 ^ 62) (by omega)]
      congr 1; omega
    have eH : C8 .u64 (rt : Int) (62 : Int) = ((rt / 2 ^ 62 : Nat) : Int) := by rw [show (62 : Int) = ((62 : Nat) : Int) from rfl, Qh _ _ (by decide)]
    have eT' : Hn .u64 (B2 .u64 (rt : Int) (2 : Int)) (1 : Int) = ((rt % 2 ^ 62 * 4 + 1 : Nat) : Int) := eT
    obtain ⟨b1, b2, b3⟩ := Aoa (A := rest % 2 ^ 62 * 4 + two) (B := rest / 2 ^ 62) (tl := rt % 2 ^ 62 * 4 + 1) (th := rt / 2 ^ 62) (by omega) (by omega) (by omega) (by omega)
    rw [hcode, eA, eT', eB, eH, As3 (by rcases b1 with b | b <;> rw [b] <;> decide), As2, Am (by omega) (by omega)]
    by_cases hc : 4 * rt + 1 ≤ 4 * rest + two
    · obtain ⟨c1, hh, ll, c2, c3, c4, c5⟩ := b2 (by rw [glue, glue]; exact hc)
      obtain ⟨d1, d2⟩ := s1 hc
      rw [c1, As2, c2, c3, sh1o (by omega)]
      refine ih (i + 1) F (2 * rt + 1) (4 * rest + two - (4 * rt + 1)) (by omega) (by omega) (hP'.trans d1) d2 f1 hh ll ?_ c4
      rw [c5, glue, glue]
    · rw [b3 (by rw [glue, glue]; omega), As6, sh1 (by omega)]
      obtain ⟨d1, d2⟩ := s2 (by omega)
      refine ih (i + 1) F (2 * rt) (4 * rest + two) (by omega) (by omega) (hP'.trans d1) d2 f2 _ _ (glue _ _) ?_
      clear hcode
      omega
theorem root.Ga.known : root.Ga.Kn := root.Ga.Ac .nil fun m hp => by
  have hp := Av.1 hp
  obtain ⟨n, rfl⟩ : ∃ n : Nat, m = n := ⟨m.toNat, by omega⟩
  refine ⟨65, root.Ga.out [.i n], [], ?_, Wk.Gm (.cons .int (.cons .bool .nil))⟩
  rw [root.Ga.ev]
  have h0 : Rh n 0 = 0 * 0 + 0 := by
    unfold Rh
    rw [Nat.div_eq_of_lt]
    show n * 18446744073709551616 < 340282366920938463463374607431768211456
    omega
  exact Aje 65 (by omega) 64 0 65 0 0 rfl (by omega) h0 (Nat.le_refl 0) Nat.one_pos 0 0 rfl (Nat.pow_pos (by decide))
open EqRoot
theorem Xs {b : Nat} (h : Au b ≠ 0) : Eo (Au b : Int) = ((Au b).log2 : Int) + 1 := by
  unfold Eo
  rw [if_neg (by omega), As4]
theorem Aib {w : Nat} {E : Int} {s : Bool} (hw : 2 ^ 62 ≤ w) (n : Nat) (h : Sc n = w) (hs : s = decide (w * w ≠ n)) :
    Fz false (w / 2) (E + 2) (bif s then true else decide (w % 2 = 1)) = (Cg (F0 n) E, flagsOf (F0 n) E) := by
  have e1 : F0 n / 2 ^ 2 = w / 2 := by unfold F0; rw [h]; split <;> omega
  have e2 : (bif s then true else decide (w % 2 = 1)) = decide (F0 n % 2 ^ 2 ≠ 0) := by
    rw [hs]
    unfold F0
    rw [h]
    by_cases h0 : w * w = n
    · rw [As7 (by omega), As6, if_pos h0, decide_eq_decide]; omega
    · rw [As3 h0, As2, if_neg h0]; symm; exact As3 (by omega)
  rw [← e1]
  have := Tj false (V := F0 n) (k := 2) (E := E) (e := E + 2) rfl e2 (by rw [e1]; omega) (by left; rw [e1]; omega)
  rw [Sx] at this
  exact this
theorem root.Sqrt.num {b : Nat} (hb : b < 2 ^ 64) (h4 : Aj b ≠ 4) (h : ¬ (Aj b = 0 ∨ b = Dv)) (hn : Bq b = false) {z : Nat} (hz : 2 ^ 60 ≤ Au b * 2 ^ z) (hz2 : Au b * 2 ^ z < 2 ^ 62) (he : (A0 b - (z : Int)) % 2 = 0) (z60 : z ≤ 62) :
    root.Sqrt.L0 2 2 (A0 b - (z : Int)) (Tq ((Au b * 2 ^ z : Nat) : Int)) (!(Tr ((Au b * 2 ^ z : Nat) : Int))) = some (.tup [.int .u64 (E9 (b : Int)), .int .u8 (Pp (b : Int))]) := by
  have hE := D8 b
  have hM := Ev b
  have h3 : Aj b ≠ 3 := fun h3 => by
    refine h (.inr ?_)
    have hpn : Bq b = false := hn
    unfold Bq at hpn
    have hlt : b < 2 ^ 63 := by simpa using hpn
    unfold Aj at h3
    have hp := Ix b
    unfold Dp at h3
    unfold Cw at h3
    unfold Dv
    split at h3
    · split at h3
      · omega
      · omega
    · split at h3
      · omega
      · split at h3 <;> omega
  have hm : Au b ≠ 0 := fun h0 => h (.inl ((Gv h3 h4).1 h0))
  have eN : Au b * 2 ^ z * 2 ^ 64 = Au b * 2 ^ (z + 64) := by rw [Nat.mul_assoc, ← Nat.pow_add]
  have i1 : 2 ^ 62 ≤ Sc (Au b * 2 ^ z * 2 ^ 64) := Abo (t := 62) (by omega)
  have i2 := (P3 (Au b * 2 ^ z * 2 ^ 64)).1
  have i3 : Sc (Au b * 2 ^ z * 2 ^ 64) < 2 ^ 63 := by
    refine Acz (Nat.lt_of_le_of_lt i2 ?_)
    show _ < 9223372036854775808 * 9223372036854775808
    omega
  have r1 : Tq ((Au b * 2 ^ z : Nat) : Int) = (Sc (Au b * 2 ^ z * 2 ^ 64) : Int) := by unfold Tq; rw [As4]
  have r2 : (!(Tr ((Au b * 2 ^ z : Nat) : Int))) = decide (Sc (Au b * 2 ^ z * 2 ^ 64) * Sc (Au b * 2 ^ z * 2 ^ 64) ≠ Au b * 2 ^ z * 2 ^ 64) := by
    unfold Tr; rw [As4, ← decide_not]
  obtain ⟨k1, k2⟩ := Ac7 hm
  have same := Zk (m := Au b) (k := z + 64) (l := Lf b) (E := (A0 b - (z : Int)) / 2 - 33) (F := (A0 b - (Lf b : Int)) / 2 - 1) (by rw [← eN]; omega) k1 (by omega)
  rw [← eN] at same
  have near := Aib (E := (A0 b - (z : Int)) / 2 - 33) i1 _ rfl r2
  rw [same.1, same.2] at near
  have sq : Ns b = _ := Acy h4 h hn
  rw [r1, r2]
  rw [r2] at near
  generalize Sc (Au b * 2 ^ z * 2 ^ 64) = w at *
  have w1 : D2 (4611686018427387904 : Int) (w : Int) = true := by rw [D6]; exact As3 (by omega)
  have w2 : C8 .u64 (w : Int) (1 : Int) = ((w / 2 : Nat) : Int) := by rw [show (1 : Int) = ((1 : Nat) : Int) from rfl, Qh _ _ (by decide)]
  have w3 : ((Eg .u64 (w : Int) (1 : Int)) == (1 : Int)) = decide (w % 2 = 1) := by
    rw [show Eg .u64 (w : Int) (1 : Int) = ((w % 2 ^ 1 : Nat) : Int) from Ii 1 (by omega) (by decide), Ati, beq_iff_eq, As9]
    omega
  have w4 : D2 (4611686018427387904 : Int) ((w / 2 : Nat) : Int) = false := by rw [D6]; exact As7 (by omega)
  have w5 : Ab (Ab (Int.tdiv (A0 b - (z : Int) + 2) 2) - 32) = (A0 b - (z : Int)) / 2 - 33 + 2 := by
    have : Int.tdiv (A0 b - (z : Int) + 2) 2 = (A0 b - (z : Int)) / 2 + 1 := by
      rw [Int.tdiv_eq_ediv]
      split <;> omega
    rw [this, Am (x := (A0 b - (z : Int)) / 2 + 1) (by omega) (by omega), Am (by omega) (by omega)]
    omega
  have w6 : Ab (A0 b - (z : Int) + 2) = A0 b - (z : Int) + 2 := Am (by omega) (by omega)
  generalize hs : decide (w * w ≠ Au b * 2 ^ z * 2 ^ 64) = s at *
  have pre : D1 ((w / 2 : Nat) : Int) ((A0 b - (z : Int)) / 2 - 33 + 2) (bif s then true else decide (w % 2 = 1)) = true := Av.2 ⟨by omega, by omega, by omega, by omega, fun _ => .inl (by omega)⟩
  rw [show (2 : Nat) = 1 + 1 from rfl, root.Sqrt.As, w1, As2, w2, w3, w6, show (1 : Nat) = 0 + 1 from rfl, root.Sqrt.As, w4, As6, w5, pre, As2]
  unfold En Em E9 Pp
  rw [As4, As4, near, sq]
theorem root.Sqrt.known : root.Sqrt.Kn := root.Sqrt.Ac (.cons Cq.B3.known (.cons root.Ga.known (.cons soft.Kind.known (.cons soft.C6.known (.cons soft.Fp.known (.cons soft.Sign.known .nil)))))) fun a hp => by
  obtain ⟨b, rfl, hb⟩ := Bj (x := a) hp
  refine ⟨2, root.Sqrt.out [.i b], [], ?_, Wk.Gm (.cons .int (.cons .int .nil))⟩
  show _ = some (DV.tup [.int .u64 (E9 (b : Int)), .int .u8 (Pp (b : Int))])
  have hk : Bd (b : Int) = (Aj b : Int) := rfl
  rw [root.Sqrt.ev, B7 hb, As2, As2, As2, As2, hk]
  by_cases h4 : Aj b = 4
  · rw [h4, show (((4 : Nat) : Int) == (4 : Int)) = true from rfl, As2]
    unfold E9 Pp
    rw [As4, Wp h4]; rfl
  have k4 : (((Aj b : Nat) : Int) == (4 : Int)) = false := by rw [beq_eq_false_iff_ne]; omega
  rw [k4, As6]
  by_cases h0 : Aj b = 0
  · rw [h0, show (((0 : Nat) : Int) == (0 : Int)) = true from rfl, As2]
    unfold E9 Pp
    rw [As4, Nr h4 (.inl h0)]; rfl
  have k0 : (((Aj b : Nat) : Int) == (0 : Int)) = false := by rw [beq_eq_false_iff_ne]; omega
  rw [k0, As6]
  by_cases hi : b = Dv
  · rw [show (((b : Nat) : Int) == (9218868437227405312 : Int)) = true by rw [hi]; rfl, As2]
    unfold E9 Pp
    rw [As4, Nr h4 (.inr hi)]; rfl
  have ki : (((b : Nat) : Int) == (9218868437227405312 : Int)) = false := by
    rw [beq_eq_false_iff_ne]; intro hh; refine hi (show b = 9218868437227405312 from ?_); omega
  rw [ki, As6]
  have hh : ¬ (Aj b = 0 ∨ b = Dv) := by rintro (h | h); exact h0 h; exact hi h
  have hneg : Dh (b : Int) = Bq b := rfl
  rw [hneg]
  cases hn : Bq b with
  | true =>
    rw [As2]
    unfold E9 Pp
    rw [As4, Sw h4 hh hn]; rfl
  | false =>
    rw [As6]
    have hm : Au b ≠ 0 := fun hz => by
      have h3 : Aj b ≠ 3 := fun h3 => by
        rcases G1 b with ⟨p, _, _⟩ | ⟨_, _, q⟩ | ⟨_, q, _⟩
        · unfold Au at hz
          rw [if_neg (by omega)] at hz
          omega
        · omega
        · exact q h3
      exact hh (.inl ((Gv h3 h4).1 hz))
    have hM := Ev b
    have hE := D8 b
    have hl : (Au b).log2 ≤ 52 := by have := (Nat.log2_lt hm).2 (show Au b < 2 ^ 53 by omega); omega
    have e1 : Br (b : Int) = (Au b : Int) := rfl
    have e2 : Bf (b : Int) = A0 b := rfl
    have l1 : ∀ z : Nat, (Au b).log2 + z = 60 ∨ (Au b).log2 + z = 61 → 2 ^ 60 ≤ Au b * 2 ^ z ∧ Au b * 2 ^ z < 2 ^ 62 := by
      intro z hz
      have hlz := K1 (Au b) z hm
      have hne : Au b * 2 ^ z ≠ 0 := H2 hm
      constructor
      · rw [← Nat.le_log2 hne]; omega
      · rw [← Nat.log2_lt hne]; omega
    have ez : Ab ((64 - (((Au b).log2 : Int) + 1)) - (2 : Int)) = ((61 - (Au b).log2 : Nat) : Int) := by rw [Am (by omega) (by omega)]; omega
    have ez' : Ab (((61 - (Au b).log2 : Nat) : Int) - (1 : Int)) = ((60 - (Au b).log2 : Nat) : Int) := by rw [Am (by omega) (by omega)]; omega
    rw [e1, e2, B7 (n := Au b) (by omega), As2, Xs hm, ez, ez', Am (x := A0 b - ((61 - (Au b).log2 : Nat) : Int)) (by omega) (by omega), Am (x := A0 b - ((60 - (Au b).log2 : Nat) : Int)) (by omega) (by omega)]
    by_cases hp2 : (A0 b - ((61 - (Au b).log2 : Nat) : Int)) % 2 = 0
    · have t0 : (Int.tmod (A0 b - ((61 - (Au b).log2 : Nat) : Int)) (2 : Int) != (0 : Int)) = false := by
        rw [bne_eq_false_iff_eq]; exact Int.tmod_eq_zero_of_dvd (Int.dvd_of_emod_eq_zero hp2)
      obtain ⟨m1, m2⟩ := l1 (61 - (Au b).log2) (by omega)
      rw [t0, As6, As3 (by omega), As2, E0 _ _ (by omega), Atf (by omega), Av.2 (by omega), As2]
      exact root.Sqrt.num hb h4 hh hn m1 m2 hp2 (by omega)
    · have t0 : (Int.tmod (A0 b - ((61 - (Au b).log2 : Nat) : Int)) (2 : Int) != (0 : Int)) = true := by
        rw [bne_iff_ne]; intro hz; exact hp2 (Int.emod_eq_zero_of_dvd (Int.dvd_of_tmod_eq_zero hz))
      obtain ⟨m1, m2⟩ := l1 (60 - (Au b).log2) (by omega)
      rw [t0, As2, As3 (by omega), As2, E0 _ _ (by omega), Atf (by omega), Av.2 (by omega), As2]
      exact root.Sqrt.num hb h4 hh hn m1 m2 (by omega) (by omega)
theorem Ae.Sqrt.known : Ae.Sqrt.Kn := Ae.Sqrt.Ac (.cons root.Sqrt.known .nil) fun a hp => by
  have hp : Ag a = true := hp
  refine ⟨0, Ae.Sqrt.out [.i a], [], ?_, .int⟩
  rw [Ae.Sqrt.ev, hp]; rfl
theorem compare.K8.known : compare.K8.Kn := compare.K8.Ac (.cons Cq.K5.known (.cons soft.Finite.known (.cons soft.Kind.known (.cons soft.Fp.known .nil)))) fun a hp => by
  obtain ⟨b, rfl, hb⟩ := Bj (x := a) hp
  refine ⟨0, compare.K8.out [.i b], [], ?_, .int⟩
  show _ = some (DV.int .i64 (Bo (b : Int)))
  have hk : Bd (b : Int) = (Aj b : Int) := rfl
  have hf : Cv (b : Int) = Jy b := rfl
  have hE := D8 b
  have hM := Ev b
  rw [compare.K8.ev, B7 hb, As2, Bool.or_true, As2, hk, hf]
  unfold Bo
  rw [As4]
  unfold Ajs
  cases hfin : Jy b with
  | false => rfl
  | true =>
    by_cases h0 : Aj b = 0
    · rw [h0]; rfl
    · have k0 : (((Aj b : Nat) : Int) == (0 : Int)) = false := by rw [beq_eq_false_iff_ne]; omega
      have hm : Au b ≠ 0 := fun hz => by
        obtain ⟨f4, f3⟩ := P9 hfin
        exact h0 ((Gv f3 f4).1 hz)
      have hl : (Au b).log2 ≤ 52 := by have := (Nat.log2_lt hm).2 (show Au b < 2 ^ 53 by omega); omega
      have e1 : Br (b : Int) = (Au b : Int) := rfl
      have e2 : Bf (b : Int) = A0 b := rfl
      rw [k0, if_pos ⟨rfl, h0⟩, Bool.not_true, Bool.false_or, As6, As2, e1, e2, B7 (n := Au b) (by omega), As2, Xs hm, Am (x := ((Au b).log2 : Int) + 1 - 1) (by omega) (by omega), Am (by omega) (by omega)]
      congr 2; omega
theorem Acv {x : List Int} {i : Nat} (h : i < x.length) (k s : Int) : Acw k s (x.drop i) = Acw k (Jf s (Ea (Bu (x.getD i 0) k) (Bu (x.getD i 0) k))) (x.drop (i + 1)) := by
  rw [Gj h, Acw]
theorem Aiz (N : Nat) {x : List Int} (hx : Cp x = true) (hl : x.length ≤ 1000) : ∀ (k i F : Nat) (s : Int), i + k = x.length → k < F → Ag s = true →
    Ae.Norm.L0 N F x s (i : Int) = some (.tup [.int .u64 (Bu (E9 (Acw (-Bo (Be x)) s (x.drop i))) (Bo (Be x))), .int .i64 0]) := by
  obtain ⟨_, hu⟩ := Hj hx
  have he := Ya (Be x)
  intro k
  induction k with
  | zero =>
    intro i F s hi hF hs
    obtain ⟨F, rfl⟩ : ∃ G, F = G + 1 := ⟨F - 1, by omega⟩
    rw [Ae.Norm.As, Ar, As7 (by omega), As6, hs, As2, show C4 (E9 s) (Bo (Be x)) = true from Ad.2 ⟨Aax hs, Av.2 (by omega)⟩, As2, Atg (by omega)]
    rfl
  | succ k ih =>
    intro i F s hi hF hs
    obtain ⟨F, rfl⟩ : ∃ G, F = G + 1 := ⟨F - 1, by omega⟩
    rw [Ae.Norm.As, Ar, As3 (show (i : Int) < (x.length : Int) by omega), As2, As3 (show (0 : Int) ≤ (i : Int) by omega), As8, As2, As4, Am (x := 0 - Bo (Be x)) (by omega) (by omega), show (0 : Int) - Bo (Be x) = -Bo (Be x) by omega,
      show C4 (List.getD x i 0) (-Bo (Be x)) = true from Ad.2 ⟨hu i (by omega), Av.2 (by omega)⟩, As2, G9 (hu i (by omega)), As8, As2, hs, Ju, As8, As2, Acv (by omega), Am (by omega) (by omega)]
    exact ih (i + 1) F _ (by omega) (by omega) (Ago hs (Ju _ _))
theorem Ae.Norm.known : Ae.Norm.Kn := Ae.Norm.Ac (.cons compare.K8.known (.cons soft.Finite.known (.cons Ae.Add.known (.cons Ae.Bm.known (.cons Ae.Mul.known (.cons Ae.Bp.known (.cons Ae.Sqrt.known .nil))))))) fun x hp => by
  obtain ⟨hx, hl⟩ := Ad.1 (show (Cp x && C3 (List.length x ≤ 64)) = true from hp)
  have hl := Av.1 hl
  refine ⟨65, Ae.Norm.out [.l x], [], ?_, Wk.Gm (.cons .int (.cons .int .nil))⟩
  show _ = some (DV.tup [.int .u64 (C9 x), .int .i64 0])
  rw [Ae.Norm.ev, Ar, As7 (by omega), As6, hx, As2, Nl, Bool.or_true, As2]
  unfold C9
  by_cases h : Be x = 0 ∨ Cv (Be x) = false
  · have : ((Be x == (0 : Int)) || (!(Cv (Be x)))) = true := by
      rcases h with h | h
      · rw [h]; rfl
      · rw [h, Bool.not_false, Bool.or_true]
    rw [this, As2, if_pos h]
  · have : ((Be x == (0 : Int)) || (!(Cv (Be x)))) = false := by
      rw [Bool.or_eq_false_iff, beq_eq_false_iff_ne, Bool.not_eq_false']
      refine ⟨fun h0 => h (.inl h0), ?_⟩
      cases hf : Cv (Be x) with
      | true => rfl
      | false => exact absurd (.inr hf) h
    rw [this, As6, As2, if_neg h]
    exact Aiz 65 hx (by omega) x.length 0 65 0 (by omega) (by omega) Iv
end Go.Proofs.S1
namespace Go.Rnd
open Go.Den
theorem p52 : Au 4841369599423283200 = 2 ^ 52 ∧ A0 4841369599423283200 = 0 ∧ Aj 4841369599423283200 = 2 ∧ Bq 4841369599423283200 = false := by decide +kernel
theorem p53 : Au 4368491638549381120 = 2 ^ 52 ∧ A0 4368491638549381120 = -105 ∧ Aj 4368491638549381120 = 2 ∧ Bq 4368491638549381120 = false := by decide +kernel
theorem Ac4 {L : Int} {q : Nat} (b1 : 2 ^ 52 ≤ q) (b2 : q < 2 ^ 53) (he : -1074 ≤ L) (hi : L + 1074 ≤ 2045) : min ((L + 1074).toNat * 2 ^ 52 + q) 9218868437227405312 = (L + 1075).toNat * 2 ^ 52 + (q - 2 ^ 52) := by
  obtain ⟨t, rfl⟩ : ∃ t : Nat, L = t - 1074 := ⟨(L + 1074).toNat, by omega⟩
  have e1 : ((t : Int) - 1074 + 1074).toNat = t := by omega
  have e2 : ((t : Int) - 1074 + 1075).toNat = t + 1 := by omega
  rw [e1, e2]
  omega
theorem Ak4 {m : Nat} (h0 : m ≠ 0) (h : m.log2 ≤ 52) {e : Int} (he : -1074 ≤ e + m.log2 - 52) (hi : e + m.log2 - 52 + 1074 ≤ 2045) :
    Cg m e = (e + m.log2 - 52 + 1075).toNat * 2 ^ 52 + (m * 2 ^ (52 - m.log2) - 2 ^ 52) ∧ 2 ^ 52 ≤ m * 2 ^ (52 - m.log2) ∧ m * 2 ^ (52 - m.log2) < 2 ^ 53 := by
  have hl := K1 m (52 - m.log2) h0
  have hne : m * 2 ^ (52 - m.log2) ≠ 0 := H2 h0
  have b1 : 2 ^ 52 ≤ m * 2 ^ (52 - m.log2) := by rw [← Nat.le_log2 hne, hl]; omega
  have b2 : m * 2 ^ (52 - m.log2) < 2 ^ 53 := by rw [← Nat.log2_lt hne, hl]; omega
  have hs := (Dy m (52 - m.log2) e).1
  have ee : e - ((52 - m.log2 : Nat) : Int) = e + m.log2 - 52 := by omega
  rw [ee] at hs
  exact ⟨hs.symm.trans ((L4 b1 b2 (by omega)).trans (Ac4 b1 b2 he hi)), b1, b2⟩
theorem Alp {x : Nat} (hx : x < 2 ^ 64) (h3 : Aj x ≠ 3) (h4 : Aj x ≠ 4) (h0 : Aj x ≠ 0) :
    ∃ P f d : Nat, 1 ≤ P ∧ P ≤ 2046 ∧ f < 2 ^ 52 ∧ Ln x = Bi (Bq x) (P * 2 ^ 52 + f) ∧ f + 2 ^ 52 = Au x * 2 ^ d ∧ (P : Int) - 1075 = A0 x - Ig x - d := by
  have hf := Jw x
  have hp := Ix x
  have hm : Au x ≠ 0 := fun h => h0 ((Gv h3 h4).1 h)
  have hw := Lz hx
  have hab : Gl x = Dp x * 2 ^ 52 + Cw x := by unfold Gl Dp Cw; omega
  have hp2 : Dp x ≠ 2047 := fun h => by
    rcases G1 x with ⟨_, _, k⟩ | ⟨_, _, k⟩ | ⟨k, _, _⟩
    · exact h3 k
    · exact h4 k
    · omega
  unfold Ln Ig
  by_cases hs : Gl x < 4503599627370496
  · have hz : Dp x = 0 := by omega
    have eM : Au x = Cw x := by unfold Au; rw [if_pos hz]
    have eE : A0 x = -1074 := by unfold A0; rw [if_pos hz]
    have hl : (Au x).log2 ≤ 51 := by have := (Nat.log2_lt hm).2 (show Au x < 2 ^ 52 by omega); omega
    rw [if_pos hs, if_pos hs]
    have hmul := mul_pow h3 h4 (by rw [p52.2.2.1]; decide) (by rw [p52.2.2.1]; decide) p52.1 p52.2.2.2
    rw [hmul, p52.2.1, eE]
    obtain ⟨r1, r2, r3⟩ := Ak4 (e := -1074 + 0 + 52) hm (by omega) (by omega) (by omega)
    refine ⟨(Au x).log2 + 1, Au x * 2 ^ (52 - (Au x).log2) - 2 ^ 52, 52 - (Au x).log2, by omega, by omega, by omega, ?_, by omega, by omega⟩
    have ht : (-1074 + 0 + 52 + ((Au x).log2 : Int) - 52 + 1075).toNat = (Au x).log2 + 1 := by omega
    rw [ht] at r1
    exact congrArg (Bi (Bq x)) r1
  · rw [if_neg hs, if_neg hs]
    have hz : Dp x ≠ 0 := by
      intro h
      rw [h] at hab
      omega
    have eM : Au x = Cw x + 2 ^ 52 := by unfold Au; rw [if_neg hz]
    have eE : A0 x = (Dp x : Int) - 1075 := by unfold A0; rw [if_neg hz]
    refine ⟨Dp x, Cw x, 0, by omega, by omega, hf, ?_, by rw [eM, Nat.pow_zero, Nat.mul_one], by omega⟩
    rw [← hab]
    exact hw.symm
theorem Qq {s : Bool} {P f : Nat} (h1 : 1 ≤ P) (h2 : P ≤ 2046) (hf : f < 2 ^ 52) :
    Dp (Bi s (P * 2 ^ 52 + f)) = P ∧ Cw (Bi s (P * 2 ^ 52 + f)) = f ∧ Bq (Bi s (P * 2 ^ 52 + f)) = s ∧ Bi s (P * 2 ^ 52 + f) < 2 ^ 64 ∧ Aj (Bi s (P * 2 ^ 52 + f)) = 2 ∧
    Au (Bi s (P * 2 ^ 52 + f)) = f + 2 ^ 52 ∧ A0 (Bi s (P * 2 ^ 52 + f)) = (P : Int) - 1075 := by
  have e1 : Dp (Bi s (P * 2 ^ 52 + f)) = P := by
    unfold Dp Bi
    cases s
    · rw [if_neg (by decide)]; omega
    · rw [if_pos rfl]; omega
  have e2 : Cw (Bi s (P * 2 ^ 52 + f)) = f := by
    unfold Cw Bi
    cases s
    · rw [if_neg (by decide)]; omega
    · rw [if_pos rfl]; omega
  have e3 : Bq (Bi s (P * 2 ^ 52 + f)) = s := sign_neg s (by omega)
  have e4 : Bi s (P * 2 ^ 52 + f) < 2 ^ 64 := by
    unfold Bi
    cases s
    · rw [if_neg (by decide)]; omega
    · rw [if_pos rfl]; omega
  refine ⟨e1, e2, e3, e4, ?_, ?_, ?_⟩
  · unfold Aj; rw [e1, if_neg (by omega), if_pos (by omega)]
  · unfold Au; rw [e1, e2, if_neg (by omega)]
  · unfold A0; rw [e1, if_neg (by omega)]
theorem Ak3 {L : Int} {q f : Nat} (hf : f < 2 ^ 52) (h1 : -1074 ≤ L) (h2 : L + 1074 ≤ 2045) (hq : (L + 1075).toNat = q) : Cg (f + 2 ^ 52) L = q * 2 ^ 52 + f := by
  have em := Ac4 (L := L) (q := f + 2 ^ 52) (by omega) (by omega) h1 h2
  rw [hq, Nat.add_sub_cancel] at em
  exact (L4 (by omega) (by omega) h1).trans em
theorem huge {V : Nat} {E : Int} (h0 : V ≠ 0) (h : 1024 ≤ E + V.log2) : Cg V E = Dv := by
  have hl : Cf V E = E + V.log2 - 52 := by unfold Cf; omega
  have hk := Abn h0 hl
  have hle := Kl V E
  unfold Cg at hle ⊢
  rw [if_neg h0] at hle ⊢
  rw [hl, Hk] at hle ⊢
  generalize kept V E = q at *
  obtain ⟨t, ht⟩ : ∃ t : Nat, E + (V.log2 : Int) - 52 = t := ⟨(E + (V.log2 : Int) - 52).toNat, by omega⟩
  rw [ht]
  have : ((t : Int) + 1074).toNat = t + 1074 := by omega
  rw [this]
  omega
theorem W5 {y m : Nat} (h : Dm y = m) (hm : Aj m ≠ 4) : y = m := by
  unfold Dm at h
  by_cases h4 : Aj y = 4
  · rw [if_pos h4] at h
    exact absurd (by rw [← h]; decide) hm
  · rw [if_neg h4] at h; exact h
theorem P0 (s : Bool) (V : Nat) (E : Int) : Aj (Bi s (Cg V E)) ≠ 4 := by
  rw [Ux s (Kl V E)]
  split
  · decide
  · split
    · decide
    · split <;> decide
theorem Ak2 {x P f d : Nat} {k : Int} (hm : Au x ≠ 0) (he : f + 2 ^ 52 = Au x * 2 ^ d) (hP : (P : Int) - 1075 = A0 x - Ig x - d) :
    Cg (Au x) (A0 x + k) = Cg (f + 2 ^ 52) ((P : Int) - 1075 + Ig x + k) := by
  have := (Dy (Au x) d (A0 x + k)).1
  rw [← he] at this
  rw [← this]
  congr 1
  omega
end Go.Rnd
namespace Go.Proofs.S1
open Go Go.Den Go.Rnd Go.Proofs
set_option maxRecDepth 100000
namespace EqLdx
theorem E3 : ∀ a b : Bool, (bif a then true else b) = (a || b) := by decide
theorem Jn : ∀ a : Bool, ((!(!a)) || (a == false)) = true := by decide
theorem Iw : ∀ a b : Bool, ((!(a == false)) || ((((!(a == false)) || (a == false)) && true) && b)) = (a || b) := by decide
theorem Ia : ∀ a : Bool, ((!(a == false)) || true) = true := by decide
def math.G6.A7 : List (Nat × Entry) := []
def math.G6.E : Env := Bb (A5 math.G6.A7) (fun _ => false) (fun _ => none) (fun _ => none)
theorem math.G6.ev (N x : Nat) : Bx math.G6.E N Tryz.f251 (An Tryz.f251) [.fl x] = some (.fl (x % 9223372036854775808)) := by kernel_rfl
abbrev _root_.Go.Proofs.S1.math.G6.Kn := A3 Tryz.prog 251 math.G6.spec
theorem math.G6.Ac (hk : Ay Tryz.prog math.G6.A7) (h : ∀ (x : Nat), math.G6.pre [.f x] = true → Bc math.G6.E Tryz.f251 [.fl x] (math.G6.out [.f x])) : math.G6.Kn :=
  Ak (Az hk _ _ _) Tryz.func251 (by kernel_rfl) (by kernel_rfl) h
def math.Hs.A7 : List (Nat × Entry) := []
def math.Hs.E : Env := Bb (A5 math.Hs.A7) (fun _ => false) (fun _ => none) (fun _ => none)
theorem math.Hs.ev (N x : Nat) : Bx math.Hs.E N Tryz.f241 (An Tryz.f241) [.fl x] = some (.bool (Ieee.double.order x x != some .eq)) := by kernel_rfl
abbrev _root_.Go.Proofs.S1.math.Hs.Kn := A3 Tryz.prog 241 math.Hs.spec
theorem math.Hs.Ac (hk : Ay Tryz.prog math.Hs.A7) (h : ∀ (x : Nat), math.Hs.pre [.f x] = true → Bc math.Hs.E Tryz.f241 [.fl x] (math.Hs.out [.f x])) : math.Hs.Kn :=
  Ak (Az hk _ _ _) Tryz.func241 (by kernel_rfl) (by kernel_rfl) h
def math.Ht.A7 : List (Nat × Entry) := [(251, math.G6.spec)]
def math.Ht.E : Env := Bb (A5 math.Ht.A7) (fun _ => false) (fun _ => none) (fun _ => none)
theorem math.Ht.ev (N x : Nat) (s : Int) : Bx math.Ht.E N Tryz.f240 (An Tryz.f240) [.fl x, .int .i64 s] = bif (s == (0 : Int)) then some (.bool (Ieee.double.order (Gl x) 9218868437227405311 == some .gt)) else bif (A4 s (0 : Int)) then none else some (.bool (Ieee.double.order x 9218868437227405311 == some .gt)) := by kernel_rfl
abbrev _root_.Go.Proofs.S1.math.Ht.Kn := A3 Tryz.prog 240 math.Ht.spec
theorem math.Ht.Ac (hk : Ay Tryz.prog math.Ht.A7) (h : ∀ (x : Nat) (s : Int), math.Ht.pre [.f x, .i s] = true → Bc math.Ht.E Tryz.f240 [.fl x, .int .i64 s] (math.Ht.out [.f x, .i s])) : math.Ht.Kn :=
  Ak (Az hk _ _ _) Tryz.func240 (by kernel_rfl) (by kernel_rfl) h
def math.normalize.A7 : List (Nat × Entry) := [(251, math.G6.spec)]
def math.normalize.E : Env := Bb (A5 math.normalize.A7) (fun _ => false) (fun _ => none) (fun _ => none)
theorem math.normalize.ev (N x : Nat) : Bx math.normalize.E N Tryz.f242 (An Tryz.f242) [.fl x] = bif (Ieee.double.order (Gl x) 4503599627370496 == some .lt) then some (.tup [.fl ((Ieee.double.mul x 4841369599423283200).getD nanBits), .int .i64 (-52 : Int)]) else some (.tup [.fl x, .int .i64 0]) := by kernel_rfl
abbrev _root_.Go.Proofs.S1.math.normalize.Kn := A3 Tryz.prog 242 math.normalize.spec
theorem math.normalize.Ac (hk : Ay Tryz.prog math.normalize.A7) (h : ∀ (x : Nat), math.normalize.pre [.f x] = true → Bc math.normalize.E Tryz.f242 [.fl x] (math.normalize.out [.f x])) : math.normalize.Kn :=
  Ak (Az hk _ _ _) Tryz.func242 (by kernel_rfl) (by kernel_rfl) h
def math.Dt.A7 : List (Nat × Entry) := []
def math.Dt.E : Env := Uz (A5 math.Dt.A7) (fun _ => false) (fun _ => none) (fun _ => none) (Aev [])
theorem math.Dt.ev (N x y : Nat) : Bx math.Dt.E N Tryz.f243 (An Tryz.f243) [.fl x, .fl y] = bif (!(E5 x)) then bif (!(E5 y)) then bif (decide (0 ≤ (Hn .u64 (F5 .u64 (x : Int) (9223372036854775808 : Int)) (Eg .u64 (y : Int) (9223372036854775808 : Int))))) then some (.fl (Int.toNat (Hn .u64 (F5 .u64 (x : Int) (9223372036854775808 : Int)) (Eg .u64 (y : Int) (9223372036854775808 : Int))))) else none else none else none := by kernel_rfl
abbrev _root_.Go.Proofs.S1.math.Dt.Kn := A3 Tryz.prog 243 math.Dt.spec
theorem math.Dt.Ac (hk : Ay Tryz.prog math.Dt.A7) (h : ∀ (x y : Nat), math.Dt.pre [.f x, .f y] = true → Bc math.Dt.E Tryz.f243 [.fl x, .fl y] (math.Dt.out [.f x, .f y])) : math.Dt.Kn :=
  Ak (Wa hk _ _ _ _) Tryz.func243 (by kernel_rfl) (by kernel_rfl) h
def math.We.A7 : List (Nat × Entry) := []
def math.We.E : Env := Bb (A5 math.We.A7) (fun _ => false) (fun _ => none) (fun _ => none)
theorem math.We.ev (N : Nat) (s : Int) : Bx math.We.E N Tryz.f244 (An Tryz.f244) [.int .i64 s] = bif (D2 (0 : Int) s) then some (.fl 9218868437227405312) else some (.fl 18442240474082181120) := by kernel_rfl
abbrev _root_.Go.Proofs.S1.math.We.Kn := A3 Tryz.prog 244 math.We.spec
theorem math.We.Ac (hk : Ay Tryz.prog math.We.A7) (h : ∀ (s : Int), math.We.pre [.i s] = true → Bc math.We.E Tryz.f244 [.int .i64 s] (math.We.out [.i s])) : math.We.Kn :=
  Ak (Az hk _ _ _) Tryz.func244 (by kernel_rfl) (by kernel_rfl) h
def math.Gt.A7 : List (Nat × Entry) := [(243, math.Dt.spec), (244, math.We.spec), (240, math.Ht.spec), (241, math.Hs.spec), (242, math.normalize.spec)]
def math.Gt.E : Env := Uz (A5 math.Gt.A7) (fun _ => false) (fun _ => none) (fun _ => none) (Aev [])
theorem math.Gt.ev (N x : Nat) (k : Int) : Bx math.Gt.E N Tryz.f216 (An Tryz.f216) [.fl x, .int .i64 k] = bif (Ieee.double.order x 0 == some .eq) then some (.fl x) else bif (Sm x && decide ((0 : Int) = 0)) then bif ((decide (Aj x = 3)) || (Sm x)) then bif ((decide (Aj x = 3)) || (decide (Aj x = 4))) then some (.fl x) else bif (Aec x) then bif (!(E5 (Ln x))) then bif (A4 (Ab ((Ab (k + (Ig x))) + (Ab ((Eg .i64 (Ab (C8 .u64 ((Ln x) : Int) (52 : Int))) (2047 : Int)) - (1023 : Int))))) (-1075 : Int)) then bif (Aec (Ln x) && decide ((0 : Int) = 0)) then some (.fl (Bi (Bq (Ln x)) 0)) else none else bif (A4 (1023 : Int) (Ab ((Ab (k + (Ig x))) + (Ab ((Eg .i64 (Ab (C8 .u64 ((Ln x) : Int) (52 : Int))) (2047 : Int)) - (1023 : Int)))))) then bif (Ieee.double.order (Ln x) 0 == some .lt) then some (.fl (Bi (decide ((-1 : Int) < 0)) Dv)) else some (.fl (Bi (decide ((1 : Int) < 0)) Dv)) else bif (A4 (Ab ((Ab (k + (Ig x))) + (Ab ((Eg .i64 (Ab (C8 .u64 ((Ln x) : Int) (52 : Int))) (2047 : Int)) - (1023 : Int))))) (-1022 : Int)) then bif (decide (0 ≤ (Hn .u64 (F5 .u64 ((Ln x) : Int) (9218868437227405312 : Int)) (B2 .u64 (Bh (Ab ((Ab ((Ab ((Ab (k + (Ig x))) + (Ab ((Eg .i64 (Ab (C8 .u64 ((Ln x) : Int) (52 : Int))) (2047 : Int)) - (1023 : Int))))) + (53 : Int))) + (1023 : Int)))) (52 : Int))))) then some (.fl ((Ieee.double.mul 4368491638549381120 (Int.toNat (Hn .u64 (F5 .u64 ((Ln x) : Int) (9218868437227405312 : Int)) (B2 .u64 (Bh (Ab ((Ab ((Ab ((Ab (k + (Ig x))) + (Ab ((Eg .i64 (Ab (C8 .u64 ((Ln x) : Int) (52 : Int))) (2047 : Int)) - (1023 : Int))))) + (53 : Int))) + (1023 : Int)))) (52 : Int))))).getD nanBits)) else none else bif (decide (0 ≤ (Hn .u64 (F5 .u64 ((Ln x) : Int) (9218868437227405312 : Int)) (B2 .u64 (Bh (Ab ((Ab ((Ab (k + (Ig x))) + (Ab ((Eg .i64 (Ab (C8 .u64 ((Ln x) : Int) (52 : Int))) (2047 : Int)) - (1023 : Int))))) + (1023 : Int)))) (52 : Int))))) then some (.fl ((Ieee.double.mul 4607182418800017408 (Int.toNat (Hn .u64 (F5 .u64 ((Ln x) : Int) (9218868437227405312 : Int)) (B2 .u64 (Bh (Ab ((Ab ((Ab (k + (Ig x))) + (Ab ((Eg .i64 (Ab (C8 .u64 ((Ln x) : Int) (52 : Int))) (2047 : Int)) - (1023 : Int))))) + (1023 : Int)))) (52 : Int))))).getD nanBits)) else none else none else none else none else none :=
  Eq.trans (by kernel_rfl)
  (Ee rfl (Ee (Ax (Ia (decide (Aj x = 3))) (Cx (Iw (decide (Aj x = 3)) (Sm x)) (Ax (Jn (decide (Aj x = 3))) (Cx (E3 (decide (Aj x = 3)) (decide (Aj x = 4))) rfl rfl)) rfl)) rfl))
abbrev _root_.Go.Proofs.S1.math.Gt.Kn := A3 Tryz.prog 216 math.Gt.spec
theorem math.Gt.Ac (hk : Ay Tryz.prog math.Gt.A7) (h : ∀ (x : Nat) (k : Int), math.Gt.pre [.f x, .i k] = true → Bc math.Gt.E Tryz.f216 [.fl x, .int .i64 k] (math.Gt.out [.f x, .i k])) : math.Gt.Kn :=
  Ak (Wa hk _ _ _ _) Tryz.func216 (by kernel_rfl) (by kernel_rfl) h
def math.H9.A7 : List (Nat × Entry) := [(216, math.Gt.spec)]
def math.H9.E : Env := Bb (A5 math.H9.A7) (fun _ => false) (fun _ => none) (fun _ => none)
theorem math.H9.ev (N x : Nat) (k : Int) : Bx math.H9.E N Tryz.f165 (An Tryz.f165) [.fl x, .int .i64 k] = bif (Sm x && C3 (-2300 ≤ k ∧ k ≤ 2300)) then some (.fl (H3 x k)) else none := by kernel_rfl
abbrev _root_.Go.Proofs.S1.math.H9.Kn := A3 Tryz.prog 165 math.H9.spec
theorem math.H9.Ac (hk : Ay Tryz.prog math.H9.A7) (h : ∀ (x : Nat) (k : Int), math.H9.pre [.f x, .i k] = true → Bc math.H9.E Tryz.f165 [.fl x, .int .i64 k] (math.H9.out [.f x, .i k])) : math.H9.Kn :=
  Ak (Az hk _ _ _) Tryz.func165 (by kernel_rfl) (by kernel_rfl) h
def Ai.Bp.A7 : List (Nat × Entry) := [(165, math.H9.spec), (102, Ai.B.spec), (159, Ai.F.spec)]
def Ai.Bp.E : Env := Bb (A5 Ai.Bp.A7) (fun _ => false) (fun _ => none) (fun _ => none)
theorem Ai.Bp.ev (N : Nat) (a k : Int) : Bx Ai.Bp.E N Tryz.f96 (An Tryz.f96) [.int .u64 a, .int .i64 k] = bif (Ag a) then bif (Sm (Int.toNat a) && C3 (-2300 ≤ k ∧ k ≤ 2300)) then some (.int .u64 (Fb (H3 (Int.toNat a) k))) else none else none := by kernel_rfl
abbrev _root_.Go.Proofs.S1.Ai.Bp.Kn := A3 Tryz.prog 96 Ai.Bp.spec
theorem Ai.Bp.Ac (hk : Ay Tryz.prog Ai.Bp.A7) (h : ∀ (a k : Int), Ai.Bp.pre [.i a, .i k] = true → Bc Ai.Bp.E Tryz.f96 [.int .u64 a, .int .i64 k] (Ai.Bp.out [.i a, .i k])) : Ai.Bp.Kn :=
  Ak (Az hk _ _ _) Tryz.func96 (by kernel_rfl) (by kernel_rfl) h
end EqLdx
open EqLdx
theorem Xx (n : Nat) : E5 n = decide (Aj n = 4) := Xd n
theorem Ab7 (x : Nat) : Gl x < 2 ^ 64 := Nat.lt_trans (Rc x) (by decide)
theorem P1 (x : Nat) : Aj (Gl x) = Aj x := by
  have e1 : Dp (Gl x) = Dp x := by unfold Dp Gl; omega
  have e2 : Cw (Gl x) = Cw x := by unfold Cw Gl; omega
  unfold Aj
  rw [e1, e2]
theorem Qe (x y : Int) : (compare x y = .lt ↔ x < y) ∧ (compare x y = .gt ↔ y < x) ∧ (compare x y = .eq ↔ x = y) := by
  rcases Int.lt_trichotomy x y with h | h | h
  · rw [Age h]; refine ⟨by simp [h], ?_, ?_⟩ <;> simp <;> omega
  · subst h
    have : compare x x = .eq := by simp [compare, compareOfLessAndEq]
    rw [this]; simp
  · rw [Agf h]; refine ⟨?_, by simp [h], ?_⟩ <;> simp <;> omega
theorem math.G6.known : math.G6.Kn := math.G6.Ac .nil fun x _ => ⟨0, math.G6.out [.f x], [], by rw [math.G6.ev]; rfl, .fl⟩
theorem math.Hs.known : math.Hs.Kn := math.Hs.Ac .nil fun x hp => by
  have hx := Av.1 (show Sm x = true from hp)
  refine ⟨0, math.Hs.out [.f x], [], ?_, .bool⟩
  show _ = some (DV.bool (decide (Aj x = 4)))
  rw [math.Hs.ev]
  by_cases h : Aj x = 4
  · rw [Ur hx hx (.inl h), As3 h]; rfl
  · rw [N0 hx hx h h, As7 h, (Qe _ _).2.2.2 rfl]; rfl
theorem Aps {x : Nat} (hx : x < 2 ^ 64) (h4 : Aj x ≠ 4) : (Ieee.double.order (Gl x) 9218868437227405311 == some .gt) = decide (Aj x = 3) := by
  have k1 : Aj 9218868437227405311 ≠ 4 := by decide +kernel
  have k2 : He 9218868437227405311 = 9218868437227405311 := by decide +kernel
  have ka : He (Gl x) = ((Gl x : Nat) : Int) := by
    have := N7 false (r := Gl x) (Rc x)
    exact this
  rw [N0 (Ab7 x) (by decide) (by rw [P1]; exact h4) k1, k2, ka]
  have hl := Arc h4
  rw [Ati, beq_iff_eq, As5, (Qe _ _).2.1, As9]
  constructor
  · intro h
    refine Decidable.byContradiction fun h3 => ?_
    have := Tw h3 h4
    rw [Hk] at this
    unfold Gl at h
    omega
  · intro h3
    have := Tv h3
    rw [Hk] at this
    unfold Gl
    omega
theorem math.Ht.known : math.Ht.Kn := math.Ht.Ac (.cons math.G6.known .nil) fun x s hp => by
  obtain ⟨h1, h2⟩ := Ad.1 (show (Sm x && decide (s = 0)) = true from hp)
  have hx := Av.1 h1
  obtain rfl := of_decide_eq_true h2
  refine ⟨0, math.Ht.out [.f x, .i 0], [], ?_, .bool⟩
  show _ = some (DV.bool (decide (Aj x = 3)))
  rw [math.Ht.ev, show ((0 : Int) == (0 : Int)) = true from rfl, As2]
  by_cases h4 : Aj x = 4
  · rw [Ur (Ab7 x) (by decide) (.inl (by rw [P1]; exact h4)), As7 (by omega)]; rfl
  · rw [Aps hx h4]
theorem math.normalize.known : math.normalize.Kn := math.normalize.Ac (.cons math.G6.known .nil) fun x hp => by
  obtain ⟨hx, h3, h4⟩ := Av.1 (show Aec x = true from hp)
  refine ⟨0, math.normalize.out [.f x], [], ?_, Wk.Gm (.cons .fl (.cons .int .nil))⟩
  show _ = some (DV.tup [.fl (Ln x), .int .i64 (Ig x)])
  have k1 : Aj 4503599627370496 ≠ 4 := by decide +kernel
  have k2 : He 4503599627370496 = 4503599627370496 := by decide +kernel
  have ka : He (Gl x) = ((Gl x : Nat) : Int) := N7 false (r := Gl x) (Rc x)
  have hc : (Ieee.double.order (Gl x) 4503599627370496 == some .lt) = decide (Gl x < 4503599627370496) := by
    rw [N0 (Ab7 x) (by decide) (by rw [P1]; exact h4) k1, k2, ka, Ati, beq_iff_eq, As5, (Qe _ _).1, As9]
    omega
  rw [math.normalize.ev, hc]
  unfold Ln Ig
  by_cases h : Gl x < 4503599627370496
  · rw [As3 h, As2, if_pos h, if_pos h]
    have hm := mul_pow h3 h4 (by rw [p52.2.2.1]; decide) (by rw [p52.2.2.1]; decide) p52.1 p52.2.2.2
    have := W5 (Tl hx (b := 4841369599423283200) (by decide) F4) (by rw [hm]; exact P0 _ _ _)
    rw [this]
  · rw [As7 h, As6, if_neg h, if_neg h]
theorem Aov {n : Nat} (h : n < 2 ^ 64) : n &&& 9227875636482146303 = n / 2 ^ 63 * 2 ^ 63 + n % 2 ^ 52 := by
  have hf : n % 2 ^ 52 < 2 ^ 63 := by omega
  apply Nat.eq_of_testBit_eq
  intro j
  rw [Nat.testBit_and, show (9227875636482146303 : Nat) = 2 ^ 63 * 1 + (2 ^ 52 - 1) from rfl, Nat.mul_comm (n / 2 ^ 63), Nat.testBit_two_pow_mul_add _ (by decide : 2 ^ 52 - 1 < 2 ^ 63), Nat.testBit_two_pow_mul_add _ hf]
  by_cases hj : j < 63
  · rw [if_pos hj, if_pos hj, Nat.testBit_mod_two_pow, Nat.testBit_two_pow_sub_one, Bool.and_comm]
  · rw [if_neg hj, if_neg hj, Nat.testBit_div_two_pow, Nat.sub_add_cancel (by omega)]
    by_cases h63 : j = 63
    · subst h63
      show (n.testBit 63 && true) = _
      rw [Bool.and_true]
    · have e1 : Nat.testBit 1 (j - 63) = false := by rw [show (1 : Nat) = 2 ^ 0 from rfl, Nat.testBit_two_pow]; exact As7 (by omega)
      have e2 : n.testBit j = false := Nat.testBit_lt_two_pow (Nat.lt_of_lt_of_le h (Ath (by decide) (by omega)))
      rw [e1, e2]; rfl
theorem Aet {n : Nat} (h : n < 2 ^ 64) : F5 .u64 (n : Int) (9218868437227405312 : Int) = ((n / 2 ^ 63 * 2 ^ 63 + n % 2 ^ 52 : Nat) : Int) := by
  have e : (BitVec.ofInt 64 (n : Int) &&& ~~~(BitVec.ofInt 64 9218868437227405312)).toNat = n / 2 ^ 63 * 2 ^ 63 + n % 2 ^ 52 := by
    have e1 : ~~~(BitVec.ofInt 64 9218868437227405312) = BitVec.ofNat 64 9227875636482146303 := by decide
    rw [e1, BitVec.toNat_and, BitVec.toNat_ofNat, BitVec.toNat_ofInt]
    have e2 : (((n : Int) % ((2 ^ 64 : Nat) : Int)).toNat) = n := by omega
    rw [e2]
    exact Aov h
  have e' : (BitVec.ofInt IntKind.u64.bits (n : Int) &&& ~~~(BitVec.ofInt IntKind.u64.bits 9218868437227405312)).toNat = n / 2 ^ 63 * 2 ^ 63 + n % 2 ^ 52 := e
  unfold F5
  rw [e']
  exact Ss (by omega)
theorem or3 {A X Y Z W V f : Nat} (h1 : A = f ||| X) (h2 : X ||| Y = Z) (h3 : f ||| Z = W) (h4 : W = V) : A ||| Y = V := by rw [h1, Nat.or_assoc, h2, h3, h4]
theorem mid4 (s p f : Nat) : (s * 2 ^ 11 + p) * 2 ^ 52 + f = s * 2 ^ 63 + p * 2 ^ 52 + f := by
  rw [Nat.add_mul, Nat.mul_assoc, ← Nat.pow_add]
theorem Aq3 {s f p : Nat} (hs : s < 2) (hf : f < 2 ^ 52) (hp : p < 2048) : (s * 2 ^ 63 + f) ||| (p * 2 ^ 52) = s * 2 ^ 63 + p * 2 ^ 52 + f := by
  have e1 : s * 2 ^ 63 + f = f ||| s * 2 ^ 11 * 2 ^ 52 := by rw [Mf hf]; omega
  have e2 : s * 2 ^ 11 * 2 ^ 52 ||| p * 2 ^ 52 = (s * 2 ^ 11 + p) * 2 ^ 52 := by
    have := Mf (a := s) (b := p) (k := 11) hp
    rw [← Nat.shiftLeft_eq, ← Nat.shiftLeft_eq p, ← Nat.shiftLeft_or_distrib, Nat.or_comm, this, Nat.shiftLeft_eq]
  exact or3 e1 e2 (Mf hf) (mid4 s p f)
theorem Ag7 {s : Bool} {P f : Nat} (h2 : P ≤ 2046) (hf : f < 2 ^ 52) {q : Nat} (hq : q < 2048) :
    Hn .u64 (F5 .u64 ((Bi s (P * 2 ^ 52 + f) : Nat) : Int) (9218868437227405312 : Int)) (B2 .u64 (Bh (q : Int)) (52 : Int)) = ((Bi s (q * 2 ^ 52 + f) : Nat) : Int) := by
  have h64 : Bi s (P * 2 ^ 52 + f) < 2 ^ 64 := by
    unfold Bi
    cases s
    · rw [if_neg (by decide)]; omega
    · rw [if_pos rfl]; omega
  have ef : Bi s (P * 2 ^ 52 + f) % 2 ^ 52 = f := by
    unfold Bi
    cases s
    · rw [if_neg (by decide)]; omega
    · rw [if_pos rfl]; omega
  have es : Bi s (P * 2 ^ 52 + f) / 2 ^ 63 = if s then 1 else 0 := by
    unfold Bi
    cases s
    · rw [if_neg (by decide), if_neg (by decide)]; omega
    · rw [if_pos rfl, if_pos rfl]; omega
  rw [Aet h64, ef, es, Dc (by omega) (by omega), show (52 : Int) = ((52 : Nat) : Int) from rfl, E0 q 52 (by decide), Atf (by omega), T7 (by split <;> omega) (by omega), Aq3 (by split <;> decide) hf hq]
  refine congrArg (fun n : Nat => (n : Int)) ?_
  unfold Bi
  cases s
  · rw [if_neg (by decide), if_neg (by decide)]; omega
  · rw [if_pos rfl, if_pos rfl]; omega
theorem Amz {s : Bool} {P f : Nat} (h1 : 1 ≤ P) (h2 : P ≤ 2046) (hf : f < 2 ^ 52) : Eg .i64 (Ab (C8 .u64 ((Bi s (P * 2 ^ 52 + f) : Nat) : Int) (52 : Int))) (2047 : Int) = (P : Int) := by
  obtain ⟨e1, _, _, h64, _⟩ := Qq (s := s) h1 h2 hf
  rw [show (52 : Int) = ((52 : Nat) : Int) from rfl, Qh _ _ (by decide), Am (by omega) (by omega)]
  have hb : Eg .i64 ((Bi s (P * 2 ^ 52 + f) / 2 ^ 52 : Nat) : Int) (2047 : Int) = Ab ((Bi s (P * 2 ^ 52 + f) / 2 ^ 52 % 2048 : Nat) : Int) := by
    unfold Eg
    have e : (BitVec.ofInt 64 ((Bi s (P * 2 ^ 52 + f) / 2 ^ 52 : Nat) : Int) &&& BitVec.ofInt 64 2047).toNat = Bi s (P * 2 ^ 52 + f) / 2 ^ 52 % 2048 := by
      rw [BitVec.toNat_and, Ie, show (BitVec.ofInt 64 2047).toNat = 2 ^ 11 - 1 from rfl, Nat.and_two_pow_sub_one_eq_mod]
      omega
    have e' : (BitVec.ofInt IntKind.i64.bits ((Bi s (P * 2 ^ 52 + f) / 2 ^ 52 : Nat) : Int) &&& BitVec.ofInt IntKind.i64.bits 2047).toNat = Bi s (P * 2 ^ 52 + f) / 2 ^ 52 % 2048 := e
    rw [e']
    rfl
  unfold Dp at e1
  rw [hb, e1, Am (by omega) (by omega)]
theorem math.Dt.known : math.Dt.Kn := math.Dt.Ac .nil fun x y hp => by
  obtain ⟨h1, h2⟩ := Ad.1 (show (Aec y && decide (x = 0)) = true from hp)
  obtain ⟨hy, h3, h4⟩ := Av.1 (show C3 _ = true from h1)
  obtain rfl := of_decide_eq_true h2
  refine ⟨0, math.Dt.out [.f 0, .f y], [], ?_, .fl⟩
  show _ = some (DV.fl (Bi (Bq y) 0))
  have n0 : E5 0 = false := by decide +kernel
  have ny : E5 y = false := by rw [Xx]; exact As7 h4
  have e1 : F5 .u64 ((0 : Nat) : Int) (9223372036854775808 : Int) = ((0 : Nat) : Int) := Yo (by decide)
  have e2 : Eg .u64 (y : Int) (9223372036854775808 : Int) = ((Bi (Bq y) 0 : Nat) : Int) := by
    rw [show (9223372036854775808 : Int) = ((9223372036854775808 : Nat) : Int) from rfl, Aep hy (by decide)]
    congr 1
    apply Nat.eq_of_testBit_eq
    intro j
    rw [Nat.testBit_and, show (9223372036854775808 : Nat) = 2 ^ 63 from rfl, Nat.testBit_two_pow]
    unfold Bi Bq
    by_cases hn : 2 ^ 63 ≤ y
    · rw [As3 hn, if_pos rfl, Nat.add_zero, Nat.testBit_two_pow]
      by_cases hj : 63 = j
      · subst hj
        have : y.testBit 63 = true := by
          rw [Nat.testBit_eq_decide_div_mod_eq, As9]; omega
        rw [this]; rfl
      · rw [As7 hj, Bool.and_false]
    · rw [As7 hn, if_neg (by decide), Nat.zero_testBit]
      by_cases hj : 63 = j
      · subst hj
        rw [Nat.testBit_lt_two_pow (by omega)]; rfl
      · rw [As7 hj, Bool.and_false]
  have e3 : Hn .u64 ((0 : Nat) : Int) ((Bi (Bq y) 0 : Nat) : Int) = ((Bi (Bq y) 0 : Nat) : Int) := by
    rw [T7 (by decide) (by unfold Bi; split <;> decide), Nat.zero_or]
  rw [math.Dt.ev, n0, ny, e1, e2, e3, As3 (by omega)]
  rfl
theorem math.We.known : math.We.Kn := math.We.Ac .nil fun s _ => by
  refine ⟨0, math.We.out [.i s], [], ?_, .fl⟩
  show _ = some (DV.fl (Bi (decide (s < 0)) Dv))
  rw [math.We.ev, D6]
  by_cases h : s < 0
  · rw [As7 (by omega), As3 h]; rfl
  · rw [As3 (by omega), As7 h]; rfl
open EqLdx
theorem Ox {x : Nat} (hx : x < 2 ^ 64) : (Ieee.double.order x 0 == some .eq) = decide (Aj x = 0) := by
  by_cases h4 : Aj x = 4
  · rw [Ur hx (by decide) (.inl h4), As7 (by omega)]; rfl
  · have k0 : Aj 0 ≠ 4 := by decide +kernel
    have z : He 0 = 0 := by decide +kernel
    have hk : He x = 0 ↔ x % 2 ^ 63 = 0 := by
      have := N7 (Bq x) (r := x % 2 ^ 63) (Nat.mod_lt _ (by decide))
      rw [Lz hx] at this
      rw [this]
      unfold Hh
      cases Bq x
      · rw [if_neg (by decide)]; omega
      · rw [if_pos rfl]; omega
    have h0 : Aj x = 0 ↔ x % 2 ^ 63 = 0 := by
      have hp : x % 2 ^ 63 = Dp x * 2 ^ 52 + Cw x := by unfold Dp Cw; omega
      rw [hp]
      have := Ix x
      unfold Aj
      split
      · split <;> omega
      · split
        · omega
        · split <;> omega
    rw [N0 hx (by decide) h4 k0, z, Ati, beq_iff_eq, As5, (Qe _ _).2.2, As9, hk, h0]
theorem Aiw {x : Nat} (hx : x < 2 ^ 64) (h4 : Aj x ≠ 4) (h0 : Aj x ≠ 0) : (Ieee.double.order x 0 == some .lt) = Bq x := by
  have k0 : Aj 0 ≠ 4 := by decide +kernel
  have z : He 0 = 0 := by decide +kernel
  have hp : x % 2 ^ 63 = Dp x * 2 ^ 52 + Cw x := by unfold Dp Cw; omega
  have hne : x % 2 ^ 63 ≠ 0 := by
    intro h
    refine h0 ?_
    unfold Aj
    rw [if_neg (by omega), if_neg (by omega), if_neg (by omega)]
  have := N7 (Bq x) (r := x % 2 ^ 63) (Nat.mod_lt _ (by decide))
  rw [Lz hx] at this
  rw [N0 hx (by decide) h4 k0, z, Ati, beq_iff_eq, As5, (Qe _ _).1, this]
  unfold Hh
  cases Bq x
  · rw [if_neg (by decide)]
    constructor
    · intro h; omega
    · intro h; cases h
  · rw [if_pos rfl]
    constructor
    · intro _; rfl
    · intro _; omega
theorem Aiy (x : Nat) : Ig x = -52 ∨ Ig x = 0 := by unfold Ig; split <;> simp
theorem Ao0 {f : Nat} (hf : f < 2 ^ 52) : (f + 2 ^ 52).log2 = 52 := Ts (a := 52) (by omega) (by omega)
theorem math.Gt.known : math.Gt.Kn := math.Gt.Ac (.cons math.Dt.known (.cons math.We.known (.cons math.Ht.known (.cons math.Hs.known (.cons math.normalize.known .nil))))) fun x k hp => by
  obtain ⟨h1, h2⟩ := Ad.1 (show (Sm x && C3 (-2300 ≤ k ∧ k ≤ 2300)) = true from hp)
  have hx := Av.1 (show C3 (x < 2 ^ 64) = true from h1)
  have hk := Av.1 h2
  refine ⟨0, .fl (H3 x k), [], ?_, .fl⟩
  by_cases h0 : Aj x = 0
  · have : H3 x k = x := by unfold H3 F1; rw [if_neg (by omega), if_neg (by omega), if_pos (.inr h0)]
    rw [math.Gt.ev, Ox hx, As3 h0, As2, this]
  by_cases h3 : Aj x = 3
  · have : H3 x k = x := by unfold H3 F1; rw [if_neg (by omega), if_neg (by omega), if_pos (.inl h3)]
    rw [math.Gt.ev, Ox hx, As7 h0, As6, h1, As3 (rfl : (0 : Int) = 0), As8, As2, Bool.or_true, As2, As3 h3, Bool.true_or, As2, this]
  by_cases h4 : Aj x = 4
  · have : H3 x k = x := by unfold H3; rw [if_pos h4]
    rw [math.Gt.ev, Ox hx, As7 h0, As6, h1, As3 (rfl : (0 : Int) = 0), As8, As2, Bool.or_true, As2, As3 h4, Bool.or_true, As2, this]
  obtain ⟨P, f, d, p1, p2, hf, hw, hM, hP⟩ := Alp hx h3 h4 h0
  obtain ⟨w1, w2, w3, w4, w5, w6, w7⟩ := Qq (s := Bq x) p1 p2 hf
  have hm : Au x ≠ 0 := fun h => h0 ((Gv h3 h4).1 h)
  have hr := Aiy x
  have hl := Ao0 hf
  have hld : H3 x k = Bi (Bq x) (Cg (f + 2 ^ 52) ((P : Int) - 1075 + Ig x + k)) := by
    have := Ak2 (k := k) hm hM hP
    unfold H3 F1
    rw [if_neg h4, if_neg h4, if_neg (by omega), this]
  have hp : Sm x = true := Av.2 hx
  have hfp : Aec x = true := Av.2 ⟨hx, h3, h4⟩
  have hnn : E5 (Ln x) = false := by rw [Xx, hw, w5]; rfl
  have hfw : Aec (Ln x) = true := by rw [hw]; exact Av.2 ⟨w4, by omega, by omega⟩
  have ee : Ab (Ab (k + Ig x) + Ab (Eg .i64 (Ab (C8 .u64 ((Ln x : Nat) : Int) (52 : Int))) (2047 : Int) - (1023 : Int))) = k + Ig x + (P : Int) - 1023 := by
    rw [hw, Amz p1 p2 hf, Am (x := k + Ig x) (by omega) (by omega), Am (x := (P : Int) - 1023) (by omega) (by omega), Am (by omega) (by omega)]
    omega
  have hrun := math.Gt.ev 0 x k
  rw [Ox hx, As7 h0, As6, hp, As3 (rfl : (0 : Int) = 0), As8, As2, Bool.or_true, As2, As7 h3, As7 h4, Bool.or_self, As6, hfp, As2, hnn, Bool.not_false, As2, ee, hfw, As8, As2] at hrun
  refine hrun.trans ?_
  rw [hld]
  rw [Ar, Ar, Ar]
  by_cases c1 : k + Ig x + (P : Int) - 1023 < -1075
  · rw [As3 c1, As2, hw, w3, (Go.Rnd.Ah9 (V := f + 2 ^ 52) (by omega) (by rw [hl]; omega)).1]
  · rw [As7 c1, As6]
    by_cases c2 : 1023 < k + Ig x + (P : Int) - 1023
    · have hng : (Ieee.double.order (Ln x) 0 == some .lt) = Bq x := by
        rw [hw, Aiw w4 (by omega) (by omega), w3]
      rw [As3 c2, As2, hng, huge (by omega) (by rw [hl]; omega)]
      cases Bq x <;> rfl
    · rw [As7 c2, As6]
      by_cases c3 : k + Ig x + (P : Int) - 1023 < -1022
      · obtain ⟨q, hq⟩ : ∃ q : Nat, k + Ig x + (P : Int) - 1023 + 53 + 1023 = q := ⟨(k + Ig x + (P : Int) - 1023 + 53 + 1023).toNat, by omega⟩
        have e1 : Ab (Ab (k + Ig x + (P : Int) - 1023 + 53) + 1023) = (q : Int) := by
          rw [Am (x := k + Ig x + (P : Int) - 1023 + 53) (by omega) (by omega), Am (by omega) (by omega)]; exact hq
        have e2 := Ag7 (s := Bq x) (P := P) (f := f) p2 hf (q := q) (by omega)
        obtain ⟨v1, v2, v3, v4, v5, v6, v7⟩ := Qq (s := Bq x) (P := q) (f := f) (by omega) (by omega) hf
        have hmul := mul_pow (a := Bi (Bq x) (q * 2 ^ 52 + f)) (p := 4368491638549381120) (by omega) (by omega) (by rw [p53.2.2.1]; decide) (by rw [p53.2.2.1]; decide) p53.1 p53.2.2.2
        have hmi := Tl (a := 4368491638549381120) (b := Bi (Bq x) (q * 2 ^ 52 + f)) (by decide) v4 F4
        rw [Zt] at hmi
        have := W5 hmi (by rw [hmul]; exact P0 _ _ _)
        have e3 : (q : Int) - 1075 + -105 + 52 = (P : Int) - 1075 + Ig x + k := by omega
        have e4 : (Ms (Bi (Bq x) (q * 2 ^ 52 + f)) 4368491638549381120).1 = Bi (Bq x) (Cg (f + 2 ^ 52) ((P : Int) - 1075 + Ig x + k)) := by
          rw [hmul, v3, v6, v7, p53.2.1, e3]
        rw [e4] at this
        rw [As3 c3, As2, e1, hw, e2, As3 (by omega), As2, As4, this]
      · obtain ⟨q, hq⟩ : ∃ q : Nat, k + Ig x + (P : Int) - 1023 + 1023 = q := ⟨(k + Ig x + (P : Int) - 1023 + 1023).toNat, by omega⟩
        have e1 : Ab (k + Ig x + (P : Int) - 1023 + 1023) = (q : Int) := by rw [Am (by omega) (by omega)]; exact hq
        have e2 := Ag7 (s := Bq x) (P := P) (f := f) p2 hf (q := q) (by omega)
        obtain ⟨v1, v2, v3, v4, v5, v6, v7⟩ := Qq (s := Bq x) (P := q) (f := f) (by omega) (by omega) hf
        have hone : Ms 4607182418800017408 (Bi (Bq x) (q * 2 ^ 52 + f)) = (Bi (Bq x) (q * 2 ^ 52 + f), 0) := by
          rw [Zt]; exact mul_one v4 (by omega) (by omega)
        have hmi := Tl (a := 4607182418800017408) (b := Bi (Bq x) (q * 2 ^ 52 + f)) (by decide) v4 F4
        have := W5 hmi (by rw [hone]; show Aj (Bi (Bq x) (q * 2 ^ 52 + f)) ≠ 4; omega)
        have er := Ak3 (L := (P : Int) - 1075 + Ig x + k) (q := q) hf (by omega) (by omega) (by omega)
        rw [As7 c3, As6, e1, hw, e2, As3 (by omega), As2, As4, this, hone, er]
theorem math.H9.known : math.H9.Kn := math.H9.Ac (.cons math.Gt.known .nil) fun x k hp => by
  have hp : (Sm x && C3 (-2300 ≤ k ∧ k ≤ 2300)) = true := hp
  exact ⟨0, .fl (H3 x k), [], by rw [math.H9.ev, hp, As2], .fl⟩
theorem Aem {x : Nat} (k : Int) : Dm (H3 x k) = (F1 x k).1 := by
  unfold H3
  by_cases h4 : Aj x = 4
  · rw [if_pos h4]
    unfold Dm F1
    rw [if_pos h4, if_pos h4]
  · rw [if_neg h4]
    unfold Dm
    rw [if_neg]
    unfold F1
    rw [if_neg h4]
    by_cases h3 : Aj x = 3 ∨ Aj x = 0
    · rw [if_pos h3]; exact h4
    · rw [if_neg h3]; exact P0 _ _ _
theorem Ai.Bp.known : Ai.Bp.Kn := Ai.Bp.Ac (.cons math.H9.known (.cons Ai.B.known (.cons Ai.F.known .nil))) fun a k hp => by
  obtain ⟨h1, h2⟩ := Ad.1 (show C4 a k = true from hp)
  obtain ⟨x, rfl, hx⟩ := Bj h1
  refine ⟨0, .int .u64 (Bu (x : Int) k), [], ?_, .int⟩
  have hp : Sm x = true := Av.2 hx
  have : Fb (H3 x k) = Bu (x : Int) k := by
    unfold Fb Bu
    rw [As4, Aem]
  rw [Ai.Bp.ev, h1, As2, As4, hp, h2, As8, As2, this]
namespace EqRef08
theorem E3 : ∀ a b : Bool, (bif a then true else b) = (a || b) := by decide
theorem Jn : ∀ a : Bool, ((!(!a)) || (a == false)) = true := by decide
theorem Iw : ∀ a : Bool, ((!(a == false)) || ((((!(a == false)) || (a == false)) && true) && true)) = true := by decide
theorem Ia : ∀ a : Bool, ((!(a == false)) || true) = true := by decide
theorem Gd : ∀ a b : Bool, ((!(a == false)) || ((((!(a == false)) || (a == false)) && true) && b)) = (a || b) := by decide
def Bn.ends.A7 : List (Nat × Entry) := [(131, A1.Finite.spec), (142, A1.Neg.spec)]
def Bn.ends.E : Env := Bb (A5 Bn.ends.A7) (fun _ => false) (fun _ => none) (fun _ => none)
theorem Bn.ends.ev (N : Nat) (b : Int) : Bx Bn.ends.E N Tryz.f164 (An Tryz.f164) [.int .u64 b] = bif (Ag b) then bif (Cv b) then some (.int .i64 0) else bif (Ag b) then bif (Dh b) then some (.int .i64 (-1 : Int)) else some (.int .i64 1) else none else none := by kernel_rfl
abbrev _root_.Go.Proofs.S1.Bn.ends.Kn := A3 Tryz.prog 164 Bn.ends.spec
theorem Bn.ends.Ac (hk : Ay Tryz.prog Bn.ends.A7) (h : ∀ (b : Int), Bn.ends.pre [.i b] = true → Bc Bn.ends.E Tryz.f164 [.int .u64 b] (Bn.ends.out [.i b])) : Bn.ends.Kn :=
  Ak (Az hk _ _ _) Tryz.func164 (by kernel_rfl) (by kernel_rfl) h
def Bn.Order.A7 : List (Nat × Entry) := [(116, Aw.Compare.spec), (62, A1.Kind.spec), (63, A1.Value.spec), (164, Bn.ends.spec)]
def Bn.Order.E : Env := Bb (A5 Bn.Order.A7) (fun _ => false) (fun _ => none) (fun _ => none)
theorem Bn.Order.ev (N : Nat) (a b : Int) : Bx Bn.Order.E N Tryz.f95 (An Tryz.f95) [.int .u64 a, .int .u64 b] = bif (Kd a) then bif (((Bd a) == (4 : Int)) || (Kd b)) then bif (((Bd a) == (4 : Int)) || ((Bd b) == (4 : Int))) then some (.tup [.int .i64 0, .bool false]) else bif (Ag a) then bif (Ag b) then bif (((Qa a) != (0 : Int)) || ((Qa b) != (0 : Int))) then some (.tup [.int .i64 (max (-1 : Int) (min (1 : Int) (Ab ((Qa a) - (Qa b))))), .bool true]) else bif (Ag a) then bif (Ag b) then bif (((V4 (Bg (mD (Eu a))) (Ap (mD (Eu a))) && V4 (Bg (mD (Eu b))) (Ap (mD (Eu b)))) && Vs (eD (Eu a) (Bf a))) && Vs (eD (Eu b) (Bf b))) then some (.tup [.int .i64 (Vu (wv (Bg (mD (Eu a))) (Ap (mD (Eu a)))) (eD (Eu a) (Bf a)) (wv (Bg (mD (Eu b))) (Ap (mD (Eu b)))) (eD (Eu b) (Bf b))), .bool true]) else none else none else none else none else none else none else none :=
  Eq.trans (by kernel_rfl)
  (Ee (Ax (Ia ((Bd a) == (4 : Int))) (Cx (Gd ((Bd a) == (4 : Int)) (Kd b)) (Ax (Iw ((Bd a) == (4 : Int))) (Ax (Jn ((Bd a) == (4 : Int))) (Cx (E3 ((Bd a) == (4 : Int)) ((Bd b) == (4 : Int))) rfl (Ee (Ee (Ax (Ia ((Qa a) != (0 : Int))) (Ax (Iw ((Qa a) != (0 : Int))) (Ax (Jn ((Qa a) != (0 : Int))) (Cx (E3 ((Qa a) != (0 : Int)) ((Qa b) != (0 : Int))) rfl rfl)))) rfl) rfl)))) rfl)) rfl)
abbrev _root_.Go.Proofs.S1.Bn.Order.Kn := A3 Tryz.prog 95 Bn.Order.spec
theorem Bn.Order.Ac (hk : Ay Tryz.prog Bn.Order.A7) (h : ∀ (a b : Int), Bn.Order.pre [.i a, .i b] = true → Bc Bn.Order.E Tryz.f95 [.int .u64 a, .int .u64 b] (Bn.Order.out [.i a, .i b])) : Bn.Order.Kn :=
  Ak (Az hk _ _ _) Tryz.func95 (by kernel_rfl) (by kernel_rfl) h
def Bn.G6.A7 : List (Nat × Entry) := [(163, A1.De.spec), (142, A1.Neg.spec)]
def Bn.G6.E : Env := Bb (A5 Bn.G6.A7) (fun _ => false) (fun _ => none) (fun _ => none)
theorem Bn.G6.ev (N : Nat) (a : Int) : Bx Bn.G6.E N Tryz.f94 (An Tryz.f94) [.int .u64 a] = bif (Ag a) then bif (Dh a) then bif (Ag a) then some (.int .u64 (Cz a)) else none else some (.int .u64 a) else none := by kernel_rfl
abbrev _root_.Go.Proofs.S1.Bn.G6.Kn := A3 Tryz.prog 94 Bn.G6.spec
theorem Bn.G6.Ac (hk : Ay Tryz.prog Bn.G6.A7) (h : ∀ (a : Int), Bn.G6.pre [.i a] = true → Bc Bn.G6.E Tryz.f94 [.int .u64 a] (Bn.G6.out [.i a])) : Bn.G6.Kn :=
  Ak (Az hk _ _ _) Tryz.func94 (by kernel_rfl) (by kernel_rfl) h
def Bn.Max.A7 : List (Nat × Entry) := [(95, Bn.Order.spec)]
def Bn.Max.E : Env := Bb (A5 Bn.Max.A7) (fun _ => false) (fun _ => none) (fun _ => none)
theorem Bn.Max.ev (N : Nat) (a b : Int) : Bx Bn.Max.E N Tryz.f93 (An Tryz.f93) [.int .u64 a, .int .u64 b] = bif (Ag a && Ag b) then bif (!(Zr a b)) then some (.int .u64 9221120237041090560) else bif (A4 (R4 a b) (0 : Int)) then some (.int .u64 b) else some (.int .u64 a) else none := by kernel_rfl
abbrev _root_.Go.Proofs.S1.Bn.Max.Kn := A3 Tryz.prog 93 Bn.Max.spec
theorem Bn.Max.Ac (hk : Ay Tryz.prog Bn.Max.A7) (h : ∀ (a b : Int), Bn.Max.pre [.i a, .i b] = true → Bc Bn.Max.E Tryz.f93 [.int .u64 a, .int .u64 b] (Bn.Max.out [.i a, .i b])) : Bn.Max.Kn :=
  Ak (Az hk _ _ _) Tryz.func93 (by kernel_rfl) (by kernel_rfl) h
end EqRef08
namespace EqRef13
theorem E3 : ∀ a b : Bool, (bif (!a) then true else b) = ((!a) || b) := by decide
theorem Jn : ∀ a : Bool, ((!(!(!a))) || ((!a) == false)) = true := by decide
theorem Iw : ∀ a : Bool, ((!((!a) == false)) || ((((!((!a) == false)) || ((!a) == false)) && true) && true)) = true := by decide
theorem Ia : ∀ a b : Bool, ((!((!a) == false)) || ((((!((!a) == false)) || ((!a) == false)) && true) && b)) = ((!a) || b) := by decide
theorem Gd : ∀ a : Bool, ((!((!a) == false)) || true) = true := by decide
theorem Jg : ∀ a b : Bool, (bif a then true else (!b)) = (a || (!b)) := by decide
theorem Ld : ∀ a : Bool, ((!(!a)) || (a == false)) = true := by decide
theorem Lx : ∀ a : Bool, ((!(a == false)) || ((((!(a == false)) || (a == false)) && true) && true)) = true := by decide
theorem Pm : ∀ a b : Bool, ((!(a == false)) || ((((!(a == false)) || (a == false)) && true) && b)) = (a || b) := by decide
theorem Sp : ∀ a : Bool, ((!(a == false)) || true) = true := by decide
theorem Hx : ∀ a b : Bool, ((a && b) && true) = (a && b) := by decide
theorem I1 : ∀ a : Bool, (a && true) = a := by decide
def Bn.K8.A7 : List (Nat × Entry) := [(180, Aw.Vq.spec), (131, A1.Finite.spec), (62, A1.Kind.spec), (63, A1.Value.spec)]
def Bn.K8.E : Env := Bb (A5 Bn.K8.A7) (fun _ => false) (fun _ => none) (fun _ => none)
theorem Bn.K8.ev (N : Nat) (a : Int) : Bx Bn.K8.E N Tryz.f132 (An Tryz.f132) [.int .u64 a] = bif (Ag a) then bif ((!(Cv a)) || (Kd a)) then bif ((!(Cv a)) || ((Bd a) == (0 : Int))) then some (.int .i64 0) else bif (Ag a) then bif (I3 (Bg (mD (Eu a))) (Ap (mD (Eu a))) && Vs (eD (Eu a) (Bf a))) then some (.int .i64 (Ab ((Hy (wv (Bg (mD (Eu a))) (Ap (mD (Eu a)))) (eD (Eu a) (Bf a))) - (1 : Int)))) else none else none else none else none :=
  Eq.trans (by kernel_rfl)
  (Ee (Ax (Gd (Cv a)) (Cx (Ia (Cv a) (Kd a)) (Ax (Iw (Cv a)) (Ax (Jn (Cv a)) (Cx (E3 (Cv a) ((Bd a) == (0 : Int))) rfl rfl))) rfl)) rfl)
abbrev _root_.Go.Proofs.S1.Bn.K8.Kn := A3 Tryz.prog 132 Bn.K8.spec
theorem Bn.K8.Ac (hk : Ay Tryz.prog Bn.K8.A7) (h : ∀ (a : Int), Bn.K8.pre [.i a] = true → Bc Bn.K8.E Tryz.f132 [.int .u64 a] (Bn.K8.out [.i a])) : Bn.K8.Kn :=
  Ak (Az hk _ _ _) Tryz.func132 (by kernel_rfl) (by kernel_rfl) h
def Ai.Bm.hint : Nat → Option Ba
  | 0 => some { keep := [0, 3, 4], objs := [], boxes := [] }
  | _ => none
def Ai.Bm.A7 : List (Nat × Entry) := [(94, Bn.G6.spec), (93, Bn.Max.spec)]
def Ai.Bm.E : Env := Bb (A5 Ai.Bm.A7) (fun _ => false) Ai.Bm.hint (fun _ => none)
def Ai.Bm.L0 (N M : Nat) (x : List Int) (p3 p4 : Int) : Option DV := B0 Ai.Bm.E N Tryz.f228 (An Tryz.f228) [1, 1, 0, 1, 0] [] M ⟨F7 19 [(0, .ints .arg .u64 x), (3, .int .u64 p3), (4, .int .i64 p4)], []⟩
theorem Ai.Bm.As (N M : Nat) (x : List Int) (p3 p4 : Int) : Ai.Bm.L0 N (M + 1) x p3 p4 = bif (A4 p4 (List.length x : Int)) then bif ((decide (0 ≤ p4)) && (decide (p4 < (List.length x : Int)))) then bif (Ag (List.getD x (Int.toNat p4) 0)) then bif (Ag p3 && Ag (Ir (List.getD x (Int.toNat p4) 0))) then Ai.Bm.L0 N M x (N4 p3 (Ir (List.getD x (Int.toNat p4) 0))) (Ab (p4 + (1 : Int))) else none else none else none else some (.int .u64 p3) := by kernel_rfl
theorem Ai.Bm.ev (N : Nat) (x : List Int) : Bx Ai.Bm.E N Tryz.f228 (An Tryz.f228) [.ints .arg .u64 x] =
  Ai.Bm.L0 N N x (0 : Int) (0 : Int) := by kernel_rfl
abbrev _root_.Go.Proofs.S1.Ai.Bm.Kn := A3 Tryz.prog 228 Ai.Bm.spec
theorem Ai.Bm.Ac (hk : Ay Tryz.prog Ai.Bm.A7) (h : ∀ (x : List Int), Ai.Bm.pre [.l x] = true → Bc Ai.Bm.E Tryz.f228 [.ints .arg .u64 x] (Ai.Bm.out [.l x])) : Ai.Bm.Kn :=
  Ak (Az hk _ _ _) Tryz.func228 (by kernel_rfl) (by kernel_rfl) h
def math.Sqrt.A7 : List (Nat × Entry) := []
def math.Sqrt.E : Env := Bb (A5 math.Sqrt.A7) (fun _ => false) (fun _ => none) (fun _ => none)
theorem math.Sqrt.ev (N x : Nat) : Bx math.Sqrt.E N Tryz.f260 (An Tryz.f260) [.fl x] = some (.fl ((Ieee.double.sqrt x).getD nanBits)) := by kernel_rfl
abbrev _root_.Go.Proofs.S1.math.Sqrt.Kn := A3 Tryz.prog 260 math.Sqrt.spec
theorem math.Sqrt.Ac (hk : Ay Tryz.prog math.Sqrt.A7) (h : ∀ (x : Nat), math.Sqrt.pre [.f x] = true → Bc math.Sqrt.E Tryz.f260 [.fl x] (math.Sqrt.out [.f x])) : math.Sqrt.Kn :=
  Ak (Az hk _ _ _) Tryz.func260 (by kernel_rfl) (by kernel_rfl) h
def Ai.Sqrt.A7 : List (Nat × Entry) := [(260, math.Sqrt.spec), (102, Ai.B.spec), (159, Ai.F.spec)]
def Ai.Sqrt.E : Env := Bb (A5 Ai.Sqrt.A7) (fun _ => false) (fun _ => none) (fun _ => none)
theorem Ai.Sqrt.ev (N : Nat) (a : Int) : Bx Ai.Sqrt.E N Tryz.f247 (An Tryz.f247) [.int .u64 a] = bif (Ag a) then some (.int .u64 (Fb (((Ieee.double.sqrt (Int.toNat a)).getD nanBits)))) else none := by kernel_rfl
abbrev _root_.Go.Proofs.S1.Ai.Sqrt.Kn := A3 Tryz.prog 247 Ai.Sqrt.spec
theorem Ai.Sqrt.Ac (hk : Ay Tryz.prog Ai.Sqrt.A7) (h : ∀ (a : Int), Ai.Sqrt.pre [.i a] = true → Bc Ai.Sqrt.E Tryz.f247 [.int .u64 a] (Ai.Sqrt.out [.i a])) : Ai.Sqrt.Kn :=
  Ak (Az hk _ _ _) Tryz.func247 (by kernel_rfl) (by kernel_rfl) h
def Ai.Norm.hint : Nat → Option Ba
  | 0 => some { keep := [0, 4, 5, 6], objs := [], boxes := [] }
  | _ => none
def Ai.Norm.A7 : List (Nat × Entry) := [(131, A1.Finite.spec), (132, Bn.K8.spec), (181, Ai.Add.spec), (228, Ai.Bm.spec), (82, Ai.Mul.spec), (96, Ai.Bp.spec), (247, Ai.Sqrt.spec)]
def Ai.Norm.E : Env := Bb (A5 Ai.Norm.A7) (fun _ => false) Ai.Norm.hint (fun _ => none)
def Ai.Norm.L0 (N M : Nat) (x : List Int) (p5 p6 : Int) : Option DV := B0 Ai.Norm.E N Tryz.f229 (An Tryz.f229) [1, 1, 1, 1, 1, 0, 1, 0] [] M ⟨F7 42 [(0, .ints .arg .u64 x), (4, .int .i64 (Bo (Be x))), (5, .int .u64 p5), (6, .int .i64 p6)], []⟩
theorem Ai.Norm.As (N M : Nat) (x : List Int) (p5 p6 : Int) : Ai.Norm.L0 N (M + 1) x p5 p6 = bif (A4 p6 (List.length x : Int)) then bif ((decide (0 ≤ p6)) && (decide (p6 < (List.length x : Int)))) then bif (C4 (List.getD x (Int.toNat p6) 0) (Ab ((0 : Int) - (Bo (Be x))))) then bif (Ag (Bu (List.getD x (Int.toNat p6) 0) (Ab ((0 : Int) - (Bo (Be x))))) && Ag (Bu (List.getD x (Int.toNat p6) 0) (Ab ((0 : Int) - (Bo (Be x)))))) then bif (Ag p5 && Ag (Ea (Bu (List.getD x (Int.toNat p6) 0) (Ab ((0 : Int) - (Bo (Be x))))) (Bu (List.getD x (Int.toNat p6) 0) (Ab ((0 : Int) - (Bo (Be x))))))) then Ai.Norm.L0 N M x (Jf p5 (Ea (Bu (List.getD x (Int.toNat p6) 0) (Ab ((0 : Int) - (Bo (Be x))))) (Bu (List.getD x (Int.toNat p6) 0) (Ab ((0 : Int) - (Bo (Be x))))))) (Ab (p6 + (1 : Int))) else none else none else none else none else bif (Ag p5) then bif (C4 (E9 p5) (Bo (Be x))) then some (.int .u64 (Bu (E9 p5) (Bo (Be x)))) else none else none := by kernel_rfl
theorem Ai.Norm.ev (N : Nat) (x : List Int) : Bx Ai.Norm.E N Tryz.f229 (An Tryz.f229) [.ints .arg .u64 x] = bif (Cp x) then bif (((Be x) == (0 : Int)) || (Ag (Be x))) then bif (((Be x) == (0 : Int)) || (!(Cv (Be x)))) then some (.int .u64 (Be x)) else bif (Ag (Be x)) then Ai.Norm.L0 N N x (0 : Int) (0 : Int) else none else none else none :=
  Eq.trans (by kernel_rfl)
  (Ee (Ax (Sp ((Be x) == (0 : Int))) (Cx (Pm ((Be x) == (0 : Int)) (Ag (Be x))) (Ax (Lx ((Be x) == (0 : Int))) (Ax (Ld ((Be x) == (0 : Int))) (Cx (Jg ((Be x) == (0 : Int)) (Cv (Be x))) rfl rfl))) rfl)) rfl)
abbrev _root_.Go.Proofs.S1.Ai.Norm.Kn := A3 Tryz.prog 229 Ai.Norm.spec
theorem Ai.Norm.Ac (hk : Ay Tryz.prog Ai.Norm.A7) (h : ∀ (x : List Int), Ai.Norm.pre [.l x] = true → Bc Ai.Norm.E Tryz.f229 [.ints .arg .u64 x] (Ai.Norm.out [.l x])) : Ai.Norm.Kn :=
  Ak (Az hk _ _ _) Tryz.func229 (by kernel_rfl) (by kernel_rfl) h
def A6.Bv.hint : Nat → Option Ba
  | 0 => some { keep := [0, 3], objs := [], boxes := [] }
  | _ => none
def A6.Bv.A7 : List (Nat × Entry) := [(62, A1.Kind.spec)]
def A6.Bv.E : Env := Bb (A5 A6.Bv.A7) (fun _ => false) A6.Bv.hint (fun _ => none)
def A6.Bv.L0 (N M : Nat) (x : List Int) (p3 : Int) : Option DV := B0 A6.Bv.E N Tryz.f227 (An Tryz.f227) [1, 0, 1, 0] [] M ⟨F7 16 [(0, .ints .arg .u64 x), (3, .int .i64 p3)], []⟩
theorem A6.Bv.As (N M : Nat) (x : List Int) (p3 : Int) : A6.Bv.L0 N (M + 1) x p3 = bif (A4 p3 (List.length x : Int)) then bif ((decide (0 ≤ p3)) && (decide (p3 < (List.length x : Int)))) then bif (Kd (List.getD x (Int.toNat p3) 0)) then bif ((Bd (List.getD x (Int.toNat p3) 0)) != (0 : Int)) then some (.bool false) else A6.Bv.L0 N M x (Ab (p3 + (1 : Int))) else none else none else some (.bool true) := by kernel_rfl
theorem A6.Bv.ev (N : Nat) (x : List Int) : Bx A6.Bv.E N Tryz.f227 (An Tryz.f227) [.ints .arg .u64 x] =
  A6.Bv.L0 N N x (1 : Int) := by kernel_rfl
abbrev _root_.Go.Proofs.S1.A6.Bv.Kn := A3 Tryz.prog 227 A6.Bv.spec
theorem A6.Bv.Ac (hk : Ay Tryz.prog A6.Bv.A7) (h : ∀ (x : List Int), A6.Bv.pre [.l x] = true → Bc A6.Bv.E Tryz.f227 [.ints .arg .u64 x] (A6.Bv.out [.l x])) : A6.Bv.Kn :=
  Ak (Az hk _ _ _) Tryz.func227 (by kernel_rfl) (by kernel_rfl) h
def A6.lead.hint : Nat → Option Ba
  | 0 => some { keep := [0, 3], objs := [], boxes := [] }
  | _ => none
def A6.lead.A7 : List (Nat × Entry) := [(62, A1.Kind.spec)]
def A6.lead.E : Env := Bb (A5 A6.lead.A7) (fun _ => false) A6.lead.hint (fun _ => none)
def A6.lead.L0 (N M : Nat) (x : List Int) (p3 : Int) : Option DV := B0 A6.lead.E N Tryz.f230 (An Tryz.f230) [1, 0, 1, 0] [] M ⟨F7 17 [(0, .ints .arg .u64 x), (3, .int .i64 p3)], []⟩
theorem A6.lead.As (N M : Nat) (x : List Int) (p3 : Int) : A6.lead.L0 N (M + 1) x p3 = bif (A4 p3 (List.length x : Int)) then bif ((decide (0 ≤ p3)) && (decide (p3 < (List.length x : Int)))) then bif (Kd (List.getD x (Int.toNat p3) 0)) then bif ((Bd (List.getD x (Int.toNat p3) 0)) != (0 : Int)) then some (.int .i64 p3) else A6.lead.L0 N M x (Ab (p3 + (1 : Int))) else none else none else some (.int .i64 0) := by kernel_rfl
theorem A6.lead.ev (N : Nat) (x : List Int) : Bx A6.lead.E N Tryz.f230 (An Tryz.f230) [.ints .arg .u64 x] =
  A6.lead.L0 N N x (0 : Int) := by kernel_rfl
abbrev _root_.Go.Proofs.S1.A6.lead.Kn := A3 Tryz.prog 230 A6.lead.spec
theorem A6.lead.Ac (hk : Ay Tryz.prog A6.lead.A7) (h : ∀ (x : List Int), A6.lead.pre [.l x] = true → Bc A6.lead.E Tryz.f230 [.ints .arg .u64 x] (A6.lead.out [.l x])) : A6.lead.Kn :=
  Ak (Az hk _ _ _) Tryz.func230 (by kernel_rfl) (by kernel_rfl) h
def A6.Df.hint : Nat → Option Ba
  | 0 => some { keep := [0, 2, 4, 5], objs := [(0, 4, 100004, .ints 37 .u64 [])], boxes := [2] }
  | 2 => some { keep := [0, 2, 4, 6, 7, 8], objs := [(0, 4, 100004, .ints 37 .u64 []), (0, 7, 100007, .ints 37 .u64 [])], boxes := [2] }
  | 4 => some { keep := [2, 4, 7, 9, 10, 11, 12], objs := [(0, 4, 100004, .ints 37 .u64 []), (0, 7, 100007, .ints 37 .u64 [])], boxes := [2] }
  | _ => none
def A6.Df.A7 : List (Nat × Entry) := [(131, A1.Finite.spec), (163, A1.De.spec), (142, A1.Neg.spec), (132, Bn.K8.spec), (228, Ai.Bm.spec), (84, Ai.Div.spec), (229, Ai.Norm.spec), (96, Ai.Bp.spec), (81, Ai.Sub.spec), (230, A6.lead.spec), (227, A6.Bv.spec)]
def A6.Df.E : Env := Bb (A5 A6.Df.A7) (fun _ => false) A6.Df.hint (fun _ => none)
def A6.Df.L0 (N M : Nat) (x : List Int) (p5 : Int) (p4 : List Int) : Option DV := B0 A6.Df.E N Tryz.f196 (An Tryz.f196) [1, 1, 0, 1, 0, 0, 1, 0] [] M ⟨F7 98 [(0, .ints .arg .u64 x), (2, .ptr 2 0 0), (4, .oref 100004), (5, .int .i64 p5)], [(2, false, .box [.nil, .int .u64 0, .int .u64 0]), (100004, false, .ints 37 .u64 p4)]⟩
def A6.Df.L1 (N M : Nat) (x : List Int) (p8 : Int) (p7 : List Int) : Option DV := B0 A6.Df.E N Tryz.f196 (An Tryz.f196) [1, 1, 1, 1, 1, 0, 1, 0] [] M ⟨F7 98 [(0, .ints .arg .u64 x), (2, .ptr 2 0 0), (4, .oref 100004), (6, .int .i64 (Bo (Be x))), (7, .oref 100007), (8, .int .i64 p8)], [(2, false, .box [.nil, .int .u64 0, .int .u64 0]), (100004, false, .ints 37 .u64 [(4607182418800017408 : Int)]), (100007, false, .ints 37 .u64 p7)]⟩
def A6.Df.L2 (N M : Nat) (p7 : List Int) (p9 p10 : Int) (p11 p12 : Int) (p4_1 : List Int) : Option DV := B0 A6.Df.E N Tryz.f196 (An Tryz.f196) [1, 1, 1, 1, 1, 1, 1, 1, 1, 1, 1, 0, 1, 0] [] M ⟨F7 98 [(2, .ptr 2 0 0), (4, .oref 100004), (7, .oref 100007), (9, .int .u64 p9), (10, .int .u64 p10), (11, .int .u64 p11), (12, .int .i64 p12)], [(2, false, .box [.nil, .int .u64 0, .int .u64 0]), (100004, false, .ints 37 .u64 p4_1), (100007, false, .ints 37 .u64 p7)]⟩
theorem A6.Df.As (N M : Nat) (x : List Int) (p5 : Int) (p4 : List Int) : A6.Df.L0 N (M + 1) x p5 p4 = bif (A4 p5 (List.length x : Int)) then bif (decide ((List.length p4) + 1 ≤ Hc)) then A6.Df.L0 N M x (Ab (p5 + (1 : Int))) (p4 ++ [(0 : Int)]) else none else bif (decide ((0 : Int) < (List.length x : Int))) then some (.tup [.agg [.ints (.own 100004 37) .u64 p4, .int .u64 0, .int .u64 (List.getD x 0 0)], .bool true]) else none := by kernel_rfl
theorem A6.Df.B5 (N M : Nat) (x : List Int) (p8 : Int) (p7 : List Int) : A6.Df.L1 N (M + 1) x p8 p7 = bif (A4 p8 (List.length x : Int)) then bif ((decide (0 ≤ p8)) && (decide (p8 < (List.length x : Int)))) then bif (C4 (List.getD x (Int.toNat p8) 0) (Ab ((0 : Int) - (Bo (Be x))))) then bif (decide ((List.length p7) + 1 ≤ Hc)) then A6.Df.L1 N M x (Ab (p8 + (1 : Int))) (p7 ++ [(Bu (List.getD x (Int.toNat p8) 0) (Ab ((0 : Int) - (Bo (Be x)))))]) else none else none else none else bif (Cp p7) then bif (Cp x) then bif ((decide (0 ≤ (Pe x 0))) && (decide ((Pe x 0) < (List.length x : Int)))) then bif (Ag (List.getD x (Int.toNat (Pe x 0)) 0)) then bif (!(Dh (List.getD x (Int.toNat (Pe x 0)) 0))) then bif (Ag (C9 p7)) then bif (C4 (Cz (C9 p7)) (Bo (Be x))) then bif (Ag (Bu (Cz (C9 p7)) (Bo (Be x)))) then bif (!(Cv (Bu (Cz (C9 p7)) (Bo (Be x))))) then some (.tup [.agg [.nil, .int .u64 0, .int .u64 0], .bool false]) else bif (decide ((0 : Int) < (List.length p7 : Int))) then bif (decide (0 < (List.length p7))) then bif (Ag (List.getD p7 0 0) && Ag (Cz (C9 p7))) then A6.Df.L2 N N p7 (Cz (C9 p7)) (Bu (Cz (C9 p7)) (Bo (Be x))) (Ei (List.getD p7 0 0) (Cz (C9 p7))) (1 : Int) [(4607182418800017408 : Int)] else none else none else none else none else none else none else bif (C4 (C9 p7) (Bo (Be x))) then bif (Ag (Bu (C9 p7) (Bo (Be x)))) then bif (!(Cv (Bu (C9 p7) (Bo (Be x))))) then some (.tup [.agg [.nil, .int .u64 0, .int .u64 0], .bool false]) else bif (decide ((0 : Int) < (List.length p7 : Int))) then bif (decide (0 < (List.length p7))) then bif (Ag (List.getD p7 0 0) && Ag (C9 p7)) then A6.Df.L2 N N p7 (C9 p7) (Bu (C9 p7) (Bo (Be x))) (Ei (List.getD p7 0 0) (C9 p7)) (1 : Int) [(4607182418800017408 : Int)] else none else none else none else none else none else none else none else none else none := by kernel_rfl
theorem A6.Df.G5 (N M : Nat) (p7 : List Int) (p9 p10 : Int) (p11 p12 : Int) (p4_1 : List Int) : A6.Df.L2 N (M + 1) p7 p9 p10 p11 p12 p4_1 = bif (A4 p12 (List.length p7 : Int)) then bif ((decide (0 ≤ p12)) && (decide (p12 < (List.length p7 : Int)))) then bif (decide ((Int.toNat p12) < (List.length p7))) then bif (Ag (List.getD p7 (Int.toNat p12) 0) && Ag p11) then bif (decide ((List.length p4_1) + 1 ≤ Hc)) then A6.Df.L2 N M p7 p9 p10 p11 (Ab (p12 + (1 : Int))) (p4_1 ++ [(Ex (List.getD p7 (Int.toNat p12) 0) p11)]) else none else none else none else none else bif (decide ((0 : Int) < (List.length p7 : Int))) then bif (decide (0 < (List.length p7))) then bif (Ag p9 && Ag (List.getD p7 0 0)) then bif (Ag (Ei p9 (List.getD p7 0 0)) && Ag p9) then some (.tup [.agg [.ints (.own 100004 37) .u64 p4_1, .int .u64 (Ex (Ei p9 (List.getD p7 0 0)) p9), .int .u64 p10], .bool true]) else none else none else none else none := by kernel_rfl
theorem A6.Df.ev (N : Nat) (x : List Int) : Bx A6.Df.E N Tryz.f196 (An Tryz.f196) [.ints .arg .u64 x] = bif (Cp x) then bif (Dx (List.drop 1 x)) then A6.Df.L0 N N x (1 : Int) [(4607182418800017408 : Int)] else bif (Cp x) then bif (Ag (Be x)) then A6.Df.L1 N N x (0 : Int) [] else none else none else none := by kernel_rfl
abbrev _root_.Go.Proofs.S1.A6.Df.Kn := A3 Tryz.prog 196 A6.Df.spec
theorem A6.Df.Ac (hk : Ay Tryz.prog A6.Df.A7) (h : ∀ (x : List Int), A6.Df.pre [.l x] = true → Bc A6.Df.E Tryz.f196 [.ints .arg .u64 x] (A6.Df.out [.l x])) : A6.Df.Kn :=
  Ak (Az hk _ _ _) Tryz.func196 (by kernel_rfl) (by kernel_rfl) h
def A6.Apply.hint : Nat → Option Ba
  | 0 => some { keep := [1, 3, 4, 5, 10, 11, 12], objs := [], boxes := [5, 10, 11] }
  | 2 => some { keep := [1, 3, 4, 5, 10, 11, 12, 13, 14, 15], objs := [], boxes := [5, 10, 11] }
  | _ => none
def A6.Apply.A7 : List (Nat × Entry) := [(118, Ai.Hg.spec), (82, Ai.Mul.spec), (81, Ai.Sub.spec), (108, Ah.Pg.spec), (83, Ah.Fq.arg.spec)]
def A6.Apply.E : Env := Bb (A5 A6.Apply.A7) (fun _ => false) A6.Apply.hint (fun _ => none)
def A6.Apply.L0 (N M : Nat) (r c : Int) (l : List Int) (i : Int) (v : List Int) (t p12 : Int) (p11_1 : List Int) : Option DV := B0 A6.Apply.E N Tryz.f198 (An Tryz.f198) [1, 1, 0, 1, 0] [] M ⟨F7 60 [(1, .int .i64 i), (3, .ints .arg .u64 v), (4, .int .u64 t), (5, .ptr 5 0 0), (10, .ptr 10 0 0), (11, .ptr 11 0 0), (12, .int .i64 p12)], [(5, false, .box [.int .i64 r, .int .i64 c, .ints .arg .u64 l]), (10, false, .box [.int .i64 0, .int .i64 0, .nil]), (11, false, .box [.int .i64 r, .int .i64 c, .ints .arg .u64 p11_1])]⟩
def A6.Apply.L1 (N M0 M : Nat) (r c : Int) (l : List Int) (i : Int) (v : List Int) (t p15 : Int) (p11 : List Int) (p12_1 : Int) (p13 : List Int) (p14 : Int) : Option DV := B0 A6.Apply.E N Tryz.f198 (An Tryz.f198) [1, 1, 0, 1, 0, 0, 1, 0, 0, 1, 1, 1, 0] [M0] M ⟨F7 60 [(1, .int .i64 i), (3, .ints .arg .u64 v), (4, .int .u64 t), (5, .ptr 5 0 0), (10, .ptr 10 0 0), (11, .ptr 11 0 0), (12, .int .i64 p12_1), (13, .ints .fresh .u64 p13), (14, .int .u64 p14), (15, .int .i64 p15)], [(5, false, .box [.int .i64 r, .int .i64 c, .ints .arg .u64 l]), (10, false, .box [.int .i64 0, .int .i64 0, .nil]), (11, false, .box [.int .i64 r, .int .i64 c, .ints .arg .u64 p11])]⟩
theorem A6.Apply.As (N M : Nat) (r c : Int) (l : List Int) (i : Int) (v : List Int) (t p12 : Int) (p11_1 : List Int) : A6.Apply.L0 N (M + 1) r c l i v t p12 p11_1 = bif (A4 p12 c) then bif (Gk r c l p12 && C3 (0 ≤ i ∧ i ≤ r)) then bif ((decide ((0 : Int) ≤ (List.length v : Int))) && (decide ((List.length v : Int) ≤ (List.length (Cn c l p12 i (Int.toNat (r - i))) : Int)))) then bif ((Oc v (List.take (Int.toNat (List.length v : Int)) (Cn c l p12 i (Int.toNat (r - i)))) && Al v) && Al (List.take (Int.toNat (List.length v : Int)) (Cn c l p12 i (Int.toNat (r - i))))) then bif (Ag t && Ag (It v (List.take (Int.toNat (List.length v : Int)) (Cn c l p12 i (Int.toNat (r - i)))))) then A6.Apply.L1 N M N r c l i v t (0 : Int) p11_1 p12 (Cn c l p12 i (Int.toNat (r - i))) (Ea t (It v (List.take (Int.toNat (List.length v : Int)) (Cn c l p12 i (Int.toNat (r - i)))))) else none else none else none else none else some (.agg [.int .i64 r, .int .i64 c, .ints .arg .u64 p11_1]) :=
  Eq.trans (by kernel_rfl)
  (Ee (Ee (Cx (Hx (decide ((0 : Int) ≤ (List.length v : Int))) (decide ((List.length v : Int) ≤ (List.length (Cn c l p12 i (Int.toNat (r - i))) : Int)))) rfl rfl) rfl) rfl)
theorem A6.Apply.B5 (N M0 M : Nat) (r c : Int) (l : List Int) (i : Int) (v : List Int) (t p15 : Int) (p11 : List Int) (p12_1 : Int) (p13 : List Int) (p14 : Int) : A6.Apply.L1 N M0 (M + 1) r c l i v t p15 p11 p12_1 p13 p14 = bif (A4 p15 (List.length v : Int)) then bif ((decide (0 ≤ p15)) && (decide (p15 < (List.length p13 : Int)))) then bif ((decide (0 ≤ p15)) && (decide (p15 < (List.length v : Int)))) then bif (Ag p14 && Ag (List.getD v (Int.toNat p15) 0)) then bif (Ag (List.getD p13 (Int.toNat p15) 0) && Ag (Ea p14 (List.getD v (Int.toNat p15) 0))) then bif (Cy r c p11 (Ab (i + p15)) p12_1) then A6.Apply.L1 N M0 M r c l i v t (Ab (p15 + (1 : Int))) (List.set p11 (Int.toNat ((Ab (i + p15)) * c + p12_1)) (Ei (List.getD p13 (Int.toNat p15) 0) (Ea p14 (List.getD v (Int.toNat p15) 0)))) p12_1 p13 p14 else none else none else none else none else none else A6.Apply.L0 N M0 r c l i v t (Ab (p12_1 + (1 : Int))) p11 :=
  Eq.trans (by kernel_rfl)
  (Ee (Cx (Hx (decide (0 ≤ p15)) (decide (p15 < (List.length p13 : Int)))) (Cx (Hx (decide (0 ≤ p15)) (decide (p15 < (List.length v : Int)))) (Cx (I1 (Ag p14 && Ag (List.getD v (Int.toNat p15) 0))) (Cx (I1 (Ag (List.getD p13 (Int.toNat p15) 0) && Ag (Ea p14 (List.getD v (Int.toNat p15) 0)))) (Cx (I1 (Cy r c p11 (Ab (i + p15)) p12_1)) rfl rfl) rfl) rfl) rfl) rfl) rfl)
theorem A6.Apply.ev (N : Nat) (r c : Int) (l : List Int) (i k : Int) (v : List Int) (t : Int) : Bx A6.Apply.E N Tryz.f198 (An Tryz.f198) [.agg [.int .i64 r, .int .i64 c, .ints .arg .u64 l], .int .i64 i, .int .i64 k, .ints .arg .u64 v, .int .u64 t] =
  A6.Apply.L0 N N r c l i v t k l := by kernel_rfl
abbrev _root_.Go.Proofs.S1.A6.Apply.Kn := A3 Tryz.prog 198 A6.Apply.spec
theorem A6.Apply.Ac (hk : Ay Tryz.prog A6.Apply.A7) (h : ∀ (r c : Int) (l : List Int) (i k : Int) (v : List Int) (t : Int), A6.Apply.pre [.i r, .i c, .l l, .i i, .i k, .l v, .i t] = true → Bc A6.Apply.E Tryz.f198 [.agg [.int .i64 r, .int .i64 c, .ints .arg .u64 l], .int .i64 i, .int .i64 k, .ints .arg .u64 v, .int .u64 t] (A6.Apply.out [.i r, .i c, .l l, .i i, .i k, .l v, .i t])) : A6.Apply.Kn :=
  Ak (Az hk _ _ _) Tryz.func198 (by kernel_rfl) (by kernel_rfl) h
def B4.Db.hint : Nat → Option Ba
  | 0 => some { keep := [1, 3, 6, 7], objs := [], boxes := [3, 6] }
  | _ => none
def B4.Db.A7 : List (Nat × Entry) := [(83, Ah.Fq.arg.spec)]
def B4.Db.E : Env := Bb (A5 B4.Db.A7) (fun _ => false) B4.Db.hint (fun _ => none)
def B4.Db.L0 (N M : Nat) (r c : Int) (j p7 : Int) (p3 : List Int) : Option DV := B0 B4.Db.E N Tryz.f197 (An Tryz.f197) [1, 1, 0, 1, 0] [] M ⟨F7 26 [(1, .int .i64 j), (3, .ptr 3 0 0), (6, .ptr 6 0 0), (7, .int .i64 p7)], [(3, false, .box [.int .i64 r, .int .i64 c, .ints .arg .u64 p3]), (6, false, .box [.int .i64 0, .int .i64 0, .nil])]⟩
theorem B4.Db.As (N M : Nat) (r c : Int) (j p7 : Int) (p3 : List Int) : B4.Db.L0 N (M + 1) r c j p7 p3 = bif (A4 p7 r) then bif (Cy r c p3 p7 j) then B4.Db.L0 N M r c j (Ab (p7 + (1 : Int))) (List.set p3 (Int.toNat (p7 * c + j)) (0 : Int)) else none else some (.agg [.int .i64 r, .int .i64 c, .ints .arg .u64 p3]) := by kernel_rfl
theorem B4.Db.ev (N : Nat) (r c : Int) (l : List Int) (j b : Int) : Bx B4.Db.E N Tryz.f197 (An Tryz.f197) [.agg [.int .i64 r, .int .i64 c, .ints .arg .u64 l], .int .i64 j, .int .u64 b] = bif (Cy r c l j j) then B4.Db.L0 N N r c j (Ab (j + (1 : Int))) (List.set l (Int.toNat (j * c + j)) b) else none := by kernel_rfl
abbrev _root_.Go.Proofs.S1.B4.Db.Kn := A3 Tryz.prog 197 B4.Db.spec
theorem B4.Db.Ac (hk : Ay Tryz.prog B4.Db.A7) (h : ∀ (r c : Int) (l : List Int) (j b : Int), B4.Db.pre [.i r, .i c, .l l, .i j, .i b] = true → Bc B4.Db.E Tryz.f197 [.agg [.int .i64 r, .int .i64 c, .ints .arg .u64 l], .int .i64 j, .int .u64 b] (B4.Db.out [.i r, .i c, .l l, .i j, .i b])) : B4.Db.Kn :=
  Ak (Az hk _ _ _) Tryz.func197 (by kernel_rfl) (by kernel_rfl) h
end EqRef13
open EqRef08 EqRef13
theorem Bn.ends.known : Bn.ends.Kn := Bn.ends.Ac (.cons A1.Finite.known (.cons A1.Neg.known .nil)) fun b hp => by
  have hp : Ag b = true := hp
  refine ⟨0, .int .i64 (Qa b), [], ?_, .int⟩
  rw [Bn.ends.ev, hp, As2, As2]
  unfold Qa
  cases Cv b with
  | true => rfl
  | false =>
    rw [As6, if_neg (by decide)]
    cases Dh b <;> rfl
theorem Bn.G6.known : Bn.G6.Kn := Bn.G6.Ac (.cons A1.De.known (.cons A1.Neg.known .nil)) fun a hp => by
  obtain ⟨n, rfl, hn⟩ := Bj (x := a) hp
  refine ⟨0, .int .u64 (Ir (n : Int)), [], ?_, .int⟩
  rw [Bn.G6.ev, B7 hn, As2, As2]
  unfold Ir Dh Cz Gl Gw Bq
  rw [As4]
  by_cases h : 2 ^ 63 ≤ n
  · rw [As3 h, As2, if_pos h, show n % 2 ^ 63 = n - 2 ^ 63 by omega]
  · rw [As7 h, As6, show n % 2 ^ 63 = n by omega]
theorem Abd (b : Nat) : V4 (Bg (mD (Eu (b : Int)))) (Ap (mD (Eu (b : Int)))) = true ∧ I3 (Bg (mD (Eu (b : Int)))) (Ap (mD (Eu (b : Int)))) = true ∧ Vs (eD (Eu (b : Int)) (A0 b)) = true := by
  obtain ⟨v1, v2, v3⟩ := Aqf b
  have hl : Dg (mD (Eu (b : Int))).natAbs < 3 := Nat.lt_of_le_of_lt (L7 (Zw _)) v1
  exact ⟨Alm (by omega), I2 (by omega), Av.2 ⟨v2, v3⟩⟩
theorem Apk {a b : Nat} (ha : Aj a ≠ 4) (hb : Aj b ≠ 4) : Vu (mD (Eu (a : Int))) (eD (Eu (a : Int)) (A0 a)) (mD (Eu (b : Int))) (eD (Eu (b : Int)) (A0 b)) = if He a < He b then -1 else if He b < He a then 1 else 0 := by
  have pa := D8 a
  have pb := D8 b
  have ga : mD (Eu (a : Int)) ≠ 0 → (-1074 : Int) ≤ eD (Eu (a : Int)) (A0 a) := fun h => Aqc pa.1 (fun h0 => h (O0.2 h0))
  have gb : mD (Eu (b : Int)) ≠ 0 → (-1074 : Int) ≤ eD (Eu (b : Int)) (A0 b) := fun h => Aqc pb.1 (fun h0 => h (O0.2 h0))
  rw [Apl ga gb, Ags pa.1, Ags pb.1, ← Akf, ← Akf]
  have h1 := Aap (f := -1074) ha hb pa.1 pb.1
  have h2 := Aap (f := -1074) hb ha pb.1 pa.1
  unfold Vt
  by_cases c1 : Jm a (-1074) < Jm b (-1074)
  · rw [if_pos c1, if_pos (h1.1 c1)]
  · rw [if_neg c1, if_neg (fun h => c1 (h1.2 h))]
    by_cases c2 : Jm b (-1074) < Jm a (-1074)
    · rw [if_pos c2, if_pos (h2.1 c2)]
    · rw [if_neg c2, if_neg (fun h => c2 (h2.2 h))]
theorem Amf {b : Nat} (hb : b < 2 ^ 64) : He b = Hh (Bq b) (b % 2 ^ 63) := by
  have := N7 (Bq b) (r := b % 2 ^ 63) (Nat.mod_lt _ (by decide))
  rw [Lz hb] at this
  exact this
theorem Aho {b : Nat} (hb : b < 2 ^ 64) (h4 : Aj b ≠ 4) : (Jy b = true → Qa (b : Int) = 0 ∧ -(Dv : Int) < He b ∧ He b < Dv) ∧ (Jy b = false → Aj b = 3 ∧ ((Qa (b : Int) = 1 ∧ He b = Dv) ∨ (Qa (b : Int) = -1 ∧ He b = -(Dv : Int)))) := by
  have hk := Amf hb
  constructor
  · intro hf
    obtain ⟨_, f3⟩ := P9 hf
    have hl := Tw f3 h4
    refine ⟨by unfold Qa Cv; rw [As4, hf, if_pos rfl], ?_⟩
    rw [hk]
    unfold Hh
    cases Bq b
    · rw [if_neg (by decide)]; omega
    · rw [if_pos rfl]; omega
  · intro hf
    have h3 : Aj b = 3 := by
      unfold Jy at hf
      have := of_decide_eq_false hf
      rcases G1 b with ⟨_, _, k⟩ | ⟨_, _, k⟩ | ⟨k, _, _⟩
      · exact k
      · exact absurd k h4
      · omega
    have hi := Tv h3
    refine ⟨h3, ?_⟩
    rw [hk, hi]
    unfold Qa Cv Dh Hh
    rw [As4, hf, if_neg (by decide)]
    cases Bq b
    · left; exact ⟨rfl, rfl⟩
    · right; exact ⟨rfl, rfl⟩
theorem Bn.Order.known : Bn.Order.Kn := Bn.Order.Ac (.cons Aw.Compare.known (.cons A1.Kind.known (.cons A1.Value.known (.cons Bn.ends.known .nil)))) fun a b hp => by
  obtain ⟨ha, hb⟩ := Ad.1 (show (Ag a && Ag b) = true from hp)
  obtain ⟨a, rfl, hn⟩ := Bj ha
  obtain ⟨b, rfl, hm⟩ := Bj hb
  refine ⟨0, .tup [.int .i64 (R4 (a : Int) (b : Int)), .bool (Zr (a : Int) (b : Int))], [], ?_, Wk.Gm (.cons .int (.cons .bool .nil))⟩
  have kk : ∀ n : Nat, Bd (n : Int) = (Aj n : Int) := fun _ => rfl
  have pe : ∀ n : Nat, Bf (n : Int) = A0 n := fun _ => rfl
  rw [Bn.Order.ev, H0, H0, ha, hb, As2, Bool.or_true, As2, As2, As2, As2, As2, kk, kk, pe, pe, G8, G8]
  unfold R4 Zr Adi Yz
  rw [As4, As4]
  by_cases n4 : Aj a = 4 ∨ Aj b = 4
  · have : (((Aj a : Nat) : Int) == 4 || ((Aj b : Nat) : Int) == 4) = true := by
      rw [Bool.or_eq_true, beq_iff_eq, beq_iff_eq]; omega
    rw [this, As2, if_pos n4, As3 n4]; rfl
  · have : (((Aj a : Nat) : Int) == 4 || ((Aj b : Nat) : Int) == 4) = false := by
      rw [Bool.or_eq_false_iff, beq_eq_false_iff_ne, beq_eq_false_iff_ne]; omega
    rw [this, As6, if_neg n4, As7 n4, Bool.not_false]
    have a4 : Aj a ≠ 4 := fun h => n4 (.inl h)
    have b4 : Aj b ≠ 4 := fun h => n4 (.inr h)
    obtain ⟨a1, a2⟩ := Aho hn a4
    obtain ⟨b1, b2⟩ := Aho hm b4
    have hinf : (0 : Int) < (Dv : Int) := by decide
    cases hfa : Jy a with
    | true =>
      obtain ⟨ea, ka1, ka2⟩ := a1 hfa
      cases hfb : Jy b with
      | true =>
        obtain ⟨eb, kb1, kb2⟩ := b1 hfb
        obtain ⟨o1, _, o3⟩ := Abd a
        obtain ⟨p1, _, p3⟩ := Abd b
        have hc := Apk a4 b4
        rw [ea, eb, show (((0 : Int) != (0 : Int)) || ((0 : Int) != (0 : Int))) = false from rfl, As6, o1, o3, p1, p3, hc]
        rfl
      | false =>
        obtain ⟨_, hb2⟩ := b2 hfb
        rcases hb2 with ⟨eb, kb⟩ | ⟨eb, kb⟩
        · rw [ea, eb, kb, if_pos ka2]; rfl
        · rw [ea, eb, kb, if_neg (by omega), if_pos ka1]; rfl
    | false =>
      obtain ⟨_, ha2⟩ := a2 hfa
      cases hfb : Jy b with
      | true =>
        obtain ⟨eb, kb1, kb2⟩ := b1 hfb
        rcases ha2 with ⟨ea, ka⟩ | ⟨ea, ka⟩
        · rw [ea, eb, ka, if_neg (by omega), if_pos kb2]; rfl
        · rw [ea, eb, ka, if_pos kb1]; rfl
      | false =>
        obtain ⟨_, hb2⟩ := b2 hfb
        rcases ha2 with ⟨ea, ka⟩ | ⟨ea, ka⟩ <;> rcases hb2 with ⟨eb, kb⟩ | ⟨eb, kb⟩
        · rw [ea, eb, ka, kb, if_neg (by omega), if_neg (by omega)]; rfl
        · rw [ea, eb, ka, kb, if_neg (by omega), if_pos (by omega)]; rfl
        · rw [ea, eb, ka, kb, if_pos (by omega)]; rfl
        · rw [ea, eb, ka, kb, if_neg (by omega), if_neg (by omega)]; rfl
theorem Bn.Max.known : Bn.Max.Kn := Bn.Max.Ac (.cons Bn.Order.known .nil) fun a b hp => by
  have hp : (Ag a && Ag b) = true := hp
  refine ⟨0, .int .u64 (N4 a b), [], ?_, .int⟩
  rw [Bn.Max.ev, hp, As2, Ar]
  unfold N4 Afx Zr R4
  cases Yz a.toNat b.toNat with
  | false => rfl
  | true =>
    rw [Bool.not_true, As6, if_pos rfl]
    obtain ⟨h1, h2⟩ := Ad.1 hp
    obtain ⟨x, rfl, _⟩ := Bj h1
    obtain ⟨y, rfl, _⟩ := Bj h2
    rw [As4, As4]
    by_cases h : Adi x y < 0
    · rw [As3 h, As2, if_pos h]
    · rw [As7 h, As6, if_neg h]
theorem Bn.K8.known : Bn.K8.Kn := Bn.K8.Ac (.cons Aw.Vq.known (.cons A1.Finite.known (.cons A1.Kind.known (.cons A1.Value.known .nil)))) fun a hp => by
  obtain ⟨b, rfl, hb⟩ := Bj (x := a) hp
  refine ⟨0, .int .i64 (Bo (b : Int)), [], ?_, .int⟩
  have kk : Bd (b : Int) = (Aj b : Int) := rfl
  have hf : Cv (b : Int) = Jy b := rfl
  have pe : Bf (b : Int) = A0 b := rfl
  obtain ⟨_, o2, o3⟩ := Abd b
  have hE := D8 b
  have hM := Ev b
  rw [Bn.K8.ev, B7 hb, As2, H0, Bool.or_true, As2, kk, hf, pe, o2, o3, G8, As8, As2, As2]
  unfold Bo
  rw [As4]
  unfold Ajs
  cases hfin : Jy b with
  | false => rfl
  | true =>
    by_cases h0 : Aj b = 0
    · rw [h0]; rfl
    · have k0 : (((Aj b : Nat) : Int) == (0 : Int)) = false := by rw [beq_eq_false_iff_ne]; omega
      obtain ⟨f4, f3⟩ := P9 hfin
      have hm : Au b ≠ 0 := fun hz => h0 ((Gv f3 f4).1 hz)
      have hv : Eu (b : Int) ≠ 0 := by
        intro h
        have := Aaq b
        rw [h] at this
        exact hm this.symm
      have hl : (Au b).log2 ≤ 52 := by have := (Nat.log2_lt hm).2 (show Au b < 2 ^ 53 by omega); omega
      have ht : Hy (mD (Eu (b : Int))) (eD (Eu (b : Int)) (A0 b)) = ((Au b).log2 : Int) + 1 + A0 b := by
        unfold Hy Xr
        rw [if_neg (fun h => hv (O0.1 h)), if_neg (fun h => hv (O0.1 h))]
        unfold eD
        rw [if_neg hv]
        have hs := V7 (Eu (b : Int))
        have ha : Au b = (mD (Eu (b : Int))).natAbs * 2 ^ Rg (Eu (b : Int)).natAbs := by
          have e := congrArg Int.natAbs hs
          rw [Int.natAbs_mul, Int.natAbs_natCast] at e
          rw [← Aaq b]
          exact e
        have hmd : (mD (Eu (b : Int))).natAbs ≠ 0 := fun h => hv (O0.1 (Int.natAbs_eq_zero.1 h))
        have hlog := K1 (mD (Eu (b : Int))).natAbs (Rg (Eu (b : Int)).natAbs) hmd
        rw [← ha] at hlog
        rw [hlog]
        omega
      rw [k0, if_pos ⟨rfl, h0⟩, ht, Am (by omega) (by omega)]
      show some (DV.int .i64 _) = _
      congr 2; omega
theorem Ahl {b : Nat} (h : b < 2 ^ 63) : He b = (b : Int) := N7 false h
theorem Aow {m x : Nat} (hm : m < 2 ^ 63) (m4 : Aj m ≠ 4) (hx : x < 2 ^ 63) (x4 : Aj x ≠ 4) : Afx m x = max m x := by
  have o : Yz m x = true := by unfold Yz; rw [As7 (by omega)]; rfl
  have ho : Adi m x = if (m : Int) < (x : Int) then -1 else if (x : Int) < (m : Int) then 1 else 0 := by
    unfold Adi
    rw [if_neg (by omega), Ahl hm, Ahl hx]
  unfold Afx
  rw [o, if_pos rfl, ho]
  by_cases h : m < x
  · rw [if_pos (show (m : Int) < (x : Int) by omega), if_pos (by decide), Nat.max_eq_right (by omega)]
  · rw [if_neg (show ¬ (m : Int) < (x : Int) by omega)]
    by_cases h2 : x < m
    · rw [if_pos (show (x : Int) < (m : Int) by omega), if_neg (by decide), Nat.max_eq_left (by omega)]
    · rw [if_neg (show ¬ (x : Int) < (m : Int) by omega), if_neg (by decide), Nat.max_eq_left (by omega)]
theorem Ahg {m x : Nat} (h : Aj m = 4 ∨ Aj x = 4) : Afx m x = Ph := by
  have o : Yz m x = false := by unfold Yz; rw [As3 h]; rfl
  unfold Afx
  rw [o, if_neg (by decide)]
theorem Ai8 : Aj Ph = 4 := by decide
theorem Ad7 : ∀ l : List Int, l.foldl (fun m x => N4 m (Ir x)) ((Ph : Nat) : Int) = ((Ph : Nat) : Int)
  | [] => rfl
  | x :: l => by
    rw [List.foldl_cons]
    have : N4 ((Ph : Nat) : Int) (Ir x) = ((Ph : Nat) : Int) := by unfold N4; rw [As4, Ahg (.inl Ai8)]
    rw [this]
    exact Ad7 l
theorem X2 : ∀ (l : List Int) (m : Nat), m < 2 ^ 63 → Aj m ≠ 4 → l.foldl (fun m x => N4 m (Ir x)) (m : Int) = ((Ym l m : Nat) : Int)
  | [], m, _, _ => rfl
  | x :: l, m, hm, m4 => by
    rw [List.foldl_cons]
    unfold Ym
    have e1 : (Ir x).toNat = Gl x.toNat := by unfold Ir; rw [As4]
    by_cases h : Aj x.toNat = 4
    · rw [if_pos h]
      have : N4 (m : Int) (Ir x) = ((Ph : Nat) : Int) := by
        unfold N4
        rw [e1, Ahg (.inr (by rw [P1]; exact h))]
      rw [this]
      exact Ad7 l
    · rw [if_neg h]
      have hx := Rc x.toNat
      have x4 : Aj (Gl x.toNat) ≠ 4 := by rw [P1]; exact h
      have : N4 (m : Int) (Ir x) = ((max m (Gl x.toNat) : Nat) : Int) := by
        unfold N4
        rw [As4, e1, Aow hm m4 hx x4]
      rw [this]
      refine X2 l _ (by omega) ?_
      rcases Nat.le_total m (Gl x.toNat) with h2 | h2
      · rw [Nat.max_eq_right h2]; exact x4
      · rw [Nat.max_eq_left h2]; exact m4
theorem Al1 {a b : Int} (ha : Ag a = true) (hb : Ag b = true) : Ag (N4 a b) = true := by
  obtain ⟨x, rfl, hx⟩ := Bj ha
  obtain ⟨y, rfl, hy⟩ := Bj hb
  unfold N4 Afx
  rw [As4, As4]
  split
  · split
    · exact hb
    · exact ha
  · exact B7 (by decide)
theorem Abb (N : Nat) {x : List Int} (hx : Cp x = true) : ∀ (k i F : Nat) (m : Int), i + k = x.length → k < F → Ag m = true → Ai.Bm.L0 N F x m (i : Int) = some (.int .u64 ((x.drop i).foldl (fun m x => N4 m (Ir x)) m)) := by
  obtain ⟨hl, hu⟩ := Hj hx
  intro k
  induction k with
  | zero =>
    intro i F m hi hF hm
    obtain ⟨F, rfl⟩ : ∃ G, F = G + 1 := ⟨F - 1, by omega⟩
    rw [Ai.Bm.As, Ar, As7 (by omega), As6, Atg (by omega)]; rfl
  | succ k ih =>
    intro i F m hi hF hm
    obtain ⟨F, rfl⟩ : ∃ G, F = G + 1 := ⟨F - 1, by omega⟩
    rw [Ai.Bm.As, Ar, As3 (show (i : Int) < (x.length : Int) by omega), As2, As3 (show (0 : Int) ≤ (i : Int) by omega), As8, As2, As4, hu i (by omega), As2, hm, Sb, As8, As2, Gj (by omega), List.foldl_cons, Am (by omega) (by omega)]
    exact ih (i + 1) F _ (by omega) (by omega) (Al1 hm (Sb _))
theorem Ai.Bm.known : Ai.Bm.Kn := Ai.Bm.Ac (.cons Bn.G6.known (.cons Bn.Max.known .nil)) fun x hp => by
  refine ⟨x.length + 1, .int .u64 (Be x), [], ?_, .int⟩
  rw [Ai.Bm.ev]
  have h := Abb (x.length + 1) hp x.length 0 (x.length + 1) 0 (by omega) (by omega) Iv
  rw [List.drop_zero] at h
  have h2 := X2 x 0 (by decide) (by decide +kernel)
  exact h.trans (congrArg (fun n : Int => some (DV.int .u64 n)) h2)
theorem math.Sqrt.known : math.Sqrt.Kn := math.Sqrt.Ac .nil fun x _ => ⟨0, .fl ((Ieee.double.sqrt x).getD nanBits), [], by rw [math.Sqrt.ev], .fl⟩
theorem Ai.Sqrt.known : Ai.Sqrt.Kn := Ai.Sqrt.Ac (.cons math.Sqrt.known (.cons Ai.B.known (.cons Ai.F.known .nil))) fun a hp => by
  obtain ⟨x, rfl, hx⟩ := Bj (x := a) hp
  refine ⟨0, .int .u64 (E9 (x : Int)), [], ?_, .int⟩
  have : Fb ((Ieee.double.sqrt (Int.toNat (x : Int))).getD nanBits) = E9 (x : Int) := by
    unfold Fb E9
    rw [As4, Aim hx F4]
  rw [Ai.Sqrt.ev, B7 hx, As2, this]
theorem Yv (N : Nat) {x : List Int} (hx : Cp x = true) : ∀ (k i F : Nat) (s : Int), i + k = x.length → k < F → Ag s = true →
    Ai.Norm.L0 N F x s (i : Int) = some (.int .u64 (Bu (E9 (Acw (-Bo (Be x)) s (x.drop i))) (Bo (Be x)))) := by
  obtain ⟨hl, hu⟩ := Hj hx
  have he := Ya (Be x)
  intro k
  induction k with
  | zero =>
    intro i F s hi hF hs
    obtain ⟨F, rfl⟩ : ∃ G, F = G + 1 := ⟨F - 1, by omega⟩
    rw [Ai.Norm.As, Ar, As7 (by omega), As6, hs, As2, show C4 (E9 s) (Bo (Be x)) = true from Ad.2 ⟨Aax hs, Av.2 (by omega)⟩, As2, Atg (by omega)]
    rfl
  | succ k ih =>
    intro i F s hi hF hs
    obtain ⟨F, rfl⟩ : ∃ G, F = G + 1 := ⟨F - 1, by omega⟩
    rw [Ai.Norm.As, Ar, As3 (show (i : Int) < (x.length : Int) by omega), As2, As3 (show (0 : Int) ≤ (i : Int) by omega), As8, As2, As4, Am (x := (0 : Int) - Bo (Be x)) (by omega) (by omega), show (0 : Int) - Bo (Be x) = -Bo (Be x) by omega,
      show C4 (List.getD x i 0) (-Bo (Be x)) = true from Ad.2 ⟨hu i (by omega), Av.2 (by omega)⟩, As2, G9 (hu i (by omega)), As8, As2, hs, Ju, As8, As2, Acv (by omega), Am (by omega) (by omega)]
    exact ih (i + 1) F _ (by omega) (by omega) (Ago hs (Ju _ _))
theorem Ai.Norm.known : Ai.Norm.Kn := Ai.Norm.Ac (.cons A1.Finite.known (.cons Bn.K8.known (.cons Ai.Add.known (.cons Ai.Bm.known (.cons Ai.Mul.known (.cons Ai.Bp.known (.cons Ai.Sqrt.known .nil))))))) fun x hp => by
  have hx : Cp x = true := hp
  refine ⟨x.length + 1, .int .u64 (C9 x), [], ?_, .int⟩
  rw [Ai.Norm.ev, hx, As2, Nl, Bool.or_true, As2]
  unfold C9
  by_cases h : Be x = 0 ∨ Cv (Be x) = false
  · have : ((Be x == (0 : Int)) || (!(Cv (Be x)))) = true := by
      rcases h with h | h
      · rw [h]; rfl
      · rw [h, Bool.not_false, Bool.or_true]
    rw [this, As2, if_pos h]
  · have : ((Be x == (0 : Int)) || (!(Cv (Be x)))) = false := by
      rw [Bool.or_eq_false_iff, beq_eq_false_iff_ne, Bool.not_eq_false']
      refine ⟨fun h0 => h (.inl h0), ?_⟩
      cases hf : Cv (Be x) with
      | true => rfl
      | false => exact absurd (.inr hf) h
    rw [this, As6, As2, if_neg h]
    exact Yv (x.length + 1) hx x.length 0 (x.length + 1) 0 (by omega) (by omega) Iv
end Go.Proofs.S1
end
