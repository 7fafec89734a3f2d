/- A verified evaluator of the program's form and its use for this seat: PowL, RootL, ScaleL, SolW, TriL, HouW, S1Specs, S1EqSoft, S1PSoft, S1EqRefD, S1PRefD, S1EqRefA. -/
import Derived.Test.YtjbokjpbiobjpaaGreatTE
set_option linter.unusedVariables false
set_option linter.unusedSimpArgs false
noncomputable section
namespace Go.Rnd
theorem K4 {b : Nat} (h : b < 2 ^ 64) : Be (Bi b) (b % 2 ^ 63) = b := by
  unfold Be Bi
  by_cases hb : 2 ^ 63 ≤ b
  · simp only [hb, decide_true, if_true]; omega
  · simp only [hb, decide_false, Bool.false_eq_true, if_false]; omega
theorem fin_word {b : Nat} (h : b < 2 ^ 64) (h4 : Ai b ≠ 4) : Be (Bi b) (B5 (Aq b) (Ay b)) = b := by
  rw [P5 h4, K4 h]
theorem Yd {b : Nat} (h3 : Ai b ≠ 3) (h4 : Ai b ≠ 4) : flagsOf (Aq b) (Ay b) = 0 := by
  by_cases h0 : Aq b = 0
  · rw [h0]; exact Nz _
  · have h1 := El b
    have h2 := D7 b
    have h5 := Su h3 h4
    exact (exact_word false h0 (lastE_small (by omega) h2.1) (by rw [P5 h4]; exact h5)).1
theorem mul_pow {a p : Nat} (a3 : Ai a ≠ 3) (a4 : Ai a ≠ 4) (p3 : Ai p ≠ 3) (p4 : Ai p ≠ 4) (hp : Aq p = 2 ^ 52) (hn : Bi p = false) :
    Mi a p = (Be (Bi a) (B5 (Aq a) (Ay a + Ay p + 52)), flagsOf (Aq a) (Ay a + Ay p + 52)) := by
  obtain ⟨s1, s2⟩ := Dg (Aq a) 52 (Ay a + Ay p + 52)
  have e : Ay a + Ay p + 52 - ((52 : Nat) : Int) = Ay a + Ay p := by omega
  rw [e] at s1 s2
  have e2 : (Bi a != false) = Bi a := by cases Bi a <;> rfl
  unfold Mi
  rw [if_neg (by omega), if_neg (by omega), hp, hn, s1, s2, e2]
theorem stick_pow (M : Nat) : Ei M (2 ^ 52) 120 = M * 2 ^ 69 := by
  unfold Ei
  have e : M * 2 ^ 120 = M * 2 ^ 68 * 2 ^ 52 := by rw [Nat.mul_assoc, ← Nat.pow_add]
  rw [e, Nat.mul_div_cancel _ (B1 52), Nat.mul_mod_left, if_pos rfl, Nat.add_zero, Nat.mul_left_comm]
theorem div_pow {a p : Nat} (a0 : Ai a ≠ 0) (a3 : Ai a ≠ 3) (a4 : Ai a ≠ 4) (p0 : Ai p ≠ 0) (p3 : Ai p ≠ 3) (p4 : Ai p ≠ 4) (hp : Aq p = 2 ^ 52) (hn : Bi p = false) :
    Uo a p = (Be (Bi a) (B5 (Aq a) (Ay a - Ay p - 52)), flagsOf (Aq a) (Ay a - Ay p - 52)) := by
  obtain ⟨s1, s2⟩ := Dg (Aq a) 69 (Ay a - Ay p - 52)
  have e : Ay a - Ay p - 52 - ((69 : Nat) : Int) = Ay a - Ay p - 121 := by omega
  rw [e] at s1 s2
  have e2 : (Bi a != false) = Bi a := by cases Bi a <;> rfl
  unfold Uo
  rw [if_neg (by omega), if_neg (by omega), if_neg a3, if_neg (by omega), if_neg p0, hp, hn, stick_pow, s1, s2, e2]
theorem one_word : Aq 4607182418800017408 = 2 ^ 52 ∧ Ay 4607182418800017408 = -52 ∧ Ai 4607182418800017408 = 2 ∧ Bi 4607182418800017408 = false := by decide +kernel
theorem mul_one {a : Nat} (h : a < 2 ^ 64) (a3 : Ai a ≠ 3) (a4 : Ai a ≠ 4) : Mi a 4607182418800017408 = (a, 0) := by
  obtain ⟨o1, o2, o3, o4⟩ := one_word
  have e : Ay a + -52 + 52 = Ay a := by omega
  rw [mul_pow a3 a4 (by omega) (by omega) o1 o4, o2, e, fin_word h a4, Yd a3 a4]
theorem div_one {a : Nat} (h : a < 2 ^ 64) (a0 : Ai a ≠ 0) (a3 : Ai a ≠ 3) (a4 : Ai a ≠ 4) : Uo a 4607182418800017408 = (a, 0) := by
  obtain ⟨o1, o2, o3, o4⟩ := one_word
  have e : Ay a - -52 - 52 = Ay a := by omega
  rw [div_pow a0 a3 a4 (by omega) (by omega) (by omega) o1 o4, o2, e, fin_word h a4, Yd a3 a4]
end Go.Rnd
namespace Go.Rnd
def Rs (n : Nat) : Nat := Ieee.Datum.rootFrom n (n.log2 / 2 + 1) 0
theorem shl_pow (k : Nat) : 1 <<< k = 2 ^ k := by rw [Nat.shiftLeft_eq, Nat.one_mul]
theorem Te {n : Nat} : ∀ (todo root : Nat), root * root ≤ n → n < (root + 2 ^ todo) * (root + 2 ^ todo) →
    Ieee.Datum.rootFrom n todo root * Ieee.Datum.rootFrom n todo root ≤ n ∧ n < (Ieee.Datum.rootFrom n todo root + 1) * (Ieee.Datum.rootFrom n todo root + 1)
  | 0, root, h1, h2 => ⟨h1, h2⟩
  | todo + 1, root, h1, h2 => by
    unfold Ieee.Datum.rootFrom
    simp only [shl_pow]
    have hp : 2 ^ (todo + 1) = 2 ^ todo + 2 ^ todo := by rw [Nat.pow_succ]; omega
    rw [hp] at h2
    by_cases h : (root + 2 ^ todo) * (root + 2 ^ todo) ≤ n
    · rw [if_pos h]
      exact Te todo _ h (by rw [Nat.add_assoc]; exact h2)
    · rw [if_neg h]
      exact Te todo _ h1 (by omega)
theorem O9 (n : Nat) : Rs n * Rs n ≤ n ∧ n < (Rs n + 1) * (Rs n + 1) := by
  refine Te _ _ (by simp) ?_
  rw [Nat.zero_add, ← Nat.pow_add]
  rcases Nat.eq_zero_or_pos n with rfl | hn
  · decide
  · refine (Nat.log2_lt (by omega)).1 ?_
    omega
theorem sq_lt {a b : Nat} (h : a * a < b * b) : a < b := by
  rcases Nat.lt_or_ge a b with h1 | h1
  · exact h1
  · have := Nat.mul_le_mul h1 h1; omega
theorem Wh {n w : Nat} (h1 : w * w ≤ n) (h2 : n < (w + 1) * (w + 1)) : w = Rs n := by
  obtain ⟨a, b⟩ := O9 n
  have c1 := sq_lt (Nat.lt_of_le_of_lt h1 b)
  have c2 := sq_lt (Nat.lt_of_le_of_lt a h2)
  omega
theorem isq_ge {n w : Nat} (h : w * w ≤ n) : w ≤ Rs n := by
  have := sq_lt (Nat.lt_of_le_of_lt h (O9 n).2)
  omega
def Fv (n : Nat) : Nat := 2 * Rs n + (if Rs n * Rs n = n then 0 else 1)
theorem Tb (a c : Nat) : a * c * (a * c) = a * a * (c * c) := by
  rw [Nat.mul_assoc, Nat.mul_left_comm c, ← Nat.mul_assoc a a]
theorem Xt {n : Nat} (d : Nat) (E : Int) (h : 2 ^ 53 ≤ Rs n) :
    B5 (Fv (n * (2 ^ d * 2 ^ d))) (E - d) = B5 (Fv n) E ∧ flagsOf (Fv (n * (2 ^ d * 2 ^ d))) (E - d) = flagsOf (Fv n) E := by
  have hA := B1 d
  obtain ⟨h1, h2⟩ := O9 n
  unfold Fv
  generalize hw : Rs n = w at *
  generalize hc : 2 ^ d = c at *
  have hcc : 0 < c * c := Nat.mul_pos hA hA
  by_cases h0 : w * w = n
  · have e1 : Rs (n * (c * c)) = w * c := by
      refine (Wh ?_ ?_).symm
      · rw [Tb, h0]; exact Nat.le_refl _
      · have := Tb w c
        rw [h0] at this
        rw [Nat.add_mul, Nat.mul_add, this]; omega
    rw [e1, Tb, h0, if_pos rfl, if_pos rfl]
    have := Dg (2 * w + 0) d E
    rw [hc, show (2 * w + 0) * c = 2 * (w * c) + 0 by rw [Nat.add_zero, Nat.add_zero, Nat.mul_assoc]] at this
    exact this
  · rw [if_neg h0]
    obtain ⟨g1, g2⟩ := O9 (n * (c * c))
    have q1 : w * c ≤ Rs (n * (c * c)) := isq_ge (by rw [Tb]; exact Nat.mul_le_mul_right _ h1)
    have q2 : Rs (n * (c * c)) < (w + 1) * c := by
      refine sq_lt (Nat.lt_of_le_of_lt g1 ?_)
      rw [Tb]
      exact (Nat.mul_lt_mul_right hcc).2 h2
    have q3 : Rs (n * (c * c)) = w * c → Rs (n * (c * c)) * Rs (n * (c * c)) ≠ n * (c * c) := fun h5 h6 => by
      rw [h5, Tb] at h6
      exact h0 (Nat.eq_of_mul_eq_mul_right hcc h6)
    generalize hQ : Rs (n * (c * c)) = Q at *
    have p1 : (2 * w + 1 - 1) * c = 2 * (w * c) := by rw [Nat.add_sub_cancel, Nat.mul_assoc]
    have p2 : (2 * w + 1 + 1) * c = 2 * ((w + 1) * c) := by rw [show 2 * w + 1 + 1 = 2 * (w + 1) by omega, Nat.mul_assoc]
    have od : (2 * w + 1) % 2 = 1 := by omega
    generalize hV : 2 * Q + (if Q * Q = n * (c * c) then 0 else 1) = V
    have v1 : (2 * w + 1 - 1) * 2 ^ d < V := by
      rw [hc, p1, ← hV]
      by_cases h5 : Q = w * c
      · rw [if_neg (q3 h5)]; omega
      · split <;> omega
    have v2 : V < (2 * w + 1 + 1) * 2 ^ d := by
      rw [hc, p2, ← hV]
      split <;> omega
    have lV := O4 od (by omega) v1 v2
    have hs : 54 ≤ (2 * w + 1).log2 := by rw [Nat.le_log2 (by omega)]; omega
    have ee : E - (d : Int) + d = E := by omega
    have := Ou (E := E - d) od v1 v2 (by unfold B2; rw [lV]; omega) (by unfold B2; omega)
    rw [ee] at this
    exact this
theorem Zx {n t : Nat} (h : 2 ^ (t + t) ≤ n) : 2 ^ t ≤ Rs n := isq_ge (by rw [← Nat.pow_add]; exact h)
theorem pow_two (k d : Nat) : 2 ^ (k + 2 * d) = 2 ^ k * (2 ^ d * 2 ^ d) := by rw [Nat.pow_add, Nat.two_mul, Nat.pow_add]
theorem root_same {m k l : Nat} {E F : Int} (h1 : 2 ^ 106 ≤ m * 2 ^ k) (h2 : 2 ^ 106 ≤ m * 2 ^ l) (he : 2 * E + k = 2 * F + l) :
    B5 (Fv (m * 2 ^ k)) E = B5 (Fv (m * 2 ^ l)) F ∧ flagsOf (Fv (m * 2 ^ k)) E = flagsOf (Fv (m * 2 ^ l)) F := by
  rcases Nat.le_total k l with h | h
  · obtain ⟨d, rfl⟩ : ∃ d, l = k + 2 * d := ⟨(l - k) / 2, by omega⟩
    have := Xt (n := m * 2 ^ k) d E (Zx (t := 53) h1)
    rw [Nat.mul_assoc, ← pow_two, show E - (d : Int) = F by omega] at this
    exact ⟨this.1.symm, this.2.symm⟩
  · obtain ⟨d, rfl⟩ : ∃ d, k = l + 2 * d := ⟨(k - l) / 2, by omega⟩
    have := Xt (n := m * 2 ^ l) d F (Zx (t := 53) h2)
    rw [Nat.mul_assoc, ← pow_two, show F - (d : Int) = E by omega] at this
    exact this
def Kh (b : Nat) : Nat := 128 + (Ay b % 2).toNat
def N8 (b : Nat) : Nat × Nat :=
  if Ai b = 4 then (Pu, 0)
  else if Ai b = 0 ∨ b = Dt then (b, 0)
  else if Bi b = true then (Pu, 16)
  else (B5 (Fv (Aq b * 2 ^ Kh b)) ((Ay b - Kh b) / 2 - 1), flagsOf (Fv (Aq b * 2 ^ Kh b)) ((Ay b - Kh b) / 2 - 1))
theorem H3 {b : Nat} (h3 : Ai b ≠ 3) (h4 : Ai b ≠ 4) : Aq b = 0 ↔ Ai b = 0 := by
  have := Iy b
  have := Hy b
  unfold Aq
  unfold Ai at *
  split at h3 <;> split <;> (try split) <;> (try split) <;> simp_all <;> omega
theorem sqrt_nan {b : Nat} (h : Ai b = 4) : N8 b = (Pu, 0) := if_pos h
theorem Ta {b : Nat} (h4 : Ai b ≠ 4) (h : Ai b = 0 ∨ b = Dt) : N8 b = (b, 0) := by unfold N8; rw [if_neg h4, if_pos h]
theorem sqrt_neg {b : Nat} (h4 : Ai b ≠ 4) (h : ¬ (Ai b = 0 ∨ b = Dt)) (hn : Bi b = true) : N8 b = (Pu, 16) := by unfold N8; rw [if_neg h4, if_neg h, if_pos hn]
theorem sqrt_num {b : Nat} (h4 : Ai b ≠ 4) (h : ¬ (Ai b = 0 ∨ b = Dt)) (hn : Bi b = false) :
    N8 b = (B5 (Fv (Aq b * 2 ^ Kh b)) ((Ay b - Kh b) / 2 - 1), flagsOf (Fv (Aq b * 2 ^ Kh b)) ((Ay b - Kh b) / 2 - 1)) := by
  unfold N8; rw [if_neg h4, if_neg h, if_neg (by rw [hn]; decide)]
theorem La : Dj Dt = Dt := by decide
theorem sign_pos (r : Nat) : Be false r = r := rfl
theorem rootK_ok {b : Nat} (hm : Aq b ≠ 0) : 2 ^ 106 ≤ Aq b * 2 ^ Kh b ∧ 2 * ((Ay b - (Kh b : Int)) / 2 - 1) + Kh b = Ay b - 2 := by
  refine ⟨?_, by unfold Kh; omega⟩
  have : 2 ^ 128 ≤ 2 ^ Kh b := Nat.pow_le_pow_right (by decide) (by unfold Kh; omega)
  have h5 := Nat.mul_le_mul (show 1 ≤ Aq b by omega) this
  omega
theorem log_part {b : Nat} (hm : Aq b ≠ 0) : (Aq b).log2 ≤ 52 := by
  have := (Nat.log2_lt hm).2 (show Aq b < 2 ^ 53 from El b)
  omega
end Go.Rnd
namespace Go.Rnd
def Fh (b : Nat) (n : Int) : Nat × Nat :=
  if Ai b = 4 then (Pu, 0)
  else if Ai b = 3 ∨ Ai b = 0 then (b, 0)
  else (Be (Bi b) (B5 (Aq b) (Ay b + n)), flagsOf (Aq b) (Ay b + n))
theorem tiny {V : Nat} {E : Int} (h0 : V ≠ 0) (h : E + V.log2 + 1 ≤ -1075) : B5 V E = 0 ∧ flagsOf V E = 3 := by
  have hl : B2 V E = -1074 := by unfold B2; omega
  obtain ⟨k, hk⟩ : ∃ k : Nat, (-1074 : Int) - E = ((k : Nat) : Int) := ⟨(-1074 - E).toNat, by omega⟩
  have hV : V < 2 ^ (V.log2 + 1) := (Nat.log2_lt h0).1 (by omega)
  have hp : 2 ^ (V.log2 + 1) * 2 ≤ 2 ^ k := by rw [← Nat.pow_succ]; exact Nat.pow_le_pow_right (by decide) (by omega)
  have e1 : V * 2 ^ (-((-1074 : Int) - E)).toNat = V := by rw [hk]; simp
  have e2 : ((-1074 : Int) - E).toNat = k := by rw [hk]; rfl
  have hk2 : kept V E = 0 := by
    unfold kept Iu
    rw [hl, e1, e2]
    unfold Lf
    rw [Nat.div_eq_of_lt (by omega), Nat.mod_eq_of_lt (by omega), if_neg (by omega)]
  have hx : exact V E = false := by
    unfold exact Lb
    rw [hl, e1, e2, Nat.mod_eq_of_lt (by omega)]
    exact decide_eq_false h0
  have hr : B5 V E = 0 := by
    unfold B5
    rw [if_neg h0, hl, hk2]
    rfl
  refine ⟨hr, ?_⟩
  unfold flagsOf
  rw [if_neg h0, hr, hx]
  rfl
theorem near_tiny (n : Bool) {m : Nat} {e : Int} {more : Bool} (hm : m < 2 ^ 53) (h0 : m ≠ 0 ∨ more = true) (he : e ≤ -1130) :
    Fg n m e more = (Be n 0, 3) := by
  have h1 : more.toNat ≤ 1 := by cases more <;> decide
  have hV : 4 * m + more.toNat ≠ 0 := by
    rcases h0 with h | h
    · omega
    · rw [h]; simp
  have hl : (4 * m + more.toNat).log2 ≤ 54 := by
    have := (Nat.log2_lt hV).2 (show 4 * m + more.toNat < 2 ^ 55 by omega); omega
  have := tiny hV (E := e - 2) (by omega)
  unfold Fg
  rw [this.1, this.2]
theorem near_one (n : Bool) : Fg n 0 (-1074) true = (Be n 0, 3) := by
  cases n <;> decide +kernel
theorem scale_tiny {b : Nat} {n : Int} (h4 : Ai b ≠ 4) (h : ¬ (Ai b = 3 ∨ Ai b = 0)) (hn : Ay b + n ≤ -1130) : Fh b n = (Be (Bi b) 0, 3) := by
  have hm : Aq b ≠ 0 := fun h5 => h (.inr ((H3 (by omega) h4).1 h5))
  have := tiny hm (E := Ay b + n) (by have := log_part hm; omega)
  unfold Fh
  rw [if_neg h4, if_neg h, this.1, this.2]
theorem scale_num {b : Nat} {n : Int} (h4 : Ai b ≠ 4) (h : ¬ (Ai b = 3 ∨ Ai b = 0)) : Fh b n = (Be (Bi b) (B5 (Aq b) (Ay b + n)), flagsOf (Aq b) (Ay b + n)) := by
  unfold Fh; rw [if_neg h4, if_neg h]
def expN (b : Nat) : Int := if Jl b = true ∧ Ai b ≠ 0 then ((Aq b).log2 : Int) + Ay b else 0
def Fz (b : Nat) : Nat := b % 2 ^ 63
def ordN (a b : Nat) : Int := if Ai a = 4 ∨ Ai b = 4 then 0 else if Gq a < Gq b then -1 else if Gq b < Gq a then 1 else 0
def W9 (a b : Nat) : Bool := !(decide (Ai a = 4 ∨ Ai b = 4))
def maxN (a b : Nat) : Nat := if W9 a b = true then (if ordN a b < 0 then b else a) else Pu
end Go.Rnd
namespace Go.Rnd
open Go.Den
def Xv (b : Int) : Int := Gq b.toNat
def Q9 (a b : Int) : Int := ordN a.toNat b.toNat
def X0 (a b : Int) : Bool := W9 a.toNat b.toNat
def Ix (x : Int) : Int := Fz x.toNat
def Og (a b : Int) : Int := maxN a.toNat b.toNat
def B3 (x n : Int) : Int := (Fh x.toNat n).1
def scaleFI (x n : Int) : Int := (Fh x.toNat n).2
def Dp (x n : Int) : Bool := Ah x && C2 (-2300 ≤ n ∧ n ≤ 2300)
def B4 (x : Int) : Int := expN x.toNat
def W1 : List Int → Nat → Nat
  | [], m => m
  | x :: l, m => if Ai x.toNat = 4 then Pu else W1 l (max m (Fz x.toNat))
def Br (l : List Int) : Int := W1 l 0
def Ev (l : List Int) : Bool := l.all C8
def Bu (r c : Int) (l : List Int) : Int := if Bn r c l = true then (if Ev l = true then 0 else 4) else 1
def noughtD (c : Int) (l : List Int) (n : Nat) : Bool := (List.range n).any fun i : Nat => decide (A7 (Eg c l (i : Int) (i : Int)) = 0)
def Lw (r c : Int) (l : List Int) (p q : Int) (m : List Int) : Int :=
  if Bu r c l ≠ 0 then Bu r c l else if Bu p q m ≠ 0 then Bu p q m
  else if r ≠ c ∨ r ≠ p then 3 else if noughtD c l r.toNat = true then 5 else 0
def Oc (c : Int) (l : List Int) (i : Int) : Int → Int → List Int → Int
  | s, _, [] => s
  | s, j, x :: xs => Oc c l i (Ep s (Ed (Eg c l i j) x)) (j + 1) xs
def Y0 (c : Int) (l : List Int) (b : Nat → Int) (n : Nat) : Nat → List Int
  | 0 => []
  | k + 1 => Et (Oc c l ((n - 1 - k : Nat) : Int) (b (n - 1 - k)) ((n - k : Nat) : Int) (Y0 c l b n k)) (Eg c l ((n - 1 - k : Nat) : Int) ((n - 1 - k : Nat) : Int)) :: Y0 c l b n k
def Zu (c : Int) (l : List Int) (b : Nat → Int) : Nat → List Int
  | 0 => []
  | k + 1 => Zu c l b k ++ [Et (Oc c l (k : Int) (b k) 0 (Zu c l b k)) (Eg c l (k : Int) (k : Int))]
def upG (c : Int) (l : List Int) (q : Int) (m : List Int) (n w : Nat) : List Int := Cx n w fun i j => (Y0 c l (fun i => Eg q m (i : Int) (j : Int)) n n).getD i 0
def loG (c : Int) (l : List Int) (q : Int) (m : List Int) (n w : Nat) : List Int := Cx n w fun i j => (Zu c l (fun i => Eg q m (i : Int) (j : Int)) n).getD i 0
def Gj (r c : Int) (l : List Int) : MX := if Ev l = true then (r, c, l, 0) else O0 2
def upX (r c : Int) (l : List Int) (p q : Int) (m : List Int) : MX :=
  if Lw r c l p q m ≠ 0 then O0 (Lw r c l p q m) else Gj r q (upG c l q m r.toNat q.toNat)
def Mr (r c : Int) (l : List Int) (p q : Int) (m : List Int) : MX :=
  if Lw r c l p q m ≠ 0 then O0 (Lw r c l p q m) else Gj r q (loG c l q m r.toNat q.toNat)
def Jb (c : Int) (l : List Int) (n : Nat) : List Int := (List.range n).map fun i : Nat => Ix (Eg c l (i : Int) (i : Int))
def flatL (d : List Int) : Bool := d.any fun x => !(decide (Q9 (B3 (Br d) (-40)) x < 0))
def Pc (r c : Int) (l : List Int) : Bool := flatL (Jb c l (min r.toNat c.toNat))
def Dh (r c : Int) (l : List Int) : Bool × Int := if Bu r c l ≠ 0 then (false, Bu r c l) else (Pc r c l, 0)
def On (r c : Int) (l : List Int) (p q : Int) (m : List Int) : Bool := (Bn r c l && Bn p q m) && ((An l && An m) && C2 (r = c ∧ r = p))
def Pd (n : Nat) : List Int := Cx n n fun i k => Tv (i : Int) (k : Int)
def Dd (r c : Int) (l : List Int) (p q : Int) (m : List Int) : MX :=
  if (Fi r c l).2.2.2 ≠ 0 then O0 (Fi r c l).2.2.2 else To (Fi r c l).1 (Fi r c l).2.1 (Fi r c l).2.2.1 p q m
end Go.Rnd
namespace Go.Rnd
open Go.Den
theorem divN_lt {a b : Nat} : (Uo a b).1 < 2 ^ 64 := by
  have h1 : Dt < 2 ^ 63 := by decide
  have hs : ∀ (s : Bool) {r : Nat}, r < 2 ^ 63 → Be s r < 2 ^ 64 := by
    intro s r h
    unfold Be
    cases s
    · rw [if_neg (by decide)]; omega
    · rw [if_pos rfl]; omega
  have hN : Pu < 2 ^ 64 := by decide
  unfold Uo
  by_cases c1 : Ai a = 4 ∨ Ai b = 4
  · rw [if_pos c1]; exact hN
  rw [if_neg c1]
  by_cases c2 : Ai a = Ai b ∧ (Ai a = 3 ∨ Ai a = 0)
  · rw [if_pos c2]; exact hN
  rw [if_neg c2]
  by_cases c3 : Ai a = 3
  · rw [if_pos c3]; exact hs _ h1
  rw [if_neg c3]
  by_cases c4 : Ai b = 3 ∨ Ai a = 0
  · rw [if_pos c4]; exact hs _ (by decide)
  rw [if_neg c4]
  by_cases c5 : Ai b = 0
  · rw [if_pos c5]; exact hs _ h1
  rw [if_neg c5]
  exact hs _ (Uw _ _)
theorem Z9 (a b : Int) : Ah (Et a b) = true := By divN_lt
theorem Oo {a b : Int} (ha : Ah a = true) (hb : Ah b = true) : Ah (Ep a b) = true := by
  obtain ⟨x, rfl, hx⟩ := Bg ha
  obtain ⟨y, rfl, hy⟩ := Bg hb
  exact By (U6 (by rw [Int.toNat_natCast]; exact hx) (Tp (by rw [Int.toNat_natCast]; exact hy))).1
theorem L8 {r c : Nat} {f : Nat → Nat → Int} (h : ∀ i k, Ah (f i k) = true) : An (Cx r c f) = true := Ar.2 fun x hx => by
  obtain ⟨j, _, rfl⟩ := List.mem_map.1 hx
  exact h _ _
theorem Ke (a b : Int) : Ah (Ed a b) = true := By U0
theorem Q4 (c : Int) (l : List Int) (b : Nat → Int) (n : Nat) : ∀ k, (Y0 c l b n k).length = k
  | 0 => rfl
  | k + 1 => by rw [Y0, List.length_cons, Q4 c l b n k]
theorem upL_in (c : Int) (l : List Int) (b : Nat → Int) (n : Nat) : ∀ k, ∀ x ∈ Y0 c l b n k, Ah x = true
  | 0, x, h => by cases h
  | k + 1, x, h => by
    rw [Y0] at h
    rcases List.mem_cons.1 h with rfl | h
    · exact Z9 _ _
    · exact upL_in c l b n k x h
theorem upL_drop (c : Int) (l : List Int) (b : Nat → Int) (n k : Nat) : ∀ d, (Y0 c l b n (k + d)).drop d = Y0 c l b n k
  | 0 => rfl
  | d + 1 => by
    rw [← Nat.add_assoc, Y0, List.drop_succ_cons]
    exact upL_drop c l b n k d
theorem upL_tail {c : Int} {l : List Int} {b : Nat → Int} {n k : Nat} (h : k ≤ n) : (Y0 c l b n n).drop (n - k) = Y0 c l b n k := by
  have := upL_drop c l b n k (n - k)
  rw [Nat.add_sub_cancel' h] at this
  exact this
theorem upL_row {c : Int} {l : List Int} {b : Nat → Int} {n i : Nat} (h : i < n) :
    (Y0 c l b n n).getD i 0 = Et (Oc c l (i : Int) (b i) ((i + 1 : Nat) : Int) ((Y0 c l b n n).drop (i + 1))) (Eg c l (i : Int) (i : Int)) := by
  have e1 := upL_tail (c := c) (l := l) (b := b) (n := n) (k := n - i) (by omega)
  have e2 := upL_tail (c := c) (l := l) (b := b) (n := n) (k := n - i - 1) (by omega)
  rw [show n - (n - i) = i by omega] at e1
  rw [show n - (n - i - 1) = i + 1 by omega] at e2
  rw [e2]
  have e3 : (Y0 c l b n n).getD i 0 = ((Y0 c l b n n).drop i).getD 0 0 := by
    rw [List.getD_eq_getElem?_getD, List.getD_eq_getElem?_getD, List.getElem?_drop, Nat.add_zero]
  rw [e3, e1, show n - i = (n - i - 1) + 1 by omega, Y0]
  have e4 : n - 1 - (n - i - 1) = i := by omega
  have e5 : n - (n - i - 1) = i + 1 := by omega
  rw [e4, e5]
  rfl
theorem Z0 {l : List Int} (h : ∀ x ∈ l, Ah x = true) (i : Nat) : Ah (l.getD i 0) = true := by
  rw [List.getD_eq_getElem?_getD]
  cases hi : l[i]? with
  | none => exact By (n := 0) (by decide)
  | some x => exact h x (List.mem_of_getElem? hi)
theorem X8 {c : Int} {l : List Int} {i s j : Int} {xs : List Int} {t : Nat} (h : t < xs.length) : Oc c l i s j (xs.drop t) = Oc c l i (Ep s (Ed (Eg c l i j) (xs.getD t 0))) (j + 1) (xs.drop (t + 1)) := by
  rw [List.drop_eq_getElem_cons h, Oc, List.getD_eq_getElem?_getD, List.getElem?_eq_getElem h]; rfl
theorem H6 (c : Int) (l : List Int) (b : Nat → Int) : ∀ k, (Zu c l b k).length = k
  | 0 => rfl
  | k + 1 => by rw [Zu, List.length_append, H6 c l b k]; rfl
theorem loL_in (c : Int) (l : List Int) (b : Nat → Int) : ∀ k, ∀ x ∈ Zu c l b k, Ah x = true
  | 0, x, h => by cases h
  | k + 1, x, h => by
    rw [Zu] at h
    rcases List.mem_append.1 h with h | h
    · exact loL_in c l b k x h
    · rw [List.mem_singleton.1 h]; exact Z9 _ _
theorem loL_take {c : Int} {l : List Int} {b : Nat → Int} {k : Nat} : ∀ d, (Zu c l b (k + d)).take k = Zu c l b k
  | 0 => by rw [Nat.add_zero]; exact List.take_of_length_le (by rw [H6]; omega)
  | d + 1 => by
    rw [← Nat.add_assoc, Zu, List.take_append_of_le_length (by rw [H6]; omega)]
    exact loL_take d
theorem loL_head {c : Int} {l : List Int} {b : Nat → Int} {n k : Nat} (h : k ≤ n) : (Zu c l b n).take k = Zu c l b k := by
  have := loL_take (c := c) (l := l) (b := b) (k := k) (n - k)
  rw [Nat.add_sub_cancel' h] at this
  exact this
theorem loL_row {c : Int} {l : List Int} {b : Nat → Int} {n i : Nat} (h : i < n) :
    (Zu c l b n).getD i 0 = Et (Oc c l (i : Int) (b i) 0 ((Zu c l b n).take i)) (Eg c l (i : Int) (i : Int)) := by
  have e1 := loL_head (c := c) (l := l) (b := b) (n := n) (k := i + 1) (by omega)
  have e2 := loL_head (c := c) (l := l) (b := b) (n := n) (k := i) (by omega)
  have e3 : (Zu c l b n).getD i 0 = ((Zu c l b n).take (i + 1)).getD i 0 := by
    rw [List.getD_eq_getElem?_getD, List.getD_eq_getElem?_getD, List.getElem?_take_of_lt (by omega)]
  rw [e3, e1, e2, Zu, List.getD_eq_getElem?_getD, List.getElem?_append_right (by rw [H6]; omega), H6, Nat.sub_self]
  rfl
end Go.Rnd
namespace Go.Rnd
open Go.Den
def oneI : Int := 4607182418800017408
def Hp (x : Int) : Int := (N8 x.toNat).1
def Oq (x : Int) : Int := (N8 x.toNat).2
def sqsI (k : Int) : Int → List Int → Int
  | s, [] => s
  | s, x :: l => sqsI k (Kk s (Ed (B3 x k) (B3 x k))) l
def Ej (x : List Int) : Int :=
  if Br x = 0 ∨ C8 (Br x) = false then Br x else B3 (Hp (sqsI (-B4 (Br x)) 0 x)) (B4 (Br x))
def Jz (l : List Int) : Bool := l.all fun x => decide (A7 x = 0)
def Qw : List Int → Int
  | [] => 0
  | x :: l => if A7 x = 0 then Qw l else x
def Bm (l : List Int) (k : Int) : List Int := l.map fun x => B3 x k
def Jd (n : Nat) (f : Nat → Int) : List Int := oneI :: (List.range (n - 1)).map fun j => f (j + 1)
def muI (x : List Int) : Int := if C6 (Qw x) = true then Ej (Bm x (-B4 (Br x))) else C0 (Ej (Bm x (-B4 (Br x))))
def Hv (x : List Int) : Int := B3 (muI x) (B4 (Br x))
def firstI (x : List Int) : Int := B3 (x.getD 0 0) (-B4 (Br x))
def mirV (x : List Int) : List Int := Jd x.length fun j => Et (B3 (x.getD j 0) (-B4 (Br x))) (Ep (firstI x) (muI x))
def mirT (x : List Int) : Int := Et (Ep (muI x) (firstI x)) (muI x)
def mirX (x : List Int) : List Int × Int × Int × Int :=
  if Jz (x.drop 1) = true then (Jd x.length fun _ => 0, 0, x.getD 0 0, 0)
  else if C8 (Hv x) = true then (mirV x, mirT x, Hv x, 0) else ([], 0, 0, 2)
def Cb (x : List Int) : List Int × Int × Int × Int :=
  if x.length = 0 ∨ 64 < x.length then ([], 0, 0, 3) else if Ev x = true then mirX x else ([], 0, 0, 4)
def Dm (c : Int) (l : List Int) (b i : Int) (n : Nat) : List Int := (List.range n).map fun j : Nat => Eg c l (i + (j : Int)) b
def Aae (c : Int) (l : List Int) (i : Int) (v : List Int) (t b : Int) : Int := Ed t (Qn v (Dm c l b i v.length))
def Pn (c : Int) (l : List Int) (i k : Int) (v : List Int) (t a b : Int) : Int :=
  if k ≤ b ∧ i ≤ a ∧ a < i + v.length then Ep (Eg c l a b) (Ed (Aae c l i v t b) (v.getD (a - i).toNat 0)) else Eg c l a b
def Fy (r c : Nat) (l : List Int) (i k : Int) (v : List Int) (t : Int) : List Int := Cx r c fun a b => Pn (c : Int) l i k v t (a : Int) (b : Int)
def Mn (r c i k : Int) (v : List Int) : Bool := decide (0 ≤ i ∧ (v.length : Int) ≤ r ∧ i ≤ r - v.length ∧ 0 ≤ k ∧ k ≤ c)
def Ty (r c : Nat) (l : List Int) (j : Nat) (x : Int) : List Int := Cx r c fun a b => if b = j ∧ j ≤ a then (if a = j then x else 0) else Eg (c : Int) l (a : Int) (b : Int)
def F0 (r c : Nat) (l : List Int) (j : Nat) : List Int := Dm (c : Int) l (j : Int) (j : Int) (r - j)
def Xb (r c : Nat) (l : List Int) (j : Nat) : List Int := Ty r c (Fy r c l (j : Int) (j : Int) (Cb (F0 r c l j)).1 (Cb (F0 r c l j)).2.1) j (Cb (F0 r c l j)).2.2.1
def Oe (r c : Nat) : Nat → Nat → List Int → Option (List Int × List (List Int × Int))
  | 0, _, l => some (l, [])
  | n + 1, j, l => if (Cb (F0 r c l j)).2.2.2 = 0 then
      (Oe r c n (j + 1) (Xb r c l j)).map fun x => (x.1, ((Cb (F0 r c l j)).1, (Cb (F0 r c l j)).2.1) :: x.2) else none
def Ja (r c : Nat) : Nat := min c (r - 1)
def Kj (n : Nat) : Nat → List (List Int × Int) → List Int → List Int
  | _, [], q => q
  | j, m :: ms, q => Fy n n (Kj n (j + 1) ms q) (j : Int) 0 m.1 m.2
def I9 (r c : Nat) (l : List Int) : Option (List Int × List (List Int × Int)) := Oe r c (Ja r c) 0 l
def Rg (r c : Nat) (l : List Int) : List Int := match I9 r c l with
  | some x => Kj r 0 x.2 (Pd r)
  | none => []
def N1 (r c : Nat) (l : List Int) : List Int := match I9 r c l with
  | some x => x.1
  | none => []
def E9 (r c : Int) (l : List Int) : MX := if (I9 r.toNat c.toNat l).isSome = true then (r, c, N1 r.toNat c.toNat l, 0) else O0 2
def V2 (ms : List (List Int × Int)) : List (List DV) := ms.map fun m => [.ints .arg .u64 m.1, .int .u64 m.2]
def Jj (r c : Int) (l : List Int) : List (List DV) := match I9 r.toNat c.toNat l with
  | some x => V2 x.2
  | none => []
def Sn (m : Int) : Int := Rs (m.toNat * 2 ^ 64)
def So (m : Int) : Bool := decide (Rs (m.toNat * 2 ^ 64) * Rs (m.toNat * 2 ^ 64) = m.toNat * 2 ^ 64)
def Q1 (r c : Nat) (l : List Int) : Bool := (I9 r c l).isSome && (Ev (Rg r c l) && Ev (N1 r c l))
def Gr (r c : Int) (l : List Int) : Int := if Bu r c l ≠ 0 then Bu r c l else if Q1 r.toNat c.toNat l = true then 0 else 2
def qX (r c : Int) (l : List Int) : MX := if Gr r c l ≠ 0 then O0 (Gr r c l) else (r, r, Rg r.toNat c.toNat l, 0)
def rX (r c : Int) (l : List Int) : MX := if Gr r c l ≠ 0 then O0 (Gr r c l) else (r, c, N1 r.toNat c.toNat l, 0)
def Hx (r c : Int) (l : List Int) : MX := if Gr r c l ≠ 0 then O0 (Gr r c l) else (r, min r c, (Ia r r (Rg r.toNat c.toNat l) 0 0 r (min r c)).2.2.1, 0)
def Mw (r c : Int) (l : List Int) : MX := if Gr r c l ≠ 0 then O0 (Gr r c l) else (min r c, c, (Ia r c (N1 r.toNat c.toNat l) 0 0 (min r c) c).2.2.1, 0)
def upTX (a b : MX) (p q : Int) (m : List Int) : MX :=
  if (Dd a.1 a.2.1 a.2.2.1 p q m).2.2.2 ≠ 0 then O0 (Dd a.1 a.2.1 a.2.2.1 p q m).2.2.2
  else upX b.1 b.2.1 b.2.2.1 (Dd a.1 a.2.1 a.2.2.1 p q m).1 (Dd a.1 a.2.1 a.2.2.1 p q m).2.1 (Dd a.1 a.2.1 a.2.2.1 p q m).2.2.1
def Dr (r c : Int) (l : List Int) (p q : Int) (m : List Int) : MX :=
  if Bu r c l ≠ 0 then O0 (Bu r c l) else if Bu p q m ≠ 0 then O0 (Bu p q m) else if r < c ∨ r ≠ p then O0 3
  else if Gr r c l ≠ 0 then O0 (Gr r c l)
  else if (Dh (Mw r c l).1 (Mw r c l).2.1 (Mw r c l).2.2.1).1 = true then O0 5
  else upTX (Hx r c l) (Mw r c l) p q m
def Rp (x : Nat) : Bool := C2 (x < 2 ^ 64)
def finP (x : Nat) : Bool := C2 (x < 2 ^ 64 ∧ Ai x ≠ 3 ∧ Ai x ≠ 4)
def Hb (x : Nat) (k : Int) : Nat := if Ai x = 4 then x else (Fh x k).1
def Kt (x : Nat) : Nat := if Fz x < 4503599627370496 then (Mi x 4841369599423283200).1 else x
def Hk (x : Nat) : Int := if Fz x < 4503599627370496 then -52 else 0
def Pe (b : Int) : Int := if C8 b = true then 0 else if C6 b = true then -1 else 1
end Go.Rnd
namespace Go.Proofs.S1
open Go Go.Den Go.Rnd
def soft.Split.pre : List Atom → Bool
  | [.i x] => Ah x
  | _ => false
def soft.Split.out : List Atom → DV
  | [.i x] => .agg [.bool (C6 x), .int .i64 (Kc x), .int .u64 (Cf x)]
  | _ => .undef
def soft.Split.spec : Entry := entry [.i .u64] soft.Split.pre soft.Split.out
def soft.Kind.pre : List Atom → Bool
  | [.i x] => Ah x
  | _ => false
def soft.Kind.out : List Atom → DV
  | [.i x] => .int .i64 (A7 x)
  | _ => .undef
def soft.Kind.spec : Entry := entry [.i .u64] soft.Kind.pre soft.Kind.out
def soft.Sign.pre : List Atom → Bool
  | [.i x] => Ah x
  | _ => false
def soft.Sign.out : List Atom → DV
  | [.i x] => .bool (C6 x)
  | _ => .undef
def soft.Sign.spec : Entry := entry [.i .u64] soft.Sign.pre soft.Sign.out
def soft.Finite.pre : List Atom → Bool
  | [.i x] => Ah x
  | _ => false
def soft.Finite.out : List Atom → DV
  | [.i x] => .bool (C8 x)
  | _ => .undef
def soft.Finite.spec : Entry := entry [.i .u64] soft.Finite.pre soft.Finite.out
def soft.Cy.pre : List Atom → Bool
  | [.i x] => Ah x
  | _ => false
def soft.Cy.out : List Atom → DV
  | [.i x] => .int .u64 (C0 x)
  | _ => .undef
def soft.Cy.spec : Entry := entry [.i .u64] soft.Cy.pre soft.Cy.out
def soft.Fa.pre : List Atom → Bool
  | [.i x] => Ah x
  | _ => false
def soft.Fa.out : List Atom → DV
  | [.i x] => .tup [.int .u64 (Bk x), .int .i64 (Ba x)]
  | _ => .undef
def soft.Fa.spec : Entry := entry [.i .u64] soft.Fa.pre soft.Fa.out
def soft.Pack.mu : List Atom → Nat
  | [.b _n, .i m, .i e] => Nr m e
  | _ => 0
def soft.Pack.pre : List Atom → Bool
  | [.b _n, .i m, .i e] => Jq m e
  | _ => false
def soft.Pack.out : List Atom → DV
  | [.b n, .i m, .i e] => .int .u64 (Sc n m e)
  | _ => .undef
def soft.Pack.spec : Entry := entry [.b, .i .u64, .i .i64] soft.Pack.pre soft.Pack.out
def soft.Cs.pre : List Atom → Bool
  | [.b _n, .i m, .i e, .b r] => Dn m e r
  | _ => false
def soft.Cs.out : List Atom → DV
  | [.b n, .i m, .i e, .b r] => .tup [.int .u64 (Ea n m e r), .int .u8 (D9 n m e r)]
  | _ => .undef
def soft.Cs.spec : Entry := entry [.b, .i .u64, .i .i64, .b] soft.Cs.pre soft.Cs.out
def sum.right.pre : List Atom → Bool
  | [.i m, .i d] => Ah m && C2 (0 ≤ d ∧ d < 1000000)
  | _ => false
def sum.right.out : List Atom → DV
  | [.i m, .i d] => .int .u64 (Eh m d)
  | _ => .undef
def sum.right.spec : Entry := entry [.i .u64, .i .i64] sum.right.pre sum.right.out
def sum.D0.pre : List Atom → Bool
  | [.i a, .i b] => (Ah a && Ah b) && (!(C8 a) || !(C8 b))
  | _ => false
def sum.D0.out : List Atom → DV
  | [.i a, .i b] => .tup [.int .u64 (Kk a b), .int .u8 (Ul a b)]
  | _ => .undef
def sum.D0.spec : Entry := entry [.i .u64, .i .u64] sum.D0.pre sum.D0.out
def sum.Add.pre : List Atom → Bool
  | [.i a, .i b] => Ah a && Ah b
  | _ => false
def sum.Add.out : List Atom → DV
  | [.i a, .i b] => .tup [.int .u64 (Kk a b), .int .u8 (Ul a b)]
  | _ => .undef
def sum.Add.spec : Entry := entry [.i .u64, .i .u64] sum.Add.pre sum.Add.out
def sum.Sub.pre : List Atom → Bool
  | [.i a, .i b] => Ah a && Ah b
  | _ => false
def sum.Sub.out : List Atom → DV
  | [.i a, .i b] => .tup [.int .u64 (Ep a b), .int .u8 (subFI a b)]
  | _ => .undef
def sum.Sub.spec : Entry := entry [.i .u64, .i .u64] sum.Sub.pre sum.Sub.out
def A3.Neg.pre : List Atom → Bool
  | [.i x] => Ah x
  | _ => false
def A3.Neg.out : List Atom → DV
  | [.i x] => .bool (C6 x)
  | _ => .undef
def A3.Neg.spec : Entry := entry [.i .u64] A3.Neg.pre A3.Neg.out
def A3.Power.pre : List Atom → Bool
  | [.i x] => Mh x
  | _ => false
def A3.Power.out : List Atom → DV
  | [.i x] => .int .i64 (Kc x)
  | _ => .undef
def A3.Power.spec : Entry := entry [.i .u64] A3.Power.pre A3.Power.out
def A3.Ka.pre : List Atom → Bool
  | [.i x] => Mh x
  | _ => false
def A3.Ka.out : List Atom → DV
  | [.i x] => .int .u64 (Cf x)
  | _ => .undef
def A3.Ka.spec : Entry := entry [.i .u64] A3.Ka.pre A3.Ka.out
def A3.Kind.pre : List Atom → Bool
  | [.i x] => Mh x
  | _ => false
def A3.Kind.out : List Atom → DV
  | [.i x] => .int .i64 (A7 x)
  | _ => .undef
def A3.Kind.spec : Entry := entry [.i .u64] A3.Kind.pre A3.Kind.out
def A3.Finite.pre : List Atom → Bool
  | [.i x] => Ah x
  | _ => false
def A3.Finite.out : List Atom → DV
  | [.i x] => .bool (C8 x)
  | _ => .undef
def A3.Finite.spec : Entry := entry [.i .u64] A3.Finite.pre A3.Finite.out
def A3.Cy.pre : List Atom → Bool
  | [.i x] => Ah x
  | _ => false
def A3.Cy.out : List Atom → DV
  | [.i x] => .int .u64 (C0 x)
  | _ => .undef
def A3.Cy.spec : Entry := entry [.i .u64] A3.Cy.pre A3.Cy.out
def D6.Canon.pre : List Atom → Bool
  | [.i x] => Mh x
  | _ => false
def D6.Canon.out : List Atom → DV
  | [.i x] => .int .u64 (Wy x)
  | _ => .undef
def D6.Canon.spec : Entry := entry [.i .u64] D6.Canon.pre D6.Canon.out
def Ce.Bq.pre : List Atom → Bool
  | [.i x] => Ah x
  | _ => false
def Ce.Bq.out : List Atom → DV
  | [.i x] => .int .i64 (64 - Eb x)
  | _ => .undef
def Ce.Bq.spec : Entry := entry [.i .u64] Ce.Bq.pre Ce.Bq.out
def Ce.G3.pre : List Atom → Bool
  | [.i x, .i y] => Ah x && Ah y
  | _ => false
def Ce.G3.out : List Atom → DV
  | [.i x, .i y] => .tup [.int .u64 (Qt x y), .int .u64 (L5 x y)]
  | _ => .undef
def Ce.G3.spec : Entry := entry [.i .u64, .i .u64] Ce.G3.pre Ce.G3.out
def times.signed.pre : List Atom → Bool
  | [.i b, .b _n] => Ah b
  | _ => false
def times.signed.out : List Atom → DV
  | [.i b, .b n] => .int .u64 (Qq n b)
  | _ => .undef
def times.signed.spec : Entry := entry [.i .u64, .b] times.signed.pre times.signed.out
def times.nan.pre : List Atom → Bool
  | [.i a, .i b] => Ah a && Ah b
  | _ => false
def times.nan.out : List Atom → DV
  | [.i a, .i b] => .bool (nanI a b)
  | _ => .undef
def times.nan.spec : Entry := entry [.i .u64, .i .u64] times.nan.pre times.nan.out
def times.norm.pre : List Atom → Bool
  | [.i b] => Ah b && Ku b
  | _ => false
def times.norm.out : List Atom → DV
  | [.i b] => .tup [.int .u64 (Ci b), .int .i64 (F4 b)]
  | _ => .undef
def times.norm.spec : Entry := entry [.i .u64] times.norm.pre times.norm.out
def times.wide.pre : List Atom → Bool
  | [.b _n, .i m, .i e, .b _r] => Nn m e
  | _ => false
def times.wide.out : List Atom → DV
  | [.b n, .i m, .i e, .b r] => .tup [.int .u64 (Ea n m e r), .int .u8 (D9 n m e r)]
  | _ => .undef
def times.wide.spec : Entry := entry [.b, .i .u64, .i .i64, .b] times.wide.pre times.wide.out
def times.Mul.pre : List Atom → Bool
  | [.i a, .i b] => Ah a && Ah b
  | _ => false
def times.Mul.out : List Atom → DV
  | [.i a, .i b] => .tup [.int .u64 (Ed a b), .int .u8 (mulFI a b)]
  | _ => .undef
def times.Mul.spec : Entry := entry [.i .u64, .i .u64] times.Mul.pre times.Mul.out
def times.Div.pre : List Atom → Bool
  | [.i a, .i b] => Ah a && Ah b
  | _ => false
def times.Div.out : List Atom → DV
  | [.i a, .i b] => .tup [.int .u64 (Et a b), .int .u8 (divFI a b)]
  | _ => .undef
def times.Div.spec : Entry := entry [.i .u64, .i .u64] times.Div.pre times.Div.out
def Ae.Add.pre : List Atom → Bool
  | [.i a, .i b] => Ah a && Ah b
  | _ => false
def Ae.Add.out : List Atom → DV
  | [.i a, .i b] => .int .u64 (Kk a b)
  | _ => .undef
def Ae.Add.spec : Entry := entry [.i .u64, .i .u64] Ae.Add.pre Ae.Add.out
def Ae.Sub.pre : List Atom → Bool
  | [.i a, .i b] => Ah a && Ah b
  | _ => false
def Ae.Sub.out : List Atom → DV
  | [.i a, .i b] => .int .u64 (Ep a b)
  | _ => .undef
def Ae.Sub.spec : Entry := entry [.i .u64, .i .u64] Ae.Sub.pre Ae.Sub.out
def Ae.Mul.pre : List Atom → Bool
  | [.i a, .i b] => Ah a && Ah b
  | _ => false
def Ae.Mul.out : List Atom → DV
  | [.i a, .i b] => .int .u64 (Ed a b)
  | _ => .undef
def Ae.Mul.spec : Entry := entry [.i .u64, .i .u64] Ae.Mul.pre Ae.Mul.out
def Ae.fit.pre : List Atom → Bool
  | [.l _x, .l _y] => true
  | _ => false
def Ae.fit.out : List Atom → DV
  | [.l x, .l y] => .bool (Tt x y)
  | _ => .undef
def Ae.fit.spec : Entry := entry [.s .u64, .s .u64] Ae.fit.pre Ae.fit.out
def Ae.Oi.pre : List Atom → Bool
  | [.l x, .l y] => (Tt x y && An x) && An y
  | _ => false
def Ae.Oi.out : List Atom → DV
  | [.l x, .l y] => .tup [.int .u64 (Qn x y), .int .i64 (0 : Int)]
  | _ => .undef
def Ae.Oi.spec : Entry := entry [.s .u64, .s .u64] Ae.Oi.pre Ae.Oi.out
def Av.F.pre : List Atom → Bool
  | [.i x] => Ah x
  | _ => false
def Av.F.out : List Atom → DV
  | [.i x] => .fl (Int.toNat x)
  | _ => .undef
def Av.F.spec : Entry := entry [.i .u64] Av.F.pre Av.F.out
def Av.B.pre : List Atom → Bool
  | [.f _x] => true
  | _ => false
def Av.B.out : List Atom → DV
  | [.f x] => .int .u64 (Gx x)
  | _ => .undef
def Av.B.spec : Entry := entry [.fl] Av.B.pre Av.B.out
def Av.Sub.pre : List Atom → Bool
  | [.i a, .i b] => Ah a && Ah b
  | _ => false
def Av.Sub.out : List Atom → DV
  | [.i a, .i b] => .int .u64 (Ep a b)
  | _ => .undef
def Av.Sub.spec : Entry := entry [.i .u64, .i .u64] Av.Sub.pre Av.Sub.out
def Av.Mul.pre : List Atom → Bool
  | [.i a, .i b] => Ah a && Ah b
  | _ => false
def Av.Mul.out : List Atom → DV
  | [.i a, .i b] => .int .u64 (Ed a b)
  | _ => .undef
def Av.Mul.spec : Entry := entry [.i .u64, .i .u64] Av.Mul.pre Av.Mul.out
def Av.D4.pre : List Atom → Bool
  | [.l x, .l _y] => Ob x
  | _ => false
def Av.D4.out : List Atom → DV
  | [.l x, .l y] => .bool (R6 x y)
  | _ => .undef
def Av.D4.spec : Entry := entry [.s .u64, .s .u64] Av.D4.pre Av.D4.out
def Aa.size.pre : List Atom → Bool
  | [.i _n] => true
  | _ => false
def Aa.size.out : List Atom → DV
  | [.i n] => .bool (Bs n)
  | _ => .undef
def Aa.size.spec : Entry := entry [.i .i64] Aa.size.pre Aa.size.out
def Aa.Check.pre : List Atom → Bool
  | [.i _r, .i _c, .l _l] => true
  | _ => false
def Aa.Check.out : List Atom → DV
  | [.i r, .i c, .l l] => .int .i64 (Jm r c l)
  | _ => .undef
def Aa.Check.spec : Entry := entry [.st [.i .i64, .i .i64, .s .u64]] Aa.Check.pre Aa.Check.out
def Aa.get.pre : List Atom → Bool
  | [.i r, .i c, .l l, .i i, .i k] => Ec r c l i k
  | _ => false
def Aa.get.out : List Atom → DV
  | [.i _r, .i c, .l l, .i i, .i k] => .int .u64 (Eg c l i k)
  | _ => .undef
def Aa.get.spec : Entry := entry [.st [.i .i64, .i .i64, .s .u64], .i .i64, .i .i64] Aa.get.pre Aa.get.out
def Aa.two.pre : List Atom → Bool
  | [.i _r, .i _c, .l _l, .i _p, .i _q, .l _m] => true
  | _ => false
def Aa.two.out : List Atom → DV
  | [.i r, .i c, .l l, .i p, .i q, .l m] => .int .i64 (Y2 r c l p q m)
  | _ => .undef
def Aa.two.spec : Entry := entry [.st [.i .i64, .i .i64, .s .u64], .st [.i .i64, .i .i64, .s .u64]] Aa.two.pre Aa.two.out
def Aa.Row.pre : List Atom → Bool
  | [.i r, .i c, .l l, .i i, .i f] => Zc r c l i && decide (f = 0)
  | _ => false
def Aa.Row.out : List Atom → DV
  | [.i _r, .i c, .l l, .i i, .i _f] => .ints .fresh .u64 (Mf c l i)
  | _ => .undef
def Aa.Row.spec : Entry := entry [.st [.i .i64, .i .i64, .s .u64], .i .i64, .i .i64] Aa.Row.pre Aa.Row.out
def Aa.C9.pre : List Atom → Bool
  | [.i r, .i c, .l l, .i k, .i f] => Lm r c l k && C2 (0 ≤ f ∧ f ≤ r)
  | _ => false
def Aa.C9.out : List Atom → DV
  | [.i r, .i c, .l l, .i k, .i f] => .ints .fresh .u64 (Dm c l k f (Int.toNat (r - f)))
  | _ => .undef
def Aa.C9.spec : Entry := entry [.st [.i .i64, .i .i64, .s .u64], .i .i64, .i .i64] Aa.C9.pre Aa.C9.out
def Aa.Du.pre : List Atom → Bool
  | [.i _i, .i _k] => true
  | _ => false
def Aa.Du.out : List Atom → DV
  | [.i _i, .i _k] => .int .u64 (0 : Int)
  | _ => .undef
def Aa.Du.spec : Entry := entry [.i .i64, .i .i64] Aa.Du.pre Aa.Du.out
def Aa.G6.pre : List Atom → Bool
  | [.i _i, .i _k] => true
  | _ => false
def Aa.G6.out : List Atom → DV
  | [.i i, .i k] => .int .u64 (Tv i k)
  | _ => .undef
def Aa.G6.spec : Entry := entry [.i .i64, .i .i64] Aa.G6.pre Aa.G6.out
def Aa.E0.pre : List Atom → Bool
  | [.i i, .i k, .i r, .i c, .l l] => Ec r c l k i
  | _ => false
def Aa.E0.out : List Atom → DV
  | [.i i, .i k, .i _r, .i c, .l l] => .int .u64 (Eg c l k i)
  | _ => .undef
def Aa.E0.spec : Entry := entry [.i .i64, .i .i64, .cp [.i .i64, .i .i64, .s .u64]] Aa.E0.pre Aa.E0.out
def Aa.E2.pre : List Atom → Bool
  | [.i i, .i k, .i r, .i c, .l l, .i x, .i y] => Ec r c l (x + i) (y + k) && Tc x y i k
  | _ => false
def Aa.E2.out : List Atom → DV
  | [.i i, .i k, .i _r, .i c, .l l, .i x, .i y] => .int .u64 (Eg c l (x + i) (y + k))
  | _ => .undef
def Aa.E2.spec : Entry := entry [.i .i64, .i .i64, .cp [.i .i64, .i .i64, .s .u64], .cp [.i .i64], .cp [.i .i64]] Aa.E2.pre Aa.E2.out
def Aa.G2.pre : List Atom → Bool
  | [.i i, .i k, .i r, .i c, .l l, .i p, .i q, .l m] => Rb r c l p q m i k
  | _ => false
def Aa.G2.out : List Atom → DV
  | [.i i, .i k, .i _r, .i c, .l l, .i p, .i q, .l m] => .int .u64 (Qn (Mf c l i) (Rk p q m k))
  | _ => .undef
def Aa.G2.spec : Entry := entry [.i .i64, .i .i64, .cp [.i .i64, .i .i64, .s .u64], .cp [.i .i64, .i .i64, .s .u64]] Aa.G2.pre Aa.G2.out
def Aa.of.G7.pre : List Atom → Bool
  | [.i a, .i b] => (Bs a && Bs b)
  | _ => false
def Aa.of.G7.out : List Atom → DV
  | [.i a, .i b] => .agg [.int .i64 a, .int .i64 b, .ints .fresh .u64 (Cx (Int.toNat a) (Int.toNat b) (fun j1 j2 => Tv j1 j2))]
  | _ => .undef
def Aa.of.G7.spec : Entry := entry [.i .i64, .i .i64, .fn 246 []] Aa.of.G7.pre Aa.of.G7.out
def Aa.of.Df.pre : List Atom → Bool
  | [.i a, .i b, .i r, .i c, .l l] => (Bs a && Bs b) && Bn r c l && decide (a = c ∧ b = r)
  | _ => false
def Aa.of.Df.out : List Atom → DV
  | [.i a, .i b, .i _r, .i c, .l l] => .agg [.int .i64 a, .int .i64 b, .ints .fresh .u64 (Cx (Int.toNat a) (Int.toNat b) (fun j1 j2 => Eg c l j2 j1))]
  | _ => .undef
def Aa.of.Df.spec : Entry := entry [.i .i64, .i .i64, .fn 220 [.cp [.i .i64, .i .i64, .s .u64]]] Aa.of.Df.pre Aa.of.Df.out
def Aa.of.Part.pre : List Atom → Bool
  | [.i a, .i b, .i r, .i c, .l l, .i x, .i y] => (Bs a && Bs b) && Bn r c l && Oa r c x y a b
  | _ => false
def Aa.of.Part.out : List Atom → DV
  | [.i a, .i b, .i _r, .i c, .l l, .i x, .i y] => .agg [.int .i64 a, .int .i64 b, .ints .fresh .u64 (Cx (Int.toNat a) (Int.toNat b) (fun j1 j2 => Eg c l (x + j1) (y + j2)))]
  | _ => .undef
def Aa.of.Part.spec : Entry := entry [.i .i64, .i .i64, .fn 192 [.cp [.i .i64, .i .i64, .s .u64], .cp [.i .i64], .cp [.i .i64]]] Aa.of.Part.pre Aa.of.Part.out
def Aa.of.Mul.pre : List Atom → Bool
  | [.i a, .i b, .i r, .i c, .l l, .i p, .i q, .l m] => (Bs a && Bs b) && ((Bn r c l && Bn p q m) && (An l && An m)) && decide (a = r ∧ b = q ∧ c = p)
  | _ => false
def Aa.of.Mul.out : List Atom → DV
  | [.i a, .i b, .i _r, .i c, .l l, .i p, .i q, .l m] => .agg [.int .i64 a, .int .i64 b, .ints .fresh .u64 (Cx (Int.toNat a) (Int.toNat b) (fun j1 j2 => Qn (Mf c l j1) (Rk p q m j2)))]
  | _ => .undef
def Aa.of.Mul.spec : Entry := entry [.i .i64, .i .i64, .fn 188 [.cp [.i .i64, .i .i64, .s .u64], .cp [.i .i64, .i .i64, .s .u64]]] Aa.of.Mul.pre Aa.of.Mul.out
def Aa.G7.pre : List Atom → Bool
  | [.i _n] => true
  | _ => false
def Aa.G7.out : List Atom → DV
  | [.i n] => .tup [.agg [.int .i64 ((Ll n).1), .int .i64 ((Ll n).2.1), .ints .fresh .u64 ((Ll n).2.2.1)], .int .i64 ((Ll n).2.2.2)]
  | _ => .undef
def Aa.G7.spec : Entry := entry [.i .i64] Aa.G7.pre Aa.G7.out
def Aa.Df.pre : List Atom → Bool
  | [.i _r, .i _c, .l _l] => true
  | _ => false
def Aa.Df.out : List Atom → DV
  | [.i r, .i c, .l l] => .tup [.agg [.int .i64 ((Fi r c l).1), .int .i64 ((Fi r c l).2.1), .ints .fresh .u64 ((Fi r c l).2.2.1)], .int .i64 ((Fi r c l).2.2.2)]
  | _ => .undef
def Aa.Df.spec : Entry := entry [.st [.i .i64, .i .i64, .s .u64]] Aa.Df.pre Aa.Df.out
def Aa.Part.pre : List Atom → Bool
  | [.i _r, .i _c, .l _l, .i _x, .i _y, .i _a, .i _b] => true
  | _ => false
def Aa.Part.out : List Atom → DV
  | [.i r, .i c, .l l, .i x, .i y, .i a, .i b] => .tup [.agg [.int .i64 ((Ia r c l x y a b).1), .int .i64 ((Ia r c l x y a b).2.1), .ints .fresh .u64 ((Ia r c l x y a b).2.2.1)], .int .i64 ((Ia r c l x y a b).2.2.2)]
  | _ => .undef
def Aa.Part.spec : Entry := entry [.st [.i .i64, .i .i64, .s .u64], .i .i64, .i .i64, .i .i64, .i .i64] Aa.Part.pre Aa.Part.out
def Aa.Mul.pre : List Atom → Bool
  | [.i _r, .i _c, .l l, .i _p, .i _q, .l m] => An l && An m
  | _ => false
def Aa.Mul.out : List Atom → DV
  | [.i r, .i c, .l l, .i p, .i q, .l m] => .tup [.agg [.int .i64 ((To r c l p q m).1), .int .i64 ((To r c l p q m).2.1), .ints .fresh .u64 ((To r c l p q m).2.2.1)], .int .i64 ((To r c l p q m).2.2.2)]
  | _ => .undef
def Aa.Mul.spec : Entry := entry [.st [.i .i64, .i .i64, .s .u64], .st [.i .i64, .i .i64, .s .u64]] Aa.Mul.pre Aa.Mul.out
def Bh.G1.pre : List Atom → Bool
  | [.i _r, .i _c, .l _l] => true
  | _ => false
def Bh.G1.out : List Atom → DV
  | [.i r, .i c, .l l] => .bool (Bn r c l)
  | _ => .undef
def Bh.G1.spec : Entry := entry [.st [.i .i64, .i .i64, .s .u64]] Bh.G1.pre Bh.G1.out
def Bh.At.pre : List Atom → Bool
  | [.i r, .i c, .l l, .i i, .i k] => Ec r c l i k
  | _ => false
def Bh.At.out : List Atom → DV
  | [.i _r, .i c, .l l, .i i, .i k] => .int .u64 (Eg c l i k)
  | _ => .undef
def Bh.At.spec : Entry := entry [.st [.i .i64, .i .i64, .s .u64], .i .i64, .i .i64] Bh.At.pre Bh.At.out
def Bh.Bt.pre : List Atom → Bool
  | [.i a, .i b] => Bs a && Bs b
  | _ => false
def Bh.Bt.out : List Atom → DV
  | [.i a, .i b] => .agg [.int .i64 a, .int .i64 b, .ints .fresh .u64 (Cx (Int.toNat a) (Int.toNat b) (fun _ _ => 0))]
  | _ => .undef
def Bh.Bt.spec : Entry := entry [.i .i64, .i .i64] Bh.Bt.pre Bh.Bt.out
def Bh.Lr.pre : List Atom → Bool
  | [.i r, .i c, .l l, .i i, .i k, .i _b] => Ec r c l i k
  | _ => false
def Bh.Lr.out : List Atom → DV
  | [.i r, .i c, .l l, .i i, .i k, .i b] => .agg [.int .i64 r, .int .i64 c, .ints .fresh .u64 (List.set l (Int.toNat (i * c + k)) b)]
  | _ => .undef
def Bh.Lr.spec : Entry := entry [.st [.i .i64, .i .i64, .s .u64], .i .i64, .i .i64, .i .u64] Bh.Lr.pre Bh.Lr.out
def Bh.D4.pre : List Atom → Bool
  | [.i _r, .i _c, .l l, .i _p, .i _q, .l _m] => Ob l
  | _ => false
def Bh.D4.out : List Atom → DV
  | [.i r, .i c, .l l, .i p, .i q, .l m] => .bool (Ot r c l p q m)
  | _ => .undef
def Bh.D4.spec : Entry := entry [.st [.i .i64, .i .i64, .s .u64], .st [.i .i64, .i .i64, .s .u64]] Bh.D4.pre Bh.D4.out
def Af.Ii.pre : List Atom → Bool
  | [.l l, .i _i] => Gf l
  | _ => false
def Af.Ii.out : List Atom → DV
  | [.l l, .i i] => .int .u64 (Fx l i)
  | _ => .undef
def Af.Ii.spec : Entry := entry [.s .u32, .i .i64] Af.Ii.pre Af.Ii.out
def Af.Made.pre : List Atom → Bool
  | [.b _n, .l l] => Gf l
  | _ => false
def Af.Made.out : List Atom → DV
  | [.b n, .l l] => .agg [.bool (Bc (wv n l)), .ints .arg .u32 (Al (wv n l))]
  | _ => .undef
def Af.Made.spec : Entry := entry [.b, .s .u32] Af.Made.pre Af.Made.out
def Af.Of.pre : List Atom → Bool
  | [.i n] => inI64 n
  | _ => false
def Af.Of.out : List Atom → DV
  | [.i n] => .agg [.bool (Bc (n)), .ints .arg .u32 (Al (n))]
  | _ => .undef
def Af.Of.spec : Entry := entry [.i .i64] Af.Of.pre Af.Of.out
def Af.Hg.pre : List Atom → Bool
  | [.l a, .l b] => Gf a && Gf b
  | _ => false
def Af.Hg.out : List Atom → DV
  | [.l a, .l b] => .int .i64 (Tx (B7 a) (B7 b))
  | _ => .undef
def Af.Hg.spec : Entry := entry [.s .u32, .s .u32] Af.Hg.pre Af.Hg.out
def Af.plus.pre : List Atom → Bool
  | [.l a, .l b] => Gf a && Gf b
  | _ => false
def Af.plus.out : List Atom → DV
  | [.l a, .l b] => .ints .arg .u32 (Iv a b)
  | _ => .undef
def Af.plus.spec : Entry := entry [.s .u32, .s .u32] Af.plus.pre Af.plus.out
def Af.minus.pre : List Atom → Bool
  | [.l a, .l b] => (Gf a && Gf b) && leL b a
  | _ => false
def Af.minus.out : List Atom → DV
  | [.l a, .l b] => .ints .arg .u32 (F7 a b)
  | _ => .undef
def Af.minus.spec : Entry := entry [.s .u32, .s .u32] Af.minus.pre Af.minus.out
def Af.Add.pre : List Atom → Bool
  | [.b n, .l a, .b m, .l b] => Ib n a && Ib m b
  | _ => false
def Af.Add.out : List Atom → DV
  | [.b n, .l a, .b m, .l b] => .agg [.bool (Bc (wv n a + wv m b)), .ints .arg .u32 (Al (wv n a + wv m b))]
  | _ => .undef
def Af.Add.spec : Entry := entry [.st [.b, .s .u32], .st [.b, .s .u32]] Af.Add.pre Af.Add.out
def Af.Neg.pre : List Atom → Bool
  | [.b n, .l a] => Ib n a
  | _ => false
def Af.Neg.out : List Atom → DV
  | [.b n, .l a] => .agg [.bool (Bc (- wv n a)), .ints .arg .u32 (Al (- wv n a))]
  | _ => .undef
def Af.Neg.spec : Entry := entry [.st [.b, .s .u32]] Af.Neg.pre Af.Neg.out
def Af.E5.pre : List Atom → Bool
  | [.b n, .l a] => Ib n a
  | _ => false
def Af.E5.out : List Atom → DV
  | [.b n, .l a] => .agg [.bool (Bc (2 * wv n a)), .ints .arg .u32 (Al (2 * wv n a))]
  | _ => .undef
def Af.E5.spec : Entry := entry [.st [.b, .s .u32]] Af.E5.pre Af.E5.out
def Af.Gs.pre : List Atom → Bool
  | [.b n, .l a] => Ib n a
  | _ => false
def Af.Gs.out : List Atom → DV
  | [.b n, .l a] => .agg [.bool (Bc (Jo (wv n a) 1)), .ints .arg .u32 (Al (Jo (wv n a) 1))]
  | _ => .undef
def Af.Gs.spec : Entry := entry [.st [.b, .s .u32]] Af.Gs.pre Af.Gs.out
def Af.Bj.pre : List Atom → Bool
  | [.b n, .l a, .i k] => Uy n a && okSh k
  | _ => false
def Af.Bj.out : List Atom → DV
  | [.b n, .l a, .i k] => .agg [.bool (Bc (Fp (wv n a) k)), .ints .arg .u32 (Al (Fp (wv n a) k))]
  | _ => .undef
def Af.Bj.spec : Entry := entry [.st [.b, .s .u32], .i .i64] Af.Bj.pre Af.Bj.out
def Af.Pv.pre : List Atom → Bool
  | [.b n, .l a] => Ib n a
  | _ => false
def Af.Pv.out : List Atom → DV
  | [.b n, .l a] => .int .i64 (Xd (wv n a))
  | _ => .undef
def Af.Pv.spec : Entry := entry [.st [.b, .s .u32]] Af.Pv.pre Af.Pv.out
def Af.U8.pre : List Atom → Bool
  | [.b n, .l a] => Ib n a
  | _ => false
def Af.U8.out : List Atom → DV
  | [.b n, .l a] => .bool (oddB (wv n a))
  | _ => .undef
def Af.U8.spec : Entry := entry [.st [.b, .s .u32]] Af.U8.pre Af.U8.out
def As.Of.pre : List Atom → Bool
  | [.b n, .l a, .i e] => Ib n a && Xa e
  | _ => false
def As.Of.out : List Atom → DV
  | [.b n, .l a, .i e] => .agg [.bool (Bc (mD (wv n a))), .ints .arg .u32 (Al (mD (wv n a))), .int .i64 (eD (wv n a) e)]
  | _ => .undef
def As.Of.spec : Entry := entry [.st [.b, .s .u32], .i .i64] As.Of.pre As.Of.out
def As.Neg.pre : List Atom → Bool
  | [.b n, .l a, .i _e] => Ib n a
  | _ => false
def As.Neg.out : List Atom → DV
  | [.b n, .l a, .i e] => .agg [.bool (Bc (- wv n a)), .ints .arg .u32 (Al (- wv n a)), .int .i64 e]
  | _ => .undef
def As.Neg.spec : Entry := entry [.st [.b, .s .u32, .i .i64]] As.Neg.pre As.Neg.out
def As.U9.pre : List Atom → Bool
  | [.b n, .l a, .i _e, .b m, .l b, .i _f] => Ib n a && Ib m b
  | _ => false
def As.U9.out : List Atom → DV
  | [.b n, .l a, .i e, .b m, .l b, .i f] => .int .i64 (Ck (wv n a) e (wv m b) f)
  | _ => .undef
def As.U9.spec : Entry := entry [.st [.b, .s .u32, .i .i64], .st [.b, .s .u32, .i .i64]] As.U9.pre As.U9.out
def As.Level.pre : List Atom → Bool
  | [.b n, .l a, .i e, .i f] => Uy n a && okLv (wv n a) e f
  | _ => false
def As.Level.out : List Atom → DV
  | [.b n, .l a, .i e, .i f] => .agg [.bool (Bc (Fp (wv n a) (e - f))), .ints .arg .u32 (Al (Fp (wv n a) (e - f)))]
  | _ => .undef
def As.Level.spec : Entry := entry [.st [.b, .s .u32, .i .i64], .i .i64] As.Level.pre As.Level.out
def As.Add.pre : List Atom → Bool
  | [.b n, .l a, .i e, .b m, .l b, .i f] => ((Uy n a && Uy m b) && Uz e) && Uz f
  | _ => false
def As.Add.out : List Atom → DV
  | [.b n, .l a, .i e, .b m, .l b, .i f] => .agg [.bool (Bc (Pq (wv n a) e (wv m b) f)), .ints .arg .u32 (Al (Pq (wv n a) e (wv m b) f)), .int .i64 (addE (wv n a) e (wv m b) f)]
  | _ => .undef
def As.Add.spec : Entry := entry [.st [.b, .s .u32, .i .i64], .st [.b, .s .u32, .i .i64]] As.Add.pre As.Add.out
def As.Sub.pre : List Atom → Bool
  | [.b n, .l a, .i e, .b m, .l b, .i f] => ((Uy n a && Uy m b) && Uz e) && Uz f
  | _ => false
def As.Sub.out : List Atom → DV
  | [.b n, .l a, .i e, .b m, .l b, .i f] => .agg [.bool (Bc (Pq (wv n a) e (- wv m b) f)), .ints .arg .u32 (Al (Pq (wv n a) e (- wv m b) f)), .int .i64 (addE (wv n a) e (- wv m b) f)]
  | _ => .undef
def As.Sub.spec : Entry := entry [.st [.b, .s .u32, .i .i64], .st [.b, .s .u32, .i .i64]] As.Sub.pre As.Sub.out
def As.U7.pre : List Atom → Bool
  | [.b n, .l a, .i e] => Ib n a && Uz e
  | _ => false
def As.U7.out : List Atom → DV
  | [.b n, .l a, .i e] => .int .i64 (Hs (wv n a) e)
  | _ => .undef
def As.U7.spec : Entry := entry [.st [.b, .s .u32, .i .i64]] As.U7.pre As.U7.out
def As.Sign.pre : List Atom → Bool
  | [.b n, .l a, .i _e] => Ib n a
  | _ => false
def As.Sign.out : List Atom → DV
  | [.b n, .l a, .i _e] => .int .i64 (Lt (wv n a))
  | _ => .undef
def As.Sign.spec : Entry := entry [.st [.b, .s .u32, .i .i64]] As.Sign.pre As.Sign.out
def As.Compare.pre : List Atom → Bool
  | [.b n, .l a, .i e, .b m, .l b, .i f] => ((Uy n a && Uy m b) && Uz e) && Uz f
  | _ => false
def As.Compare.out : List Atom → DV
  | [.b n, .l a, .i e, .b m, .l b, .i f] => .int .i64 (Ur (wv n a) e (wv m b) f)
  | _ => .undef
def As.Compare.spec : Entry := entry [.st [.b, .s .u32, .i .i64], .st [.b, .s .u32, .i .i64]] As.Compare.pre As.Compare.out
def A3.Value.pre : List Atom → Bool
  | [.i x] => Ah x
  | _ => false
def A3.Value.out : List Atom → DV
  | [.i x] => .agg [.bool (Bc (mD (Fs x))), .ints .arg .u32 (Al (mD (Fs x))), .int .i64 (eD (Fs x) (Ba x))]
  | _ => .undef
def A3.Value.spec : Entry := entry [.i .u64] A3.Value.pre A3.Value.out
def compare.Kq.pre : List Atom → Bool
  | [.i b] => Ah b
  | _ => false
def compare.Kq.out : List Atom → DV
  | [.i b] => .int .i64 (Xv b)
  | _ => .undef
def compare.Kq.spec : Entry := entry [.i .u64] compare.Kq.pre compare.Kq.out
def compare.Order.pre : List Atom → Bool
  | [.i a, .i b] => Ah a && Ah b
  | _ => false
def compare.Order.out : List Atom → DV
  | [.i a, .i b] => .tup [.int .i64 (Q9 a b), .bool (X0 a b)]
  | _ => .undef
def compare.Order.spec : Entry := entry [.i .u64, .i .u64] compare.Order.pre compare.Order.out
def compare.K1.pre : List Atom → Bool
  | [.i a, .i b] => Ah a && Ah b
  | _ => false
def compare.K1.out : List Atom → DV
  | [.i a, .i b] => .bool (decide (Q9 a b < 0))
  | _ => .undef
def compare.K1.spec : Entry := entry [.i .u64, .i .u64] compare.K1.pre compare.K1.out
def compare.Gm.pre : List Atom → Bool
  | [.i a] => Ah a
  | _ => false
def compare.Gm.out : List Atom → DV
  | [.i a] => .int .u64 (Ix a)
  | _ => .undef
def compare.Gm.spec : Entry := entry [.i .u64] compare.Gm.pre compare.Gm.out
def compare.Ee.pre : List Atom → Bool
  | [.i a, .i n] => Dp a n
  | _ => false
def compare.Ee.out : List Atom → DV
  | [.i a, .i n] => .tup [.int .u64 (B3 a n), .int .u8 (scaleFI a n)]
  | _ => .undef
def compare.Ee.spec : Entry := entry [.i .u64, .i .i64] compare.Ee.pre compare.Ee.out
def Ae.Bj.pre : List Atom → Bool
  | [.i a, .i n] => Dp a n
  | _ => false
def Ae.Bj.out : List Atom → DV
  | [.i a, .i n] => .int .u64 (B3 a n)
  | _ => .undef
def Ae.Bj.spec : Entry := entry [.i .u64, .i .i64] Ae.Bj.pre Ae.Bj.out
def Ae.Div.pre : List Atom → Bool
  | [.i a, .i b] => Ah a && Ah b
  | _ => false
def Ae.Div.out : List Atom → DV
  | [.i a, .i b] => .int .u64 (Et a b)
  | _ => .undef
def Ae.Div.spec : Entry := entry [.i .u64, .i .u64] Ae.Div.pre Ae.Div.out
def Ae.Cm.pre : List Atom → Bool
  | [.l x] => Di x
  | _ => false
def Ae.Cm.out : List Atom → DV
  | [.l x] => .int .u64 (Br x)
  | _ => .undef
def Ae.Cm.spec : Entry := entry [.s .u64] Ae.Cm.pre Ae.Cm.out
def Ae.Finite.pre : List Atom → Bool
  | [.l x] => Di x
  | _ => false
def Ae.Finite.out : List Atom → DV
  | [.l x] => .bool (Ev x)
  | _ => .undef
def Ae.Finite.spec : Entry := entry [.s .u64] Ae.Finite.pre Ae.Finite.out
def Cg.Check.pre : List Atom → Bool
  | [.i _r, .i _c, .l l] => An l
  | _ => false
def Cg.Check.out : List Atom → DV
  | [.i r, .i c, .l l] => .int .i64 (Bu r c l)
  | _ => .undef
def Cg.Check.spec : Entry := entry [.st [.i .i64, .i .i64, .s .u64]] Cg.Check.pre Cg.Check.out
def solve.check.pre : List Atom → Bool
  | [.i _r, .i _c, .l l, .i _p, .i _q, .l m] => An l && An m
  | _ => false
def solve.check.out : List Atom → DV
  | [.i r, .i c, .l l, .i p, .i q, .l m] => .int .i64 (Lw r c l p q m)
  | _ => .undef
def solve.check.spec : Entry := entry [.st [.i .i64, .i .i64, .s .u64], .st [.i .i64, .i .i64, .s .u64]] solve.check.pre solve.check.out
def Cq.Cp.up.pre : List Atom → Bool
  | [.i n, .i k] => C2 (0 ≤ k ∧ k < n ∧ n ≤ 10)
  | _ => false
def Cq.Cp.up.out : List Atom → DV
  | [.i n, .i k] => .int .i64 (n - 1 - k)
  | _ => .undef
def Cq.Cp.up.spec : Entry := entry [.i .i64, .i .i64] Cq.Cp.up.pre Cq.Cp.up.out
def solve.D1.pre : List Atom → Bool
  | [.i _i, .i _k] => true
  | _ => false
def solve.D1.out : List Atom → DV
  | [.i i, .i k] => .bool (decide (i < k))
  | _ => .undef
def solve.D1.spec : Entry := entry [.i .i64, .i .i64] solve.D1.pre solve.D1.out
def Aa.of.Bt.own.pre : List Atom → Bool
  | [.i a, .i b] => Bs a && Bs b
  | _ => false
def Aa.of.Bt.own.out : List Atom → DV
  | [.i a, .i b] => .agg [.int .i64 a, .int .i64 b, .ints (.own 108002 37) .u64 (Cx (Int.toNat a) (Int.toNat b) (fun _ _ => 0))]
  | _ => .undef
def Aa.of.Bt.own.spec : Entry := entry [.i .i64, .i .i64, .fn 205 []] Aa.of.Bt.own.pre Aa.of.Bt.own.out
def Aa.Bt.own.pre : List Atom → Bool
  | [.i a, .i b] => Bs a && Bs b
  | _ => false
def Aa.Bt.own.out : List Atom → DV
  | [.i a, .i b] => .tup [.agg [.int .i64 a, .int .i64 b, .ints (.own 1136 37) .u64 (Cx (Int.toNat a) (Int.toNat b) (fun _ _ => 0))], .int .i64 (0 : Int)]
  | _ => .undef
def Aa.Bt.own.spec : Entry := entry [.i .i64, .i .i64] Aa.Bt.own.pre Aa.Bt.own.out
def solve.Au.Up.pre : List Atom → Bool
  | [.i r, .i c, .l l, .i p, .i q, .l m, .i n] => On r c l p q m && decide (n = r)
  | _ => false
def solve.Au.Up.out : List Atom → DV
  | [.i r, .i c, .l l, .i _p, .i q, .l m, .i _n] => .tup [.agg [.int .i64 ((Gj r q (upG c l q m (Int.toNat r) (Int.toNat q))).1), .int .i64 ((Gj r q (upG c l q m (Int.toNat r) (Int.toNat q))).2.1), .ints .fresh .u64 ((Gj r q (upG c l q m (Int.toNat r) (Int.toNat q))).2.2.1)], .int .i64 ((Gj r q (upG c l q m (Int.toNat r) (Int.toNat q))).2.2.2)]
  | _ => .undef
def solve.Au.Up.spec : Entry := entry [.st [.i .i64, .i .i64, .s .u64], .st [.i .i64, .i .i64, .s .u64], .fm 103 [.i .i64], .fn 104 []] solve.Au.Up.pre solve.Au.Up.out
def solve.G0.pre : List Atom → Bool
  | [.i _r, .i _c, .l l, .i _p, .i _q, .l m] => An l && An m
  | _ => false
def solve.G0.out : List Atom → DV
  | [.i r, .i c, .l l, .i p, .i q, .l m] => .tup [.agg [.int .i64 ((upX r c l p q m).1), .int .i64 ((upX r c l p q m).2.1), .ints .fresh .u64 ((upX r c l p q m).2.2.1)], .int .i64 ((upX r c l p q m).2.2.2)]
  | _ => .undef
def solve.G0.spec : Entry := entry [.st [.i .i64, .i .i64, .s .u64], .st [.i .i64, .i .i64, .s .u64]] solve.G0.pre solve.G0.out
def solve.Flat.pre : List Atom → Bool
  | [.i _r, .i _c, .l l] => An l
  | _ => false
def solve.Flat.out : List Atom → DV
  | [.i r, .i c, .l l] => .tup [.bool ((Dh r c l).1), .int .i64 ((Dh r c l).2)]
  | _ => .undef
def solve.Flat.spec : Entry := entry [.st [.i .i64, .i .i64, .s .u64]] solve.Flat.pre solve.Flat.out
def qr.Ez.pre : List Atom → Bool
  | [.i _r, .i _c, .l l, .i _p, .i _q, .l m] => An l && An m
  | _ => false
def qr.Ez.out : List Atom → DV
  | [.i r, .i c, .l l, .i p, .i q, .l m] => .tup [.agg [.int .i64 ((Dd r c l p q m).1), .int .i64 ((Dd r c l p q m).2.1), .ints .fresh .u64 ((Dd r c l p q m).2.2.1)], .int .i64 ((Dd r c l p q m).2.2.2)]
  | _ => .undef
def qr.Ez.spec : Entry := entry [.st [.i .i64, .i .i64, .s .u64], .st [.i .i64, .i .i64, .s .u64]] qr.Ez.pre qr.Ez.out
def Av.Div.pre : List Atom → Bool
  | [.i a, .i b] => Ah a && Ah b
  | _ => false
def Av.Div.out : List Atom → DV
  | [.i a, .i b] => .int .u64 (Et a b)
  | _ => .undef
def Av.Div.spec : Entry := entry [.i .u64, .i .u64] Av.Div.pre Av.Div.out
def Av.Finite.pre : List Atom → Bool
  | [.l x] => Di x
  | _ => false
def Av.Finite.out : List Atom → DV
  | [.l x] => .bool (Ev x)
  | _ => .undef
def Av.Finite.spec : Entry := entry [.s .u64] Av.Finite.pre Av.Finite.out
def F2.Check.pre : List Atom → Bool
  | [.i _r, .i _c, .l l] => An l
  | _ => false
def F2.Check.out : List Atom → DV
  | [.i r, .i c, .l l] => .int .i64 (Bu r c l)
  | _ => .undef
def F2.Check.spec : Entry := entry [.st [.i .i64, .i .i64, .s .u64]] F2.Check.pre F2.Check.out
def A6.Check.pre : List Atom → Bool
  | [.i _r, .i _c, .l l, .i _p, .i _q, .l m] => An l && An m
  | _ => false
def A6.Check.out : List Atom → DV
  | [.i r, .i c, .l l, .i p, .i q, .l m] => .int .i64 (Lw r c l p q m)
  | _ => .undef
def A6.Check.spec : Entry := entry [.st [.i .i64, .i .i64, .s .u64], .st [.i .i64, .i .i64, .s .u64]] A6.Check.pre A6.Check.out
def A6.finite.pre : List Atom → Bool
  | [.i r, .i c, .l l] => An l && Bn r c l
  | _ => false
def A6.finite.out : List Atom → DV
  | [.i r, .i c, .l l] => .tup [.agg [.int .i64 ((Gj r c l).1), .int .i64 ((Gj r c l).2.1), .ints .arg .u64 ((Gj r c l).2.2.1)], .int .i64 ((Gj r c l).2.2.2)]
  | _ => .undef
def A6.finite.spec : Entry := entry [.st [.i .i64, .i .i64, .s .u64]] A6.finite.pre A6.finite.out
def math.Gm.pre : List Atom → Bool
  | [.f _x] => true
  | _ => false
def math.Gm.out : List Atom → DV
  | [.f x] => .fl (Fz x)
  | _ => .undef
def math.Gm.spec : Entry := entry [.fl] math.Gm.pre math.Gm.out
def math.G4.pre : List Atom → Bool
  | [.f x] => Rp x
  | _ => false
def math.G4.out : List Atom → DV
  | [.f x] => .bool (decide (Ai x = 4))
  | _ => .undef
def math.G4.spec : Entry := entry [.fl] math.G4.pre math.G4.out
def math.G5.pre : List Atom → Bool
  | [.f x, .i s] => Rp x && decide (s = 0)
  | _ => false
def math.G5.out : List Atom → DV
  | [.f x, .i _s] => .bool (decide (Ai x = 3))
  | _ => .undef
def math.G5.spec : Entry := entry [.fl, .i .i64] math.G5.pre math.G5.out
def math.normalize.pre : List Atom → Bool
  | [.f x] => finP x
  | _ => false
def math.normalize.out : List Atom → DV
  | [.f x] => .tup [.fl (Kt x), .int .i64 (Hk x)]
  | _ => .undef
def math.normalize.spec : Entry := entry [.fl] math.normalize.pre math.normalize.out
def math.De.pre : List Atom → Bool
  | [.f x, .f y] => finP y && decide (x = 0)
  | _ => false
def math.De.out : List Atom → DV
  | [.f _x, .f y] => .fl (Be (Bi y) 0)
  | _ => .undef
def math.De.spec : Entry := entry [.fl, .fl] math.De.pre math.De.out
def math.Va.pre : List Atom → Bool
  | [.i _s] => true
  | _ => false
def math.Va.out : List Atom → DV
  | [.i s] => .fl (Be (decide (s < 0)) Dt)
  | _ => .undef
def math.Va.spec : Entry := entry [.i .i64] math.Va.pre math.Va.out
def math.F5.pre : List Atom → Bool
  | [.f x, .i k] => Rp x && C2 (-2300 ≤ k ∧ k ≤ 2300)
  | _ => false
def math.F5.out : List Atom → DV
  | [.f x, .i k] => .fl (Hb x k)
  | _ => .undef
def math.F5.spec : Entry := entry [.fl, .i .i64] math.F5.pre math.F5.out
def math.Hh.pre : List Atom → Bool
  | [.f x, .i k] => Rp x && C2 (-2300 ≤ k ∧ k ≤ 2300)
  | _ => false
def math.Hh.out : List Atom → DV
  | [.f x, .i k] => .fl (Hb x k)
  | _ => .undef
def math.Hh.spec : Entry := entry [.fl, .i .i64] math.Hh.pre math.Hh.out
def Av.Bj.pre : List Atom → Bool
  | [.i a, .i k] => Dp a k
  | _ => false
def Av.Bj.out : List Atom → DV
  | [.i a, .i k] => .int .u64 (B3 a k)
  | _ => .undef
def Av.Bj.spec : Entry := entry [.i .u64, .i .i64] Av.Bj.pre Av.Bj.out
def Bw.ends.pre : List Atom → Bool
  | [.i b] => Ah b
  | _ => false
def Bw.ends.out : List Atom → DV
  | [.i b] => .int .i64 (Pe b)
  | _ => .undef
def Bw.ends.spec : Entry := entry [.i .u64] Bw.ends.pre Bw.ends.out
def Bw.Order.pre : List Atom → Bool
  | [.i a, .i b] => Ah a && Ah b
  | _ => false
def Bw.Order.out : List Atom → DV
  | [.i a, .i b] => .tup [.int .i64 (Q9 a b), .bool (X0 a b)]
  | _ => .undef
def Bw.Order.spec : Entry := entry [.i .u64, .i .u64] Bw.Order.pre Bw.Order.out
def Bw.Gm.pre : List Atom → Bool
  | [.i a] => Ah a
  | _ => false
def Bw.Gm.out : List Atom → DV
  | [.i a] => .int .u64 (Ix a)
  | _ => .undef
def Bw.Gm.spec : Entry := entry [.i .u64] Bw.Gm.pre Bw.Gm.out
def Bw.Max.pre : List Atom → Bool
  | [.i a, .i b] => Ah a && Ah b
  | _ => false
def Bw.Max.out : List Atom → DV
  | [.i a, .i b] => .int .u64 (Og a b)
  | _ => .undef
def Bw.Max.spec : Entry := entry [.i .u64, .i .u64] Bw.Max.pre Bw.Max.out
def Cq.Cp.down.pre : List Atom → Bool
  | [.i _n, .i _k] => true
  | _ => false
def Cq.Cp.down.out : List Atom → DV
  | [.i _n, .i k] => .int .i64 k
  | _ => .undef
def Cq.Cp.down.spec : Entry := entry [.i .i64, .i .i64] Cq.Cp.down.pre Cq.Cp.down.out
def solve.D2.pre : List Atom → Bool
  | [.i _i, .i _k] => true
  | _ => false
def solve.D2.out : List Atom → DV
  | [.i i, .i k] => .bool (decide (k < i))
  | _ => .undef
def solve.D2.spec : Entry := entry [.i .i64, .i .i64] solve.D2.pre solve.D2.out
def solve.Au.Lo.pre : List Atom → Bool
  | [.i r, .i c, .l l, .i p, .i q, .l m, .i n] => On r c l p q m && decide (n = r)
  | _ => false
def solve.Au.Lo.out : List Atom → DV
  | [.i r, .i c, .l l, .i _p, .i q, .l m, .i _n] => .tup [.agg [.int .i64 ((Gj r q (loG c l q m (Int.toNat r) (Int.toNat q))).1), .int .i64 ((Gj r q (loG c l q m (Int.toNat r) (Int.toNat q))).2.1), .ints .fresh .u64 ((Gj r q (loG c l q m (Int.toNat r) (Int.toNat q))).2.2.1)], .int .i64 ((Gj r q (loG c l q m (Int.toNat r) (Int.toNat q))).2.2.2)]
  | _ => .undef
def solve.Au.Lo.spec : Entry := entry [.st [.i .i64, .i .i64, .s .u64], .st [.i .i64, .i .i64, .s .u64], .fm 77 [.i .i64], .fn 78 []] solve.Au.Lo.pre solve.Au.Lo.out
def solve.B8.pre : List Atom → Bool
  | [.i _r, .i _c, .l l, .i _p, .i _q, .l m] => An l && An m
  | _ => false
def solve.B8.out : List Atom → DV
  | [.i r, .i c, .l l, .i p, .i q, .l m] => .tup [.agg [.int .i64 ((Mr r c l p q m).1), .int .i64 ((Mr r c l p q m).2.1), .ints .fresh .u64 ((Mr r c l p q m).2.2.1)], .int .i64 ((Mr r c l p q m).2.2.2)]
  | _ => .undef
def solve.B8.spec : Entry := entry [.st [.i .i64, .i .i64, .s .u64], .st [.i .i64, .i .i64, .s .u64]] solve.B8.pre solve.B8.out
def A6.B8.pre : List Atom → Bool
  | [.i _r, .i _c, .l l, .i _p, .i _q, .l m] => An l && An m
  | _ => false
def A6.B8.out : List Atom → DV
  | [.i r, .i c, .l l, .i p, .i q, .l m] => .tup [.agg [.int .i64 ((Mr r c l p q m).1), .int .i64 ((Mr r c l p q m).2.1), .ints .arg .u64 ((Mr r c l p q m).2.2.1)], .int .i64 ((Mr r c l p q m).2.2.2)]
  | _ => .undef
def A6.B8.spec : Entry := entry [.st [.i .i64, .i .i64, .s .u64], .st [.i .i64, .i .i64, .s .u64]] A6.B8.pre A6.B8.out
def A6.Flat.pre : List Atom → Bool
  | [.i r, .i c, .l l] => (Bn r c l && An l) && Ev l
  | _ => false
def A6.Flat.out : List Atom → DV
  | [.i r, .i c, .l l] => .bool (Pc r c l)
  | _ => .undef
def A6.Flat.spec : Entry := entry [.st [.i .i64, .i .i64, .s .u64]] A6.Flat.pre A6.Flat.out
def root.Fm.pre : List Atom → Bool
  | [.i m] => C2 (0 ≤ m ∧ m < 9223372036854775808)
  | _ => false
def root.Fm.out : List Atom → DV
  | [.i m] => .tup [.int .u64 (Sn m), .bool (So m)]
  | _ => .undef
def root.Fm.spec : Entry := entry [.i .u64] root.Fm.pre root.Fm.out
def root.Sqrt.pre : List Atom → Bool
  | [.i a] => Ah a
  | _ => false
def root.Sqrt.out : List Atom → DV
  | [.i a] => .tup [.int .u64 (Hp a), .int .u8 (Oq a)]
  | _ => .undef
def root.Sqrt.spec : Entry := entry [.i .u64] root.Sqrt.pre root.Sqrt.out
def Ae.Sqrt.pre : List Atom → Bool
  | [.i a] => Ah a
  | _ => false
def Ae.Sqrt.out : List Atom → DV
  | [.i a] => .int .u64 (Hp a)
  | _ => .undef
def Ae.Sqrt.spec : Entry := entry [.i .u64] Ae.Sqrt.pre Ae.Sqrt.out
def compare.Um.pre : List Atom → Bool
  | [.i a] => Ah a
  | _ => false
def compare.Um.out : List Atom → DV
  | [.i a] => .int .i64 (B4 a)
  | _ => .undef
def compare.Um.spec : Entry := entry [.i .u64] compare.Um.pre compare.Um.out
def Ae.Norm.pre : List Atom → Bool
  | [.l x] => Di x && C2 (List.length x ≤ 64)
  | _ => false
def Ae.Norm.out : List Atom → DV
  | [.l x] => .tup [.int .u64 (Ej x), .int .i64 (0 : Int)]
  | _ => .undef
def Ae.Norm.spec : Entry := entry [.s .u64] Ae.Norm.pre Ae.Norm.out
def Ao.Cr.pre : List Atom → Bool
  | [.l x] => Di x
  | _ => false
def Ao.Cr.out : List Atom → DV
  | [.l x] => .bool (Jz x)
  | _ => .undef
def Ao.Cr.spec : Entry := entry [.s .u64] Ao.Cr.pre Ao.Cr.out
def Ao.lead.pre : List Atom → Bool
  | [.l x] => Di x
  | _ => false
def Ao.lead.out : List Atom → DV
  | [.l x] => .int .u64 (Qw x)
  | _ => .undef
def Ao.lead.spec : Entry := entry [.s .u64] Ao.lead.pre Ao.lead.out
def Ao.Cu.pre : List Atom → Bool
  | [.l x, .i k] => Di x && C2 (List.length x ≤ 1000 ∧ -2300 ≤ k ∧ k ≤ 2300)
  | _ => false
def Ao.Cu.out : List Atom → DV
  | [.l x, .i k] => .ints .fresh .u64 (Bm x k)
  | _ => .undef
def Ao.Cu.spec : Entry := entry [.s .u64, .i .i64] Ao.Cu.pre Ao.Cu.out
def Ao.E4.pre : List Atom → Bool
  | [.i _i] => true
  | _ => false
def Ao.E4.out : List Atom → DV
  | [.i _i] => .int .u64 (0 : Int)
  | _ => .undef
def Ao.E4.spec : Entry := entry [.i .i64] Ao.E4.pre Ao.E4.out
def Ao.E3.pre : List Atom → Bool
  | [.i i, .l y, .i d] => (C2 (0 ≤ i ∧ i < List.length y) && An y) && Ah d
  | _ => false
def Ao.E3.out : List Atom → DV
  | [.i i, .l y, .i d] => .int .u64 (Et (List.getD y (Int.toNat i) 0) d)
  | _ => .undef
def Ao.E3.spec : Entry := entry [.i .i64, .cp [.s .u64], .cp [.i .u64]] Ao.E3.pre Ao.E3.out
def Ao.row.Zero.pre : List Atom → Bool
  | [.i n] => C2 (1 ≤ n ∧ n ≤ 64)
  | _ => false
def Ao.row.Zero.out : List Atom → DV
  | [.i n] => .ints .fresh .u64 (Jd (Int.toNat n) (fun _ => 0))
  | _ => .undef
def Ao.row.Zero.spec : Entry := entry [.i .i64, .fn 254 []] Ao.row.Zero.pre Ao.row.Zero.out
def Ao.row.Div.pre : List Atom → Bool
  | [.i n, .l y, .i d] => (C2 (1 ≤ n ∧ n ≤ 64 ∧ n = List.length y) && An y) && Ah d
  | _ => false
def Ao.row.Div.out : List Atom → DV
  | [.i n, .l y, .i d] => .ints .fresh .u64 (Jd (Int.toNat n) (fun j => Et (List.getD y j 0) d))
  | _ => .undef
def Ao.row.Div.spec : Entry := entry [.i .i64, .fn 259 [.cp [.s .u64], .cp [.i .u64]]] Ao.row.Div.pre Ao.row.Div.out
def Ao.Jn.pre : List Atom → Bool
  | [.l x] => Di x
  | _ => false
def Ao.Jn.out : List Atom → DV
  | [.l x] => .tup [.ints .fresh .u64 ((Cb x).1), .int .u64 ((Cb x).2.1), .int .u64 ((Cb x).2.2.1), .int .i64 ((Cb x).2.2.2)]
  | _ => .undef
def Ao.Jn.spec : Entry := entry [.s .u64] Ao.Jn.pre Ao.Jn.out
def Ao.Apply.pre : List Atom → Bool
  | [.i r, .i c, .l l, .i i, .i k, .l v, .i t] => ((Bn r c l && Mn r c i k v) && (An l && An v)) && Ah t
  | _ => false
def Ao.Apply.out : List Atom → DV
  | [.i r, .i c, .l l, .i i, .i k, .l v, .i t] => .tup [.agg [.int .i64 r, .int .i64 c, .ints (.own 114002 37) .u64 (Fy (Int.toNat r) (Int.toNat c) l i k v t)], .int .i64 (0 : Int)]
  | _ => .undef
def Ao.Apply.spec : Entry := entry [.st [.i .i64, .i .i64, .s .u64], .i .i64, .i .i64, .s .u64, .i .u64] Ao.Apply.pre Ao.Apply.out
def qr.down.pre : List Atom → Bool
  | [.i r, .i c, .l l] => (Bn r c l && Ev l) && An l
  | _ => false
def qr.down.out : List Atom → DV
  | [.i r, .i c, .l l] => .tup [.agg [.int .i64 ((E9 r c l).1), .int .i64 ((E9 r c l).2.1), .ints .arg .u64 ((E9 r c l).2.2.1)], .recs .fresh 2 (Jj r c l), .int .i64 ((E9 r c l).2.2.2)]
  | _ => .undef
def qr.down.spec : Entry := entry [.st [.i .i64, .i .i64, .s .u64]] qr.down.pre qr.down.out
def qr.Dc.pre : List Atom → Bool
  | [.i _r, .i _c, .l l] => An l
  | _ => false
def qr.Dc.out : List Atom → DV
  | [.i r, .i c, .l l] => .tup [.agg [.int .i64 ((qX r c l).1), .int .i64 ((qX r c l).2.1), .ints .arg .u64 ((qX r c l).2.2.1)], .agg [.int .i64 ((rX r c l).1), .int .i64 ((rX r c l).2.1), .ints .arg .u64 ((rX r c l).2.2.1)], .int .i64 (Gr r c l)]
  | _ => .undef
def qr.Dc.spec : Entry := entry [.st [.i .i64, .i .i64, .s .u64]] qr.Dc.pre qr.Dc.out
def qr.K0.pre : List Atom → Bool
  | [.i _r, .i _c, .l l] => An l
  | _ => false
def qr.K0.out : List Atom → DV
  | [.i r, .i c, .l l] => .tup [.agg [.int .i64 ((Hx r c l).1), .int .i64 ((Hx r c l).2.1), .ints .fresh .u64 ((Hx r c l).2.2.1)], .agg [.int .i64 ((Mw r c l).1), .int .i64 ((Mw r c l).2.1), .ints .fresh .u64 ((Mw r c l).2.2.1)], .int .i64 (Gr r c l)]
  | _ => .undef
def qr.K0.spec : Entry := entry [.st [.i .i64, .i .i64, .s .u64]] qr.K0.pre qr.K0.out
def solve.Gl.pre : List Atom → Bool
  | [.i _r, .i _c, .l l, .i _p, .i _q, .l m] => An l && An m
  | _ => false
def solve.Gl.out : List Atom → DV
  | [.i r, .i c, .l l, .i p, .i q, .l m] => .tup [.agg [.int .i64 ((Dr r c l p q m).1), .int .i64 ((Dr r c l p q m).2.1), .ints .fresh .u64 ((Dr r c l p q m).2.2.1)], .int .i64 ((Dr r c l p q m).2.2.2)]
  | _ => .undef
def solve.Gl.spec : Entry := entry [.st [.i .i64, .i .i64, .s .u64], .st [.i .i64, .i .i64, .s .u64]] solve.Gl.pre solve.Gl.out
def Cc.Cj.pre : List Atom → Bool
  | [.i _r, .i _c, .l l, .i _p, .i _q, .l m] => An l && An m
  | _ => false
def Cc.Cj.out : List Atom → DV
  | [.i _r, .i _c, .l _l, .i _p, .i _q, .l _m] => .bool true
  | _ => .undef
def Cc.Cj.spec : Entry := entry [.st [.i .i64, .i .i64, .s .u64], .st [.i .i64, .i .i64, .s .u64]] Cc.Cj.pre Cc.Cj.out
def Cc.same.pre : List Atom → Bool
  | [.i _r, .i _c, .l l, .i _e, .i _p, .i _q, .l _m, .i _f] => Ob l
  | _ => false
def Cc.same.out : List Atom → DV
  | [.i r, .i c, .l l, .i e, .i p, .i q, .l m, .i f] => .bool (decide (e = f) && Ot r c l p q m)
  | _ => .undef
def Cc.same.spec : Entry := entry [.st [.i .i64, .i .i64, .s .u64], .i .i64, .st [.i .i64, .i .i64, .s .u64], .i .i64] Cc.same.pre Cc.same.out
def Cc.Gz.pre : List Atom → Bool
  | [] => true
  | _ => false
def Cc.Gz.out : List Atom → DV
  | [] => .bool true
  | _ => .undef
def Cc.Gz.spec : Entry := entry [] Cc.Gz.pre Cc.Gz.out
def D6.Canon.nb.pre : List Atom → Bool
  | [.f _x] => true
  | _ => false
def D6.Canon.nb.out : List Atom → DV
  | [.f x] => .int .u64 (Gx x)
  | _ => .undef
def D6.Canon.nb.spec : Entry := entry [.nb] D6.Canon.nb.pre D6.Canon.nb.out
def Ce.J9.pre : List Atom → Bool
  | [.i x] => Ah x
  | _ => false
def Ce.J9.out : List Atom → DV
  | [.i x] => .int .i64 (Eb x)
  | _ => .undef
def Ce.J9.spec : Entry := entry [.i .u64] Ce.J9.pre Ce.J9.out
end Go.Proofs.S1
namespace Go.Proofs.S1
open Go Go.Den Go.Rnd Go.Proofs
set_option linter.unusedVariables false
set_option maxRecDepth 100000
namespace EqSoft
theorem Eu : ∀ a b c : Bool, ((a == a) && (b && (c && true))) = (b && c) := by decide
theorem I7 : ∀ a b : Bool, (bif a then b else false) = (a && b) := by decide
theorem H8 : ∀ a : Bool, (((!a) || (a == true)) && true) = true := by decide
theorem Hr : ∀ a : Bool, ((!(a == true)) || ((((!(a == true)) || (a == true)) && true) && true)) = true := by decide
theorem Ge : ∀ a : Bool, ((!(a == true)) || true) = true := by decide
theorem Kb : ∀ a b : Bool, (bif a then true else b) = (a || b) := by decide
theorem Lu : ∀ a : Bool, ((!(!a)) || (a == false)) = true := by decide
theorem Ld : ∀ a : Bool, ((!(a == false)) || ((((!(a == false)) || (a == false)) && true) && true)) = true := by decide
theorem Qk : ∀ a : Bool, ((!(a == false)) || ((((!(a == false)) || (a == false)) && (((!(a == false)) || (a == false)) && true)) && true)) = true := by decide
theorem Ru : ∀ a : Bool, ((!(a == false)) || true) = true := by decide
theorem Ho : ∀ a : Bool, (a && true) = a := by decide
theorem Ip : ∀ a b c d e : Bool, (bif a then (bif b then true else (bif c then (bif d then true else e) else false)) else false) = (a && (b || (c && (d || e)))) := by decide
theorem I8 : ∀ a b : Bool, ((!(a == true)) || (((!(a == true)) || (a == true)) && ((!(!b)) || ((a == true) && (b == false))))) = true := by decide
theorem Kl : ∀ a b c : Bool, ((!((a == true) && (b == false))) || (((!((a == true) && (b == false))) || ((a == true) && (b == false))) && (((!c) || (((a == true) && (b == false)) && (c == true))) && true))) = true := by decide
theorem Mv : ∀ a b c d : Bool, ((!(((a == true) && (b == false)) && (c == true))) || (((!(((a == true) && (b == false)) && (c == true))) || (((a == true) && (b == false)) && (c == true))) && ((!(!d)) || ((((a == true) && (b == false)) && (c == true)) && (d == false))))) = true := by decide
theorem Mu : ∀ a b c d : Bool, ((!((((a == true) && (b == false)) && (c == true)) && (d == false))) || ((((!((((a == true) && (b == false)) && (c == true)) && (d == false))) || ((((a == true) && (b == false)) && (c == true)) && (d == false))) && true) && true)) = true := by decide
theorem Rv : ∀ a b c d : Bool, ((!((((a == true) && (b == false)) && (c == true)) && (d == false))) || true) = true := by decide
theorem tt17 : ∀ a b c : Bool, ((!(((a == true) && (b == false)) && (c == true))) || ((((!(((a == true) && (b == false)) && (c == true))) || (((a == true) && (b == false)) && (c == true))) && true) && true)) = true := by decide
theorem tt18 : ∀ a b c : Bool, ((!(((a == true) && (b == false)) && (c == true))) || true) = true := by decide
theorem tt19 : ∀ a b : Bool, ((!((a == true) && (b == false))) || ((((!((a == true) && (b == false))) || ((a == true) && (b == false))) && true) && true)) = true := by decide
theorem tt20 : ∀ a b : Bool, ((!((a == true) && (b == false))) || ((((!((a == true) && (b == false))) || ((a == true) && (b == false))) && (((!((a == true) && (b == false))) || ((a == true) && (b == false))) && true)) && true)) = true := by decide
theorem tt21 : ∀ a b : Bool, ((!((a == true) && (b == false))) || true) = true := by decide
theorem tt22 : ∀ a : Bool, ((!(a == true)) || ((((!(a == true)) || (a == true)) && (((!(a == true)) || (a == true)) && true)) && true)) = true := by decide
theorem tt23 : ∀ a b : Bool, (bif (!a) then true else b) = ((!a) || b) := by decide
theorem tt24 : ∀ a : Bool, ((!(!(!a))) || ((!a) == false)) = true := by decide
theorem tt25 : ∀ a : Bool, ((!((!a) == false)) || ((((!((!a) == false)) || ((!a) == false)) && true) && true)) = true := by decide
theorem tt26 : ∀ a : Bool, ((!((!a) == false)) || true) = true := by decide
theorem tt27 : ∀ a b : Bool, (bif a then (!b) else false) = (a && (!b)) := by decide
def soft.Split.A9 : List (Nat × Entry) := []
def soft.Split.E : Env := Bb (A8 soft.Split.A9) (fun _ => false) (fun _ => none) (fun _ => none)
theorem soft.Split.ev (N : Nat) (x : Int) : A1 soft.Split.E N Tryz.f206 (Ad Tryz.f206) [.int .u64 x] =
  some (.agg [.bool ((Ct .u64 x (63 : Int)) == (1 : Int)), .int .i64 (Ab (D3 .u64 (Ct .u64 x (52 : Int)) (2047 : Int))), .int .u64 (D3 .u64 x (4503599627370495 : Int))]) := by kernel_rfl
theorem soft.Split.Ac (hk : A0 Tryz.prog soft.Split.A9) (h : ∀ (x : Int), soft.Split.pre [.i x] = true → ∃ N dv drops, A1 soft.Split.E N Tryz.f206 (Ad Tryz.f206) [.int .u64 x] = some dv ∧ Wk drops dv (soft.Split.out [.i x])) : Am Tryz.prog 206 soft.Split.spec :=
  Aj (A2 hk _ _ _) Tryz.func206 (by kernel_rfl) (by kernel_rfl) h
abbrev _root_.Go.Proofs.S1.soft.Split.Kn : Prop := Am Tryz.prog 206 soft.Split.spec
def soft.Kind.A9 : List (Nat × Entry) := [(206, soft.Split.spec)]
def soft.Kind.E : Env := Bb (A8 soft.Kind.A9) (fun _ => false) (fun _ => none) (fun _ => none)
theorem soft.Kind.ev (N : Nat) (x : Int) : A1 soft.Kind.E N Tryz.f155 (Ad Tryz.f155) [.int .u64 x] =
  bif (Ah x) then
  bif (((Kc x) == (2047 : Int)) && ((Cf x) == (0 : Int))) then
  some (.int .i64 3)
  else bif ((Kc x) == (2047 : Int)) then
  some (.int .i64 4)
  else bif (A5 (0 : Int) (Kc x)) then
  some (.int .i64 2)
  else bif (A5 (0 : Int) (Cf x)) then
  some (.int .i64 1)
  else some (.int .i64 0)
  else none :=
  Eq.trans (by kernel_rfl)
  (Fb (C1 (Eu (C6 x) ((Kc x) == (2047 : Int)) ((Cf x) == (0 : Int))) rfl rfl) rfl)
theorem soft.Kind.Ac (hk : A0 Tryz.prog soft.Kind.A9) (h : ∀ (x : Int), soft.Kind.pre [.i x] = true → ∃ N dv drops, A1 soft.Kind.E N Tryz.f155 (Ad Tryz.f155) [.int .u64 x] = some dv ∧ Wk drops dv (soft.Kind.out [.i x])) : Am Tryz.prog 155 soft.Kind.spec :=
  Aj (A2 hk _ _ _) Tryz.func155 (by kernel_rfl) (by kernel_rfl) h
abbrev _root_.Go.Proofs.S1.soft.Kind.Kn : Prop := Am Tryz.prog 155 soft.Kind.spec
def soft.Sign.A9 : List (Nat × Entry) := []
def soft.Sign.E : Env := Bb (A8 soft.Sign.A9) (fun _ => false) (fun _ => none) (fun _ => none)
theorem soft.Sign.ev (N : Nat) (x : Int) : A1 soft.Sign.E N Tryz.f213 (Ad Tryz.f213) [.int .u64 x] =
  some (.bool ((Ct .u64 x (63 : Int)) == (1 : Int))) := by kernel_rfl
theorem soft.Sign.Ac (hk : A0 Tryz.prog soft.Sign.A9) (h : ∀ (x : Int), soft.Sign.pre [.i x] = true → ∃ N dv drops, A1 soft.Sign.E N Tryz.f213 (Ad Tryz.f213) [.int .u64 x] = some dv ∧ Wk drops dv (soft.Sign.out [.i x])) : Am Tryz.prog 213 soft.Sign.spec :=
  Aj (A2 hk _ _ _) Tryz.func213 (by kernel_rfl) (by kernel_rfl) h
abbrev _root_.Go.Proofs.S1.soft.Sign.Kn : Prop := Am Tryz.prog 213 soft.Sign.spec
def soft.Finite.A9 : List (Nat × Entry) := [(155, soft.Kind.spec)]
def soft.Finite.E : Env := Bb (A8 soft.Finite.A9) (fun _ => false) (fun _ => none) (fun _ => none)
theorem soft.Finite.ev (N : Nat) (x : Int) : A1 soft.Finite.E N Tryz.f148 (Ad Tryz.f148) [.int .u64 x] =
  bif (Ah x) then
  bif ((A7 x) == (3 : Int)) then
  some (.bool false)
  else bif ((A7 x) == (4 : Int)) then
  some (.bool false)
  else some (.bool true)
  else none := by kernel_rfl
theorem soft.Finite.Ac (hk : A0 Tryz.prog soft.Finite.A9) (h : ∀ (x : Int), soft.Finite.pre [.i x] = true → ∃ N dv drops, A1 soft.Finite.E N Tryz.f148 (Ad Tryz.f148) [.int .u64 x] = some dv ∧ Wk drops dv (soft.Finite.out [.i x])) : Am Tryz.prog 148 soft.Finite.spec :=
  Aj (A2 hk _ _ _) Tryz.func148 (by kernel_rfl) (by kernel_rfl) h
abbrev _root_.Go.Proofs.S1.soft.Finite.Kn : Prop := Am Tryz.prog 148 soft.Finite.spec
def soft.Cy.A9 : List (Nat × Entry) := []
def soft.Cy.E : Env := Bb (A8 soft.Cy.A9) (fun _ => false) (fun _ => none) (fun _ => none)
theorem soft.Cy.ev (N : Nat) (x : Int) : A1 soft.Cy.E N Tryz.f233 (Ad Tryz.f233) [.int .u64 x] =
  some (.int .u64 (bXor .u64 x (9223372036854775808 : Int))) := by kernel_rfl
theorem soft.Cy.Ac (hk : A0 Tryz.prog soft.Cy.A9) (h : ∀ (x : Int), soft.Cy.pre [.i x] = true → ∃ N dv drops, A1 soft.Cy.E N Tryz.f233 (Ad Tryz.f233) [.int .u64 x] = some dv ∧ Wk drops dv (soft.Cy.out [.i x])) : Am Tryz.prog 233 soft.Cy.spec :=
  Aj (A2 hk _ _ _) Tryz.func233 (by kernel_rfl) (by kernel_rfl) h
abbrev _root_.Go.Proofs.S1.soft.Cy.Kn : Prop := Am Tryz.prog 233 soft.Cy.spec
def soft.Fa.A9 : List (Nat × Entry) := [(206, soft.Split.spec)]
def soft.Fa.E : Env := Bb (A8 soft.Fa.A9) (fun _ => false) (fun _ => none) (fun _ => none)
theorem soft.Fa.ev (N : Nat) (x : Int) : A1 soft.Fa.E N Tryz.f211 (Ad Tryz.f211) [.int .u64 x] =
  bif (Ah x) then
  bif ((Kc x) == (0 : Int)) then
  some (.tup [.int .u64 (Cf x), .int .i64 (-1074 : Int)])
  else some (.tup [.int .u64 (Gy .u64 (Cf x) (4503599627370496 : Int)), .int .i64 (Ab ((Kc x) - (1075 : Int)))])
  else none := by kernel_rfl
theorem soft.Fa.Ac (hk : A0 Tryz.prog soft.Fa.A9) (h : ∀ (x : Int), soft.Fa.pre [.i x] = true → ∃ N dv drops, A1 soft.Fa.E N Tryz.f211 (Ad Tryz.f211) [.int .u64 x] = some dv ∧ Wk drops dv (soft.Fa.out [.i x])) : Am Tryz.prog 211 soft.Fa.spec :=
  Aj (A2 hk _ _ _) Tryz.func211 (by kernel_rfl) (by kernel_rfl) h
abbrev _root_.Go.Proofs.S1.soft.Fa.Kn : Prop := Am Tryz.prog 211 soft.Fa.spec
def soft.Pack.A9 : List (Nat × Entry) := [(233, soft.Cy.spec)]
def soft.Pack.E (rk : Nat) : Env := Bb (A8 ((239, recN [.b, .i .u64, .i .i64] soft.Pack.pre soft.Pack.out soft.Pack.mu rk) :: soft.Pack.A9)) (fun _ => false) (fun _ => none) (fun _ => none)
theorem soft.Pack.ev (N rk : Nat) (n : Bool) (m e : Int) : A1 (soft.Pack.E rk) N Tryz.f239 (Ad Tryz.f239) [.bool n, .int .u64 m, .int .i64 e] =
  bif (m == (0 : Int)) then
  bif n then
  bif (Ah (0 : Int)) then
  some (.int .u64 (C0 (0 : Int)))
  else none
  else some (.int .u64 0)
  else bif (Ds (9007199254740992 : Int) m) then
  bif ((Jq (Ct .u64 m (1 : Int)) (Ab (e + (1 : Int)))) && (C2 ((Nr (Ct .u64 m (1 : Int)) (Ab (e + (1 : Int)))) < rk))) then
  some (.int .u64 (Sc n (Ct .u64 m (1 : Int)) (Ab (e + (1 : Int)))))
  else none
  else bif ((A5 m (4503599627370496 : Int)) && (A5 (-1074 : Int) e)) then
  bif ((Jq (Bp .u64 m (1 : Int)) (Ab (e - (1 : Int)))) && (C2 ((Nr (Bp .u64 m (1 : Int)) (Ab (e - (1 : Int)))) < rk))) then
  some (.int .u64 (Sc n (Bp .u64 m (1 : Int)) (Ab (e - (1 : Int)))))
  else none
  else bif (A5 m (4503599627370496 : Int)) then
  bif n then
  bif (Ah m) then
  some (.int .u64 (C0 m))
  else none
  else some (.int .u64 m)
  else bif (Ds (2047 : Int) (Ab (e + (1075 : Int)))) then
  bif n then
  bif (Ah (9218868437227405312 : Int)) then
  some (.int .u64 (C0 (9218868437227405312 : Int)))
  else none
  else some (.int .u64 9218868437227405312)
  else bif n then
  bif (Ah (Gy .u64 (Bp .u64 (Bd (Ab (e + (1075 : Int)))) (52 : Int)) (D3 .u64 m (4503599627370495 : Int)))) then
  some (.int .u64 (C0 (Gy .u64 (Bp .u64 (Bd (Ab (e + (1075 : Int)))) (52 : Int)) (D3 .u64 m (4503599627370495 : Int)))))
  else none
  else some (.int .u64 (Gy .u64 (Bp .u64 (Bd (Ab (e + (1075 : Int)))) (52 : Int)) (D3 .u64 m (4503599627370495 : Int)))) :=
  Eq.trans (by kernel_rfl)
  (Fb rfl (Fb rfl (Ax (Ge (A5 m (4503599627370496 : Int))) (Ax (Hr (A5 m (4503599627370496 : Int))) (Ax (H8 (A5 m (4503599627370496 : Int))) (C1 (I7 (A5 m (4503599627370496 : Int)) (A5 (-1074 : Int) e)) rfl rfl))))))
theorem soft.Pack.Ac (hk : A0 Tryz.prog soft.Pack.A9) (h : ∀ (rk : Nat) (n : Bool) (m e : Int), soft.Pack.pre [.b n, .i m, .i e] = true → soft.Pack.mu [.b n, .i m, .i e] < rk + 1 → ∃ N dv drops, A1 (soft.Pack.E rk) N Tryz.f239 (Ad Tryz.f239) [.bool n, .int .u64 m, .int .i64 e] = some dv ∧ Wk drops dv (soft.Pack.out [.b n, .i m, .i e])) : Am Tryz.prog 239 soft.Pack.spec := by
  have call := Rn (f := 239) Tryz.func239 (by kernel_rfl) (show Tryz.f239.body = some (Ad Tryz.f239) by kernel_rfl)
  refine ⟨meets_recN (E := soft.Pack.E) Tryz.func239 (show Tryz.f239.body = some (Ad Tryz.f239) by kernel_rfl) soft.Pack.mu (fun rk hm => A2 (.cons ⟨hm, call⟩ hk) _ _ _) fun rk ats dvs he hp hr => ?_, call⟩
  obtain ⟨n, _, _, rfl, rfl, he0⟩ := he.b_inv
  obtain ⟨m, _, _, rfl, rfl, he1⟩ := he0.i_inv
  obtain ⟨e, _, _, rfl, rfl, he2⟩ := he1.i_inv
  obtain ⟨rfl, rfl⟩ := he2.Zn
  exact h rk n m e hp hr
abbrev _root_.Go.Proofs.S1.soft.Pack.Kn : Prop := Am Tryz.prog 239 soft.Pack.spec
def soft.Cs.hint : Nat → Option Bf
  | 0 => some { keep := [0, 1, 2, 3, 10], objs := [], boxes := [] }
  | _ => none
def soft.Cs.A9 : List (Nat × Entry) := [(155, soft.Kind.spec), (239, soft.Pack.spec)]
def soft.Cs.live : Nat → Option (List Nat)
  | 7 => some [0, 1, 2, 3, 10]
  | 12 => some [0, 2, 3, 10, 11, 12, 13, 14]
  | 14 => some [0, 2, 10, 11, 14]
  | 16 => some [0, 2, 10, 11, 14]
  | 18 => some [14, 15, 16]
  | _ => none
def soft.Cs.E : Env := Bb (A8 soft.Cs.A9) (fun _ => false) soft.Cs.hint soft.Cs.live
def soft.Cs.L0 (N M : Nat) (n : Bool) (m e : Int) (r : Bool) (p10 : Int) : Option DV := B6 soft.Cs.E N Tryz.f212 (Ad Tryz.f212) [1, 1, 1, 0, 0] [] M ⟨Hq 111 [(0, .bool n), (1, .int .u64 m), (2, .int .i64 e), (3, .bool r), (10, .int .i64 p10)], []⟩
def soft.Cs.C7 (N : Nat) (n : Bool) (m e : Int) (r : Bool) (p10_1 : Int) : Option DV := cutAt soft.Cs.E N Tryz.f212 (Ad Tryz.f212) [1, 1, 1, 1] [] ⟨Hq 111 [(0, .bool n), (1, .int .u64 m), (2, .int .i64 e), (3, .bool r), (10, .int .i64 p10_1)], []⟩
def soft.Cs.C12 (N : Nat) (n : Bool) (e : Int) (r : Bool) (p10_2 p11_1 : Int) (p12 p13 : Int) (p14 : Bool) : Option DV := cutAt soft.Cs.E N Tryz.f212 (Ad Tryz.f212) [1, 1, 1, 1, 1, 1, 1, 1, 0] [] ⟨Hq 111 [(0, .bool n), (2, .int .i64 e), (3, .bool r), (10, .int .i64 p10_2), (11, .int .u64 p11_1), (12, .int .u64 p12), (13, .int .u64 p13), (14, .bool p14)], []⟩
def soft.Cs.C14 (N : Nat) (n : Bool) (e p10_3 p11_2 : Int) (p14_1 : Bool) : Option DV := cutAt soft.Cs.E N Tryz.f212 (Ad Tryz.f212) [1, 1, 1, 1, 1, 1, 1, 1, 1, 0] [] ⟨Hq 111 [(0, .bool n), (2, .int .i64 e), (10, .int .i64 p10_3), (11, .int .u64 p11_2), (14, .bool p14_1)], []⟩
def soft.Cs.C16 (N : Nat) (n : Bool) (e p11 p10_4 : Int) (p14_2 : Bool) : Option DV := cutAt soft.Cs.E N Tryz.f212 (Ad Tryz.f212) [1, 1, 1, 1, 1, 1, 1, 1, 1, 1] [] ⟨Hq 111 [(0, .bool n), (2, .int .i64 e), (10, .int .i64 p10_4), (11, .int .u64 p11), (14, .bool p14_2)], []⟩
def soft.Cs.C18 (N : Nat) (p14_3 : Bool) (p15 : Int) : Option DV := cutAt soft.Cs.E N Tryz.f212 (Ad Tryz.f212) [1, 1, 1, 1, 1, 1, 1, 1, 1, 1, 1, 1, 0] [] ⟨Hq 111 [(14, .bool p14_3), (15, .int .u64 p15), (16, .int .u8 0)], []⟩
theorem soft.Cs.Az (N M : Nat) (n : Bool) (m e : Int) (r : Bool) (p10 : Int) : soft.Cs.L0 N (M + 1) n m e r p10 =
  bif (decide (0 ≤ p10)) then
  bif ((Ds (9007199254740992 : Int) (Ct .u64 m p10)) || (A5 (Ab (e + p10)) (-1074 : Int))) then
  bif ((Ab (p10 + (1 : Int))) == (63 : Int)) then
  soft.Cs.C7 N n m e r (Ab (p10 + (1 : Int)))
  else soft.Cs.L0 N M n m e r (Ab (p10 + (1 : Int)))
  else soft.Cs.C7 N n m e r p10
  else none :=
  Eq.trans (by kernel_rfl)
  (Fb (Ax (Ru (Ds (9007199254740992 : Int) (Ct .u64 m p10))) (Ax (Ru (Ds (9007199254740992 : Int) (Ct .u64 m p10))) (Ax (Qk (Ds (9007199254740992 : Int) (Ct .u64 m p10))) (Ax (Ld (Ds (9007199254740992 : Int) (Ct .u64 m p10))) (Ax (Lu (Ds (9007199254740992 : Int) (Ct .u64 m p10))) (C1 (Kb (Ds (9007199254740992 : Int) (Ct .u64 m p10)) (A5 (Ab (e + p10)) (-1074 : Int))) rfl rfl)))))) rfl)
theorem soft.Cs.C7_eq (N : Nat) (n : Bool) (m e : Int) (r : Bool) (p10_1 : Int) : soft.Cs.C7 N n m e r p10_1 =
  bif (decide (0 ≤ p10_1)) then
  bif (decide (0 ≤ p10_1)) then
  bif (A5 (0 : Int) p10_1) then
  bif (decide (0 ≤ (Ab (p10_1 - (1 : Int))))) then
  soft.Cs.C12 N n e r p10_1 (Ct .u64 m p10_1) (D3 .u64 m (Bd ((Bp .u64 1 p10_1) - (1 : Int)))) (Bp .u64 1 (Ab (p10_1 - (1 : Int)))) (bif ((D3 .u64 m (Bd ((Bp .u64 1 p10_1) - (1 : Int)))) == (0 : Int)) then (!r) else false)
  else none
  else soft.Cs.C12 N n e r p10_1 (Ct .u64 m p10_1) (D3 .u64 m (Bd ((Bp .u64 1 p10_1) - (1 : Int)))) (0 : Int) (bif ((D3 .u64 m (Bd ((Bp .u64 1 p10_1) - (1 : Int)))) == (0 : Int)) then (!r) else false)
  else none
  else none :=
  Eq.trans ((Ph _ _ _ _ _ _ _).trans (by kernel_rfl))
  (C1 (Ho (decide (0 ≤ p10_1))) (C1 (Ho (decide (0 ≤ p10_1))) (Fb (Fb (Ax (Ge ((D3 .u64 m (Bd ((Bp .u64 1 p10_1) - (1 : Int)))) == (0 : Int))) (Ax (Hr ((D3 .u64 m (Bd ((Bp .u64 1 p10_1) - (1 : Int)))) == (0 : Int))) (Ax (H8 ((D3 .u64 m (Bd ((Bp .u64 1 p10_1) - (1 : Int)))) == (0 : Int))) rfl))) rfl) (Ax (Ge ((D3 .u64 m (Bd ((Bp .u64 1 p10_1) - (1 : Int)))) == (0 : Int))) (Ax (Hr ((D3 .u64 m (Bd ((Bp .u64 1 p10_1) - (1 : Int)))) == (0 : Int))) (Ax (H8 ((D3 .u64 m (Bd ((Bp .u64 1 p10_1) - (1 : Int)))) == (0 : Int))) rfl)))) rfl) rfl)
theorem soft.Cs.C12_eq (N : Nat) (n : Bool) (e : Int) (r : Bool) (p10_2 p11_1 : Int) (p12 p13 : Int) (p14 : Bool) : soft.Cs.C12 N n e r p10_2 p11_1 p12 p13 p14 =
  bif ((A5 (0 : Int) p10_2) && ((A5 p13 p12) || ((p12 == p13) && (r || ((D3 .u64 p11_1 (1 : Int)) == (1 : Int)))))) then
  soft.Cs.C14 N n e p10_2 (Bd (p11_1 + (1 : Int))) p14
  else soft.Cs.C14 N n e p10_2 p11_1 p14 :=
  Eq.trans ((Ph _ _ _ _ _ _ _).trans (by kernel_rfl))
  (Ax (Ge (A5 (0 : Int) p10_2)) (Ax (Ge (A5 (0 : Int) p10_2)) (Ax (tt22 (A5 (0 : Int) p10_2)) (Ax (Hr (A5 (0 : Int) p10_2)) (Ax (tt21 (A5 (0 : Int) p10_2) (A5 p13 p12)) (Ax (tt21 (A5 (0 : Int) p10_2) (A5 p13 p12)) (Ax (tt20 (A5 (0 : Int) p10_2) (A5 p13 p12)) (Ax (tt19 (A5 (0 : Int) p10_2) (A5 p13 p12)) (Ax (tt18 (A5 (0 : Int) p10_2) (A5 p13 p12) (p12 == p13)) (Ax (tt17 (A5 (0 : Int) p10_2) (A5 p13 p12) (p12 == p13)) (Ax (Rv (A5 (0 : Int) p10_2) (A5 p13 p12) (p12 == p13) r) (Ax (Mu (A5 (0 : Int) p10_2) (A5 p13 p12) (p12 == p13) r) (Ax (Mu (A5 (0 : Int) p10_2) (A5 p13 p12) (p12 == p13) r) (Ax (Mv (A5 (0 : Int) p10_2) (A5 p13 p12) (p12 == p13) r) (Ax (Kl (A5 (0 : Int) p10_2) (A5 p13 p12) (p12 == p13)) (Ax (I8 (A5 (0 : Int) p10_2) (A5 p13 p12)) (Ax (H8 (A5 (0 : Int) p10_2)) (C1 (Ip (A5 (0 : Int) p10_2) (A5 p13 p12) (p12 == p13) r ((D3 .u64 p11_1 (1 : Int)) == (1 : Int))) rfl rfl))))))))))))))))))
theorem soft.Cs.C14_eq (N : Nat) (n : Bool) (e p10_3 p11_2 : Int) (p14_1 : Bool) : soft.Cs.C14 N n e p10_3 p11_2 p14_1 =
  bif (A5 (Ab (e + p10_3)) (-1074 : Int)) then
  soft.Cs.C16 N n e (0 : Int) p10_3 p14_1
  else soft.Cs.C16 N n e p11_2 p10_3 p14_1 := (Ph _ _ _ _ _ _ _).trans (by kernel_rfl)
theorem soft.Cs.C16_eq (N : Nat) (n : Bool) (e p11 p10_4 : Int) (p14_2 : Bool) : soft.Cs.C16 N n e p11 p10_4 p14_2 =
  bif (Jq p11 (max (Ab (e + p10_4)) (-1074 : Int))) then
  soft.Cs.C18 N p14_2 (Sc n p11 (max (Ab (e + p10_4)) (-1074 : Int)))
  else none := (Ph _ _ _ _ _ _ _).trans (by kernel_rfl)
theorem soft.Cs.C18_eq (N : Nat) (p14_3 : Bool) (p15 : Int) : soft.Cs.C18 N p14_3 p15 =
  bif ((!p14_3) || ((Fj .u64 p15 (9223372036854775808 : Int)) == (9218868437227405312 : Int))) then
  bif (Ah p15) then
  bif ((A7 p15) == (3 : Int)) then
  some (.tup [.int .u64 p15, .int .u8 5])
  else bif ((A7 p15) == (0 : Int)) then
  bif ((A7 p15) == (0 : Int)) then
  some (.tup [.int .u64 p15, .int .u8 3])
  else some (.tup [.int .u64 p15, .int .u8 1])
  else bif ((A7 p15) == (1 : Int)) then
  some (.tup [.int .u64 p15, .int .u8 3])
  else some (.tup [.int .u64 p15, .int .u8 1])
  else none
  else some (.tup [.int .u64 p15, .int .u8 0]) :=
  Eq.trans ((Ph _ _ _ _ _ _ _).trans (by kernel_rfl))
  (Ax (tt26 p14_3) (Ax (tt25 p14_3) (Ax (tt25 p14_3) (Ax (tt24 p14_3) (C1 (tt23 p14_3 ((Fj .u64 p15 (9223372036854775808 : Int)) == (9218868437227405312 : Int))) rfl rfl)))))
theorem soft.Cs.ev (N : Nat) (n : Bool) (m e : Int) (r : Bool) : A1 soft.Cs.E N Tryz.f212 (Ad Tryz.f212) [.bool n, .int .u64 m, .int .i64 e, .bool r] =
  bif ((m == (0 : Int)) && (!r)) then
  bif (Jq (0 : Int) (-1074 : Int)) then
  some (.tup [.int .u64 (Sc n (0 : Int) (-1074 : Int)), .int .u8 0])
  else none
  else soft.Cs.L0 N N n m e r (0 : Int) :=
  Eq.trans (by kernel_rfl)
  (Ax (Ge (m == (0 : Int))) (Ax (Hr (m == (0 : Int))) (Ax (H8 (m == (0 : Int))) (C1 (tt27 (m == (0 : Int)) r) rfl rfl))))
theorem soft.Cs.Ac (hk : A0 Tryz.prog soft.Cs.A9) (h : ∀ (n : Bool) (m e : Int) (r : Bool), soft.Cs.pre [.b n, .i m, .i e, .b r] = true → ∃ N dv drops, A1 soft.Cs.E N Tryz.f212 (Ad Tryz.f212) [.bool n, .int .u64 m, .int .i64 e, .bool r] = some dv ∧ Wk drops dv (soft.Cs.out [.b n, .i m, .i e, .b r])) : Am Tryz.prog 212 soft.Cs.spec :=
  Aj (A2 hk _ _ _) Tryz.func212 (by kernel_rfl) (by kernel_rfl) h
abbrev _root_.Go.Proofs.S1.soft.Cs.Kn : Prop := Am Tryz.prog 212 soft.Cs.spec
end EqSoft
end Go.Proofs.S1
namespace Go.Proofs.S1
open Go Go.Den Go.Rnd Go.Proofs
theorem Ag {a b : Bool} : (a && b) = true ↔ a = true ∧ b = true := by simp
theorem neg_lem {n : Nat} (hn : n < 2 ^ 64) : ((Ct .u64 (n : Int) (63 : Int)) == (1 : Int)) = C6 n := by
  rw [show (63 : Int) = ((63 : Nat) : Int) from rfl, Gk .u64 n 63 (by decide)]
  unfold C6 Bi
  rw [Int.toNat_natCast, Bool.eq_iff_iff]
  simp only [beq_iff_eq, decide_eq_true_eq]
  omega
theorem pow_lem {n : Nat} (hn : n < 2 ^ 64) : Ab (D3 .u64 (Ct .u64 (n : Int) (52 : Int)) (2047 : Int)) = Kc n := by
  rw [show (52 : Int) = ((52 : Nat) : Int) from rfl, Gk .u64 n 52 (by decide), show (2047 : Int) = ((2 ^ 11 - 1 : Nat) : Int) from rfl, Hm 11 (by omega) (by decide)]
  unfold Kc C5
  rw [Int.toNat_natCast, Ap (by omega) (by omega)]
theorem frac_lem {n : Nat} (hn : n < 2 ^ 64) : D3 .u64 (n : Int) (4503599627370495 : Int) = Cf n := by
  rw [show (4503599627370495 : Int) = ((2 ^ 52 - 1 : Nat) : Int) from rfl, Hm 52 hn (by decide)]
  unfold Cf Cl
  rw [Int.toNat_natCast]
theorem soft.Split.known : soft.Split.Kn := EqSoft.soft.Split.Ac .nil fun x hp => by
  obtain ⟨n, rfl, hn⟩ := Bg (x := x) hp
  refine ⟨0, soft.Split.out [.i n], [], ?_, Wk.J7 (.cons .bool (.cons .int (.cons .int .nil)))⟩
  rw [EqSoft.soft.Split.ev, neg_lem hn, pow_lem hn, frac_lem hn]
  rfl
theorem soft.Kind.known : soft.Kind.Kn := EqSoft.soft.Kind.Ac (.cons soft.Split.known .nil) fun x hp => by
  obtain ⟨n, rfl, hn⟩ := Bg (x := x) hp
  refine ⟨0, soft.Kind.out [.i n], [], ?_, .int⟩
  rw [EqSoft.soft.Kind.ev, By hn]
  show _ = some (DV.int .i64 (A7 n))
  unfold A7 Ai Kc Cf
  simp only [Int.toNat_natCast, cond_true, Aw]
  have := Hy n
  by_cases h1 : C5 n = 2047
  · by_cases h2 : Cl n = 0
    · simp [h1, h2]
    · have : ((Cl n : Int) == 0) = false := by simp; exact h2
      simp [h1, this, h2]
  · have h1' : ((C5 n : Int) == 2047) = false := by simp; omega
    rw [h1']
    by_cases h3 : 0 < C5 n
    · simp [h1, h3]
    · by_cases h4 : 0 < Cl n
      · simp [h1, h3, h4]
      · simp [h1, h3, h4]
theorem soft.Sign.known : soft.Sign.Kn := EqSoft.soft.Sign.Ac .nil fun x hp => by
  obtain ⟨n, rfl, hn⟩ := Bg (x := x) hp
  refine ⟨0, soft.Sign.out [.i n], [], ?_, .bool⟩
  rw [EqSoft.soft.Sign.ev, neg_lem hn]
  rfl
theorem Wf (n : Nat) : Jl n = !(decide (Ai n = 3) || decide (Ai n = 4)) := by
  have := Hy n
  unfold Jl Ai
  by_cases h1 : C5 n = 2047
  · by_cases h2 : Cl n = 0 <;> simp [h1, h2]
  · have : C5 n < 2047 := by omega
    by_cases h3 : 0 < C5 n
    · simp [h1, h3, this]
    · by_cases h4 : 0 < Cl n <;> simp [h1, h3, h4, this]
theorem soft.Finite.known : soft.Finite.Kn := EqSoft.soft.Finite.Ac (.cons soft.Kind.known .nil) fun x hp => by
  obtain ⟨n, rfl, hn⟩ := Bg (x := x) hp
  refine ⟨0, soft.Finite.out [.i n], [], ?_, .bool⟩
  rw [EqSoft.soft.Finite.ev, By hn]
  show _ = some (DV.bool (C8 n))
  unfold C8 A7
  rw [Int.toNat_natCast, Wf]
  by_cases h3 : Ai n = 3
  · simp [h3]
  · by_cases h4 : Ai n = 4
    · simp [h4]
    · have e3 : ((Ai n : Int) == 3) = false := by simp; omega
      have e4 : ((Ai n : Int) == 4) = false := by simp; omega
      simp [h3, h4, e3, e4]
theorem minus_lem {n : Nat} (hn : n < 2 ^ 64) : bXor .u64 (n : Int) (9223372036854775808 : Int) = C0 n := by
  rw [show (9223372036854775808 : Int) = ((2 ^ 63 : Nat) : Int) from rfl, bXor_u64 hn (by decide), xor_top hn]
  unfold C0 F6
  rw [Int.toNat_natCast]
theorem soft.Cy.known : soft.Cy.Kn := EqSoft.soft.Cy.Ac .nil fun x hp => by
  obtain ⟨n, rfl, hn⟩ := Bg (x := x) hp
  refine ⟨0, soft.Cy.out [.i n], [], ?_, .int⟩
  rw [EqSoft.soft.Cy.ev, minus_lem hn]
  rfl
theorem soft.Fa.known : soft.Fa.Kn := EqSoft.soft.Fa.Ac (.cons soft.Split.known .nil) fun x hp => by
  obtain ⟨n, rfl, hn⟩ := Bg (x := x) hp
  refine ⟨0, soft.Fa.out [.i n], [], ?_, Wk.Gg (.cons .int (.cons .int .nil))⟩
  rw [EqSoft.soft.Fa.ev, By hn]
  show _ = some (DV.tup [.int .u64 (Bk n), .int .i64 (Ba n)])
  have hf := Iy n
  have hp := Hy n
  unfold Bk Ba Kc Cf Aq Ay
  rw [Int.toNat_natCast]
  by_cases h : C5 n = 0
  · simp [h]
  · have e : ((C5 n : Int) == 0) = false := by simp; omega
    have e2 : Gy .u64 ((Cl n : Nat) : Int) (4503599627370496 : Int) = ((Cl n + 2 ^ 52 : Nat) : Int) := by
      rw [show (4503599627370496 : Int) = ((1 * 2 ^ 52 : Nat) : Int) from rfl, bOr_apart (by omega) (by omega)]
      congr 1; omega
    rw [e, e2, Ap (by omega) (by omega)]
    simp [h]
end Go.Proofs.S1
namespace Go.Proofs.S1
open Go Go.Den Go.Rnd Go.Proofs
set_option linter.unusedVariables false
set_option maxRecDepth 100000
namespace EqRefD
def A3.Neg.A9 : List (Nat × Entry) := []
def A3.Neg.E : Env := Bb (A8 A3.Neg.A9) (fun _ => false) (fun _ => none) (fun _ => none)
theorem A3.Neg.ev (N : Nat) (x : Int) : A1 A3.Neg.E N Tryz.f142 (Ad Tryz.f142) [.int .u64 x] =
  some (.bool ((Bd (Int.tdiv x (9223372036854775808 : Int))) == (1 : Int))) := by kernel_rfl
theorem A3.Neg.Ac (hk : A0 Tryz.prog A3.Neg.A9) (h : ∀ (x : Int), A3.Neg.pre [.i x] = true → ∃ N dv drops, A1 A3.Neg.E N Tryz.f142 (Ad Tryz.f142) [.int .u64 x] = some dv ∧ Wk drops dv (A3.Neg.out [.i x])) : Am Tryz.prog 142 A3.Neg.spec :=
  Aj (A2 hk _ _ _) Tryz.func142 (by kernel_rfl) (by kernel_rfl) h
abbrev _root_.Go.Proofs.S1.A3.Neg.Kn : Prop := Am Tryz.prog 142 A3.Neg.spec
def A3.Power.A9 : List (Nat × Entry) := []
def A3.Power.E : Env := Bb (A8 A3.Power.A9) (fun _ => false) (fun _ => none) (fun _ => none)
theorem A3.Power.ev (N : Nat) (x : Int) : A1 A3.Power.E N Tryz.f140 (Ad Tryz.f140) [.int .u64 x] =
  some (.int .i64 (Ab (Bd (Int.tdiv (Int.tmod x (9223372036854775808 : Int)) (4503599627370496 : Int))))) := by kernel_rfl
theorem A3.Power.Ac (hk : A0 Tryz.prog A3.Power.A9) (h : ∀ (x : Int), A3.Power.pre [.i x] = true → ∃ N dv drops, A1 A3.Power.E N Tryz.f140 (Ad Tryz.f140) [.int .u64 x] = some dv ∧ Wk drops dv (A3.Power.out [.i x])) : Am Tryz.prog 140 A3.Power.spec :=
  Aj (A2 hk _ _ _) Tryz.func140 (by kernel_rfl) (by kernel_rfl) h
abbrev _root_.Go.Proofs.S1.A3.Power.Kn : Prop := Am Tryz.prog 140 A3.Power.spec
def A3.Ka.A9 : List (Nat × Entry) := []
def A3.Ka.E : Env := Bb (A8 A3.Ka.A9) (fun _ => false) (fun _ => none) (fun _ => none)
theorem A3.Ka.ev (N : Nat) (x : Int) : A1 A3.Ka.E N Tryz.f141 (Ad Tryz.f141) [.int .u64 x] =
  some (.int .u64 (Int.tmod x (4503599627370496 : Int))) := by kernel_rfl
theorem A3.Ka.Ac (hk : A0 Tryz.prog A3.Ka.A9) (h : ∀ (x : Int), A3.Ka.pre [.i x] = true → ∃ N dv drops, A1 A3.Ka.E N Tryz.f141 (Ad Tryz.f141) [.int .u64 x] = some dv ∧ Wk drops dv (A3.Ka.out [.i x])) : Am Tryz.prog 141 A3.Ka.spec :=
  Aj (A2 hk _ _ _) Tryz.func141 (by kernel_rfl) (by kernel_rfl) h
abbrev _root_.Go.Proofs.S1.A3.Ka.Kn : Prop := Am Tryz.prog 141 A3.Ka.spec
def A3.Kind.A9 : List (Nat × Entry) := [(141, A3.Ka.spec), (140, A3.Power.spec)]
def A3.Kind.E : Env := Bb (A8 A3.Kind.A9) (fun _ => false) (fun _ => none) (fun _ => none)
theorem A3.Kind.ev (N : Nat) (x : Int) : A1 A3.Kind.E N Tryz.f62 (Ad Tryz.f62) [.int .u64 x] =
  bif (Mh x) then
  bif ((Kc x) == (2047 : Int)) then
  bif (Mh x) then
  bif ((Cf x) == (0 : Int)) then
  some (.int .i64 3)
  else some (.int .i64 4)
  else none
  else bif (Mh x) then
  bif (A5 (0 : Int) (Kc x)) then
  some (.int .i64 2)
  else bif (Mh x) then
  bif (A5 (0 : Int) (Cf x)) then
  some (.int .i64 1)
  else some (.int .i64 0)
  else none
  else none
  else none := by kernel_rfl
theorem A3.Kind.Ac (hk : A0 Tryz.prog A3.Kind.A9) (h : ∀ (x : Int), A3.Kind.pre [.i x] = true → ∃ N dv drops, A1 A3.Kind.E N Tryz.f62 (Ad Tryz.f62) [.int .u64 x] = some dv ∧ Wk drops dv (A3.Kind.out [.i x])) : Am Tryz.prog 62 A3.Kind.spec :=
  Aj (A2 hk _ _ _) Tryz.func62 (by kernel_rfl) (by kernel_rfl) h
abbrev _root_.Go.Proofs.S1.A3.Kind.Kn : Prop := Am Tryz.prog 62 A3.Kind.spec
def A3.Finite.A9 : List (Nat × Entry) := [(140, A3.Power.spec)]
def A3.Finite.E : Env := Bb (A8 A3.Finite.A9) (fun _ => false) (fun _ => none) (fun _ => none)
theorem A3.Finite.ev (N : Nat) (x : Int) : A1 A3.Finite.E N Tryz.f131 (Ad Tryz.f131) [.int .u64 x] =
  bif (Mh x) then
  some (.bool (A5 (Kc x) (2047 : Int)))
  else none := by kernel_rfl
theorem A3.Finite.Ac (hk : A0 Tryz.prog A3.Finite.A9) (h : ∀ (x : Int), A3.Finite.pre [.i x] = true → ∃ N dv drops, A1 A3.Finite.E N Tryz.f131 (Ad Tryz.f131) [.int .u64 x] = some dv ∧ Wk drops dv (A3.Finite.out [.i x])) : Am Tryz.prog 131 A3.Finite.spec :=
  Aj (A2 hk _ _ _) Tryz.func131 (by kernel_rfl) (by kernel_rfl) h
abbrev _root_.Go.Proofs.S1.A3.Finite.Kn : Prop := Am Tryz.prog 131 A3.Finite.spec
def A3.Cy.A9 : List (Nat × Entry) := [(142, A3.Neg.spec)]
def A3.Cy.E : Env := Bb (A8 A3.Cy.A9) (fun _ => false) (fun _ => none) (fun _ => none)
theorem A3.Cy.ev (N : Nat) (x : Int) : A1 A3.Cy.E N Tryz.f163 (Ad Tryz.f163) [.int .u64 x] =
  bif (Ah x) then
  bif (C6 x) then
  some (.int .u64 (Bd (x - (9223372036854775808 : Int))))
  else some (.int .u64 (Bd (x + (9223372036854775808 : Int))))
  else none := by kernel_rfl
theorem A3.Cy.Ac (hk : A0 Tryz.prog A3.Cy.A9) (h : ∀ (x : Int), A3.Cy.pre [.i x] = true → ∃ N dv drops, A1 A3.Cy.E N Tryz.f163 (Ad Tryz.f163) [.int .u64 x] = some dv ∧ Wk drops dv (A3.Cy.out [.i x])) : Am Tryz.prog 163 A3.Cy.spec :=
  Aj (A2 hk _ _ _) Tryz.func163 (by kernel_rfl) (by kernel_rfl) h
abbrev _root_.Go.Proofs.S1.A3.Cy.Kn : Prop := Am Tryz.prog 163 A3.Cy.spec
def D6.Canon.A9 : List (Nat × Entry) := [(62, A3.Kind.spec)]
def D6.Canon.E : Env := Bb (A8 D6.Canon.A9) (fun _ => false) (fun _ => none) (fun _ => none)
theorem D6.Canon.ev (N : Nat) (x : Int) : A1 D6.Canon.E N Tryz.f168 (Ad Tryz.f168) [.int .u64 x] =
  bif (Mh x) then
  bif ((A7 x) == (4 : Int)) then
  some (.int .u64 9221120237041090560)
  else some (.int .u64 x)
  else none := by kernel_rfl
theorem D6.Canon.Ac (hk : A0 Tryz.prog D6.Canon.A9) (h : ∀ (x : Int), D6.Canon.pre [.i x] = true → ∃ N dv drops, A1 D6.Canon.E N Tryz.f168 (Ad Tryz.f168) [.int .u64 x] = some dv ∧ Wk drops dv (D6.Canon.out [.i x])) : Am Tryz.prog 168 D6.Canon.spec :=
  Aj (A2 hk _ _ _) Tryz.func168 (by kernel_rfl) (by kernel_rfl) h
abbrev _root_.Go.Proofs.S1.D6.Canon.Kn : Prop := Am Tryz.prog 168 D6.Canon.spec
abbrev _root_.Go.Proofs.S1.D6.Canon.nb.Kn : Prop := Am Tryz.prog 168 D6.Canon.nb.spec
end EqRefD
end Go.Proofs.S1
namespace Go.Proofs.S1
open Go Go.Den Go.Rnd Go.Proofs
open EqRefD
theorem Ir (n m : Nat) : Int.tdiv (n : Int) (m : Int) = ((n / m : Nat) : Int) := rfl
theorem Iq (n m : Nat) : Int.tmod (n : Int) (m : Int) = ((n % m : Nat) : Int) := rfl
theorem lit63 : (9223372036854775808 : Int) = ((2 ^ 63 : Nat) : Int) := rfl
theorem lit52 : (4503599627370496 : Int) = ((2 ^ 52 : Nat) : Int) := rfl
theorem A3.Neg.known : A3.Neg.Kn := A3.Neg.Ac .nil fun x hp => by
  obtain ⟨n, rfl, hn⟩ := Bg (x := x) hp
  refine ⟨0, A3.Neg.out [.i n], [], ?_, .bool⟩
  rw [A3.Neg.ev, lit63, Ir, Cv (by omega) (by omega)]
  show _ = some (DV.bool (C6 n))
  unfold C6 Bi
  rw [Int.toNat_natCast]
  congr 2
  rw [Bool.eq_iff_iff]
  simp only [beq_iff_eq, decide_eq_true_eq]
  omega
theorem A3.Power.known : A3.Power.Kn := A3.Power.Ac .nil fun x hp => by
  obtain ⟨n, rfl⟩ := Sk (x := x) hp
  refine ⟨0, A3.Power.out [.i n], [], ?_, .int⟩
  rw [A3.Power.ev, lit63, lit52, Iq, Ir, Cv (by omega) (by omega), Ap (by omega) (by omega)]
  show _ = some (DV.int .i64 (Kc n))
  unfold Kc C5
  rw [Int.toNat_natCast]
  congr 2
  have : n % 2 ^ 63 / 2 ^ 52 = n / 2 ^ 52 % 2048 := by omega
  rw [this]
theorem A3.Ka.known : A3.Ka.Kn := A3.Ka.Ac .nil fun x hp => by
  obtain ⟨n, rfl⟩ := Sk (x := x) hp
  refine ⟨0, A3.Ka.out [.i n], [], ?_, .int⟩
  rw [A3.Ka.ev, lit52, Iq]
  rfl
theorem A3.Kind.known : A3.Kind.Kn := A3.Kind.Ac (.cons A3.Ka.known (.cons A3.Power.known .nil)) fun x hp => by
  obtain ⟨n, rfl⟩ := Sk (x := x) hp
  refine ⟨0, A3.Kind.out [.i n], [], ?_, .int⟩
  rw [A3.Kind.ev, J0]
  show _ = some (DV.int .i64 (A7 n))
  unfold A7 Ai Kc Cf
  simp only [Int.toNat_natCast, cond_true, Aw]
  have := Hy n
  by_cases h1 : C5 n = 2047
  · by_cases h2 : Cl n = 0
    · simp [h1, h2]
    · have : ((Cl n : Int) == 0) = false := by simp; exact h2
      simp [h1, this, h2]
  · have h1' : ((C5 n : Int) == 2047) = false := by simp; omega
    rw [h1']
    by_cases h3 : 0 < C5 n
    · simp [h1, h3]
    · by_cases h4 : 0 < Cl n
      · simp [h1, h3, h4]
      · simp [h1, h3, h4]
theorem A3.Finite.known : A3.Finite.Kn := A3.Finite.Ac (.cons A3.Power.known .nil) fun x hp => by
  obtain ⟨n, rfl, hn⟩ := Bg (x := x) hp
  refine ⟨0, A3.Finite.out [.i n], [], ?_, .bool⟩
  rw [A3.Finite.ev, J0, cond_true, Aw]
  show _ = some (DV.bool (C8 n))
  unfold C8 Jl Kc
  rw [Int.toNat_natCast]
  have : decide ((C5 n : Int) < 2047) = decide (C5 n < 2047) := decide_eq_decide.2 (by omega)
  rw [this]
theorem A3.Cy.known : A3.Cy.Kn := A3.Cy.Ac (.cons A3.Neg.known .nil) fun x hp => by
  obtain ⟨n, rfl, hn⟩ := Bg (x := x) hp
  refine ⟨0, A3.Cy.out [.i n], [], ?_, .int⟩
  rw [A3.Cy.ev, By hn, cond_true]
  show _ = some (DV.int .u64 (C0 n))
  unfold C0 F6 C6 Bi
  rw [Int.toNat_natCast, Mt, Mt]
  by_cases h : 2 ^ 63 ≤ n
  · have e : ((n : Int) - 9223372036854775808) % 18446744073709551616 = ((n - 2 ^ 63 : Nat) : Int) := by omega
    rw [if_pos h, decide_eq_true h, cond_true, e]
  · have e : ((n : Int) + 9223372036854775808) % 18446744073709551616 = ((n + 2 ^ 63 : Nat) : Int) := by omega
    rw [if_neg h, decide_eq_false h, cond_false, e]
theorem D6.Canon.known : D6.Canon.Kn := D6.Canon.Ac (.cons A3.Kind.known .nil) fun x hp => by
  obtain ⟨n, rfl⟩ := Sk (x := x) hp
  refine ⟨0, D6.Canon.out [.i n], [], ?_, .int⟩
  rw [D6.Canon.ev, J0, cond_true]
  show _ = some (DV.int .u64 (Wy n))
  unfold Wy Dj A7
  rw [Int.toNat_natCast]
  by_cases h : Ai n = 4
  · have : ((Ai n : Int) == 4) = true := by simp; omega
    rw [this, if_pos h]; rfl
  · have : ((Ai n : Int) == 4) = false := by simp; omega
    rw [this, if_neg h]; rfl
theorem feq_canon {n m : Nat} (h : Oh n m) : Dj n = Dj m := by
  rcases h with rfl | ⟨h1, h2⟩
  · rfl
  · unfold Er at h1 h2
    rw [Vz n] at h1
    rw [Vz m] at h2
    unfold Dj
    rw [if_pos (of_decide_eq_true h1), if_pos (of_decide_eq_true h2)]
theorem one_rel {c : Ctx} {w : World} {d : DV} {vs : List Value} (h : A4 c w [d] vs) : ∃ v, vs = [v] ∧ Ak c w d v := by
  simp only [A4] at h
  obtain ⟨u, us, rfl, hv, rfl⟩ := h
  exact ⟨u, rfl, hv⟩
theorem D6.Canon.nb_known : D6.Canon.nb.Kn := by
  refine ⟨fun args ha => ?_, D6.Canon.known.call⟩
  unfold D6.Canon.nb.spec entry at ha ⊢
  simp only at ha ⊢
  cases hd : Lv [.nb] args with
  | none => rw [hd] at ha; cases ha
  | some bs =>
    rw [hd] at ha
    obtain ⟨ds, h1, h2⟩ := Mb hd
    obtain ⟨x, _, _, rfl, rfl, he⟩ := h1.nb_inv
    obtain ⟨rfl, rfl⟩ := he.Zn
    refine Mp.args (args := [.nb x]) ?_ h2
    intro w vals I hI hl
    obtain ⟨v, hv, hr⟩ := one_rel hl
    simp only [Ak] at hr
    obtain ⟨m, rfl, hm⟩ := hr
    have e : D6.Canon.nb.out [.f x] = D6.Canon.spec.out [.int .u64 (m : Int)] := by
      show DV.int .u64 (Gx x) = DV.int .u64 (Wy (m : Int))
      unfold Gx Wy
      rw [Int.toNat_natCast, feq_canon hm]
    show Calls _ _ _ _ fun e' w' => ∃ v own, e' = .returned v ∧ Go.RowKit.Below w.heap.size w w' ∧ OwnOk own w w' ∧ Ak (C3 I own w w') w' (D6.Canon.nb.out [.f x]) v
    rw [e]
    exact D6.Canon.known.meets [.int .u64 (m : Int)] (J0 m) w vals I hI (by rw [hv]; exact ⟨_, _, rfl, rfl, rfl⟩)
end Go.Proofs.S1
namespace Go.Proofs.S1
open Go Go.Den Go.Rnd Go.Proofs
set_option linter.unusedVariables false
set_option maxRecDepth 100000
namespace EqRefA
theorem Eu : ∀ a b : Bool, (bif a then b else false) = (a && b) := by decide
theorem I7 : ∀ a : Bool, (((!a) || (a == true)) && true) = true := by decide
theorem H8 : ∀ a : Bool, ((!(a == true)) || ((((!(a == true)) || (a == true)) && (((!(a == true)) || (a == true)) && true)) && true)) = true := by decide
theorem Hr : ∀ a : Bool, ((!(a == true)) || ((((!(a == true)) || (a == true)) && true) && true)) = true := by decide
theorem Ge : ∀ a : Bool, ((!(a == true)) || true) = true := by decide
theorem Kb : ∀ a b : Bool, ((a && b) && true) = (a && b) := by decide
theorem Lu : ∀ a b c : Bool, ((!(a == true)) || ((((!(a == true)) || (a == true)) && (((!(a == true)) || (a == true)) && true)) && (b && c))) = ((!a) || (b && c)) := by decide
theorem Ld : ∀ a : Bool, (a && true) = a := by decide
def Af.Ii.A9 : List (Nat × Entry) := []
def Af.Ii.E : Env := Bb (A8 Af.Ii.A9) (fun _ => false) (fun _ => none) (fun _ => none)
theorem Af.Ii.ev (N : Nat) (l : List Int) (i : Int) : A1 Af.Ii.E N Tryz.f221 (Ad Tryz.f221) [.ints .arg .u32 l, .int .i64 i] =
  bif ((Ds (0 : Int) i) && (A5 i (List.length l : Int))) then
  bif ((decide (0 ≤ i)) && (decide (i < (List.length l : Int)))) then
  some (.int .u64 (Bd (List.getD l (Int.toNat i) 0)))
  else none
  else some (.int .u64 0) :=
  Eq.trans (by kernel_rfl)
  (Ax (Ge (Ds (0 : Int) i)) (Ax (Ge (Ds (0 : Int) i)) (Ax (Hr (Ds (0 : Int) i)) (Ax (H8 (Ds (0 : Int) i)) (Ax (I7 (Ds (0 : Int) i)) (C1 (Eu (Ds (0 : Int) i) (A5 i (List.length l : Int))) rfl rfl))))))
theorem Af.Ii.Ac (hk : A0 Tryz.prog Af.Ii.A9) (h : ∀ (l : List Int) (i : Int), Af.Ii.pre [.l l, .i i] = true → ∃ N dv drops, A1 Af.Ii.E N Tryz.f221 (Ad Tryz.f221) [.ints .arg .u32 l, .int .i64 i] = some dv ∧ Wk drops dv (Af.Ii.out [.l l, .i i])) : Am Tryz.prog 221 Af.Ii.spec :=
  Aj (A2 hk _ _ _) Tryz.func221 (by kernel_rfl) (by kernel_rfl) h
abbrev _root_.Go.Proofs.S1.Af.Ii.Kn : Prop := Am Tryz.prog 221 Af.Ii.spec
def Af.Made.hint : Nat → Option Bf
  | 0 => some { keep := [0, 1, 4, 5], objs := [], boxes := [4] }
  | _ => none
def Af.Made.A9 : List (Nat × Entry) := []
def Af.Made.E : Env := Bb (A8 Af.Made.A9) (fun _ => false) Af.Made.hint (fun _ => none)
def Af.Made.L0 (N M : Nat) (n : Bool) (l : List Int) (p5 : Int) : Option DV := B6 Af.Made.E N Tryz.f171 (Ad Tryz.f171) [1, 1, 0, 0] [] M ⟨Hq 28 [(0, .bool n), (1, .ints .arg .u32 l), (4, .ptr 4 0 0), (5, .int .i64 p5)], [(4, false, .box [.bool false, .nil])]⟩
theorem Af.Made.Az (N M : Nat) (n : Bool) (l : List Int) (p5 : Int) : Af.Made.L0 N (M + 1) n l p5 =
  bif ((!(A5 (0 : Int) p5)) || ((decide (0 ≤ (Ab (p5 - (1 : Int))))) && (decide ((Ab (p5 - (1 : Int))) < (List.length l : Int))))) then
  bif ((A5 (0 : Int) p5) && ((List.getD l (Int.toNat (Ab (p5 - (1 : Int)))) 0) == (0 : Int))) then
  Af.Made.L0 N M n l (Ab (p5 - (1 : Int)))
  else bif (p5 == (0 : Int)) then
  some (.agg [.bool false, .nil])
  else bif ((decide ((0 : Int) ≤ p5)) && (decide (p5 ≤ (List.length l : Int)))) then
  some (.agg [.bool n, .ints .arg .u32 (List.take (Int.toNat p5) l)])
  else none
  else none :=
  Eq.trans (by kernel_rfl)
  (Ax (Ge (A5 (0 : Int) p5)) (Ax (Ge (A5 (0 : Int) p5)) (Ax (Hr (A5 (0 : Int) p5)) (C1 (Lu (A5 (0 : Int) p5) (decide (0 ≤ (Ab (p5 - (1 : Int))))) (decide ((Ab (p5 - (1 : Int))) < (List.length l : Int)))) (Ax (Hr (A5 (0 : Int) p5)) (Ax (Hr (A5 (0 : Int) p5)) (Ax (I7 (A5 (0 : Int) p5)) (C1 (Eu (A5 (0 : Int) p5) ((List.getD l (Int.toNat (Ab (p5 - (1 : Int)))) 0) == (0 : Int))) rfl (Fb rfl (C1 (Kb (decide ((0 : Int) ≤ p5)) (decide (p5 ≤ (List.length l : Int)))) rfl rfl)))))) rfl))))
theorem Af.Made.ev (N : Nat) (n : Bool) (l : List Int) : A1 Af.Made.E N Tryz.f171 (Ad Tryz.f171) [.bool n, .ints .arg .u32 l] =
  Af.Made.L0 N N n l (List.length l : Int) := by kernel_rfl
theorem Af.Made.Ac (hk : A0 Tryz.prog Af.Made.A9) (h : ∀ (n : Bool) (l : List Int), Af.Made.pre [.b n, .l l] = true → ∃ N dv drops, A1 Af.Made.E N Tryz.f171 (Ad Tryz.f171) [.bool n, .ints .arg .u32 l] = some dv ∧ Wk drops dv (Af.Made.out [.b n, .l l])) : Am Tryz.prog 171 Af.Made.spec :=
  Aj (A2 hk _ _ _) Tryz.func171 (by kernel_rfl) (by kernel_rfl) h
abbrev _root_.Go.Proofs.S1.Af.Made.Kn : Prop := Am Tryz.prog 171 Af.Made.spec
def Af.Of.A9 : List (Nat × Entry) := [(171, Af.Made.spec)]
def Af.Of.E : Env := Bb (A8 Af.Of.A9) (fun _ => false) (fun _ => none) (fun _ => none)
theorem Af.Of.ev (N : Nat) (n : Int) : A1 Af.Of.E N Tryz.f115 (Ad Tryz.f115) [.int .i64 n] =
  bif (A5 n (0 : Int)) then
  bif (Gf [(Im (Int.tmod (Bd ((Bd (Ab (0 - (Ab (n + (1 : Int)))))) + (1 : Int))) (4294967296 : Int))), (Im (Bd (Int.tdiv (Bd ((Bd (Ab (0 - (Ab (n + (1 : Int)))))) + (1 : Int))) (4294967296 : Int))))]) then
  some (.agg [.bool (Bc (wv true [(Im (Int.tmod (Bd ((Bd (Ab (0 - (Ab (n + (1 : Int)))))) + (1 : Int))) (4294967296 : Int))), (Im (Bd (Int.tdiv (Bd ((Bd (Ab (0 - (Ab (n + (1 : Int)))))) + (1 : Int))) (4294967296 : Int))))])), .ints .arg .u32 (Al (wv true [(Im (Int.tmod (Bd ((Bd (Ab (0 - (Ab (n + (1 : Int)))))) + (1 : Int))) (4294967296 : Int))), (Im (Bd (Int.tdiv (Bd ((Bd (Ab (0 - (Ab (n + (1 : Int)))))) + (1 : Int))) (4294967296 : Int))))]))])
  else none
  else bif (Gf [(Im (Int.tmod n (4294967296 : Int))), (Im (Ab (Int.tdiv n (4294967296 : Int))))]) then
  some (.agg [.bool (Bc (wv false [(Im (Int.tmod n (4294967296 : Int))), (Im (Ab (Int.tdiv n (4294967296 : Int))))])), .ints .arg .u32 (Al (wv false [(Im (Int.tmod n (4294967296 : Int))), (Im (Ab (Int.tdiv n (4294967296 : Int))))]))])
  else none := by kernel_rfl
theorem Af.Of.Ac (hk : A0 Tryz.prog Af.Of.A9) (h : ∀ (n : Int), Af.Of.pre [.i n] = true → ∃ N dv drops, A1 Af.Of.E N Tryz.f115 (Ad Tryz.f115) [.int .i64 n] = some dv ∧ Wk drops dv (Af.Of.out [.i n])) : Am Tryz.prog 115 Af.Of.spec :=
  Aj (A2 hk _ _ _) Tryz.func115 (by kernel_rfl) (by kernel_rfl) h
abbrev _root_.Go.Proofs.S1.Af.Of.Kn : Prop := Am Tryz.prog 115 Af.Of.spec
def Af.Hg.hint : Nat → Option Bf
  | 0 => some { keep := [0, 1, 5], objs := [], boxes := [] }
  | _ => none
def Af.Hg.A9 : List (Nat × Entry) := [(221, Af.Ii.spec)]
def Af.Hg.E : Env := Bb (A8 Af.Hg.A9) (fun _ => false) Af.Hg.hint (fun _ => none)
def Af.Hg.L0 (N M : Nat) (a b : List Int) (p5 : Int) : Option DV := B6 Af.Hg.E N Tryz.f176 (Ad Tryz.f176) [1, 0, 1, 0] [] M ⟨Hq 29 [(0, .ints .arg .u32 a), (1, .ints .arg .u32 b), (5, .int .i64 p5)], []⟩
theorem Af.Hg.Az (N M : Nat) (a b : List Int) (p5 : Int) : Af.Hg.L0 N (M + 1) a b p5 =
  bif (Ds (0 : Int) p5) then
  bif (Gf a) then
  bif (Gf b) then
  bif (A5 (Fx a p5) (Fx b p5)) then
  some (.int .i64 (-1 : Int))
  else bif (Gf a) then
  bif (Gf b) then
  bif (A5 (Fx b p5) (Fx a p5)) then
  some (.int .i64 1)
  else Af.Hg.L0 N M a b (Ab (p5 - (1 : Int)))
  else none
  else none
  else none
  else none
  else some (.int .i64 0) := by kernel_rfl
theorem Af.Hg.ev (N : Nat) (a b : List Int) : A1 Af.Hg.E N Tryz.f176 (Ad Tryz.f176) [.ints .arg .u32 a, .ints .arg .u32 b] =
  Af.Hg.L0 N N a b (max (List.length a : Int) (List.length b : Int)) := by kernel_rfl
theorem Af.Hg.Ac (hk : A0 Tryz.prog Af.Hg.A9) (h : ∀ (a b : List Int), Af.Hg.pre [.l a, .l b] = true → ∃ N dv drops, A1 Af.Hg.E N Tryz.f176 (Ad Tryz.f176) [.ints .arg .u32 a, .ints .arg .u32 b] = some dv ∧ Wk drops dv (Af.Hg.out [.l a, .l b])) : Am Tryz.prog 176 Af.Hg.spec :=
  Aj (A2 hk _ _ _) Tryz.func176 (by kernel_rfl) (by kernel_rfl) h
abbrev _root_.Go.Proofs.S1.Af.Hg.Kn : Prop := Am Tryz.prog 176 Af.Hg.spec
def Af.plus.hint : Nat → Option Bf
  | 0 => some { keep := [0, 1, 5, 6, 7], objs := [(0, 5, 100005, .ints 173 .u32 [])], boxes := [] }
  | _ => none
def Af.plus.A9 : List (Nat × Entry) := [(221, Af.Ii.spec)]
def Af.plus.E : Env := Bb (A8 Af.plus.A9) (fun _ => false) Af.plus.hint (fun _ => none)
def Af.plus.L0 (N M : Nat) (a b : List Int) (p6 p7 : Int) (p5 : List Int) : Option DV := B6 Af.plus.E N Tryz.f174 (Ad Tryz.f174) [1, 1, 1, 0, 1, 0] [] M ⟨Hq 37 [(0, .ints .arg .u32 a), (1, .ints .arg .u32 b), (5, .oref 100005), (6, .int .u64 p6), (7, .int .i64 p7)], [(100005, false, .ints 173 .u32 p5)]⟩
theorem Af.plus.Az (N M : Nat) (a b : List Int) (p6 p7 : Int) (p5 : List Int) : Af.plus.L0 N (M + 1) a b p6 p7 p5 =
  bif (Ds p7 (max (List.length a : Int) (List.length b : Int))) then
  bif (Gf a) then
  bif (Gf b) then
  bif (decide ((List.length p5) + 1 ≤ H0)) then
  Af.plus.L0 N M a b (Bd (Int.tdiv (Bd ((Bd ((Fx a p7) + (Fx b p7))) + p6)) (4294967296 : Int))) (Ab (p7 + (1 : Int))) (p5 ++ [(Im (Int.tmod (Bd ((Bd ((Fx a p7) + (Fx b p7))) + p6)) (4294967296 : Int)))])
  else none
  else none
  else none
  else some (.ints (.own 100005 173) .u32 p5) := by kernel_rfl
theorem Af.plus.ev (N : Nat) (a b : List Int) : A1 Af.plus.E N Tryz.f174 (Ad Tryz.f174) [.ints .arg .u32 a, .ints .arg .u32 b] =
  Af.plus.L0 N N a b (0 : Int) (0 : Int) [] := by kernel_rfl
theorem Af.plus.Ac (hk : A0 Tryz.prog Af.plus.A9) (h : ∀ (a b : List Int), Af.plus.pre [.l a, .l b] = true → ∃ N dv drops, A1 Af.plus.E N Tryz.f174 (Ad Tryz.f174) [.ints .arg .u32 a, .ints .arg .u32 b] = some dv ∧ Wk drops dv (Af.plus.out [.l a, .l b])) : Am Tryz.prog 174 Af.plus.spec :=
  Aj (A2 hk _ _ _) Tryz.func174 (by kernel_rfl) (by kernel_rfl) h
abbrev _root_.Go.Proofs.S1.Af.plus.Kn : Prop := Am Tryz.prog 174 Af.plus.spec
def Af.minus.hint : Nat → Option Bf
  | 0 => some { keep := [0, 1, 5, 6, 7], objs := [(0, 5, 100005, .ints 173 .u32 [])], boxes := [] }
  | _ => none
def Af.minus.A9 : List (Nat × Entry) := [(221, Af.Ii.spec)]
def Af.minus.E : Env := Bb (A8 Af.minus.A9) (fun _ => false) Af.minus.hint (fun _ => none)
def Af.minus.L0 (N M : Nat) (a b : List Int) (p6 p7 : Int) (p5 : List Int) : Option DV := B6 Af.minus.E N Tryz.f177 (Ad Tryz.f177) [1, 1, 1, 0, 1, 0] [] M ⟨Hq 36 [(0, .ints .arg .u32 a), (1, .ints .arg .u32 b), (5, .oref 100005), (6, .int .u64 p6), (7, .int .i64 p7)], [(100005, false, .ints 173 .u32 p5)]⟩
theorem Af.minus.Az (N M : Nat) (a b : List Int) (p6 p7 : Int) (p5 : List Int) : Af.minus.L0 N (M + 1) a b p6 p7 p5 =
  bif (A5 p7 (List.length a : Int)) then
  bif (Gf a) then
  bif (Gf b) then
  bif (decide ((List.length p5) + 1 ≤ H0)) then
  Af.minus.L0 N M a b (Bd ((1 : Int) - (Bd (Int.tdiv (Bd ((Bd ((Bd ((4294967296 : Int) + (Fx a p7))) - (Fx b p7))) - p6)) (4294967296 : Int))))) (Ab (p7 + (1 : Int))) (p5 ++ [(Im (Int.tmod (Bd ((Bd ((Bd ((4294967296 : Int) + (Fx a p7))) - (Fx b p7))) - p6)) (4294967296 : Int)))])
  else none
  else none
  else none
  else some (.ints (.own 100005 173) .u32 p5) := by kernel_rfl
theorem Af.minus.ev (N : Nat) (a b : List Int) : A1 Af.minus.E N Tryz.f177 (Ad Tryz.f177) [.ints .arg .u32 a, .ints .arg .u32 b] =
  Af.minus.L0 N N a b (0 : Int) (0 : Int) [] := by kernel_rfl
theorem Af.minus.Ac (hk : A0 Tryz.prog Af.minus.A9) (h : ∀ (a b : List Int), Af.minus.pre [.l a, .l b] = true → ∃ N dv drops, A1 Af.minus.E N Tryz.f177 (Ad Tryz.f177) [.ints .arg .u32 a, .ints .arg .u32 b] = some dv ∧ Wk drops dv (Af.minus.out [.l a, .l b])) : Am Tryz.prog 177 Af.minus.spec :=
  Aj (A2 hk _ _ _) Tryz.func177 (by kernel_rfl) (by kernel_rfl) h
abbrev _root_.Go.Proofs.S1.Af.minus.Kn : Prop := Am Tryz.prog 177 Af.minus.spec
def Af.Add.A9 : List (Nat × Entry) := [(171, Af.Made.spec), (176, Af.Hg.spec), (177, Af.minus.spec), (174, Af.plus.spec)]
def Af.Add.E : Env := Bb (A8 Af.Add.A9) (fun _ => false) (fun _ => none) (fun _ => none)
theorem Af.Add.ev (N : Nat) (n : Bool) (a : List Int) (m : Bool) (b : List Int) : A1 Af.Add.E N Tryz.f112 (Ad Tryz.f112) [.agg [.bool n, .ints .arg .u32 a], .agg [.bool m, .ints .arg .u32 b]] =
  bif (n == m) then
  bif (Gf a && Gf b) then
  bif (Gf (Iv a b)) then
  some (.agg [.bool (Bc (wv n (Iv a b))), .ints .arg .u32 (Al (wv n (Iv a b)))])
  else none
  else none
  else bif (Gf a && Gf b) then
  bif (A5 (Tx (B7 a) (B7 b)) (0 : Int)) then
  bif ((Gf b && Gf a) && leL a b) then
  bif (Gf (F7 b a)) then
  some (.agg [.bool (Bc (wv m (F7 b a))), .ints .arg .u32 (Al (wv m (F7 b a)))])
  else none
  else none
  else bif ((Gf a && Gf b) && leL b a) then
  bif (Gf (F7 a b)) then
  some (.agg [.bool (Bc (wv n (F7 a b))), .ints .arg .u32 (Al (wv n (F7 a b)))])
  else none
  else none
  else none :=
  Eq.trans (by kernel_rfl)
  (Fb (C1 (Ld (Gf a && Gf b)) (C1 (Ld (Gf (Iv a b))) rfl rfl) rfl) (Fb (Fb (C1 (Ld ((Gf b && Gf a) && leL a b)) (C1 (Ld (Gf (F7 b a))) rfl rfl) rfl) (C1 (Ld ((Gf a && Gf b) && leL b a)) (C1 (Ld (Gf (F7 a b))) rfl rfl) rfl)) rfl))
theorem Af.Add.Ac (hk : A0 Tryz.prog Af.Add.A9) (h : ∀ (n : Bool) (a : List Int) (m : Bool) (b : List Int), Af.Add.pre [.b n, .l a, .b m, .l b] = true → ∃ N dv drops, A1 Af.Add.E N Tryz.f112 (Ad Tryz.f112) [.agg [.bool n, .ints .arg .u32 a], .agg [.bool m, .ints .arg .u32 b]] = some dv ∧ Wk drops dv (Af.Add.out [.b n, .l a, .b m, .l b])) : Am Tryz.prog 112 Af.Add.spec :=
  Aj (A2 hk _ _ _) Tryz.func112 (by kernel_rfl) (by kernel_rfl) h
abbrev _root_.Go.Proofs.S1.Af.Add.Kn : Prop := Am Tryz.prog 112 Af.Add.spec
def Af.Neg.A9 : List (Nat × Entry) := [(171, Af.Made.spec)]
def Af.Neg.E : Env := Bb (A8 Af.Neg.A9) (fun _ => false) (fun _ => none) (fun _ => none)
theorem Af.Neg.ev (N : Nat) (n : Bool) (a : List Int) : A1 Af.Neg.E N Tryz.f143 (Ad Tryz.f143) [.agg [.bool n, .ints .arg .u32 a]] =
  bif (Gf a) then
  some (.agg [.bool (Bc (wv (!n) a)), .ints .arg .u32 (Al (wv (!n) a))])
  else none := by kernel_rfl
theorem Af.Neg.Ac (hk : A0 Tryz.prog Af.Neg.A9) (h : ∀ (n : Bool) (a : List Int), Af.Neg.pre [.b n, .l a] = true → ∃ N dv drops, A1 Af.Neg.E N Tryz.f143 (Ad Tryz.f143) [.agg [.bool n, .ints .arg .u32 a]] = some dv ∧ Wk drops dv (Af.Neg.out [.b n, .l a])) : Am Tryz.prog 143 Af.Neg.spec :=
  Aj (A2 hk _ _ _) Tryz.func143 (by kernel_rfl) (by kernel_rfl) h
abbrev _root_.Go.Proofs.S1.Af.Neg.Kn : Prop := Am Tryz.prog 143 Af.Neg.spec
end EqRefA
end Go.Proofs.S1
end
