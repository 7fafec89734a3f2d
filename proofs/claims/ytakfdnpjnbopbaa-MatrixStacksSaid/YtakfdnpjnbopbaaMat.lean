/- Mat of the verified evaluator and its use for this seat (of my texts MatL, MatW). -/
import Derived.Test.YtakfdnpjnbopbaaMul
import Derived.Test.YtakfdnpjnbopbaaFlo

/- Matrices as lists of rows, in plain lists; sums of products. No program. -/
namespace Go.Rnd
open Go.Den

def grid (r c : Nat) (f : Nat → Nat → Int) : List Int := (List.range (r * c)).map fun j => f (j / c) (j % c)

theorem grid_length (r c : Nat) (f : Nat → Nat → Int) : (grid r c f).length = r * c := by unfold grid; rw [List.length_map, List.length_range]

theorem place_lt' {r c i k : Nat} (hi : i < r) (hk : k < c) : i * c + k < r * c := by
  have : (i + 1) * c ≤ r * c := Nat.mul_le_mul_right c hi
  rw [Nat.add_mul, Nat.one_mul] at this
  omega

theorem place_div {c i k : Nat} (hk : k < c) : (i * c + k) / c = i ∧ (i * c + k) % c = k := by
  constructor
  · rw [Nat.mul_comm, Nat.mul_add_div (by omega), Nat.div_eq_of_lt hk, Nat.add_zero]
  · rw [Nat.mul_comm, Nat.mul_add_mod, Nat.mod_eq_of_lt hk]

theorem grid_getElem? {r c : Nat} {f : Nat → Nat → Int} {j : Nat} (h : j < r * c) : (grid r c f)[j]? = some (f (j / c) (j % c)) := by
  unfold grid
  rw [List.getElem?_map, List.getElem?_range h]
  rfl

theorem grid_get {r c i k : Nat} {f : Nat → Nat → Int} (hi : i < r) (hk : k < c) : (grid r c f).getD (i * c + k) 0 = f i k := by
  obtain ⟨d1, d2⟩ := place_div (i := i) hk
  rw [List.getD_eq_getElem?_getD, grid_getElem? (place_lt' hi hk), d1, d2]
  rfl

theorem list_ext {l m : List Int} (h : l.length = m.length) (he : ∀ j, j < l.length → l[j]? = m[j]?) : l = m := by
  refine List.ext_getElem? fun j => ?_
  by_cases hj : j < l.length
  · exact he j hj
  · rw [List.getElem?_eq_none (by omega), List.getElem?_eq_none (by omega)]

theorem grid_congr {r c : Nat} {f g : Nat → Nat → Int} (h : ∀ i k, i < r → k < c → f i k = g i k) : grid r c f = grid r c g := by
  refine list_ext (by rw [grid_length, grid_length]) fun j hj => ?_
  rw [grid_length] at hj
  have hc : 0 < c := by
    rcases Nat.eq_zero_or_pos c with h0 | h0
    · subst h0; rw [Nat.mul_zero] at hj; omega
    · exact h0
  rw [grid_getElem? hj, grid_getElem? hj, h (j / c) (j % c) ((Nat.div_lt_iff_lt_mul hc).2 hj) (Nat.mod_lt _ hc)]

theorem grid_self {r c : Nat} {l : List Int} (h : l.length = r * c) : l = grid r c fun i k => l.getD (i * c + k) 0 := by
  refine list_ext (by rw [grid_length, h]) fun j hj => ?_
  rw [grid_getElem? (by omega)]
  have e : j / c * c + j % c = j := by rw [Nat.mul_comm]; exact Nat.div_add_mod j c
  rw [e, List.getD_eq_getElem?_getD, List.getElem?_eq_getElem hj]
  rfl

theorem grid_set {r c i k : Nat} {f : Nat → Nat → Int} (hk : k < c) (x : Int) :
    (grid r c f).set (i * c + k) x = grid r c fun a b => if a = i ∧ b = k then x else f a b := by
  refine list_ext (by rw [List.length_set, grid_length, grid_length]) fun j hj => ?_
  rw [List.length_set, grid_length] at hj
  obtain ⟨d1, d2⟩ := place_div (i := i) hk
  rw [grid_getElem? hj, List.getElem?_set]
  by_cases h : i * c + k = j
  · subst h
    rw [if_pos rfl, if_pos (by rw [grid_length]; exact hj), d1, d2, if_pos ⟨rfl, rfl⟩]
  · rw [if_neg h, grid_getElem? hj, if_neg]
    rintro ⟨h1, h2⟩
    exact h (by rw [← h1, ← h2, Nat.mul_comm]; exact Nat.div_add_mod j c)

theorem grid_succ (r c : Nat) (f : Nat → Nat → Int) : grid (r + 1) c f = grid r c f ++ (List.range c).map (f r) := by
  unfold grid
  rw [Nat.add_mul, Nat.one_mul, List.range_add, List.map_append, List.map_map]
  congr 1
  refine List.map_congr_left fun k hk => ?_
  have hk := List.mem_range.1 hk
  obtain ⟨d1, d2⟩ := place_div (i := r) hk
  show f ((r * c + k) / c) ((r * c + k) % c) = f r k
  rw [d1, d2]

theorem grid_zero (c : Nat) (f : Nat → Nat → Int) : grid 0 c f = [] := by
  unfold grid; rw [Nat.zero_mul]; rfl

theorem row_succ (k : Nat) (g : Nat → Int) : (List.range (k + 1)).map g = (List.range k).map g ++ [g k] := by
  rw [List.range_succ, List.map_append]; rfl

theorem grid_const (r c : Nat) : grid r c (fun _ _ => 0) = List.replicate (r * c) 0 := by
  unfold grid
  rw [List.map_const', List.length_range]

/-! ### Sums of products -/

def dotP : Nat → List Int → List Int → Nat
  | s, x :: xs, y :: ys => dotP (addN s (mulN x.toNat y.toNat).1).1 xs ys
  | s, _, _ => s
def dotI (x y : List Int) : Int := dotP 0 x y

theorem mulN_lt {a b : Nat} : (mulN a b).1 < 2 ^ 64 := by
  unfold mulN
  split
  · decide
  · split
    · split
      · decide
      · unfold signN; split <;> decide
    · exact signN_lt _ _ _

theorem dotP_lt : ∀ (x y : List Int) (s : Nat), s < 2 ^ 64 → dotP s x y < 2 ^ 64
  | x :: xs, y :: ys, s, h => dotP_lt xs ys _ (addN_lt h mulN_lt).1
  | [], _, _, h => by unfold dotP; exact h
  | _ :: _, [], _, h => by unfold dotP; exact h

theorem dotP_comm : ∀ (x y : List Int) (s : Nat), dotP s x y = dotP s y x
  | x :: xs, y :: ys, s => by
    show dotP _ xs ys = dotP _ ys xs
    rw [mulN_comm, dotP_comm xs ys]
  | [], [], _ => rfl
  | [], _ :: _, _ => rfl
  | _ :: _, [], _ => rfl

theorem dotI_comm (x y : List Int) : dotI x y = dotI y x := congrArg (fun n : Nat => (n : Int)) (dotP_comm x y 0)

end Go.Rnd

/- Words of matrices that the specs name. -/
namespace Go.Rnd
open Go.Den

def sizeB (n : Int) : Bool := decide (0 ≤ n) && decide (n ≤ 6)
def rightB (r c : Int) (l : List Int) : Bool := (sizeB r && sizeB c) && decide ((l.length : Int) = r * c)
def chkI (r c : Int) (l : List Int) : Int := if rightB r c l = true then 0 else 1
def twoI (r c : Int) (l : List Int) (p q : Int) (m : List Int) : Int := if (rightB r c l && rightB p q m) = true then 0 else 1
noncomputable def atPre (_r c : Int) (l : List Int) (i k : Int) : Bool := cdec (0 ≤ i ∧ i < 10 ∧ 0 ≤ k ∧ k < 10 ∧ 0 ≤ c ∧ c < 10 ∧ i * c + k < l.length ∧ l.length < 1000)
def atI (c : Int) (l : List Int) (i k : Int) : Int := l.getD (i * c + k).toNat 0
def eyeI (i k : Int) : Int := if i = k then 4607182418800017408 else 0
noncomputable def smallI (x y i k : Int) : Bool := cdec (0 ≤ x ∧ x < 10 ∧ 0 ≤ y ∧ y < 10 ∧ 0 ≤ i ∧ i < 10 ∧ 0 ≤ k ∧ k < 10)
def partB (r c x y a b : Int) : Bool := decide (0 ≤ x ∧ 0 ≤ y ∧ 0 ≤ a ∧ 0 ≤ b ∧ x ≤ r ∧ y ≤ c ∧ a ≤ r - x ∧ b ≤ c - y)
noncomputable def stackPre (r c : Int) (l : List Int) (p q : Int) (m : List Int) (i k : Int) : Bool := cdec (0 ≤ r ∧ r < 10 ∧ 0 ≤ i ∧ i < 20 ∧ (if i < r then atPre r c l i k = true else atPre p q m (i - r) k = true))
def stackI (r c : Int) (l : List Int) (q : Int) (m : List Int) (i k : Int) : Int := if i < r then atI c l i k else atI q m (i - r) k
noncomputable def besidePre (r c : Int) (l : List Int) (p q : Int) (m : List Int) (i k : Int) : Bool := cdec (0 ≤ c ∧ c < 10 ∧ 0 ≤ k ∧ k < 20 ∧ (if k < c then atPre r c l i k = true else atPre p q m i (k - c) = true))
def besideI (c : Int) (l : List Int) (q : Int) (m : List Int) (i k : Int) : Int := if k < c then atI c l i k else atI q m i (k - c)
noncomputable def rowPre (r c : Int) (l : List Int) (i : Int) : Bool := rightB r c l && cdec (0 ≤ i ∧ i < r)
noncomputable def colPre (r c : Int) (l : List Int) (k : Int) : Bool := rightB r c l && cdec (0 ≤ k ∧ k < c)
noncomputable def mulPre (r c : Int) (l : List Int) (p q : Int) (m : List Int) (i k : Int) : Bool := (rowPre r c l i && colPre p q m k) && ((allU64 l && allU64 m) && cdec (c = p))
def rowI (c : Int) (l : List Int) (i : Int) : List Int := List.drop (i * c).toNat (List.take ((i + 1) * c).toNat l)
def colI (r c : Int) (l : List Int) (k : Int) : List Int := (List.range r.toNat).map fun j : Nat => atI c l (j : Int) k
def getX (r c : Int) (l : List Int) (i k : Int) : Int × Int :=
  if rightB r c l = true then (if 0 ≤ i ∧ i < r ∧ 0 ≤ k ∧ k < c then (atI c l i k, 0) else (0, 7)) else (0, 1)
abbrev MX := Int × Int × List Int × Int
def noX (e : Int) : MX := (0, 0, [], e)
def zerosX (a b : Int) : MX := if (sizeB a && sizeB b) = true then (a, b, grid a.toNat b.toNat fun _ _ => 0, 0) else noX 3
def eyeX (n : Int) : MX := if sizeB n = true then (n, n, grid n.toNat n.toNat fun i k => eyeI i k, 0) else noX 3
def turnX (r c : Int) (l : List Int) : MX := if rightB r c l = true then (c, r, grid c.toNat r.toNat fun i k => atI c l k i, 0) else noX 1
def partX (r c : Int) (l : List Int) (x y a b : Int) : MX :=
  if rightB r c l = true then (if partB r c x y a b = true then (a, b, grid a.toNat b.toNat fun i k => atI c l (x + i) (y + k), 0) else noX 3) else noX 1
def mulX (r c : Int) (l : List Int) (p q : Int) (m : List Int) : MX :=
  if (rightB r c l && rightB p q m) = true then (if c = p then (r, q, grid r.toNat q.toNat fun i k => dotI (rowI c l i) (colI p q m k), 0) else noX 3) else noX 1
def subX (r c : Int) (l : List Int) (p q : Int) (m : List Int) : MX :=
  if (rightB r c l && rightB p q m) = true then (if r = p ∧ c = q then (r, c, grid r.toNat c.toNat fun i k => subBI (atI c l i k) (atI q m i k), 0) else noX 3) else noX 1
def stackX (r c : Int) (l : List Int) (p q : Int) (m : List Int) : MX :=
  if (rightB r c l && rightB p q m) = true then (if c = q ∧ r + p ≤ 6 then (r + p, c, grid (r + p).toNat c.toNat fun i k => stackI r c l q m i k, 0) else noX 3) else noX 1
def besideX (r c : Int) (l : List Int) (p q : Int) (m : List Int) : MX :=
  if (rightB r c l && rightB p q m) = true then (if r = p ∧ c + q ≤ 6 then (r, c + q, grid r.toNat (c + q).toNat fun i k => besideI c l q m i k, 0) else noX 3) else noX 1
def fitB (x y : List Int) : Bool := decide (x.length = y.length) && decide (x.length ≤ 64)
def sameL (x y : List Int) : Bool := decide (x = y)
def sameM (r c : Int) (l : List Int) (p q : Int) (m : List Int) : Bool := (decide (r = p) && decide (c = q)) && decide (l = m)
def toldB (r c : Int) (l : List Int) (e p q : Int) (m : List Int) (f : Int) : Bool :=
  if f = 0 then decide (e = 0) && sameM r c l p q m else decide (e = f) && sameM r c l 0 0 []
noncomputable def okLen (l : List Int) : Bool := cdec (l.length ≤ 17592186044416)

theorem size_iff {n : Int} : sizeB n = true ↔ 0 ≤ n ∧ n ≤ 6 := by unfold sizeB; simp
theorem right_iff {r c : Int} {l : List Int} : rightB r c l = true ↔ (0 ≤ r ∧ r ≤ 6) ∧ (0 ≤ c ∧ c ≤ 6) ∧ (l.length : Int) = r * c := by
  unfold rightB
  rw [Bool.and_eq_true, Bool.and_eq_true, size_iff, size_iff, decide_eq_true_eq, and_assoc]
theorem right_nat {r c : Int} {l : List Int} (h : rightB r c l = true) : ∃ R C : Nat, r = R ∧ c = C ∧ R ≤ 6 ∧ C ≤ 6 ∧ l.length = R * C := by
  obtain ⟨h1, h2, h3⟩ := right_iff.1 h
  refine ⟨r.toNat, c.toNat, by omega, by omega, by omega, by omega, ?_⟩
  have : (((r.toNat * c.toNat : Nat)) : Int) = r * c := by rw [Int.natCast_mul, Int.toNat_of_nonneg h1.1, Int.toNat_of_nonneg h2.1]
  omega
theorem size_nat {n : Int} (h : sizeB n = true) : ∃ R : Nat, n = R ∧ R ≤ 6 := by
  have := size_iff.1 h
  exact ⟨n.toNat, by omega, by omega⟩
theorem size_of {n : Nat} (h : n ≤ 6) : sizeB (n : Int) = true := size_iff.2 ⟨by omega, by omega⟩
theorem right_of {r c : Nat} {l : List Int} (hr : r ≤ 6) (hc : c ≤ 6) (hl : l.length = r * c) : rightB (r : Int) (c : Int) l = true :=
  right_iff.2 ⟨⟨by omega, by omega⟩, ⟨by omega, by omega⟩, by rw [hl, Int.natCast_mul]⟩
theorem atI_nat (c : Nat) (l : List Int) (i k : Nat) : atI (c : Int) l (i : Int) (k : Int) = l.getD (i * c + k) 0 := by
  unfold atI
  have : ((i : Int) * (c : Int) + (k : Int)).toNat = i * c + k := by
    rw [← Int.natCast_mul, ← Int.natCast_add, Int.toNat_natCast]
  rw [this]
theorem atPre_of {r c i k : Nat} {R : Int} {l : List Int} (hr : r ≤ 6) (hc : c ≤ 6) (hl : l.length = r * c) (hi : i < r) (hk : k < c) : atPre R (c : Int) l (i : Int) (k : Int) = true := by
  have := place_lt' hi hk
  have h36 := Nat.mul_le_mul hr hc
  refine cdec_eq.2 ⟨by omega, by omega, by omega, by omega, by omega, by omega, ?_, by omega⟩
  rw [← Int.natCast_mul]
  omega
theorem grid_at {r c i k : Nat} {f : Nat → Nat → Int} (hi : i < r) (hk : k < c) : atI (c : Int) (grid r c f) (i : Int) (k : Int) = f i k := by
  rw [atI_nat, grid_get hi hk]
theorem grid_right {r c : Nat} (f : Nat → Nat → Int) (hr : r ≤ 6) (hc : c ≤ 6) : rightB (r : Int) (c : Int) (grid r c f) = true := right_of hr hc (grid_length r c f)
theorem grid_back {r c : Nat} {l : List Int} (h : l.length = r * c) : (grid r c fun i k => atI (c : Int) l (i : Int) (k : Int)) = l := by
  conv => rhs; rw [grid_self h]
  exact grid_congr fun i k _ _ => atI_nat c l i k
theorem all_get {l : List Int} (h : allU64 l = true) {j : Nat} (hj : j < l.length) : inU64 (l.getD j 0) = true := by
  have h := cdec_eq.1 h
  rw [List.getD_eq_getElem?_getD, List.getElem?_eq_getElem hj]
  exact h _ (List.getElem_mem hj)

end Go.Rnd
