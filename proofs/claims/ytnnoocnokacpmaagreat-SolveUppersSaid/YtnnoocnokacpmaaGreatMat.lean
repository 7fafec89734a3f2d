/- Mat of the verified evaluator and its use for this seat (of my texts MatL, MatW, SolW, TriL). -/
import Derived.Test.YtnnoocnokacpmaaGreatMul
import Derived.Test.YtnnoocnokacpmaaGreatFlo
import Derived.Test.YtnnoocnokacpmaaGreatPow

/- Matrices as lists of rows, in plain lists; sums of products. No program. -/
namespace Go.Rnd
open Go.Den

def grid (r c : Nat) (f : Nat → Nat → Int) : List Int := (List.range (r * c)).map fun j => f (j / c) (j % c)

theorem grid_length (r c : Nat) (f : Nat → Nat → Int) : (grid r c f).length = r * c := by unfold grid; rw [List.length_map, List.length_range]

theorem place_lt' {r c i k : Nat} (hi : i < r) (hk : k < c) : i * c + k < r * c := by
  have : (i + 1) * c ≤ r * c := Nat.mul_le_mul_right c hi
  rw [Nat.add_mul, Nat.one_mul] at this
  omega

theorem place_div {c i k : Nat} (hk : k < c) : (i * c + k) / c = i ∧ (i * c + k) % c = k := by
  constructor
  · rw [Nat.mul_comm, Nat.mul_add_div (by omega), Nat.div_eq_of_lt hk, Nat.add_zero]
  · rw [Nat.mul_comm, Nat.mul_add_mod, Nat.mod_eq_of_lt hk]

theorem grid_getElem? {r c : Nat} {f : Nat → Nat → Int} {j : Nat} (h : j < r * c) : (grid r c f)[j]? = some (f (j / c) (j % c)) := by
  unfold grid
  rw [List.getElem?_map, List.getElem?_range h]
  rfl

theorem grid_get {r c i k : Nat} {f : Nat → Nat → Int} (hi : i < r) (hk : k < c) : (grid r c f).getD (i * c + k) 0 = f i k := by
  obtain ⟨d1, d2⟩ := place_div (i := i) hk
  rw [List.getD_eq_getElem?_getD, grid_getElem? (place_lt' hi hk), d1, d2]
  rfl

theorem list_ext {l m : List Int} (h : l.length = m.length) (he : ∀ j, j < l.length → l[j]? = m[j]?) : l = m := by
  refine List.ext_getElem? fun j => ?_
  by_cases hj : j < l.length
  · exact he j hj
  · rw [List.getElem?_eq_none (by omega), List.getElem?_eq_none (by omega)]

theorem grid_congr {r c : Nat} {f g : Nat → Nat → Int} (h : ∀ i k, i < r → k < c → f i k = g i k) : grid r c f = grid r c g := by
  refine list_ext (by rw [grid_length, grid_length]) fun j hj => ?_
  rw [grid_length] at hj
  have hc : 0 < c := by
    rcases Nat.eq_zero_or_pos c with h0 | h0
    · subst h0; rw [Nat.mul_zero] at hj; omega
    · exact h0
  rw [grid_getElem? hj, grid_getElem? hj, h (j / c) (j % c) ((Nat.div_lt_iff_lt_mul hc).2 hj) (Nat.mod_lt _ hc)]

theorem grid_self {r c : Nat} {l : List Int} (h : l.length = r * c) : l = grid r c fun i k => l.getD (i * c + k) 0 := by
  refine list_ext (by rw [grid_length, h]) fun j hj => ?_
  rw [grid_getElem? (by omega)]
  have e : j / c * c + j % c = j := by rw [Nat.mul_comm]; exact Nat.div_add_mod j c
  rw [e, List.getD_eq_getElem?_getD, List.getElem?_eq_getElem hj]
  rfl

theorem grid_set {r c i k : Nat} {f : Nat → Nat → Int} (hk : k < c) (x : Int) :
    (grid r c f).set (i * c + k) x = grid r c fun a b => if a = i ∧ b = k then x else f a b := by
  refine list_ext (by rw [List.length_set, grid_length, grid_length]) fun j hj => ?_
  rw [List.length_set, grid_length] at hj
  obtain ⟨d1, d2⟩ := place_div (i := i) hk
  rw [grid_getElem? hj, List.getElem?_set]
  by_cases h : i * c + k = j
  · subst h
    rw [if_pos rfl, if_pos (by rw [grid_length]; exact hj), d1, d2, if_pos ⟨rfl, rfl⟩]
  · rw [if_neg h, grid_getElem? hj, if_neg]
    rintro ⟨h1, h2⟩
    exact h (by rw [← h1, ← h2, Nat.mul_comm]; exact Nat.div_add_mod j c)

theorem grid_succ (r c : Nat) (f : Nat → Nat → Int) : grid (r + 1) c f = grid r c f ++ (List.range c).map (f r) := by
  unfold grid
  rw [Nat.add_mul, Nat.one_mul, List.range_add, List.map_append, List.map_map]
  congr 1
  refine List.map_congr_left fun k hk => ?_
  have hk := List.mem_range.1 hk
  obtain ⟨d1, d2⟩ := place_div (i := r) hk
  show f ((r * c + k) / c) ((r * c + k) % c) = f r k
  rw [d1, d2]

theorem grid_zero (c : Nat) (f : Nat → Nat → Int) : grid 0 c f = [] := by
  unfold grid; rw [Nat.zero_mul]; rfl

theorem row_succ (k : Nat) (g : Nat → Int) : (List.range (k + 1)).map g = (List.range k).map g ++ [g k] := by
  rw [List.range_succ, List.map_append]; rfl

theorem grid_const (r c : Nat) : grid r c (fun _ _ => 0) = List.replicate (r * c) 0 := by
  unfold grid
  rw [List.map_const', List.length_range]

/-! ### Sums of products -/

def dotP : Nat → List Int → List Int → Nat
  | s, x :: xs, y :: ys => dotP (addN s (mulN x.toNat y.toNat).1).1 xs ys
  | s, _, _ => s
def dotI (x y : List Int) : Int := dotP 0 x y

theorem mulN_lt {a b : Nat} : (mulN a b).1 < 2 ^ 64 := by
  unfold mulN
  split
  · decide
  · split
    · split
      · decide
      · unfold signN; split <;> decide
    · exact signN_lt _ _ _

theorem dotP_lt : ∀ (x y : List Int) (s : Nat), s < 2 ^ 64 → dotP s x y < 2 ^ 64
  | x :: xs, y :: ys, s, h => dotP_lt xs ys _ (addN_lt h mulN_lt).1
  | [], _, _, h => by unfold dotP; exact h
  | _ :: _, [], _, h => by unfold dotP; exact h

theorem dotP_comm : ∀ (x y : List Int) (s : Nat), dotP s x y = dotP s y x
  | x :: xs, y :: ys, s => by
    show dotP _ xs ys = dotP _ ys xs
    rw [mulN_comm, dotP_comm xs ys]
  | [], [], _ => rfl
  | [], _ :: _, _ => rfl
  | _ :: _, [], _ => rfl

theorem dotI_comm (x y : List Int) : dotI x y = dotI y x := congrArg (fun n : Nat => (n : Int)) (dotP_comm x y 0)

end Go.Rnd

/- Words of matrices that the specs name. -/
namespace Go.Rnd
open Go.Den

def sizeB (n : Int) : Bool := decide (0 ≤ n) && decide (n ≤ 6)
def rightB (r c : Int) (l : List Int) : Bool := (sizeB r && sizeB c) && decide ((l.length : Int) = r * c)
def chkI (r c : Int) (l : List Int) : Int := if rightB r c l = true then 0 else 1
def twoI (r c : Int) (l : List Int) (p q : Int) (m : List Int) : Int := if (rightB r c l && rightB p q m) = true then 0 else 1
noncomputable def atPre (_r c : Int) (l : List Int) (i k : Int) : Bool := cdec (0 ≤ i ∧ i < 10 ∧ 0 ≤ k ∧ k < 10 ∧ 0 ≤ c ∧ c < 10 ∧ i * c + k < l.length ∧ l.length < 1000)
def atI (c : Int) (l : List Int) (i k : Int) : Int := l.getD (i * c + k).toNat 0
def eyeI (i k : Int) : Int := if i = k then 4607182418800017408 else 0
noncomputable def smallI (x y i k : Int) : Bool := cdec (0 ≤ x ∧ x < 10 ∧ 0 ≤ y ∧ y < 10 ∧ 0 ≤ i ∧ i < 10 ∧ 0 ≤ k ∧ k < 10)
def partB (r c x y a b : Int) : Bool := decide (0 ≤ x ∧ 0 ≤ y ∧ 0 ≤ a ∧ 0 ≤ b ∧ x ≤ r ∧ y ≤ c ∧ a ≤ r - x ∧ b ≤ c - y)
noncomputable def stackPre (r c : Int) (l : List Int) (p q : Int) (m : List Int) (i k : Int) : Bool := cdec (0 ≤ r ∧ r < 10 ∧ 0 ≤ i ∧ i < 20 ∧ (if i < r then atPre r c l i k = true else atPre p q m (i - r) k = true))
def stackI (r c : Int) (l : List Int) (q : Int) (m : List Int) (i k : Int) : Int := if i < r then atI c l i k else atI q m (i - r) k
noncomputable def besidePre (r c : Int) (l : List Int) (p q : Int) (m : List Int) (i k : Int) : Bool := cdec (0 ≤ c ∧ c < 10 ∧ 0 ≤ k ∧ k < 20 ∧ (if k < c then atPre r c l i k = true else atPre p q m i (k - c) = true))
def besideI (c : Int) (l : List Int) (q : Int) (m : List Int) (i k : Int) : Int := if k < c then atI c l i k else atI q m i (k - c)
noncomputable def rowPre (r c : Int) (l : List Int) (i : Int) : Bool := rightB r c l && cdec (0 ≤ i ∧ i < r)
noncomputable def colPre (r c : Int) (l : List Int) (k : Int) : Bool := rightB r c l && cdec (0 ≤ k ∧ k < c)
noncomputable def mulPre (r c : Int) (l : List Int) (p q : Int) (m : List Int) (i k : Int) : Bool := (rowPre r c l i && colPre p q m k) && ((allU64 l && allU64 m) && cdec (c = p))
def rowI (c : Int) (l : List Int) (i : Int) : List Int := List.drop (i * c).toNat (List.take ((i + 1) * c).toNat l)
def colI (r c : Int) (l : List Int) (k : Int) : List Int := (List.range r.toNat).map fun j : Nat => atI c l (j : Int) k
def getX (r c : Int) (l : List Int) (i k : Int) : Int × Int :=
  if rightB r c l = true then (if 0 ≤ i ∧ i < r ∧ 0 ≤ k ∧ k < c then (atI c l i k, 0) else (0, 7)) else (0, 1)
abbrev MX := Int × Int × List Int × Int
def noX (e : Int) : MX := (0, 0, [], e)
def zerosX (a b : Int) : MX := if (sizeB a && sizeB b) = true then (a, b, grid a.toNat b.toNat fun _ _ => 0, 0) else noX 3
def eyeX (n : Int) : MX := if sizeB n = true then (n, n, grid n.toNat n.toNat fun i k => eyeI i k, 0) else noX 3
def turnX (r c : Int) (l : List Int) : MX := if rightB r c l = true then (c, r, grid c.toNat r.toNat fun i k => atI c l k i, 0) else noX 1
def partX (r c : Int) (l : List Int) (x y a b : Int) : MX :=
  if rightB r c l = true then (if partB r c x y a b = true then (a, b, grid a.toNat b.toNat fun i k => atI c l (x + i) (y + k), 0) else noX 3) else noX 1
def mulX (r c : Int) (l : List Int) (p q : Int) (m : List Int) : MX :=
  if (rightB r c l && rightB p q m) = true then (if c = p then (r, q, grid r.toNat q.toNat fun i k => dotI (rowI c l i) (colI p q m k), 0) else noX 3) else noX 1
def subX (r c : Int) (l : List Int) (p q : Int) (m : List Int) : MX :=
  if (rightB r c l && rightB p q m) = true then (if r = p ∧ c = q then (r, c, grid r.toNat c.toNat fun i k => subBI (atI c l i k) (atI q m i k), 0) else noX 3) else noX 1
def stackX (r c : Int) (l : List Int) (p q : Int) (m : List Int) : MX :=
  if (rightB r c l && rightB p q m) = true then (if c = q ∧ r + p ≤ 6 then (r + p, c, grid (r + p).toNat c.toNat fun i k => stackI r c l q m i k, 0) else noX 3) else noX 1
def besideX (r c : Int) (l : List Int) (p q : Int) (m : List Int) : MX :=
  if (rightB r c l && rightB p q m) = true then (if r = p ∧ c + q ≤ 6 then (r, c + q, grid r.toNat (c + q).toNat fun i k => besideI c l q m i k, 0) else noX 3) else noX 1
def fitB (x y : List Int) : Bool := decide (x.length = y.length) && decide (x.length ≤ 64)
def sameL (x y : List Int) : Bool := decide (x = y)
def sameM (r c : Int) (l : List Int) (p q : Int) (m : List Int) : Bool := (decide (r = p) && decide (c = q)) && decide (l = m)
def toldB (r c : Int) (l : List Int) (e p q : Int) (m : List Int) (f : Int) : Bool :=
  if f = 0 then decide (e = 0) && sameM r c l p q m else decide (e = f) && sameM r c l 0 0 []
noncomputable def okLen (l : List Int) : Bool := cdec (l.length ≤ 17592186044416)

theorem size_iff {n : Int} : sizeB n = true ↔ 0 ≤ n ∧ n ≤ 6 := by unfold sizeB; simp
theorem right_iff {r c : Int} {l : List Int} : rightB r c l = true ↔ (0 ≤ r ∧ r ≤ 6) ∧ (0 ≤ c ∧ c ≤ 6) ∧ (l.length : Int) = r * c := by
  unfold rightB
  rw [Bool.and_eq_true, Bool.and_eq_true, size_iff, size_iff, decide_eq_true_eq, and_assoc]
theorem right_nat {r c : Int} {l : List Int} (h : rightB r c l = true) : ∃ R C : Nat, r = R ∧ c = C ∧ R ≤ 6 ∧ C ≤ 6 ∧ l.length = R * C := by
  obtain ⟨h1, h2, h3⟩ := right_iff.1 h
  refine ⟨r.toNat, c.toNat, by omega, by omega, by omega, by omega, ?_⟩
  have : (((r.toNat * c.toNat : Nat)) : Int) = r * c := by rw [Int.natCast_mul, Int.toNat_of_nonneg h1.1, Int.toNat_of_nonneg h2.1]
  omega
theorem size_nat {n : Int} (h : sizeB n = true) : ∃ R : Nat, n = R ∧ R ≤ 6 := by
  have := size_iff.1 h
  exact ⟨n.toNat, by omega, by omega⟩
theorem size_of {n : Nat} (h : n ≤ 6) : sizeB (n : Int) = true := size_iff.2 ⟨by omega, by omega⟩
theorem right_of {r c : Nat} {l : List Int} (hr : r ≤ 6) (hc : c ≤ 6) (hl : l.length = r * c) : rightB (r : Int) (c : Int) l = true :=
  right_iff.2 ⟨⟨by omega, by omega⟩, ⟨by omega, by omega⟩, by rw [hl, Int.natCast_mul]⟩
theorem atI_nat (c : Nat) (l : List Int) (i k : Nat) : atI (c : Int) l (i : Int) (k : Int) = l.getD (i * c + k) 0 := by
  unfold atI
  have : ((i : Int) * (c : Int) + (k : Int)).toNat = i * c + k := by
    rw [← Int.natCast_mul, ← Int.natCast_add, Int.toNat_natCast]
  rw [this]
theorem atPre_of {r c i k : Nat} {R : Int} {l : List Int} (hr : r ≤ 6) (hc : c ≤ 6) (hl : l.length = r * c) (hi : i < r) (hk : k < c) : atPre R (c : Int) l (i : Int) (k : Int) = true := by
  have := place_lt' hi hk
  have h36 := Nat.mul_le_mul hr hc
  refine cdec_eq.2 ⟨by omega, by omega, by omega, by omega, by omega, by omega, ?_, by omega⟩
  rw [← Int.natCast_mul]
  omega
theorem grid_at {r c i k : Nat} {f : Nat → Nat → Int} (hi : i < r) (hk : k < c) : atI (c : Int) (grid r c f) (i : Int) (k : Int) = f i k := by
  rw [atI_nat, grid_get hi hk]
theorem grid_right {r c : Nat} (f : Nat → Nat → Int) (hr : r ≤ 6) (hc : c ≤ 6) : rightB (r : Int) (c : Int) (grid r c f) = true := right_of hr hc (grid_length r c f)
theorem grid_back {r c : Nat} {l : List Int} (h : l.length = r * c) : (grid r c fun i k => atI (c : Int) l (i : Int) (k : Int)) = l := by
  conv => rhs; rw [grid_self h]
  exact grid_congr fun i k _ _ => atI_nat c l i k
theorem all_get {l : List Int} (h : allU64 l = true) {j : Nat} (hj : j < l.length) : inU64 (l.getD j 0) = true := by
  have h := cdec_eq.1 h
  rw [List.getD_eq_getElem?_getD, List.getElem?_eq_getElem hj]
  exact h _ (List.getElem_mem hj)

end Go.Rnd

/- Words of vectors, triangles and answers that the specs name. -/
namespace Go.Rnd
open Go.Den

def rankI (b : Int) : Int := keyN b.toNat
def ordI (a b : Int) : Int := ordN a.toNat b.toNat
def ordBI (a b : Int) : Bool := ordB a.toNat b.toNat
def magI (x : Int) : Int := absN x.toNat
def maxI (a b : Int) : Int := maxN a.toNat b.toNat
def scaleBI (x n : Int) : Int := (scaleN x.toNat n).1
def scaleFI (x n : Int) : Int := (scaleN x.toNat n).2
noncomputable def scalePre (x n : Int) : Bool := inU64 x && cdec (-2300 ≤ n ∧ n ≤ 2300)
def expI (x : Int) : Int := expN x.toNat
def bigP : List Int → Nat → Nat
  | [], m => m
  | x :: l, m => if kindN x.toNat = 4 then NaN else bigP l (max m (absN x.toNat))
def bigI (l : List Int) : Int := bigP l 0
def finL (l : List Int) : Bool := l.all finI
def chkFI (r c : Int) (l : List Int) : Int := if rightB r c l = true then (if finL l = true then 0 else 4) else 1
/-- Is there a nought on the diagonal? -/
def noughtD (c : Int) (l : List Int) (n : Nat) : Bool := (List.range n).any fun i : Nat => decide (kindI (atI c l (i : Int) (i : Int)) = 0)
def chkT (r c : Int) (l : List Int) (p q : Int) (m : List Int) : Int :=
  if chkFI r c l ≠ 0 then chkFI r c l else if chkFI p q m ≠ 0 then chkFI p q m
  else if r ≠ c ∨ r ≠ p then 3 else if noughtD c l r.toNat = true then 5 else 0
/-- A right side less a row's products with the numbers that are known, from a place on. -/
def lessR (c : Int) (l : List Int) (i : Int) : Int → Int → List Int → Int
  | s, _, [] => s
  | s, j, x :: xs => lessR c l i (subBI s (mulBI (atI c l i j) x)) (j + 1) xs
/-- A column of the answer from above: the last k rows of n. -/
def upL (c : Int) (l : List Int) (b : Nat → Int) (n : Nat) : Nat → List Int
  | 0 => []
  | k + 1 => divBI (lessR c l ((n - 1 - k : Nat) : Int) (b (n - 1 - k)) ((n - k : Nat) : Int) (upL c l b n k)) (atI c l ((n - 1 - k : Nat) : Int) ((n - 1 - k : Nat) : Int)) :: upL c l b n k
/-- A column of the answer from below: the first k rows. -/
def loL (c : Int) (l : List Int) (b : Nat → Int) : Nat → List Int
  | 0 => []
  | k + 1 => loL c l b k ++ [divBI (lessR c l (k : Int) (b k) 0 (loL c l b k)) (atI c l (k : Int) (k : Int))]
def upG (c : Int) (l : List Int) (q : Int) (m : List Int) (n w : Nat) : List Int := grid n w fun i j => (upL c l (fun i => atI q m (i : Int) (j : Int)) n n).getD i 0
def loG (c : Int) (l : List Int) (q : Int) (m : List Int) (n w : Nat) : List Int := grid n w fun i j => (loL c l (fun i => atI q m (i : Int) (j : Int)) n).getD i 0
def finX (r c : Int) (l : List Int) : MX := if finL l = true then (r, c, l, 0) else noX 2
def upX (r c : Int) (l : List Int) (p q : Int) (m : List Int) : MX :=
  if chkT r c l p q m ≠ 0 then noX (chkT r c l p q m) else finX r q (upG c l q m r.toNat q.toNat)
def loX (r c : Int) (l : List Int) (p q : Int) (m : List Int) : MX :=
  if chkT r c l p q m ≠ 0 then noX (chkT r c l p q m) else finX r q (loG c l q m r.toNat q.toNat)
/-- The numbers of the diagonal, without signs. -/
def diagL (c : Int) (l : List Int) (n : Nat) : List Int := (List.range n).map fun i : Nat => magI (atI c l (i : Int) (i : Int))
def flatL (d : List Int) : Bool := d.any fun x => !(decide (ordI (scaleBI (bigI d) (-40)) x < 0))
def flatB' (r c : Int) (l : List Int) : Bool := flatL (diagL c l (min r.toNat c.toNat))
def flatX (r c : Int) (l : List Int) : Bool × Int := if chkFI r c l ≠ 0 then (false, chkFI r c l) else (flatB' r c l, 0)
noncomputable def triPre (r c : Int) (l : List Int) (p q : Int) (m : List Int) : Bool := (rightB r c l && rightB p q m) && ((allU64 l && allU64 m) && cdec (r = c ∧ r = p))
/-- No mirror is asked for. -/
def fewB (r c : Int) (l : List Int) : Bool := (rightB r c l && finL l) && (decide (c ≤ 0) || decide (r ≤ 1))
def eyeG (n : Nat) : List Int := grid n n fun i k => eyeI (i : Int) (k : Int)
def turnedX (r c : Int) (l : List Int) (p q : Int) (m : List Int) : MX :=
  if (turnX r c l).2.2.2 ≠ 0 then noX (turnX r c l).2.2.2 else mulX (turnX r c l).1 (turnX r c l).2.1 (turnX r c l).2.2.1 p q m
def leastF (r c : Int) (l : List Int) (p q : Int) (m : List Int) : MX :=
  if chkFI p q m ≠ 0 then noX (chkFI p q m) else if r < c ∨ r ≠ p then noX 3
  else if (flatX (min r c) c (partX r c l 0 0 (min r c) c).2.2.1).1 = true then noX 5
  else if (turnedX r (min r c) (partX r r (eyeG r.toNat) 0 0 r (min r c)).2.2.1 p q m).2.2.2 ≠ 0 then noX (turnedX r (min r c) (partX r r (eyeG r.toNat) 0 0 r (min r c)).2.2.1 p q m).2.2.2
  else upX (min r c) c (partX r c l 0 0 (min r c) c).2.2.1 (turnedX r (min r c) (partX r r (eyeG r.toNat) 0 0 r (min r c)).2.2.1 p q m).1 (turnedX r (min r c) (partX r r (eyeG r.toNat) 0 0 r (min r c)).2.2.1 p q m).2.1 (turnedX r (min r c) (partX r r (eyeG r.toNat) 0 0 r (min r c)).2.2.1 p q m).2.2.1
end Go.Rnd

/- Triangles solved, in plain lists. -/
namespace Go.Rnd
open Go.Den

theorem divN_lt {a b : Nat} : (divN a b).1 < 2 ^ 64 := by
  have h1 : infR < 2 ^ 63 := by decide
  have hs : ∀ (s : Bool) {r : Nat}, r < 2 ^ 63 → signN s r < 2 ^ 64 := by
    intro s r h
    unfold signN
    cases s
    · rw [if_neg (by decide)]; omega
    · rw [if_pos rfl]; omega
  have hN : NaN < 2 ^ 64 := by decide
  unfold divN
  by_cases c1 : kindN a = 4 ∨ kindN b = 4
  · rw [if_pos c1]; exact hN
  rw [if_neg c1]
  by_cases c2 : kindN a = kindN b ∧ (kindN a = 3 ∨ kindN a = 0)
  · rw [if_pos c2]; exact hN
  rw [if_neg c2]
  by_cases c3 : kindN a = 3
  · rw [if_pos c3]; exact hs _ h1
  rw [if_neg c3]
  by_cases c4 : kindN b = 3 ∨ kindN a = 0
  · rw [if_pos c4]; exact hs _ (by decide)
  rw [if_neg c4]
  by_cases c5 : kindN b = 0
  · rw [if_pos c5]; exact hs _ h1
  rw [if_neg c5]
  exact hs _ (rung_lt _ _)

theorem div_in (a b : Int) : inU64 (divBI a b) = true := inU64_of divN_lt
theorem sub_in {a b : Int} (ha : inU64 a = true) (hb : inU64 b = true) : inU64 (subBI a b) = true := by
  obtain ⟨x, rfl, hx⟩ := inU64_nat ha
  obtain ⟨y, rfl, hy⟩ := inU64_nat hb
  exact inU64_of (addN_lt (by rw [Int.toNat_natCast]; exact hx) (minusN_lt (by rw [Int.toNat_natCast]; exact hy))).1
theorem grid_in {r c : Nat} {f : Nat → Nat → Int} (h : ∀ i k, inU64 (f i k) = true) : allU64 (grid r c f) = true := cdec_eq.2 fun x hx => by
  obtain ⟨j, _, rfl⟩ := List.mem_map.1 hx
  exact h _ _
theorem mul_in (a b : Int) : inU64 (mulBI a b) = true := inU64_of mulN_lt

theorem upL_length (c : Int) (l : List Int) (b : Nat → Int) (n : Nat) : ∀ k, (upL c l b n k).length = k
  | 0 => rfl
  | k + 1 => by rw [upL, List.length_cons, upL_length c l b n k]
theorem upL_in (c : Int) (l : List Int) (b : Nat → Int) (n : Nat) : ∀ k, ∀ x ∈ upL c l b n k, inU64 x = true
  | 0, x, h => by cases h
  | k + 1, x, h => by
    rw [upL] at h
    rcases List.mem_cons.1 h with rfl | h
    · exact div_in _ _
    · exact upL_in c l b n k x h
theorem upL_drop (c : Int) (l : List Int) (b : Nat → Int) (n k : Nat) : ∀ d, (upL c l b n (k + d)).drop d = upL c l b n k
  | 0 => rfl
  | d + 1 => by
    rw [← Nat.add_assoc, upL, List.drop_succ_cons]
    exact upL_drop c l b n k d
theorem upL_tail {c : Int} {l : List Int} {b : Nat → Int} {n k : Nat} (h : k ≤ n) : (upL c l b n n).drop (n - k) = upL c l b n k := by
  have := upL_drop c l b n k (n - k)
  rw [Nat.add_sub_cancel' h] at this
  exact this
/-- The number of row i, from those below it. -/
theorem upL_row {c : Int} {l : List Int} {b : Nat → Int} {n i : Nat} (h : i < n) :
    (upL c l b n n).getD i 0 = divBI (lessR c l (i : Int) (b i) ((i + 1 : Nat) : Int) ((upL c l b n n).drop (i + 1))) (atI c l (i : Int) (i : Int)) := by
  have e1 := upL_tail (c := c) (l := l) (b := b) (n := n) (k := n - i) (by omega)
  have e2 := upL_tail (c := c) (l := l) (b := b) (n := n) (k := n - i - 1) (by omega)
  rw [show n - (n - i) = i by omega] at e1
  rw [show n - (n - i - 1) = i + 1 by omega] at e2
  rw [e2]
  have e3 : (upL c l b n n).getD i 0 = ((upL c l b n n).drop i).getD 0 0 := by
    rw [List.getD_eq_getElem?_getD, List.getD_eq_getElem?_getD, List.getElem?_drop, Nat.add_zero]
  rw [e3, e1, show n - i = (n - i - 1) + 1 by omega, upL]
  have e4 : n - 1 - (n - i - 1) = i := by omega
  have e5 : n - (n - i - 1) = i + 1 := by omega
  rw [e4, e5]
  rfl
theorem getD_in {l : List Int} (h : ∀ x ∈ l, inU64 x = true) (i : Nat) : inU64 (l.getD i 0) = true := by
  rw [List.getD_eq_getElem?_getD]
  cases hi : l[i]? with
  | none => exact inU64_of (n := 0) (by decide)
  | some x => exact h x (List.mem_of_getElem? hi)
theorem less_step {c : Int} {l : List Int} {i s j : Int} {xs : List Int} {t : Nat} (h : t < xs.length) : lessR c l i s j (xs.drop t) = lessR c l i (subBI s (mulBI (atI c l i j) (xs.getD t 0))) (j + 1) (xs.drop (t + 1)) := by
  rw [List.drop_eq_getElem_cons h, lessR, List.getD_eq_getElem?_getD, List.getElem?_eq_getElem h]; rfl

theorem loL_length (c : Int) (l : List Int) (b : Nat → Int) : ∀ k, (loL c l b k).length = k
  | 0 => rfl
  | k + 1 => by rw [loL, List.length_append, loL_length c l b k]; rfl
theorem loL_in (c : Int) (l : List Int) (b : Nat → Int) : ∀ k, ∀ x ∈ loL c l b k, inU64 x = true
  | 0, x, h => by cases h
  | k + 1, x, h => by
    rw [loL] at h
    rcases List.mem_append.1 h with h | h
    · exact loL_in c l b k x h
    · rw [List.mem_singleton.1 h]; exact div_in _ _
theorem loL_take {c : Int} {l : List Int} {b : Nat → Int} {k : Nat} : ∀ d, (loL c l b (k + d)).take k = loL c l b k
  | 0 => by rw [Nat.add_zero]; exact List.take_of_length_le (by rw [loL_length]; omega)
  | d + 1 => by
    rw [← Nat.add_assoc, loL, List.take_append_of_le_length (by rw [loL_length]; omega)]
    exact loL_take d
theorem loL_head {c : Int} {l : List Int} {b : Nat → Int} {n k : Nat} (h : k ≤ n) : (loL c l b n).take k = loL c l b k := by
  have := loL_take (c := c) (l := l) (b := b) (k := k) (n - k)
  rw [Nat.add_sub_cancel' h] at this
  exact this
theorem loL_row {c : Int} {l : List Int} {b : Nat → Int} {n i : Nat} (h : i < n) :
    (loL c l b n).getD i 0 = divBI (lessR c l (i : Int) (b i) 0 ((loL c l b n).take i)) (atI c l (i : Int) (i : Int)) := by
  have e1 := loL_head (c := c) (l := l) (b := b) (n := n) (k := i + 1) (by omega)
  have e2 := loL_head (c := c) (l := l) (b := b) (n := n) (k := i) (by omega)
  have e3 : (loL c l b n).getD i 0 = ((loL c l b n).take (i + 1)).getD i 0 := by
    rw [List.getD_eq_getElem?_getD, List.getD_eq_getElem?_getD, List.getElem?_take_of_lt (by omega)]
  rw [e3, e1, e2, loL, List.getD_eq_getElem?_getD, List.getElem?_append_right (by rw [loL_length]; omega), loL_length, Nat.sub_self]
  rfl
/-- One product more at the end. -/
theorem less_snoc (c : Int) (l : List Int) (i : Int) : ∀ (xs : List Int) (s j x : Int), lessR c l i s j (xs ++ [x]) = subBI (lessR c l i s j xs) (mulBI (atI c l i (j + xs.length)) x)
  | [], s, j, x => by rw [List.nil_append, lessR, lessR, lessR, List.length_nil]; congr 3; omega
  | y :: xs, s, j, x => by
    rw [List.cons_append, lessR, lessR, less_snoc c l i xs, List.length_cons]
    congr 3; omega
end Go.Rnd
