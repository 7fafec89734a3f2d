/- Flo of the verified evaluator and its use for this seat (of my texts Bits, Rnd, Flt, Words, NearL, SumL, IeeL). -/
import Derived.Test.YtnnoocnokacpmaaGreatDenC
import Derived.ChangeKeysEq
import Derived.IntWalk

/- The machine's integers, as plain numbers. -/
namespace Go.Den

theorem w_i64_in {x : Int} (h1 : -9223372036854775808 ≤ x) (h2 : x ≤ 9223372036854775807) : w_i64 x = x := Go.IntWalk.i64_in x ⟨h1, h2⟩
theorem w_u64_eq (x : Int) : w_u64 x = x % 18446744073709551616 := by unfold w_u64 IntKind.wrap; simp [IntKind.bits, IntKind.signed]
theorem w_u32_eq (x : Int) : w_u32 x = x % 4294967296 := by unfold w_u32 IntKind.wrap; simp [IntKind.bits, IntKind.signed]
theorem w_u8_eq (x : Int) : w_u8 x = x % 256 := by unfold w_u8 IntKind.wrap; simp [IntKind.bits, IntKind.signed]
theorem w_u64_in {x : Int} (h1 : 0 ≤ x) (h2 : x < 18446744073709551616) : w_u64 x = x := by rw [w_u64_eq]; omega
theorem w_u32_in {x : Int} (h1 : 0 ≤ x) (h2 : x < 4294967296) : w_u32 x = x := by rw [w_u32_eq]; omega
theorem w_u8_in {x : Int} (h1 : 0 ≤ x) (h2 : x < 256) : w_u8 x = x := by rw [w_u8_eq]; omega

theorem bShr_eq (k : IntKind) (x y : Int) : bShr k x y = x / 2 ^ (min y.toNat k.bits) := by
  unfold bShr
  exact Int.fdiv_eq_ediv_of_nonneg _ (Int.le_of_lt (Int.pow_pos (by decide)))

theorem bShr_nat (k : IntKind) (n s : Nat) (h : s ≤ k.bits) : bShr k n s = ((n / 2 ^ s : Nat) : Int) := by
  rw [bShr_eq, Int.toNat_natCast, Nat.min_eq_left h]
  push_cast
  rfl

theorem bShl_u64 (n s : Nat) (h : s ≤ 64) : bShl .u64 n s = ((n * 2 ^ s % 2 ^ 64 : Nat) : Int) := by
  unfold bShl
  rw [Int.toNat_natCast, show IntKind.u64.bits = 64 from rfl, Nat.min_eq_left h]
  show w_u64 _ = _
  rw [w_u64_eq]
  show _ = ((n * 2 ^ s % 18446744073709551616 : Nat) : Int)
  rw [Int.natCast_emod, Int.natCast_mul, Int.natCast_pow]
  rfl

theorem ofInt_nat (b n : Nat) : (BitVec.ofInt b n).toNat = n % 2 ^ b := by
  rw [BitVec.toNat_ofInt]
  rw [show ((n : Int) % (2 ^ b : Nat)) = ((n % 2 ^ b : Nat) : Int) by push_cast; rfl, Int.toNat_natCast]

theorem u64_nat {n : Nat} (h : n < 2 ^ 64) : IntKind.u64.wrap n = n := by
  show w_u64 _ = _
  rw [w_u64_eq]
  omega

theorem bAnd_u64 {a b : Nat} (ha : a < 2 ^ 64) (hb : b < 2 ^ 64) : bAnd .u64 a b = ((a &&& b : Nat) : Int) := by
  unfold bAnd
  rw [BitVec.toNat_and, ofInt_nat, ofInt_nat, show IntKind.u64.bits = 64 from rfl, Nat.mod_eq_of_lt ha, Nat.mod_eq_of_lt hb]
  exact u64_nat (Nat.lt_of_le_of_lt Nat.and_le_left ha)

theorem bOr_u64 {a b : Nat} (ha : a < 2 ^ 64) (hb : b < 2 ^ 64) : bOr .u64 a b = ((a ||| b : Nat) : Int) := by
  unfold bOr
  rw [BitVec.toNat_or, ofInt_nat, ofInt_nat, show IntKind.u64.bits = 64 from rfl, Nat.mod_eq_of_lt ha, Nat.mod_eq_of_lt hb]
  exact u64_nat (Nat.or_lt_two_pow ha hb)

theorem bXor_u64 {a b : Nat} (ha : a < 2 ^ 64) (hb : b < 2 ^ 64) : bXor .u64 a b = ((a ^^^ b : Nat) : Int) := by
  unfold bXor
  rw [BitVec.toNat_xor, ofInt_nat, ofInt_nat, show IntKind.u64.bits = 64 from rfl, Nat.mod_eq_of_lt ha, Nat.mod_eq_of_lt hb]
  exact u64_nat (Nat.xor_lt_two_pow ha hb)

theorem bAnd_mask {a : Nat} (k : Nat) (ha : a < 2 ^ 64) (hk : k ≤ 64) : bAnd .u64 a ((2 ^ k - 1 : Nat) : Int) = ((a % 2 ^ k : Nat) : Int) := by
  rw [bAnd_u64 ha (by have := Nat.pow_le_pow_right (n := 2) (by decide) hk; have := Nat.pow_pos (a := 2) (n := k) (by decide); omega), Nat.and_two_pow_sub_one_eq_mod]

/-- Bits that lie apart. -/
theorem or_apart {a b k : Nat} (hb : b < 2 ^ k) : b ||| (a * 2 ^ k) = a * 2 ^ k + b := by
  rw [Nat.or_comm, Nat.mul_comm, Nat.two_pow_add_eq_or_of_lt hb]

theorem bOr_apart {a b k : Nat} (hb : b < 2 ^ k) (h : a * 2 ^ k + b < 2 ^ 64) : bOr .u64 b ((a * 2 ^ k : Nat) : Int) = ((a * 2 ^ k + b : Nat) : Int) := by
  rw [bOr_u64 (by omega) (by omega), or_apart hb]

theorem bOr_apart' {a b k : Nat} (hb : b < 2 ^ k) (h : a * 2 ^ k + b < 2 ^ 64) : bOr .u64 ((a * 2 ^ k : Nat) : Int) b = ((a * 2 ^ k + b : Nat) : Int) := by
  rw [bOr_u64 (by omega) (by omega), Nat.or_comm, or_apart hb]

/-- The top bit turned. -/
theorem xor_top_lt {r : Nat} (hr : r < 2 ^ 63) : (2 ^ 63 + r) ^^^ 2 ^ 63 = r ∧ r ^^^ 2 ^ 63 = 2 ^ 63 + r := by
  have e2 := Nat.two_pow_add_eq_or_of_lt hr 1
  rw [Nat.mul_one] at e2
  have a1 : r ^^^ 2 ^ 63 = 2 ^ 63 + r := by
    rw [e2]
    apply Nat.eq_of_testBit_eq
    intro i
    rw [Nat.testBit_xor, Nat.testBit_or, Nat.testBit_two_pow]
    by_cases hi : 63 = i
    · subst hi
      rw [Nat.testBit_lt_two_pow hr]; simp
    · simp [hi]
  refine ⟨?_, a1⟩
  rw [← a1, Nat.xor_assoc, Nat.xor_self, Nat.xor_zero]

theorem xor_top {a : Nat} (ha : a < 2 ^ 64) : a ^^^ 2 ^ 63 = if 2 ^ 63 ≤ a then a - 2 ^ 63 else a + 2 ^ 63 := by
  by_cases h : 2 ^ 63 ≤ a
  · rw [if_pos h]
    obtain ⟨r, rfl⟩ : ∃ r, a = 2 ^ 63 + r := ⟨a - 2 ^ 63, by omega⟩
    rw [(xor_top_lt (by omega)).1]; omega
  · rw [if_neg h, (xor_top_lt (by omega)).2]; omega

noncomputable def inU64 (x : Int) : Bool := cdec (0 ≤ x ∧ x < 18446744073709551616)

theorem inU64_nat {x : Int} (h : inU64 x = true) : ∃ n : Nat, x = n ∧ n < 2 ^ 64 := by
  unfold inU64 at h
  rw [cdec_eq] at h
  exact ⟨x.toNat, by omega, by omega⟩

theorem inU64_of {n : Nat} (h : n < 2 ^ 64) : inU64 n = true := by
  unfold inU64
  rw [cdec_eq]
  omega

/-! ### Saying less: words for the shapes that occur -/

inductive WkL (drops : List Nat) : List DV → List DV → Prop
  | nil : WkL drops [] []
  | cons {d d' l l'} : Wk drops d d' → WkL drops l l' → WkL drops (d :: l) (d' :: l')

theorem WkL.length {drops : List Nat} {l l' : List DV} (h : WkL drops l l') : l.length = l'.length := by
  induction h with
  | nil => rfl
  | cons _ _ ih => simp [ih]

theorem WkL.get {drops : List Nat} {l l' : List DV} (h : WkL drops l l') : ∀ (j : Nat) d d', l[j]? = some d → l'[j]? = some d' → Wk drops d d' := by
  induction h with
  | nil => intro j d d' h; cases h
  | cons h1 _ ih =>
    intro j d d' h2 h3
    cases j with
    | zero => cases h2; cases h3; exact h1
    | succ j => exact ih j d d' h2 h3

theorem Wk.aggL {drops : List Nat} {l l' : List DV} (h : WkL drops l l') : Wk drops (.agg l) (.agg l') := .agg h.length h.get
theorem Wk.tupL {drops : List Nat} {l l' : List DV} (h : WkL drops l l') : Wk drops (.tup l) (.tup l') := .tup h.length h.get
theorem Wk.bool {drops : List Nat} {b : Bool} : Wk drops (.bool b) (.bool b) := .refl rfl (by intros; simp) (by intros; simp)
theorem Wk.int {drops : List Nat} {k : IntKind} {x : Int} : Wk drops (.int k x) (.int k x) := .refl rfl (by intros; simp) (by intros; simp)
theorem Wk.fl {drops : List Nat} {x : Nat} : Wk drops (.fl x) (.fl x) := .refl rfl (by intros; simp) (by intros; simp)
theorem Wk.nb {drops : List Nat} {x : Nat} : Wk drops (.nb x) (.nb x) := .refl rfl (by intros; simp) (by intros; simp)
theorem Wk.argL {drops : List Nat} {k : IntKind} {l : List Int} : Wk drops (.ints .arg k l) (.ints .arg k l) := .refl rfl (by intros; simp) (by intros; simp)
theorem Wk.freshL {drops : List Nat} {k : IntKind} {l : List Int} : Wk drops (.ints .fresh k l) (.ints .fresh k l) := .refl rfl (by intros; simp) (by intros; simp)

/-! ### Data of known kinds, taken apart -/

theorem Encs.nil_inv {as : List Atom} {ds : List DV} (h : Encs [] as ds) : as = [] ∧ ds = [] := by cases h; exact ⟨rfl, rfl⟩
theorem Encs.b_inv {ts : List AT} {as : List Atom} {ds : List DV} (h : Encs (.b :: ts) as ds) : ∃ x as' ds', as = .b x :: as' ∧ ds = .bool x :: ds' ∧ Encs ts as' ds' := by
  cases h with | b x h => exact ⟨x, _, _, rfl, rfl, h⟩
theorem Encs.i_inv {k : IntKind} {ts : List AT} {as : List Atom} {ds : List DV} (h : Encs (.i k :: ts) as ds) : ∃ x as' ds', as = .i x :: as' ∧ ds = .int k x :: ds' ∧ Encs ts as' ds' := by
  cases h with | i k x h => exact ⟨x, _, _, rfl, rfl, h⟩
theorem Encs.s_inv {k : IntKind} {ts : List AT} {as : List Atom} {ds : List DV} (h : Encs (.s k :: ts) as ds) : ∃ x as' ds', as = .l x :: as' ∧ ds = .ints .arg k x :: ds' ∧ Encs ts as' ds' := by
  cases h with | s k x h => exact ⟨x, _, _, rfl, rfl, h⟩
theorem Encs.fl_inv {ts : List AT} {as : List Atom} {ds : List DV} (h : Encs (.fl :: ts) as ds) : ∃ x as' ds', as = .f x :: as' ∧ ds = .fl x :: ds' ∧ Encs ts as' ds' := by
  cases h with | fl x h => exact ⟨x, _, _, rfl, rfl, h⟩
theorem Encs.nb_inv {ts : List AT} {as : List Atom} {ds : List DV} (h : Encs (.nb :: ts) as ds) : ∃ x as' ds', as = .f x :: as' ∧ ds = .nb x :: ds' ∧ Encs ts as' ds' := by
  cases h with | nb x h => exact ⟨x, _, _, rfl, rfl, h⟩
theorem Encs.st_inv {l ts : List AT} {as : List Atom} {ds : List DV} (h : Encs (.st l :: ts) as ds) : ∃ a1 cs a2 ds', as = a1 ++ a2 ∧ ds = .agg cs :: ds' ∧ Encs l a1 cs ∧ Encs ts a2 ds' := by
  cases h with | st h1 h2 => exact ⟨_, _, _, _, rfl, rfl, h1, h2⟩

theorem Encs.fn_inv {g : FuncId} {l ts : List AT} {as : List Atom} {ds : List DV} (h : Encs (.fn g l :: ts) as ds) : ∃ a1 cs a2 ds', as = a1 ++ a2 ∧ ds = .fn g [] cs :: ds' ∧ Encs l a1 cs ∧ Encs ts a2 ds' := by
  cases h with | fn h1 h2 => exact ⟨_, _, _, _, rfl, rfl, h1, h2⟩
theorem Encs.fm_inv {g : FuncId} {l ts : List AT} {as : List Atom} {ds : List DV} (h : Encs (.fm g l :: ts) as ds) : ∃ a1 cs a2 ds', as = a1 ++ a2 ∧ ds = .fn g cs [] :: ds' ∧ Encs l a1 cs ∧ Encs ts a2 ds' := by
  cases h with | fm h1 h2 => exact ⟨_, _, _, _, rfl, rfl, h1, h2⟩
theorem Encs.cp_inv {l ts : List AT} {as : List Atom} {ds : List DV} (h : Encs (.cp l :: ts) as ds) : ∃ a1 cs a2 ds', as = a1 ++ a2 ∧ ds = .cellp cs :: ds' ∧ Encs l a1 cs ∧ Encs ts a2 ds' := by
  cases h with | cp h1 h2 => exact ⟨_, _, _, _, rfl, rfl, h1, h2⟩

end Go.Den

/- Rounding to binary64: plain numbers, no program. -/
namespace Go.Rnd

def rdiv (V k : Nat) : Nat := V / 2 ^ k + (if 2 ^ k < 2 * (V % 2 ^ k) ∨ (2 * (V % 2 ^ k) = 2 ^ k ∧ V / 2 ^ k % 2 = 1) then 1 else 0)

/-- V times 2^-s, rounded to a whole number. -/
def rdivZ (V : Nat) (s : Int) : Nat := rdiv (V * 2 ^ (-s).toNat) s.toNat

/-- Is it whole? -/
def wholeZ (V : Nat) (s : Int) : Bool := decide (V * 2 ^ (-s).toNat % 2 ^ s.toNat = 0)

/-- The place of the last digit that is kept of M times 2^E. -/
def lastE (M : Nat) (E : Int) : Int := max (E + M.log2 - 52) (-1074)

def kept (M : Nat) (E : Int) : Nat := rdivZ M (lastE M E - E)

def infR : Nat := 2047 * 2 ^ 52

/-- The word, without its sign, nearest to M times 2^E. -/
def rung (M : Nat) (E : Int) : Nat := if M = 0 then 0 else min ((lastE M E + 1074).toNat * 2 ^ 52 + kept M E) infR

def exact (M : Nat) (E : Int) : Bool := wholeZ M (lastE M E - E)

/-- The flags of that word. -/
def flags (r : Nat) (ex : Bool) : Nat := if r = infR then 5 else if ex then 0 else if 2 ^ 52 ≤ r then 1 else 3

def flagsOf (M : Nat) (E : Int) : Nat := if M = 0 then 0 else flags (rung M E) (exact M E)

theorem pow_pos2 (k : Nat) : 0 < 2 ^ k := Nat.pow_pos (by decide)

theorem rdiv_zero (V : Nat) : rdiv V 0 = V := by
  unfold rdiv; simp [Nat.mod_one]

theorem rdiv_mul (V a k : Nat) : rdiv (V * 2 ^ a) (a + k) = rdiv V k := by
  unfold rdiv
  have hA := pow_pos2 a
  have e : 2 ^ (a + k) = 2 ^ a * 2 ^ k := Nat.pow_add 2 a k
  have hd : V * 2 ^ a / 2 ^ (a + k) = V / 2 ^ k := by
    rw [e, Nat.mul_comm V, Nat.mul_div_mul_left _ _ hA]
  have hm : V * 2 ^ a % 2 ^ (a + k) = 2 ^ a * (V % 2 ^ k) := by
    rw [e, Nat.mul_comm V, Nat.mul_mod_mul_left]
  rw [hd, hm, e]
  have h1 : (2 ^ a * 2 ^ k < 2 * (2 ^ a * (V % 2 ^ k))) ↔ (2 ^ k < 2 * (V % 2 ^ k)) := by
    rw [Nat.mul_left_comm 2]
    exact Nat.mul_lt_mul_left hA
  have h2 : (2 * (2 ^ a * (V % 2 ^ k)) = 2 ^ a * 2 ^ k) ↔ (2 * (V % 2 ^ k) = 2 ^ k) := by
    rw [Nat.mul_left_comm 2]
    exact Nat.mul_right_inj (by omega)
  simp only [h1, h2]

theorem mod_mul (V a k : Nat) : (V * 2 ^ a % 2 ^ (a + k) = 0) ↔ (V % 2 ^ k = 0) := by
  have hA := pow_pos2 a
  rw [Nat.pow_add, Nat.mul_comm V, Nat.mul_mod_mul_left]
  constructor
  · intro h
    rcases Nat.mul_eq_zero.1 h with h | h
    · omega
    · exact h
  · intro h; rw [h]; rfl

theorem rdivZ_shift (V k : Nat) (s : Int) : rdivZ (V * 2 ^ k) (s + k) = rdivZ V s ∧ wholeZ (V * 2 ^ k) (s + k) = wholeZ V s := by
  unfold rdivZ wholeZ
  by_cases h0 : 0 ≤ s
  · have e1 : (-(s + k)).toNat = 0 := by omega
    have e2 : (-s).toNat = 0 := by omega
    have e3 : (s + k).toNat = k + s.toNat := by omega
    rw [e1, e2, e3, Nat.pow_zero, Nat.mul_one, Nat.mul_one]
    exact ⟨rdiv_mul V k _, by simp only [mod_mul]⟩
  · by_cases h1 : 0 ≤ s + k
    · have e1 : (-(s + k)).toNat = 0 := by omega
      have e2 : s.toNat = 0 := by omega
      have e3 : k = (s + k).toNat + (-s).toNat := by omega
      rw [e1, e2, Nat.pow_zero, Nat.mul_one]
      have e4 : V * 2 ^ k = V * 2 ^ (-s).toNat * 2 ^ (s + k).toNat := by
        rw [Nat.mul_assoc, ← Nat.pow_add, Nat.add_comm (-s).toNat, ← e3]
      rw [e4]
      refine ⟨?_, ?_⟩
      · have := rdiv_mul (V * 2 ^ (-s).toNat) (s + k).toNat 0
        rw [Nat.add_zero] at this; exact this
      · have := mod_mul (V * 2 ^ (-s).toNat) (s + k).toNat 0
        rw [Nat.add_zero, Nat.pow_zero] at this
        simp only [this]
    · have e1 : (s + k).toNat = 0 := by omega
      have e2 : s.toNat = 0 := by omega
      have e3 : (-s).toNat = k + (-(s + k)).toNat := by omega
      rw [e1, e2, e3, Nat.pow_add, Nat.mul_assoc]
      exact ⟨rfl, rfl⟩

theorem log2_mul (M k : Nat) (hM : M ≠ 0) : (M * 2 ^ k).log2 = M.log2 + k := by
  have hk := pow_pos2 k
  have hne : M * 2 ^ k ≠ 0 := by
    intro h
    rcases Nat.mul_eq_zero.1 h with h | h <;> omega
  have h1 := Nat.log2_self_le hM
  have h2 := Nat.lt_log2_self (n := M)
  have a : M.log2 + k ≤ (M * 2 ^ k).log2 := by
    rw [Nat.le_log2 hne, Nat.pow_add]
    exact Nat.mul_le_mul_right _ h1
  have b : (M * 2 ^ k).log2 < M.log2 + k + 1 := by
    rw [Nat.log2_lt hne, Nat.add_right_comm, Nat.pow_add]
    exact (Nat.mul_lt_mul_right hk).2 h2
  omega

theorem log2_eq {n a : Nat} (h1 : 2 ^ a ≤ n) (h2 : n < 2 ^ (a + 1)) : n.log2 = a := by
  have := pow_pos2 a
  have hn : n ≠ 0 := by omega
  have b1 := (Nat.le_log2 hn).2 h1
  have b2 := (Nat.log2_lt hn).2 h2
  omega

/-- The same value, written with a lesser power. -/
theorem last_shift (M k : Nat) (E : Int) (hM : M ≠ 0) : lastE (M * 2 ^ k) (E - k) = lastE M E := by
  unfold lastE; rw [log2_mul M k hM]; congr 1; omega

theorem mul_pow_ne {M k : Nat} (hM : M ≠ 0) : M * 2 ^ k ≠ 0 := by
  have := pow_pos2 k
  intro h
  rcases Nat.mul_eq_zero.1 h with h | h <;> omega

theorem rung_shift (M k : Nat) (E : Int) : rung (M * 2 ^ k) (E - k) = rung M E ∧ flagsOf (M * 2 ^ k) (E - k) = flagsOf M E := by
  by_cases hM : M = 0
  · subst hM; simp [rung, flagsOf]
  · have hl := last_shift M k E hM
    have e : lastE M E - (E - k) = lastE M E - E + k := by omega
    have h1 : rung (M * 2 ^ k) (E - k) = rung M E := by
      unfold rung kept
      rw [if_neg (mul_pow_ne hM), if_neg hM, hl, e, (rdivZ_shift M k _).1]
    refine ⟨h1, ?_⟩
    unfold flagsOf
    rw [if_neg (mul_pow_ne hM), if_neg hM, h1]
    unfold exact
    rw [hl, e, (rdivZ_shift M k _).2]

/-- Rounding to odd ahead of rounding turns nothing. -/
theorem rdiv_odd {V s d k : Nat} (hs : s % 2 = 1) (h1 : (s - 1) * 2 ^ d < V) (h2 : V < (s + 1) * 2 ^ d) (hk : 2 ≤ k) :
    rdiv V (d + k) = rdiv s k ∧ V % 2 ^ (d + k) ≠ 0 ∧ s % 2 ^ k ≠ 0 := by
  have hA := pow_pos2 d
  obtain ⟨j, rfl⟩ : ∃ j, k = j + 2 := ⟨k - 2, by omega⟩
  have hB : 2 ^ (j + 2) = 4 * 2 ^ j := by rw [Nat.pow_add]; omega
  have hBp := pow_pos2 (j + 2)
  have hC := pow_pos2 j
  have hsd := Nat.div_add_mod s (2 ^ (j + 2))
  have hr2 : s % 2 ^ (j + 2) % 2 = 1 := by
    rw [hB, show 4 * 2 ^ j = 2 * (2 * 2 ^ j) by omega, Nat.mod_mul_right_mod]; exact hs
  have hrlt := Nat.mod_lt s hBp
  generalize hq : s / 2 ^ (j + 2) = q at *
  generalize hr : s % 2 ^ (j + 2) = r at *
  have hAB : 2 ^ (d + (j + 2)) = 2 ^ d * 2 ^ (j + 2) := Nat.pow_add 2 d (j + 2)
  generalize hBB : 2 ^ (j + 2) = b at *
  generalize hAA : 2 ^ d = a at *
  have e1 : (s - 1) * a = q * (a * b) + (r - 1) * a := by
    have : s - 1 = b * q + (r - 1) := by omega
    rw [this, Nat.add_mul, Nat.mul_comm b q, Nat.mul_assoc, Nat.mul_comm b a]
  have e2 : (s + 1) * a = q * (a * b) + (r + 1) * a := by
    have : s + 1 = b * q + (r + 1) := by omega
    rw [this, Nat.add_mul, Nat.mul_comm b q, Nat.mul_assoc, Nat.mul_comm b a]
  have e3 : (r + 1) * a ≤ b * a := Nat.mul_le_mul_right a (by omega)
  rw [Nat.mul_comm b a] at e3
  rw [e1] at h1
  rw [e2] at h2
  have hdiv : V / (a * b) = q := Nat.div_eq_of_lt_le (by omega) (by rw [Nat.add_mul]; omega)
  have hmod : V % (a * b) = V - q * (a * b) := by
    have := Nat.div_add_mod V (a * b)
    rw [hdiv, Nat.mul_comm (a * b) q] at this; omega
  -- half is even: r is not half
  have hb2 : b = 2 * (2 * 2 ^ j) := by omega
  generalize hc : 2 ^ j = c at *
  have hR1 : (r - 1) * a < V - q * (a * b) := by omega
  have hR2 : V - q * (a * b) < (r + 1) * a := by omega
  generalize hR : V - q * (a * b) = R at *
  have hab : a * b = 2 * (2 * c * a) := by rw [hb2, Nat.mul_comm a, Nat.mul_assoc]
  have key : (a * b < 2 * R ∨ (2 * R = a * b ∧ q % 2 = 1)) ↔ (b < 2 * r ∨ (2 * r = b ∧ q % 2 = 1)) := by
    rw [hab, hb2]
    rcases Nat.lt_or_ge r (2 * c) with hlt | hge
    · have : (r + 1) * a ≤ 2 * c * a := Nat.mul_le_mul_right a (by omega)
      constructor <;> (intro h; omega)
    · have hgt : 2 * c + 1 ≤ r := by omega
      have : 2 * c * a ≤ (r - 1) * a := Nat.mul_le_mul_right a (by omega)
      constructor
      · intro _; left; omega
      · intro _; left; omega
  refine ⟨?_, ?_, ?_⟩
  · unfold rdiv
    rw [hAB, hdiv, hmod, hBB, hq, hr]
    simp only [key]
  · rw [hAB, hmod]
    have := Nat.zero_le ((r - 1) * a)
    omega
  · omega

/-- An odd number in the place of one that lies beside it: with two digits more than are kept. -/
theorem rung_odd {V s d : Nat} {E : Int} (hs : s % 2 = 1) (h1 : (s - 1) * 2 ^ d < V) (h2 : V < (s + 1) * 2 ^ d) (hl : lastE V E = lastE s (E + d)) (hk : E + d + 2 ≤ lastE s (E + d)) :
    rung V E = rung s (E + d) ∧ flagsOf V E = flagsOf s (E + d) := by
  have hV : V ≠ 0 := by omega
  have hs0 : s ≠ 0 := by omega
  generalize hL : lastE s (E + d) = L at *
  obtain ⟨k, hk2⟩ : ∃ k : Nat, L - (E + d) = k + 2 := ⟨(L - (E + d) - 2).toNat, by omega⟩
  obtain ⟨a1, a2, a3⟩ := rdiv_odd (k := k + 2) hs h1 h2 (by omega)
  have e1 : (L - E).toNat = d + (k + 2) := by omega
  have e2 : (-(L - E)).toNat = 0 := by omega
  have e3 : (L - (E + d)).toNat = k + 2 := by omega
  have e4 : (-(L - (E + d))).toNat = 0 := by omega
  have hr : rung V E = rung s (E + d) := by
    unfold rung kept rdivZ
    rw [if_neg hV, if_neg hs0, hl, hL, e1, e2, e3, e4]
    simp only [Nat.pow_zero, Nat.mul_one]
    rw [a1]
  refine ⟨hr, ?_⟩
  unfold flagsOf exact wholeZ
  rw [if_neg hV, if_neg hs0, hr, hl, hL, e1, e2, e3, e4]
  simp only [Nat.pow_zero, Nat.mul_one, a2, a3, decide_false]

/-- How many digits there are beside an odd number. -/
theorem log2_odd {V s d : Nat} (hs : s % 2 = 1) (hs3 : 3 ≤ s) (h1 : (s - 1) * 2 ^ d < V) (h2 : V < (s + 1) * 2 ^ d) : V.log2 = s.log2 + d := by
  have hs0 : s ≠ 0 := by omega
  have a1 := Nat.log2_self_le hs0
  have a2 := Nat.lt_log2_self (n := s)
  have hl : 1 ≤ s.log2 := by rw [Nat.le_log2 hs0]; omega
  obtain ⟨t, ht⟩ : ∃ t, s.log2 = t + 1 := ⟨s.log2 - 1, by omega⟩
  rw [ht] at a1 a2 ⊢
  have ev1 : 2 ^ (t + 1) = 2 * 2 ^ t := by rw [Nat.pow_succ]; omega
  have ev2 : 2 ^ (t + 1 + 1) = 2 * (2 * 2 ^ t) := by rw [Nat.pow_succ, ev1]; omega
  refine log2_eq ?_ ?_
  · rw [Nat.pow_add]
    have : 2 ^ (t + 1) * 2 ^ d ≤ (s - 1) * 2 ^ d := Nat.mul_le_mul_right _ (by omega)
    omega
  · have e : t + 1 + d + 1 = (t + 1 + 1) + d := by omega
    rw [e, Nat.pow_add]
    have : (s + 1) * 2 ^ d ≤ 2 ^ (t + 1 + 1) * 2 ^ d := Nat.mul_le_mul_right _ (by omega)
    omega

end Go.Rnd

/- Words of binary64: their fields; sums, products, quotients of their values. Plain numbers, no program. -/
namespace Go.Rnd

def negN (b : Nat) : Bool := decide (2 ^ 63 ≤ b)
def powN (b : Nat) : Nat := b / 2 ^ 52 % 2048
def fracN (b : Nat) : Nat := b % 2 ^ 52
def kindN (b : Nat) : Nat := if powN b = 2047 then (if fracN b = 0 then 3 else 4) else if 0 < powN b then 2 else if 0 < fracN b then 1 else 0
def finN (b : Nat) : Bool := decide (powN b < 2047)
def minusN (b : Nat) : Nat := if 2 ^ 63 ≤ b then b - 2 ^ 63 else b + 2 ^ 63
def partM (b : Nat) : Nat := if powN b = 0 then fracN b else fracN b + 2 ^ 52
def partE (b : Nat) : Int := if powN b = 0 then -1074 else (powN b : Int) - 1075
def signN (neg : Bool) (r : Nat) : Nat := if neg then 2 ^ 63 + r else r

/-- The sum of two values, at a common place. -/
def sgn (neg : Bool) (m : Nat) : Int := if neg then -(m : Int) else m
def valAt (b : Nat) (e : Int) : Int := sgn (negN b) (partM b * 2 ^ (partE b - e).toNat)

def NaN : Nat := 0x7ff8000000000000

/-- The word and the flags of a value S times 2^e; of 0 the word z. -/
def roundZ (z : Nat) (S : Int) (e : Int) : Nat × Nat :=
  if S = 0 then (z, 0) else (signN (decide (S < 0)) (rung S.natAbs e), flagsOf S.natAbs e)

def addN (a b : Nat) : Nat × Nat :=
  if kindN a = 4 ∨ kindN b = 4 then (NaN, 0)
  else if kindN a = 3 then (if kindN b = 3 ∧ a ≠ b then (NaN, 16) else (a, 0))
  else if kindN b = 3 then (b, 0)
  else roundZ (signN (negN a && negN b) 0) (valAt a (min (partE a) (partE b)) + valAt b (min (partE a) (partE b))) (min (partE a) (partE b))

def subN (a b : Nat) : Nat × Nat := addN a (minusN b)

/-- Of Near: m times 2^e, a little greater if 'more' says so. -/
def nearN (neg : Bool) (m : Nat) (e : Int) (more : Bool) : Nat × Nat :=
  (signN neg (rung (4 * m + more.toNat) (e - 2)), flagsOf (4 * m + more.toNat) (e - 2))

/-! ### The words on Int that the specs name -/

def negI (x : Int) : Bool := negN x.toNat
def powI (x : Int) : Int := powN x.toNat
def fracI (x : Int) : Int := fracN x.toNat
def kindI (x : Int) : Int := kindN x.toNat
def finI (x : Int) : Bool := finN x.toNat
def minusI (x : Int) : Int := minusN x.toNat
def partMI (x : Int) : Int := partM x.toNat
def partEI (x : Int) : Int := partE x.toNat
def nearBI (neg : Bool) (m e : Int) (more : Bool) : Int := (nearN neg m.toNat e more).1
def nearFI (neg : Bool) (m e : Int) (more : Bool) : Int := (nearN neg m.toNat e more).2
def addBI (a b : Int) : Int := (addN a.toNat b.toNat).1
def addFI (a b : Int) : Int := (addN a.toNat b.toNat).2
def subBI (a b : Int) : Int := (subN a.toNat b.toNat).1
def subFI (a b : Int) : Int := (subN a.toNat b.toNat).2

theorem powN_lt (b : Nat) : powN b < 2048 := Nat.mod_lt _ (by decide)
theorem fracN_lt (b : Nat) : fracN b < 4503599627370496 := Nat.mod_lt _ (by decide)
theorem partM_lt (b : Nat) : partM b < 9007199254740992 := by
  have := fracN_lt b
  unfold partM; split <;> omega
theorem partE_le (b : Nat) : -1074 ≤ partE b ∧ partE b ≤ 972 := by
  have := powN_lt b
  unfold partE; split <;> omega

/-! ### Words that need no rounding -/

theorem rung_norm {m : Nat} {e : Int} (h1 : 2 ^ 52 ≤ m) (h2 : m < 2 ^ 53) (he : -1074 ≤ e) : rung m e = min ((e + 1074).toNat * 2 ^ 52 + m) infR := by
  have hl : m.log2 = 52 := log2_eq h1 h2
  have hm : m ≠ 0 := by omega
  have hle : lastE m e = e := by unfold lastE; rw [hl]; omega
  unfold rung kept
  rw [if_neg hm, hle, Int.sub_self]
  unfold rdivZ
  simp [rdiv_zero]

theorem rung_sub {m : Nat} (h2 : m < 2 ^ 52) : rung m (-1074) = m := by
  by_cases hm : m = 0
  · subst hm; rfl
  · have hl : m.log2 < 52 := (Nat.log2_lt hm).2 h2
    have hle : lastE m (-1074) = -1074 := by unfold lastE; omega
    unfold rung kept
    rw [if_neg hm, hle, Int.sub_self]
    unfold rdivZ infR
    simp [rdiv_zero]
    omega

theorem rung_le (m : Nat) (e : Int) : rung m e ≤ infR := by
  unfold rung
  split
  · exact Nat.zero_le _
  · exact Nat.min_le_right _ _

theorem infR_eq : infR = 9218868437227405312 := rfl

theorem rung_lt (m : Nat) (e : Int) : rung m e < 2 ^ 63 := by
  have := rung_le m e
  rw [infR_eq] at this
  omega

theorem signN_lt (n : Bool) (m : Nat) (e : Int) : signN n (rung m e) < 2 ^ 64 := by
  have := rung_lt m e
  unfold signN; split <;> omega

theorem minus_sign {r : Nat} (h : r < 2 ^ 63) : minusN r = 2 ^ 63 + r := by
  unfold minusN; rw [if_neg (by omega)]; omega

end Go.Rnd

/- Words that the specs name. -/
namespace Go.Rnd
open Go.Den

noncomputable def packPre (m e : Int) : Bool := cdec (0 ≤ m ∧ m ≤ 9007199254740992 ∧ -1074 ≤ e ∧ e + m / 9007199254740992 ≤ 100000)
def packMu (m e : Int) : Nat := if 9007199254740992 ≤ m then 1 else if m < 4503599627370496 then 2 + (e + 1074).toNat else 0
def packI (n : Bool) (m e : Int) : Int := signN n (rung m.toNat e)
noncomputable def nearPre (m e : Int) (r : Bool) : Bool :=
  cdec (0 ≤ m ∧ m < 18446744073709551616 ∧ e ≤ 50000 ∧ (-1137 ≤ e ∨ (m < 4611686018427387904 ∧ -1140 ≤ e)) ∧ (r = true → 4503599627370496 ≤ m ∨ e ≤ -1074))
def rightN (n D : Nat) : Nat := if n % 2 ^ D = 0 then n / 2 ^ D else 2 * (n / 2 ^ D / 2) + 1
def rightI (m d : Int) : Int := rightN m.toNat (min d.toNat 63)
noncomputable def okU64 (l : List Int) : Bool := cdec (l.length < 4611686018427387904 ∧ ∀ x ∈ l, inU64 x = true)
def allP : List Int → Nat × Nat → Nat × Nat
  | [], p => p
  | b :: l, p => allP l ((addN p.1 b.toNat).1, p.2 ||| (addN p.1 b.toNat).2)
def allBI (l : List Int) : Int := (allP l (0, 0)).1
def allFI (l : List Int) : Int := (allP l (0, 0)).2
def canonN (x : Nat) : Nat := if kindN x = 4 then NaN else x
def canonI (x : Int) : Int := canonN x.toNat
def canonNI (x : Nat) : Int := canonN x
noncomputable def natI (x : Int) : Bool := cdec (0 ≤ x)
theorem natI_nat (n : Nat) : natI (n : Int) = true := cdec_eq.2 (Int.natCast_nonneg n)
theorem natI_get {x : Int} (h : natI x = true) : ∃ n : Nat, x = n := ⟨x.toNat, by have := cdec_eq.1 h; omega⟩

end Go.Rnd

/- What Near does, in plain numbers. -/
namespace Go.Rnd

theorem step1 (a c : Nat) : (a + 1) * c + c = a * c + (c + c) := by rw [Nat.add_mul, Nat.one_mul, Nat.add_assoc]
theorem two52 : 2 ^ 52 + 2 ^ 52 = 2 ^ 53 := by decide
theorem step2 (a : Nat) : (a + 1) * 2 ^ 52 + 2 ^ 52 = a * 2 ^ 52 + 2 ^ 53 := (step1 a (2 ^ 52)).trans (congrArg (fun x => a * 2 ^ 52 + x) two52)
theorem two52' : 2 ^ 52 * 2 ^ 1 = 2 ^ 53 := by decide
theorem rung_53 {E : Int} : rung (2 ^ 53) E = rung (2 ^ 52) (E + 1) := by
  have := (rung_shift (2 ^ 52) 1 (E + 1)).1
  have e1 : E + 1 - ((1 : Nat) : Int) = E := by omega
  rw [e1, two52'] at this
  exact this
theorem rung_53' {E : Int} (hE : -1074 ≤ E) : rung (2 ^ 53) E = min ((E + 1074).toNat * 2 ^ 52 + 2 ^ 53) infR := by
  have e3 : (E + 1 + 1074).toNat = (E + 1074).toNat + 1 := by omega
  rw [rung_53, rung_norm (by decide) (by decide) (by omega), e3]
  exact congrArg (fun x => min x infR) (step2 _)

theorem rung_pack {q : Nat} {E : Int} (h1 : q ≤ 2 ^ 53) (hE : -1074 ≤ E) (h2 : 2 ^ 52 ≤ q ∨ E = -1074) : rung q E = min ((E + 1074).toNat * 2 ^ 52 + q) infR := by
  by_cases ha : q = 2 ^ 53
  · rw [ha]; exact rung_53' hE
  · by_cases hb : 2 ^ 52 ≤ q
    · exact rung_norm hb (by omega) hE
    · obtain rfl : E = -1074 := h2.resolve_left hb
      rw [rung_sub (by omega)]
      unfold infR
      simp
      omega

/-- A quotient of two powers more, and the code's own test. -/
theorem rdiv_code {M D s : Nat} (hs : s ≤ 1) : rdiv (4 * M + s) (D + 2) = M / 2 ^ D + (if 0 < D ∧ (2 ^ (D - 1) < M % 2 ^ D ∨ (M % 2 ^ D = 2 ^ (D - 1) ∧ (s = 1 ∨ M / 2 ^ D % 2 = 1))) then 1 else 0) ∧
    ((4 * M + s) % 2 ^ (D + 2) = 0 ↔ M % 2 ^ D = 0 ∧ s = 0) := by
  have hp : 2 ^ (D + 2) = 2 ^ D * 4 := by rw [Nat.pow_add]
  have hA := pow_pos2 D
  have hdm := Nat.div_add_mod M (2 ^ D)
  have hlt := Nat.mod_lt M hA
  have hdiv : (4 * M + s) / (2 ^ D * 4) = M / 2 ^ D := by
    rw [Nat.mul_comm (2 ^ D) 4, ← Nat.div_div_eq_div_mul]
    congr 1; omega
  have hmod : (4 * M + s) % (2 ^ D * 4) = 4 * (M % 2 ^ D) + s := by
    have h := Nat.div_add_mod (4 * M + s) (2 ^ D * 4)
    rw [hdiv] at h
    have e : 2 ^ D * 4 * (M / 2 ^ D) = 4 * (2 ^ D * (M / 2 ^ D)) := by rw [Nat.mul_comm (2 ^ D) 4, Nat.mul_assoc]
    rw [e] at h
    omega
  unfold rdiv
  rw [hp, hdiv, hmod]
  generalize M % 2 ^ D = r at *
  generalize M / 2 ^ D = q at *
  refine ⟨?_, by omega⟩
  congr 1
  have key : (2 ^ D * 4 < 2 * (4 * r + s) ∨ 2 * (4 * r + s) = 2 ^ D * 4 ∧ q % 2 = 1) ↔ (0 < D ∧ (2 ^ (D - 1) < r ∨ (r = 2 ^ (D - 1) ∧ (s = 1 ∨ q % 2 = 1)))) := by
    cases D with
    | zero => simp only [Nat.pow_zero] at hlt ⊢; omega
    | succ d =>
      rw [Nat.pow_succ] at hlt ⊢
      simp only [Nat.add_sub_cancel]
      generalize 2 ^ d = c at *
      omega
  simp only [key]

/-- How far Near shifts. -/
structure Drop (M : Nat) (e : Int) (D : Nat) : Prop where
  le : D ≤ 63
  stop : D < 63 → M / 2 ^ D < 2 ^ 53 ∧ -1074 ≤ e + D
  least : ∀ d, d < D → 2 ^ 53 ≤ M / 2 ^ d ∨ e + d < -1074

def qOf (M D s : Nat) : Nat := M / 2 ^ D + (if 0 < D ∧ (2 ^ (D - 1) < M % 2 ^ D ∨ (M % 2 ^ D = 2 ^ (D - 1) ∧ (s = 1 ∨ M / 2 ^ D % 2 = 1))) then 1 else 0)

theorem qOf_le {M D s : Nat} (h : M / 2 ^ D < 2 ^ 53) : qOf M D s ≤ 2 ^ 53 := by
  unfold qOf; split <;> omega

theorem qOf_ge {M D s : Nat} : M / 2 ^ D ≤ qOf M D s := by unfold qOf; omega

theorem div_lt {M D : Nat} {c : Nat} (h : M / 2 ^ D < c) : M < c * 2 ^ D := (Nat.div_lt_iff_lt_mul (pow_pos2 D)).1 h
theorem le_div {M D : Nat} {c : Nat} (h : c ≤ M / 2 ^ D) : c * 2 ^ D ≤ M := (Nat.le_div_iff_mul_le (pow_pos2 D)).1 h

theorem lastE_of {V : Nat} {E L : Int} (h : (E + V.log2 - 52 = L ∧ -1074 ≤ L) ∨ (E + V.log2 - 52 ≤ L ∧ L = -1074)) : lastE V E = L := by unfold lastE; omega

theorem log2_quad {M s : Nat} (hs : s ≤ 1) (hM : M ≠ 0) : (4 * M + s).log2 = M.log2 + 2 := by
  have h1 := Nat.log2_self_le hM
  have h2 := Nat.lt_log2_self (n := M)
  refine log2_eq ?_ ?_
  · rw [Nat.pow_add]; omega
  · have e : 2 ^ (M.log2 + 2 + 1) = 2 ^ (M.log2 + 1) * 4 := by rw [show M.log2 + 2 + 1 = M.log2 + 1 + 2 by omega, Nat.pow_add]
    omega

/-- The shift that Near finds rounds as it should. -/
theorem near_drop {M D s : Nat} {e : Int} (hD : Drop M e D) (hs : s ≤ 1) (hV : 4 * M + s ≠ 0) (hM : M < 2 ^ 64) (he : -1137 ≤ e ∨ (M < 2 ^ 62 ∧ -1140 ≤ e)) (hr : s = 1 → 2 ^ 52 ≤ M ∨ e ≤ -1074) :
    rung (4 * M + s) (e - 2) = rung (if e + D < -1074 then 0 else qOf M D s) (max (e + D) (-1074)) ∧
    flagsOf (4 * M + s) (e - 2) = flags (rung (4 * M + s) (e - 2)) (decide (M % 2 ^ D = 0 ∧ s = 0)) ∧
    (if e + D < -1074 then 0 else qOf M D s) ≤ 2 ^ 53 := by
  have hA := pow_pos2 D
  by_cases hlow : e + D < -1074
  · -- far below all numbers
    have hD63 : D = 63 := by
      rcases Nat.lt_or_ge D 63 with h | h
      · have := (hD.stop h).2; omega
      · have := hD.le; omega
    subst hD63
    have hM62 : M < 2 ^ 62 := by rcases he with h | h; omega; exact h.1
    have he2 : -1140 ≤ e := by rcases he with h | h; omega; exact h.2
    have hV64 : 4 * M + s < 2 ^ 64 := by omega
    have hlog : (4 * M + s).log2 < 64 := (Nat.log2_lt hV).2 hV64
    have hl : lastE (4 * M + s) (e - 2) = -1074 := lastE_of (.inr ⟨by omega, rfl⟩)
    obtain ⟨k, hk⟩ : ∃ k : Nat, (-1074 - (e - 2)).toNat = 66 + k := ⟨(-1074 - (e - 2)).toNat - 66, by omega⟩
    have e2 : (-(-1074 - (e - 2))).toNat = 0 := by omega
    have hp : 2 ^ 66 ≤ 2 ^ (66 + k) := Nat.pow_le_pow_right (by decide) (by omega)
    have hsm : 4 * M + s < 2 ^ (66 + k) := by omega
    have hz : rdivZ (4 * M + s) (-1074 - (e - 2)) = 0 := by
      unfold rdivZ rdiv
      rw [e2, hk, Nat.pow_zero, Nat.mul_one, Nat.div_eq_of_lt hsm, Nat.mod_eq_of_lt hsm, if_neg (by omega)]
    have hru : rung (4 * M + s) (e - 2) = 0 := by
      unfold rung kept
      rw [if_neg hV, hl, hz]
      simp
    refine ⟨?_, ?_, ?_⟩
    · rw [hru, if_pos hlow]; rfl
    · unfold flagsOf exact wholeZ
      rw [if_neg hV, hl, e2, hk, Nat.pow_zero, Nat.mul_one, Nat.mod_eq_of_lt hsm]
      congr 1
      have h63 : M % 2 ^ 63 = M := Nat.mod_eq_of_lt (by omega)
      rw [h63, Bool.eq_iff_iff]
      simp only [decide_eq_true_eq]
      omega
    · rw [if_pos hlow]; exact Nat.zero_le _
  · have hmax : max (e + D) (-1074) = e + D := by omega
    have hq : M / 2 ^ D < 2 ^ 53 := by
      rcases Nat.lt_or_ge D 63 with h | h
      · exact (hD.stop h).1
      · have : D = 63 := by have := hD.le; omega
        subst this
        exact Nat.lt_of_le_of_lt (Nat.div_le_of_le_mul (show M ≤ 2 ^ 63 * 2 by omega)) (by decide)
    obtain ⟨c1, c2⟩ := rdiv_code (M := M) (D := D) hs
    rw [if_neg hlow, hmax]
    refine ⟨?_, ?_, qOf_le hq⟩
    all_goals
      by_cases hD0 : D = 0 ∧ s = 0
      · obtain ⟨rfl, rfl⟩ := hD0
        have hM0 : M ≠ 0 := by omega
        obtain ⟨s1, s2⟩ := rung_shift M 2 e
        have e1 : M * 2 ^ 2 = 4 * M + 0 := by omega
        have e2 : e - ((2 : Nat) : Int) = e - 2 := by omega
        rw [e1, e2] at s1 s2
        have hq0 : qOf M 0 0 = M := by unfold qOf; simp
        have hle : lastE M e ≤ e := by
          have : M.log2 < 53 := (Nat.log2_lt hM0).2 (by simpa using hq)
          unfold lastE; simp only [Int.natCast_zero, Int.add_zero] at hlow; omega
        first
        | (rw [s1, hq0]; simp; done)
        | (rw [s2, s1]
           unfold flagsOf exact wholeZ
           have z : (lastE M e - e).toNat = 0 := by omega
           rw [if_neg hM0, z]
           simp [Nat.mod_one])
      · -- the last place is that of the shift
        have hl : lastE (4 * M + s) (e - 2) = e + D := by
          by_cases hM0 : M = 0
          · subst hM0
            have hs1 : s = 1 := by omega
            subst hs1
            have hle : e + D = -1074 := by
              rcases Nat.eq_zero_or_pos D with rfl | hpos
              · have := hr rfl; omega
              · have h := hD.least (D - 1) (by omega)
                simp only [Nat.zero_div] at h
                omega
            refine lastE_of (.inr ⟨?_, hle⟩)
            have : (4 * 0 + 1 : Nat).log2 = 0 := by decide
            rw [this]; omega
          · have hlog := log2_quad hs hM0
            have hub : M.log2 < 53 + D := by
              rw [Nat.log2_lt hM0, Nat.pow_add]; exact div_lt hq
            have hcase : 52 + D ≤ M.log2 ∨ e + D = -1074 := by
              rcases Nat.eq_zero_or_pos D with rfl | hpos
              · have hs1 : s = 1 := by omega
                rcases hr hs1 with h | h
                · left; rw [Nat.le_log2 hM0]; simpa using h
                · right; simp only [Int.natCast_zero, Int.add_zero] at hlow ⊢; omega
              · rcases hD.least (D - 1) (by omega) with h | h
                · left
                  rw [Nat.le_log2 hM0]
                  have := le_div h
                  have e1 : 2 ^ (52 + D) = 2 ^ 53 * 2 ^ (D - 1) := by rw [← Nat.pow_add]; congr 1; omega
                  rw [e1]; exact this
                · right; omega
            refine lastE_of ?_
            rw [hlog]
            rcases hcase with h | h
            · left; omega
            · right; omega
        have e1 : (e + D - (e - 2)).toNat = D + 2 := by omega
        have e2 : (-(e + (D : Int) - (e - 2))).toNat = 0 := by omega
        have hkept : kept (4 * M + s) (e - 2) = qOf M D s := by
          unfold kept rdivZ
          rw [hl, e1, e2, Nat.pow_zero, Nat.mul_one, c1]; rfl
        first
        | (have hbig : 2 ^ 52 ≤ qOf M D s ∨ e + D = -1074 := by
             rcases Nat.eq_zero_or_pos D with rfl | hpos
             · have hs1 : s = 1 := by omega
               rcases hr hs1 with h | h
               · left; exact Nat.le_trans (by simpa using h) qOf_ge
               · right; simp only [Int.natCast_zero, Int.add_zero] at hlow ⊢; omega
             · rcases hD.least (D - 1) (by omega) with h | h
               · left
                 refine Nat.le_trans ?_ qOf_ge
                 rw [Nat.le_div_iff_mul_le hA]
                 have := le_div h
                 have e1 : 2 ^ 52 * 2 ^ D = 2 ^ 53 * 2 ^ (D - 1) := by rw [← Nat.pow_add, ← Nat.pow_add]; congr 1; omega
                 rw [e1]; exact this
               · right; omega
           rw [rung_pack (qOf_le hq) (by omega) hbig]
           unfold rung
           rw [if_neg hV, hl, hkept]; done)
        | (unfold flagsOf exact wholeZ
           rw [if_neg hV, hl, e1, e2, Nat.pow_zero, Nat.mul_one]
           congr 1
           rw [Bool.eq_iff_iff]
           simp only [decide_eq_true_eq]
           exact c2)

/-! ### The flags of a word -/

theorem powN_sign (n : Bool) {r : Nat} (h : r < 2 ^ 63) : powN (signN n r) = r / 2 ^ 52 := by
  unfold powN signN; cases n
  · simp only [Bool.false_eq_true, if_false]; omega
  · simp only [if_true]; omega
theorem fracN_sign (n : Bool) (r : Nat) : fracN (signN n r) = r % 2 ^ 52 := by
  unfold fracN signN; cases n
  · rfl
  · simp only [if_true]; omega

theorem kind_sign (n : Bool) {r : Nat} (h : r ≤ infR) : kindN (signN n r) = if r = infR then 3 else if 2 ^ 52 ≤ r then 2 else if 0 < r then 1 else 0 := by
  rw [infR_eq] at *
  unfold kindN
  rw [powN_sign n (by omega), fracN_sign]
  by_cases h1 : r = 9218868437227405312
  · subst h1; simp
  · rw [if_neg h1, if_neg (by omega)]
    by_cases h2 : 2 ^ 52 ≤ r
    · rw [if_pos h2, if_pos (by omega)]
    · rw [if_neg h2, if_neg (by omega)]
      by_cases h3 : 0 < r
      · rw [if_pos h3, if_pos (by omega)]
      · rw [if_neg h3, if_neg (by omega)]

end Go.Rnd

/- The sum, in plain numbers. -/
namespace Go.Rnd

theorem addN_comm (a b : Nat) : addN a b = addN b a := by
  unfold addN
  by_cases ha : kindN a = 4
  · simp only [ha, true_or, or_true, if_true]
  · by_cases hb : kindN b = 4
    · simp only [hb, true_or, or_true, if_true]
    · simp only [ha, hb, or_self, if_false]
      by_cases ha3 : kindN a = 3
      · by_cases hb3 : kindN b = 3
        · simp only [ha3, hb3, if_true, true_and]
          by_cases e : a = b
          · subst e; rfl
          · rw [if_pos e, if_pos (fun h => e h.symm)]
        · simp only [ha3, hb3, if_true, if_false, false_and]
      · by_cases hb3 : kindN b = 3
        · simp only [ha3, hb3, if_true, if_false, false_and]
        · simp only [ha3, hb3, if_false]
          rw [Bool.and_comm, Int.min_comm, Int.add_comm]

theorem rightN_zero {Y D : Nat} (h : Y % 2 ^ D = 0) : rightN Y D = Y / 2 ^ D := by unfold rightN; rw [if_pos h]
theorem rightN_odd {Y D : Nat} (h : Y % 2 ^ D ≠ 0) : rightN Y D % 2 = 1 := by unfold rightN; rw [if_neg h]; omega

/-- Where something is left out, it lies beside an odd number. -/
theorem rightN_near {Y d : Nat} (hY : Y < 2 ^ 62) (h : Y % 2 ^ d ≠ 0) : (rightN Y (min d 63) - 1) * 2 ^ d < Y ∧ Y < (rightN Y (min d 63) + 1) * 2 ^ d ∧ rightN Y (min d 63) % 2 = 1 := by
  have hA := pow_pos2 d
  by_cases hd : d ≤ 63
  · rw [Nat.min_eq_left hd]
    refine ⟨?_, ?_, rightN_odd h⟩
    all_goals
      unfold rightN
      rw [if_neg h]
      have h1 := Nat.div_add_mod Y (2 ^ d)
      have h2 := Nat.mod_lt Y hA
      generalize Y / 2 ^ d = q at *
      generalize Y % 2 ^ d = r at *
      generalize 2 ^ d = c at *
      rw [Nat.mul_comm] at h1
    · have h3 : (2 * (q / 2) + 1 - 1) * c ≤ q * c := Nat.mul_le_mul_right c (by omega)
      omega
    · have h3 : (q + 1) * c ≤ (2 * (q / 2) + 1 + 1) * c := Nat.mul_le_mul_right c (by omega)
      rw [Nat.add_mul, Nat.one_mul] at h3
      omega
  · rw [Nat.min_eq_right (by omega)]
    have h63 : Y % 2 ^ 63 = Y := Nat.mod_eq_of_lt (by omega)
    have hd0 : Y / 2 ^ 63 = 0 := Nat.div_eq_of_lt (by omega)
    have hY0 : Y ≠ 0 := by intro e; rw [e] at h; simp at h
    have hr : rightN Y 63 = 1 := by unfold rightN; rw [h63, if_neg hY0, hd0]
    have hp : 2 ^ 62 ≤ 2 ^ d := Nat.pow_le_pow_right (by decide) (by omega)
    rw [hr]
    refine ⟨by simp; omega, by omega, rfl⟩

theorem pow9 {d M : Nat} (h : (M * 2 ^ 9) % 2 ^ d ≠ 0) : 10 ≤ d := by
  refine Nat.lt_of_not_le fun hle => h ?_
  obtain ⟨k, hk⟩ : ∃ k, 9 = d + k := ⟨9 - d, by omega⟩
  rw [hk, Nat.pow_add, Nat.mul_comm (2 ^ d), ← Nat.mul_assoc, Nat.mul_mod_left]

/-- What is not to be rounded twice: the exact value V at place f - 9, and the code's at place e - 9. -/
theorem add_round {V m d : Nat} {e f : Int} (hd : e = f + d) (h : V = m * 2 ^ d ∨ (m % 2 = 1 ∧ (m - 1) * 2 ^ d < V ∧ V < (m + 1) * 2 ^ d ∧ 2 ^ 60 ≤ m)) :
    rung m (e - 9) = rung V (f - 9) ∧ flagsOf m (e - 9) = flagsOf V (f - 9) := by
  rcases h with rfl | ⟨h1, h2, h3, h4⟩
  · have := rung_shift m d (e - 9)
    have e1 : e - 9 - (d : Int) = f - 9 := by omega
    rw [e1] at this
    exact ⟨this.1.symm, this.2.symm⟩
  · have hm0 : m ≠ 0 := by omega
    have hlog := log2_odd h1 (by omega) h2 h3
    have hl60 : 60 ≤ m.log2 := (Nat.le_log2 hm0).2 h4
    have e1 : f - 9 + (d : Int) = e - 9 := by omega
    have hle : lastE V (f - 9) = lastE m (f - 9 + d) := by unfold lastE; rw [hlog]; congr 1; omega
    have hk : f - 9 + d + 2 ≤ lastE m (f - 9 + d) := by unfold lastE; omega
    obtain ⟨a1, a2⟩ := rung_odd h1 h2 h3 hle hk
    rw [e1] at a1 a2
    exact ⟨a1.symm, a2.symm⟩

theorem shift9 (V : Nat) (f : Int) : rung (V * 2 ^ 9) (f - 9) = rung V f ∧ flagsOf (V * 2 ^ 9) (f - 9) = flagsOf V f := rung_shift V 9 f

structure AddCore (Mx My d : Nat) (e f : Int) (X r : Nat) : Prop where
  plus : rung (X + r) (e - 9) = rung (Mx * 2 ^ d + My) f ∧ flagsOf (X + r) (e - 9) = flagsOf (Mx * 2 ^ d + My) f
  less : r < X → My < Mx * 2 ^ d ∧ rung (X - r) (e - 9) = rung (Mx * 2 ^ d - My) f ∧ flagsOf (X - r) (e - 9) = flagsOf (Mx * 2 ^ d - My) f
  more : X < r → Mx * 2 ^ d < My ∧ rung (r - X) (e - 9) = rung (My - Mx * 2 ^ d) f ∧ flagsOf (r - X) (e - 9) = flagsOf (My - Mx * 2 ^ d) f
  same : X = r → Mx * 2 ^ d = My
  small : r ≤ 2 ^ 62

theorem add_odd {X My r d p : Nat} {e f : Int} (hd : e = f + d) (comm : X * 2 ^ d = p * 2 ^ 9) (n1 : (r - 1) * 2 ^ d < My * 2 ^ 9) (n2 : My * 2 ^ 9 < r * 2 ^ d + 2 ^ d) (n3 : r % 2 = 1) (hX2 : X % 2 = 0) (hX : 2 ^ 61 ≤ X) (hr : r ≤ 2 ^ 53) :
    (rung (X + r) (e - 9) = rung (p + My) f ∧ flagsOf (X + r) (e - 9) = flagsOf (p + My) f) ∧ My < p ∧ rung (X - r) (e - 9) = rung (p - My) f ∧ flagsOf (X - r) (e - 9) = flagsOf (p - My) f := by
  have e1 : (r - 1) * 2 ^ d + 2 ^ d = r * 2 ^ d := by
    obtain ⟨k, rfl⟩ : ∃ k, r = k + 1 := ⟨r - 1, by omega⟩
    rw [Nat.add_sub_cancel, Nat.add_mul, Nat.one_mul]
  have e2 : (r + 1) * 2 ^ d = r * 2 ^ d + 2 ^ d := by rw [Nat.add_mul, Nat.one_mul]
  have hXd : (r + 1) * 2 ^ d ≤ X * 2 ^ d := Nat.mul_le_mul_right _ (by omega)
  have hlt : My < p := by rw [e2, comm] at hXd; omega
  have a1 : rung (X + r) (e - 9) = rung ((p + My) * 2 ^ 9) (f - 9) ∧ flagsOf (X + r) (e - 9) = flagsOf ((p + My) * 2 ^ 9) (f - 9) := by
    refine add_round hd (.inr ⟨by omega, ?_, ?_, by omega⟩)
    · have h1 : X + r - 1 = X + (r - 1) := by omega
      rw [h1, Nat.add_mul X (r - 1) (2 ^ d), Nat.add_mul p My (2 ^ 9), comm]
      exact Nat.add_lt_add_left n1 _
    · have h1 : X + r + 1 = X + (r + 1) := by omega
      rw [h1, Nat.add_mul X (r + 1) (2 ^ d), Nat.add_mul p My (2 ^ 9), comm, e2]
      exact Nat.add_lt_add_left n2 _
  have a2 : rung (X - r) (e - 9) = rung ((p - My) * 2 ^ 9) (f - 9) ∧ flagsOf (X - r) (e - 9) = flagsOf ((p - My) * 2 ^ 9) (f - 9) := by
    rw [e2, comm] at hXd
    refine add_round hd (.inr ⟨by omega, ?_, ?_, by omega⟩)
    · have h1 : X - r - 1 = X - (r + 1) := by omega
      rw [h1, Nat.sub_mul X (r + 1) (2 ^ d), Nat.sub_mul p My (2 ^ 9), comm, e2]
      omega
    · have h1 : X - r + 1 = X - (r - 1) := by omega
      rw [h1, Nat.sub_mul X (r - 1) (2 ^ d), Nat.sub_mul p My (2 ^ 9), comm]
      omega
  rw [(shift9 _ f).1, (shift9 _ f).2] at a1 a2
  exact ⟨a1, hlt, a2⟩

theorem add_core {Mx My d : Nat} {e f : Int} (hd : e = f + d) (hx : Mx < 2 ^ 53) (hy : My < 2 ^ 53) (hbig : 10 ≤ d → 2 ^ 52 ≤ Mx) :
    AddCore Mx My d e f (Mx * 2 ^ 9) (rightN (My * 2 ^ 9) (min d 63)) := by
  have hA := pow_pos2 d
  have hY : My * 2 ^ 9 < 2 ^ 62 := by omega
  have comm : Mx * 2 ^ 9 * 2 ^ d = Mx * 2 ^ d * 2 ^ 9 := by rw [Nat.mul_assoc, Nat.mul_comm (2 ^ 9), ← Nat.mul_assoc]
  have s9 := fun V => shift9 V f
  by_cases hz : (My * 2 ^ 9) % 2 ^ d = 0
  · -- nothing is left out
    have hr : ∃ r, rightN (My * 2 ^ 9) (min d 63) = r ∧ My * 2 ^ 9 = r * 2 ^ d := by
      by_cases hd63 : d ≤ 63
      · rw [Nat.min_eq_left hd63]
        exact ⟨_, rfl, by rw [rightN_zero hz]; exact (Nat.div_mul_cancel (Nat.dvd_of_mod_eq_zero hz)).symm⟩
      · have hp : 2 ^ 62 ≤ 2 ^ d := Nat.pow_le_pow_right (by decide) (by omega)
        have : My * 2 ^ 9 = 0 := by rw [Nat.mod_eq_of_lt (by omega)] at hz; exact hz
        rw [Nat.min_eq_right (by omega), this]
        exact ⟨0, by decide, by omega⟩
    obtain ⟨r, hr, hYr⟩ := hr
    rw [hr]
    have hle : r ≤ 2 ^ 62 := by
      have : r * 1 ≤ r * 2 ^ d := Nat.mul_le_mul_left r hA
      omega
    have cmp : ∀ x y : Nat, x * 2 ^ d < y * 2 ^ d ↔ x < y := fun x y => Nat.mul_lt_mul_right hA
    refine ⟨?_, fun h => ?_, fun h => ?_, fun h => ?_, hle⟩
    · rw [← (s9 _).1, ← (s9 _).2]
      exact add_round hd (.inl (by rw [Nat.add_mul (Mx * 2 ^ d) My (2 ^ 9), Nat.add_mul (Mx * 2 ^ 9) r (2 ^ d), comm, hYr]))
    · have h1 := (cmp r (Mx * 2 ^ 9)).2 h
      refine ⟨by omega, ?_⟩
      rw [← (s9 _).1, ← (s9 _).2]
      exact add_round hd (.inl (by first | rw [Nat.sub_mul (Mx * 2 ^ d) My (2 ^ 9), Nat.sub_mul (Mx * 2 ^ 9) r (2 ^ d), comm, hYr] | rw [Nat.sub_mul My (Mx * 2 ^ d) (2 ^ 9), Nat.sub_mul r (Mx * 2 ^ 9) (2 ^ d), comm, hYr]))
    · have h1 := (cmp (Mx * 2 ^ 9) r).2 h
      refine ⟨by omega, ?_⟩
      rw [← (s9 _).1, ← (s9 _).2]
      exact add_round hd (.inl (by first | rw [Nat.sub_mul (Mx * 2 ^ d) My (2 ^ 9), Nat.sub_mul (Mx * 2 ^ 9) r (2 ^ d), comm, hYr] | rw [Nat.sub_mul My (Mx * 2 ^ d) (2 ^ 9), Nat.sub_mul r (Mx * 2 ^ 9) (2 ^ d), comm, hYr]))
    · rw [← h] at hYr
      omega
  · -- something is left out
    have hd10 := pow9 hz
    have hMx := hbig hd10
    obtain ⟨n1, n2, n3⟩ := rightN_near hY hz
    have hrle : rightN (My * 2 ^ 9) (min d 63) ≤ 2 ^ 53 := by
      refine Nat.le_of_not_lt fun h => ?_
      have h1 : 2 ^ 53 * 2 ^ d ≤ (rightN (My * 2 ^ 9) (min d 63) - 1) * 2 ^ d := Nat.mul_le_mul_right _ (by omega)
      have h2 : 2 ^ 10 ≤ 2 ^ d := Nat.pow_le_pow_right (by decide) hd10
      have h3 : 2 ^ 53 * 2 ^ 10 ≤ 2 ^ 53 * 2 ^ d := Nat.mul_le_mul_left _ h2
      omega
    generalize rightN (My * 2 ^ 9) (min d 63) = r at *
    have hr1 : 1 ≤ r := by omega
    have e1 : (r - 1) * 2 ^ d + 2 ^ d = r * 2 ^ d := by
      obtain ⟨k, rfl⟩ : ∃ k, r = k + 1 := ⟨r - 1, by omega⟩
      rw [Nat.add_sub_cancel, Nat.add_mul, Nat.one_mul]
    have e2 : (r + 1) * 2 ^ d = r * 2 ^ d + 2 ^ d := by rw [Nat.add_mul, Nat.one_mul]
    rw [e2] at n2
    have hXr : r < Mx * 2 ^ 9 := by omega
    have hXd : (r + 1) * 2 ^ d ≤ Mx * 2 ^ 9 * 2 ^ d := Nat.mul_le_mul_right _ (by omega)
    rw [e2, comm] at hXd
    obtain ⟨p1, p2, p3⟩ := add_odd hd comm n1 n2 n3 (by omega) (by omega) hrle
    exact ⟨p1, fun _ => ⟨p2, p3⟩, fun h => by omega, fun h => by omega, by omega⟩

theorem nearN_false (n : Bool) (m : Nat) (e : Int) : nearN n m e false = (signN n (rung m e), flagsOf m e) := by
  unfold nearN
  have := rung_shift m 2 e
  have e1 : m * 2 ^ 2 = 4 * m + false.toNat := by simp; omega
  have e2 : e - ((2 : Nat) : Int) = e - 2 := by omega
  rw [e1, e2] at this
  rw [this.1, this.2]

theorem rung_zero (E : Int) : rung 0 E = 0 := if_pos rfl
theorem flagsOf_zero (E : Int) : flagsOf 0 E = 0 := if_pos rfl

theorem fin_kind {b : Nat} (h : finN b = true) : kindN b ≠ 4 ∧ kindN b ≠ 3 := by
  unfold finN at h
  simp only [decide_eq_true_eq] at h
  unfold kindN
  rw [if_neg (by omega)]
  split
  · omega
  · split <;> omega

theorem partM_big {b : Nat} (h : -1064 ≤ partE b) : 2 ^ 52 ≤ partM b := by
  unfold partE at h
  unfold partM
  split at h
  · omega
  · rw [if_neg (by assumption)]; omega

theorem roundZ_sgn (z : Nat) (s : Bool) {V : Nat} (hV : V ≠ 0) (f : Int) : roundZ z (sgn s V) f = (signN s (rung V f), flagsOf V f) := by
  unfold roundZ sgn
  cases s
  · have h1 : ¬ (V : Int) = 0 := by omega
    have h2 : ¬ (V : Int) < 0 := by omega
    simp only [Bool.false_eq_true, if_false, h1, h2, decide_false, Int.natAbs_natCast]
  · have h1 : ¬ -(V : Int) = 0 := by omega
    have h2 : -(V : Int) < 0 := by omega
    simp only [if_true, h1, if_false, h2, decide_true, Int.natAbs_neg, Int.natAbs_natCast]

theorem add_aux {p q X r : Nat} {e f : Int} (s t : Bool)
    (plus : rung (X + r) e = rung (p + q) f ∧ flagsOf (X + r) e = flagsOf (p + q) f)
    (less : r < X → q < p ∧ rung (X - r) e = rung (p - q) f ∧ flagsOf (X - r) e = flagsOf (p - q) f)
    (more : X < r → p < q ∧ rung (r - X) e = rung (q - p) f ∧ flagsOf (r - X) e = flagsOf (q - p) f)
    (same : X = r → p = q) :
    roundZ (signN (s && t) 0) (sgn s p + sgn t q) f = (if s = t then nearN s (X + r) e false
      else if r < X then nearN s (X - r) e false
      else if X < r then nearN t (r - X) e false
      else (0, 0)) := by
  simp only [nearN_false]
  by_cases hs : s = t
  · rw [if_pos hs, ← hs]
    have hsum : sgn s p + sgn s q = sgn s (p + q) := by unfold sgn; cases s <;> simp <;> omega
    rw [hsum, plus.1, plus.2]
    by_cases h0 : p + q = 0
    · rw [h0, rung_zero, flagsOf_zero]
      unfold roundZ
      have : sgn s 0 = 0 := by unfold sgn; cases s <;> rfl
      rw [if_pos this, Bool.and_self]
    · exact roundZ_sgn _ _ h0 _
  · rw [if_neg hs]
    by_cases h1 : r < X
    · obtain ⟨c1, c2, c3⟩ := less h1
      rw [if_pos h1, c2, c3]
      have hsum : sgn s p + sgn t q = sgn s (p - q) := by
        unfold sgn; cases s <;> cases t <;> simp at hs ⊢ <;> omega
      rw [hsum]
      exact roundZ_sgn _ _ (by omega) _
    · rw [if_neg h1]
      by_cases h2 : X < r
      · obtain ⟨c1, c2, c3⟩ := more h2
        rw [if_pos h2, c2, c3]
        have hsum : sgn s p + sgn t q = sgn t (q - p) := by
          unfold sgn; cases s <;> cases t <;> simp at hs ⊢ <;> omega
        rw [hsum]
        exact roundZ_sgn _ _ (by omega) _
      · rw [if_neg h2]
        have c := same (by omega)
        have hsum : sgn s p + sgn t q = 0 := by
          unfold sgn; cases s <;> cases t <;> simp at hs ⊢ <;> omega
        have hz : (s && t) = false := by cases s <;> cases t <;> simp at hs ⊢
        rw [hsum, hz]
        rfl

theorem addN_fin {a b : Nat} (ha : finN a = true) (hb : finN b = true) :
    addN a b = roundZ (signN (negN a && negN b) 0) (valAt a (min (partE a) (partE b)) + valAt b (min (partE a) (partE b))) (min (partE a) (partE b)) := by
  have k1 := fin_kind ha
  have k2 := fin_kind hb
  unfold addN
  rw [if_neg (fun h => h.elim k1.1 k2.1), if_neg k1.2, if_neg k2.2]

theorem valAt_same (b : Nat) : valAt b (partE b) = sgn (negN b) (partM b) := by
  unfold valAt; rw [Int.sub_self, Int.toNat_zero, Nat.pow_zero, Nat.mul_one]
theorem valAt_up {b : Nat} {f : Int} {d : Nat} (h : partE b = f + d) : valAt b f = sgn (negN b) (partM b * 2 ^ d) := by
  unfold valAt
  have : (partE b - f).toNat = d := by omega
  rw [this]

/-- The sum of two finite numbers, the first one's place being no less. -/
theorem add_ordered {a b : Nat} (ha : finN a = true) (hb : finN b = true) {d : Nat} (hd : partE a = partE b + d) :
    addN a b = (if negN a = negN b then nearN (negN a) (partM a * 2 ^ 9 + rightN (partM b * 2 ^ 9) (min d 63)) (partE a - 9) false
      else if rightN (partM b * 2 ^ 9) (min d 63) < partM a * 2 ^ 9 then nearN (negN a) (partM a * 2 ^ 9 - rightN (partM b * 2 ^ 9) (min d 63)) (partE a - 9) false
      else if partM a * 2 ^ 9 < rightN (partM b * 2 ^ 9) (min d 63) then nearN (negN b) (rightN (partM b * 2 ^ 9) (min d 63) - partM a * 2 ^ 9) (partE a - 9) false
      else (0, 0)) := by
  have hx := partM_lt a
  have hy := partM_lt b
  have C := add_core (Mx := partM a) (My := partM b) hd hx hy (fun h => partM_big (by have := partE_le b; omega))
  rw [addN_fin ha hb, Int.min_eq_right (by omega), valAt_same, valAt_up hd]
  exact add_aux _ _ C.plus C.less C.more C.same

theorem minusN_lt {b : Nat} (h : b < 2 ^ 64) : minusN b < 2 ^ 64 := by unfold minusN; split <;> omega
theorem flagsOf_lt (m : Nat) (e : Int) : flagsOf m e < 32 := by
  unfold flagsOf flags
  split
  · decide
  · split
    · decide
    · split
      · decide
      · split <;> decide
theorem addN_lt {a b : Nat} (ha : a < 2 ^ 64) (hb : b < 2 ^ 64) : (addN a b).1 < 2 ^ 64 ∧ (addN a b).2 < 32 := by
  unfold addN
  split
  · exact ⟨by decide, by decide⟩
  · split
    · split
      · decide
      · exact ⟨ha, (by decide : 0 < 32)⟩
    · split
      · exact ⟨hb, (by decide : 0 < 32)⟩
      · unfold roundZ
        split
        · refine ⟨?_, (by decide : 0 < 32)⟩
          unfold signN; split <;> decide
        · exact ⟨signN_lt _ _ _, flagsOf_lt _ _⟩

end Go.Rnd

/- The words of the model's own binary64 are those of Flt. -/
namespace Go.Rnd
open Ieee

theorem cut_eq (neg : Bool) (V k : Nat) : Toward.even.cut neg V k = rdiv V k := by
  unfold Toward.cut rdiv
  simp only [Nat.shiftLeft_eq, Nat.one_mul]
  by_cases h : k ≤ V.log2 + 2
  · rw [Nat.min_eq_left h]
    congr 1
    by_cases h1 : 2 ^ k < 2 * (V % 2 ^ k)
    · simp [h1]
    · by_cases h2 : 2 * (V % 2 ^ k) = 2 ^ k ∧ V / 2 ^ k % 2 = 1
      · simp [h2.1, h2.2]
      · simp [h1, h2]
        intro h3
        have := Nat.mod_lt (V / 2 ^ k) (show 0 < 2 by decide)
        omega
  · rw [Nat.min_eq_right (by omega)]
    have hV : V < 2 ^ (V.log2 + 1) := Nat.lt_log2_self
    have e : 2 ^ (V.log2 + 2) = 2 * 2 ^ (V.log2 + 1) := by rw [Nat.pow_succ, Nat.mul_comm]
    have hk : 2 ^ (V.log2 + 2) ≤ 2 ^ k := Nat.pow_le_pow_right (by decide) (by omega)
    have d1 : V / 2 ^ (V.log2 + 2) = 0 := Nat.div_eq_of_lt (by omega)
    have d2 : V / 2 ^ k = 0 := Nat.div_eq_of_lt (by omega)
    have m1 : V % 2 ^ (V.log2 + 2) = V := Nat.mod_eq_of_lt (by omega)
    have m2 : V % 2 ^ k = V := Nat.mod_eq_of_lt (by omega)
    rw [d1, d2, m1, m2]
    have c1 : ¬ (2 ^ (V.log2 + 2) < 2 * V) := by omega
    have c2 : ¬ (2 ^ k < 2 * V) := by omega
    simp [c1, c2]

theorem word_eq (neg : Bool) (r : Nat) : Ieee.double.word neg r = signN neg r := rfl

theorem nearest_eq (neg : Bool) (M : Nat) (E : Int) : Ieee.double.nearest neg M E = signN neg (rung M E) := by
  unfold Format.nearest rung
  by_cases h : M = 0
  · rw [if_pos h, if_pos h]; rfl
  · rw [if_neg h, if_neg h, word_eq]
    have e1 : Ieee.double.leastPlace = -1074 := by decide
    have e2 : max (E + (M.log2 : Int) - (Ieee.double.fractionBits : Int)) Ieee.double.leastPlace = lastE M E := by rw [e1]; rfl
    rw [e2, e1, cut_eq, Nat.shiftLeft_eq]
    unfold kept rdivZ
    have e3 : (-(lastE M E - E)).toNat = (E - lastE M E).toNat := by congr 1; omega
    have e4 : lastE M E - -1074 = lastE M E + 1074 := by omega
    rw [e3, e4]
    rfl

theorem kind_cases (b : Nat) : (powN b = 2047 ∧ fracN b = 0 ∧ kindN b = 3) ∨ (powN b = 2047 ∧ fracN b ≠ 0 ∧ kindN b = 4) ∨ (powN b < 2047 ∧ kindN b ≠ 3 ∧ kindN b ≠ 4) := by
  have := powN_lt b
  unfold kindN
  by_cases h1 : powN b = 2047
  · by_cases h2 : fracN b = 0 <;> simp [h1, h2]
  · refine .inr (.inr ⟨by omega, ?_⟩)
    rw [if_neg h1]
    split
    · decide
    · split <;> decide

theorem rung_of (b : Nat) : b % 2 ^ 63 = powN b * 2 ^ 52 + fracN b := by unfold powN fracN; omega

def readN (b : Nat) : Datum := if kindN b = 4 then .nan (negN b) (fracN b) else if kindN b = 3 then .infinity (negN b) else .number (negN b) (partM b) (partE b)

theorem read_eq {b : Nat} (h : b < 2 ^ 64) : Ieee.double.read b = readN b := by
  unfold Format.read readN
  have e0 : Ieee.double.signWeight = 2 ^ 63 := rfl
  have e1 : Ieee.double.leastPlace = -1074 := by decide
  have e2 : Ieee.double.binade = 2 ^ 52 := rfl
  have e3 : Ieee.double.infRung = infR := rfl
  have hn : (b / 2 ^ 63 % 2 == 1) = negN b := by
    unfold negN
    rw [Bool.eq_iff_iff]
    simp only [beq_iff_eq, decide_eq_true_eq]
    omega
  dsimp only
  rw [e0, e1, e2, e3, hn, rung_of, infR_eq]
  have hf : fracN b < 2 ^ 52 := fracN_lt b
  rcases kind_cases b with ⟨h1, h2, h3⟩ | ⟨h1, h2, h3⟩ | ⟨h1, h2, h3⟩
  · rw [if_neg (by omega), if_neg (by omega), if_pos (by omega), if_neg (by omega), if_pos h3]
  · rw [if_neg (by omega), if_neg (by omega), if_neg (by omega), if_pos h3]
    have e : powN b * 2 ^ 52 + fracN b - 9218868437227405312 = fracN b := by omega
    rw [e]
  · rw [if_neg h3, if_neg h2]
    by_cases h0 : powN b = 0
    · rw [if_pos (by omega)]
      unfold partM partE
      rw [if_pos h0, if_pos h0, h0, Nat.zero_mul, Nat.zero_add]
    · rw [if_neg (by omega), if_pos (by omega)]
      unfold partM partE
      rw [if_neg h0, if_neg h0]
      have m1 : (powN b * 2 ^ 52 + fracN b) % 2 ^ 52 = fracN b := by omega
      have m2 : (powN b * 2 ^ 52 + fracN b) / 2 ^ 52 = powN b := by omega
      have e : (-1074 : Int) + ((powN b - 1 : Nat) : Int) = (powN b : Int) - 1075 := by omega
      rw [m1, m2, Nat.add_comm (2 ^ 52), e]

/-- The word of a datum that is no NaN. -/
theorem write_inf (s : Bool) : Ieee.double.write (.infinity s) = signN s infR := rfl
theorem write_num (s : Bool) (m : Nat) (e : Int) : Ieee.double.write (.number s m e) = signN s (rung m e) := nearest_eq s m e

theorem word_of_inf {b : Nat} (h : b < 2 ^ 64) (h3 : kindN b = 3) : signN (negN b) infR = b := by
  rcases kind_cases b with ⟨h1, h2, _⟩ | ⟨_, _, h4⟩ | ⟨_, h4, _⟩
  · have e := rung_of b
    rw [h1, h2] at e
    rw [infR_eq]
    unfold signN negN
    by_cases hb : 2 ^ 63 ≤ b
    · simp [hb]; omega
    · simp [hb]; omega
  · omega
  · omega


theorem canon_sign (s : Bool) {r : Nat} (h : r ≤ infR) : canonN (signN s r) = signN s r := by
  unfold canonN
  rw [if_neg]
  rw [kind_sign s h]
  split
  · decide
  · split
    · decide
    · split <;> decide

theorem signed_eq (s : Bool) (m up : Nat) : Ieee.signed s m up = sgn s (m * 2 ^ up) := by
  unfold Ieee.signed sgn
  rw [Nat.shiftLeft_eq]

theorem kind_inf (s : Bool) : kindN (signN s infR) = 3 := by
  rw [kind_sign s (Nat.le_refl _), if_pos rfl]

theorem readN_nan {b : Nat} (h : kindN b = 4) : readN b = .nan (negN b) (fracN b) := if_pos h
theorem readN_inf {b : Nat} (h : kindN b = 3) : readN b = .infinity (negN b) := by unfold readN; rw [if_neg (by omega), if_pos h]
theorem readN_num {b : Nat} (h3 : kindN b ≠ 3) (h4 : kindN b ≠ 4) : readN b = .number (negN b) (partM b) (partE b) := by unfold readN; rw [if_neg h4, if_neg h3]

theorem addN_nan {a b : Nat} (h : kindN a = 4 ∨ kindN b = 4) : addN a b = (NaN, 0) := if_pos h
theorem addN_inf {a b : Nat} (h4 : ¬ (kindN a = 4 ∨ kindN b = 4)) (h : kindN a = 3) : addN a b = (if kindN b = 3 ∧ a ≠ b then (NaN, 16) else (a, 0)) := by unfold addN; rw [if_neg h4, if_pos h]
theorem addN_inf' {a b : Nat} (h4 : ¬ (kindN a = 4 ∨ kindN b = 4)) (h : kindN a ≠ 3) (h' : kindN b = 3) : addN a b = (b, 0) := by unfold addN; rw [if_neg h4, if_neg h, if_pos h']
theorem addN_num {a b : Nat} (h4 : ¬ (kindN a = 4 ∨ kindN b = 4)) (h : kindN a ≠ 3) (h' : kindN b ≠ 3) :
    addN a b = roundZ (signN (negN a && negN b) 0) (valAt a (min (partE a) (partE b)) + valAt b (min (partE a) (partE b))) (min (partE a) (partE b)) := by
  unfold addN; rw [if_neg h4, if_neg h, if_neg h']

theorem sum_num (s : Bool) (m : Nat) (i : Int) (t : Bool) (n : Nat) (j : Int) : (Datum.number s m i).sum (Datum.number t n j) =
    some (.number (if sgn s (m * 2 ^ (i - min i j).toNat) + sgn t (n * 2 ^ (j - min i j).toNat) = 0 then s && t else sgn s (m * 2 ^ (i - min i j).toNat) + sgn t (n * 2 ^ (j - min i j).toNat) < 0)
      (sgn s (m * 2 ^ (i - min i j).toNat) + sgn t (n * 2 ^ (j - min i j).toNat)).natAbs (min i j)) := by
  rw [← signed_eq, ← signed_eq]
  rfl

/-- The sum, of what the words stand for. -/
theorem sum_ieee {a b : Nat} (ha : a < 2 ^ 64) (hb : b < 2 ^ 64) {d : Nat} (hd : kindN d = 4) :
    canonN ((((readN a).sum (readN b)).map Ieee.double.write).getD d) = (addN a b).1 := by
  have cd : canonN d = NaN := if_pos hd
  by_cases h4 : kindN a = 4 ∨ kindN b = 4
  · rw [addN_nan h4]
    by_cases a4 : kindN a = 4
    · rw [readN_nan a4]; exact cd
    · have b4 := h4.resolve_left a4
      rw [readN_nan b4]
      by_cases a3 : kindN a = 3
      · rw [readN_inf a3]; exact cd
      · rw [readN_num a3 a4]; exact cd
  · have a4 : kindN a ≠ 4 := fun h => h4 (.inl h)
    have b4 : kindN b ≠ 4 := fun h => h4 (.inr h)
    by_cases a3 : kindN a = 3
    · have wa := word_of_inf ha a3
      rw [addN_inf h4 a3, readN_inf a3]
      by_cases b3 : kindN b = 3
      · have wb := word_of_inf hb b3
        rw [readN_inf b3]
        by_cases hs : negN a = negN b
        · have hab : a = b := by rw [← wa, ← wb, hs]
          rw [if_neg (fun h => h.2 hab)]
          have : (Datum.infinity (negN a)).sum (.infinity (negN b)) = some (.infinity (negN a)) := if_pos hs
          rw [this]
          show canonN (signN (negN a) infR) = a
          rw [canon_sign _ (Nat.le_refl _), wa]
        · have hab : a ≠ b := fun h => hs (by rw [h])
          have : (Datum.infinity (negN a)).sum (.infinity (negN b)) = none := if_neg hs
          rw [this, if_pos ⟨b3, hab⟩]
          exact cd
      · rw [readN_num b3 b4, if_neg (fun h => b3 h.1)]
        show canonN (signN (negN a) infR) = a
        rw [canon_sign _ (Nat.le_refl _), wa]
    · rw [readN_num a3 a4]
      by_cases b3 : kindN b = 3
      · have wb := word_of_inf hb b3
        rw [addN_inf' h4 a3 b3, readN_inf b3]
        show canonN (signN (negN b) infR) = b
        rw [canon_sign _ (Nat.le_refl _), wb]
      · rw [addN_num h4 a3 b3, readN_num b3 b4, sum_num]
        show canonN (Ieee.double.write (.number _ _ _)) = _
        rw [write_num, canon_sign _ (rung_le _ _)]
        unfold roundZ valAt
        by_cases h0 : sgn (negN a) (partM a * 2 ^ (partE a - min (partE a) (partE b)).toNat) + sgn (negN b) (partM b * 2 ^ (partE b - min (partE a) (partE b)).toNat) = 0
        · rw [if_pos h0, if_pos h0, h0]
          have : rung (Int.natAbs 0) (min (partE a) (partE b)) = 0 := if_pos rfl
          rw [this]
        · rw [if_neg h0, if_neg h0]

theorem add_ieee {a b : Nat} (ha : a < 2 ^ 64) (hb : b < 2 ^ 64) {d : Nat} (hd : kindN d = 4) : canonN ((Ieee.double.add a b).getD d) = (addN a b).1 := by
  unfold Format.add
  rw [read_eq ha, read_eq hb]
  exact sum_ieee ha hb hd

theorem minus_parts {b : Nat} (h : b < 2 ^ 64) : negN (minusN b) = !(negN b) ∧ powN (minusN b) = powN b ∧ fracN (minusN b) = fracN b := by
  unfold negN powN fracN minusN
  by_cases hb : 2 ^ 63 ≤ b
  · rw [if_pos hb]
    refine ⟨?_, by omega, by omega⟩
    have : ¬ 2 ^ 63 ≤ b - 2 ^ 63 := by omega
    simp [hb, this]
  · rw [if_neg hb]
    refine ⟨?_, by omega, by omega⟩
    have : 2 ^ 63 ≤ b + 2 ^ 63 := by omega
    simp [hb, this]

theorem minusN_lt' {b : Nat} (h : b < 2 ^ 64) : minusN b < 2 ^ 64 := by unfold minusN; split <;> omega

theorem read_minus {b : Nat} (h : b < 2 ^ 64) : readN (minusN b) = (readN b).opposite := by
  obtain ⟨h1, h2, h3⟩ := minus_parts h
  have hk : kindN (minusN b) = kindN b := by unfold kindN; rw [h2, h3]
  have hm : partM (minusN b) = partM b := by unfold partM; rw [h2, h3]
  have he : partE (minusN b) = partE b := by unfold partE; rw [h2]
  by_cases b4 : kindN b = 4
  · rw [readN_nan b4, readN_nan (by omega), h1, h3]; rfl
  · by_cases b3 : kindN b = 3
    · rw [readN_inf b3, readN_inf (by omega), h1]; rfl
    · rw [readN_num b3 b4, readN_num (by omega) (by omega), h1, hm, he]; rfl

theorem sub_ieee {a b : Nat} (ha : a < 2 ^ 64) (hb : b < 2 ^ 64) {d : Nat} (hd : kindN d = 4) : canonN ((Ieee.double.sub a b).getD d) = (subN a b).1 := by
  unfold Format.sub
  rw [read_eq ha, read_eq hb, ← read_minus hb]
  exact sum_ieee ha (minusN_lt' hb) hd

theorem nan_kind (b : Nat) : (Ieee.double.read b).isNaN = decide (kindN b = 4) := by
  unfold Format.read
  have e0 : Ieee.double.signWeight = 2 ^ 63 := rfl
  have e2 : Ieee.double.binade = 2 ^ 52 := rfl
  have e3 : Ieee.double.infRung = infR := rfl
  dsimp only
  rw [e0, e2, e3, rung_of, infR_eq]
  have hf : fracN b < 2 ^ 52 := fracN_lt b
  rcases kind_cases b with ⟨h1, h2, h3⟩ | ⟨h1, h2, h3⟩ | ⟨h1, h2, h3⟩
  · rw [if_neg (by omega), if_neg (by omega), if_pos (by omega), decide_eq_false (by omega)]; rfl
  · rw [if_neg (by omega), if_neg (by omega), if_neg (by omega), decide_eq_true h3]; rfl
  · rw [decide_eq_false h3]
    by_cases h0 : powN b = 0
    · rw [if_pos (by omega)]; rfl
    · rw [if_neg (by omega), if_pos (by omega)]; rfl

theorem write_lt {q : Datum} (h : q.isNaN = false) : Ieee.double.write q < 2 ^ 64 := by
  cases q with
  | number s m e => rw [write_num]; exact signN_lt _ _ _
  | infinity s => rw [write_inf]; cases s <;> decide
  | nan s f => cases h

theorem sum_plain {x y q : Datum} (h : x.sum y = some q) : q.isNaN = false := by
  cases x <;> cases y <;> simp only [Datum.sum] at h
  all_goals first
    | cases h; done
    | (cases h; rfl)
    | (split at h <;> first | (cases h; done) | (cases h; rfl))

theorem getD_lt {o : Option Datum} (h : ∀ q, o = some q → q.isNaN = false) {d : Nat} (hd : d < 2 ^ 64) : (o.map Ieee.double.write).getD d < 2 ^ 64 := by
  cases o with
  | none => exact hd
  | some q => exact write_lt (h q rfl)

theorem add_ieee_lt (a b : Nat) {d : Nat} (hd : d < 2 ^ 64) : (Ieee.double.add a b).getD d < 2 ^ 64 := getD_lt (fun _ h => sum_plain h) hd
theorem sub_ieee_lt (a b : Nat) {d : Nat} (hd : d < 2 ^ 64) : (Ieee.double.sub a b).getD d < 2 ^ 64 := getD_lt (fun _ h => sum_plain h) hd

end Go.Rnd
