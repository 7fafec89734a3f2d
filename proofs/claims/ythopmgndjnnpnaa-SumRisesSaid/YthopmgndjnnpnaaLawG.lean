/- LawG of the verified evaluator and its use for this seat (of my texts S1PLaw05R). -/
import Derived.Test.YthopmgndjnnpnaaLawF
import Derived.Test.YthopmgndjnnpnaaOrd

/- SumRises: of a greater number the sum with a third one is no less. -/
namespace Go.Proofs.S1
open Go Go.Den Go.Rnd Go.Proofs
open EqLaw05F

/-- What the law asks of two orders. -/
def risesB (o p : Option Ordering) : Bool :=
  bif (bif (bif (!(o == some .lt || o == some .eq)) then true else (!(p == some .gt))) then (bif (!(o == some .gt || o == some .eq)) then true else (!(p == some .lt))) else false) then true else false

theorem rises_keys {x y u v : Int} (h1 : x ≤ y → u ≤ v) (h2 : y ≤ x → v ≤ u) : risesB (some (compare x y)) (some (compare u v)) = true := by
  have ceq : ∀ z : Int, compare z z = Ordering.eq := fun z => by
    show compareOfLessAndEq z z = _; unfold compareOfLessAndEq; rw [if_neg (by omega), if_pos rfl]
  rcases Int.lt_trichotomy x y with h | h | h
  · rw [cmp_lt h]
    rcases Int.lt_or_eq_of_le (h1 (by omega)) with k | k
    · rw [cmp_lt k]; rfl
    · rw [k, ceq]; rfl
  · have : u = v := by have := h1 (by omega); have := h2 (by omega); omega
    rw [h, this, ceq, ceq]; rfl
  · rw [cmp_gt h]
    rcases Int.lt_or_eq_of_le (h2 (by omega)) with k | k
    · rw [cmp_gt k]; rfl
    · rw [k, ceq]; rfl

theorem rises_none (p : Option Ordering) : risesB none p = true := rfl
theorem rises_none' (o : Option Ordering) : risesB o none = true := by cases o with
  | none => rfl
  | some x => cases x <;> rfl

theorem rises {a b c : Nat} (ha : a < 2 ^ 64) (hb : b < 2 ^ 64) (hc : c < 2 ^ 64) :
    risesB (Ieee.double.order a b) (Ieee.double.order (addN a c).1 (addN b c).1) = true := by
  have hu := (addN_lt ha hc).1
  have hv := (addN_lt hb hc).1
  by_cases n1 : kindN a = 4 ∨ kindN b = 4
  · rw [order_nan ha hb n1]; exact rises_none _
  · by_cases n2 : kindN (addN a c).1 = 4 ∨ kindN (addN b c).1 = 4
    · rw [order_nan hu hv n2]; exact rises_none' _
    · have a4 : kindN a ≠ 4 := fun h => n1 (.inl h)
      have b4 : kindN b ≠ 4 := fun h => n1 (.inr h)
      have u4 : kindN (addN a c).1 ≠ 4 := fun h => n2 (.inl h)
      have v4 : kindN (addN b c).1 ≠ 4 := fun h => n2 (.inr h)
      have c4 : kindN c ≠ 4 := fun h => u4 (by rw [addN_nan (.inr h)]; decide +kernel)
      rw [order_key ha hb a4 b4, order_key hu hv u4 v4]
      exact rises_keys (add_rises a4 b4 c4 u4 v4) (add_rises b4 a4 c4 v4 u4)

theorem law05.SumRises.known : Known Try.prog 7 law05.SumRises.spec := law05.SumRises.known_of (.cons sum.Add.known (.cons law05.awake.known (.cons law05.float.known .nil))) fun a b c hp => by
  obtain ⟨h1, hc⟩ := and_true_iff.1 hp
  obtain ⟨ha, hb⟩ := and_true_iff.1 h1
  obtain ⟨a, rfl, hl⟩ := inU64_nat ha
  obtain ⟨b, rfl, hm⟩ := inU64_nat hb
  obtain ⟨c, rfl, hn⟩ := inU64_nat hc
  refine ⟨0, law05.SumRises.out [.i a, .i b, .i c], [], ?_, .bool⟩
  have e1 : addBI (a : Int) (c : Int) = ((addN a c).1 : Nat) := rfl
  have e2 : addBI (b : Int) (c : Int) = ((addN b c).1 : Nat) := rfl
  rw [law05.SumRises.ev, ha, hb, hc, e1, e2, inU64_of (addN_lt hl hn).1, inU64_of (addN_lt hm hn).1]
  simp only [Int.toNat_natCast, cond_true, Bool.and_self]
  exact congrArg (fun x => some (DV.bool x)) (rises hl hm hn)

end Go.Proofs.S1
