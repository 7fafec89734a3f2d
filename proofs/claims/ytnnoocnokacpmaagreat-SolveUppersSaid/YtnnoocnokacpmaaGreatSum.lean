/- Sum of the verified evaluator and its use for this seat (of my texts S1EqSum, S1PSum). -/
import Derived.Test.YtnnoocnokacpmaaGreatSpe
import Derived.Test.YtnnoocnokacpmaaGreatSof
import Derived.Test.YtnnoocnokacpmaaGreatFlo

/- The evaluator's equations: sum.right, sum.special, sum.Add, sum.Sub. Printed by denpy.py. -/
namespace Go.Proofs.S1
open Go Go.Den Go.Rnd Go.Proofs
set_option linter.unusedVariables false
set_option maxRecDepth 100000
namespace EqSum
theorem tt0 (a b : Bool) : (bif a then true else b) = (a || b) := by cases a <;> cases b <;> rfl
theorem tt1 (a : Bool) : ((!(!a)) || (a == false)) = true := by cases a <;> rfl
theorem tt2 (a : Bool) : ((!(a == false)) || ((((!(a == false)) || (a == false)) && (((!(a == false)) || (a == false)) && true)) && true)) = true := by cases a <;> rfl
theorem tt3 (a : Bool) : ((!(a == false)) || true) = true := by cases a <;> rfl
theorem tt4 (a b : Bool) : (bif (!a) then true else (!b)) = ((!a) || (!b)) := by cases a <;> cases b <;> rfl
theorem tt5 (a : Bool) : ((!(!(!a))) || ((!a) == false)) = true := by cases a <;> rfl
theorem tt6 (a : Bool) : ((!((!a) == false)) || ((((!((!a) == false)) || ((!a) == false)) && true) && true)) = true := by cases a <;> rfl
theorem tt7 (a b : Bool) : ((!((!a) == false)) || ((((!((!a) == false)) || ((!a) == false)) && true) && b)) = ((!a) || b) := by cases a <;> cases b <;> rfl
theorem tt8 (a : Bool) : ((!((!a) == false)) || true) = true := by cases a <;> rfl
noncomputable def sum.right.tab : List (Nat × Entry) := []
noncomputable def sum.right.E : Env := envOf (tabOf sum.right.tab) (fun _ => false) (fun _ => none) (fun _ => none)
theorem sum.right.ev (N : Nat) (m : Int) (d : Int) : funD sum.right.E N Tryz.f220 (bodyOf Tryz.f220) [.int .u64 m, .int .i64 d] =
  bif (ltI (63 : Int) d) then
  bif ((bShl .u64 (bShr .u64 m (63 : Int)) (63 : Int)) != m) then
  some (.int .u64 (bOr .u64 (bShr .u64 m (63 : Int)) (1 : Int)))
  else some (.int .u64 (bShr .u64 m (63 : Int)))
  else bif (decide (0 ≤ d)) then
  bif (decide (0 ≤ d)) then
  bif ((bShl .u64 (bShr .u64 m d) d) != m) then
  some (.int .u64 (bOr .u64 (bShr .u64 m d) (1 : Int)))
  else some (.int .u64 (bShr .u64 m d))
  else none
  else none := by kernel_rfl
theorem sum.right.known_of (hk : Knowns Tryz.prog sum.right.tab) (h : ∀ (m : Int) (d : Int), sum.right.pre [.i m, .i d] = true → ∃ N dv drops, funD sum.right.E N Tryz.f220 (bodyOf Tryz.f220) [.int .u64 m, .int .i64 d] = some dv ∧ Wk drops dv (sum.right.out [.i m, .i d])) : Known Tryz.prog 220 sum.right.spec := by
  refine ⟨meets_entry (E := sum.right.E) (env_ok hk _ _ _) Tryz.func220 (show Tryz.f220.body = some (bodyOf Tryz.f220) by kernel_rfl) fun ats dvs he hp => ?_, call_enter Tryz.func220 (by kernel_rfl) (show Tryz.f220.body = some (bodyOf Tryz.f220) by kernel_rfl)⟩
  obtain ⟨m, _, _, rfl, rfl, he0⟩ := he.i_inv
  obtain ⟨d, _, _, rfl, rfl, he1⟩ := he0.i_inv
  obtain ⟨rfl, rfl⟩ := he1.nil_inv
  exact h m d hp

noncomputable def sum.special.tab : List (Nat × Entry) := [(108, soft.Finite.spec), (116, soft.Kind.spec)]
noncomputable def sum.special.E : Env := envOf (tabOf sum.special.tab) (fun _ => false) (fun _ => none) (fun _ => none)
theorem sum.special.ev (N : Nat) (a : Int) (b : Int) : funD sum.special.E N Tryz.f219 (bodyOf Tryz.f219) [.int .u64 a, .int .u64 b] =
  bif (inU64 a) then
  bif ((kindI a) == (4 : Int)) then
  some (.tup [.int .u64 (9221120237041090560 : Int), .int .u8 (0 : Int)])
  else bif (inU64 b) then
  bif ((kindI b) == (4 : Int)) then
  some (.tup [.int .u64 (9221120237041090560 : Int), .int .u8 (0 : Int)])
  else bif (inU64 a) then
  bif (finI a) then
  some (.tup [.int .u64 b, .int .u8 (0 : Int)])
  else bif (inU64 b) then
  bif ((finI b) || (a == b)) then
  some (.tup [.int .u64 a, .int .u8 (0 : Int)])
  else some (.tup [.int .u64 (9221120237041090560 : Int), .int .u8 (16 : Int)])
  else none
  else none
  else none
  else none :=
  Eq.trans (by kernel_rfl)
  (ifE (ifE rfl (ifE (ifE rfl (ifE (ifE rfl (ifE (ifTn (tt3 (finI b)) (ifTn (tt3 (finI b)) (ifTn (tt2 (finI b)) (ifTn (tt1 (finI b)) (ifS (tt0 (finI b) (a == b)) rfl rfl))))) rfl)) rfl)) rfl)) rfl)
theorem sum.special.known_of (hk : Knowns Tryz.prog sum.special.tab) (h : ∀ (a : Int) (b : Int), sum.special.pre [.i a, .i b] = true → ∃ N dv drops, funD sum.special.E N Tryz.f219 (bodyOf Tryz.f219) [.int .u64 a, .int .u64 b] = some dv ∧ Wk drops dv (sum.special.out [.i a, .i b])) : Known Tryz.prog 219 sum.special.spec := by
  refine ⟨meets_entry (E := sum.special.E) (env_ok hk _ _ _) Tryz.func219 (show Tryz.f219.body = some (bodyOf Tryz.f219) by kernel_rfl) fun ats dvs he hp => ?_, call_enter Tryz.func219 (by kernel_rfl) (show Tryz.f219.body = some (bodyOf Tryz.f219) by kernel_rfl)⟩
  obtain ⟨a, _, _, rfl, rfl, he0⟩ := he.i_inv
  obtain ⟨b, _, _, rfl, rfl, he1⟩ := he0.i_inv
  obtain ⟨rfl, rfl⟩ := he1.nil_inv
  exact h a b hp

noncomputable def sum.Add.tab : List (Nat × Entry) := [(108, soft.Finite.spec), (172, soft.Near.spec), (171, soft.Parts.spec), (173, soft.Sign.spec), (220, sum.right.spec), (219, sum.special.spec)]
noncomputable def sum.Add.E : Env := envOf (tabOf sum.Add.tab) (fun _ => false) (fun _ => none) (fun _ => none)
theorem sum.Add.ev (N : Nat) (a : Int) (b : Int) : funD sum.Add.E N Tryz.f200 (bodyOf Tryz.f200) [.int .u64 a, .int .u64 b] =
  bif (inU64 a) then
  bif ((!(finI a)) || (inU64 b)) then
  bif ((!(finI a)) || (!(finI b))) then
  bif ((inU64 a && inU64 b) && (!(finI a) || !(finI b))) then
  some (.tup [.int .u64 (addBI a b), .int .u8 (addFI a b)])
  else none
  else bif (inU64 a) then
  bif (inU64 b) then
  bif (inU64 a) then
  bif (inU64 b) then
  bif (ltI (partEI a) (partEI b)) then
  bif (inU64 (bShl .u64 (partMI a) (9 : Int)) && cdec (0 ≤ (w_i64 ((partEI b) - (partEI a))) ∧ (w_i64 ((partEI b) - (partEI a))) < 1000000)) then
  bif ((negI b) == (negI a)) then
  bif (nearPre (w_u64 ((bShl .u64 (partMI b) (9 : Int)) + (rightI (bShl .u64 (partMI a) (9 : Int)) (w_i64 ((partEI b) - (partEI a)))))) (w_i64 ((partEI b) - (9 : Int))) false) then
  some (.tup [.int .u64 (nearBI (negI b) (w_u64 ((bShl .u64 (partMI b) (9 : Int)) + (rightI (bShl .u64 (partMI a) (9 : Int)) (w_i64 ((partEI b) - (partEI a)))))) (w_i64 ((partEI b) - (9 : Int))) false), .int .u8 (nearFI (negI b) (w_u64 ((bShl .u64 (partMI b) (9 : Int)) + (rightI (bShl .u64 (partMI a) (9 : Int)) (w_i64 ((partEI b) - (partEI a)))))) (w_i64 ((partEI b) - (9 : Int))) false)])
  else none
  else bif (ltI (rightI (bShl .u64 (partMI a) (9 : Int)) (w_i64 ((partEI b) - (partEI a)))) (bShl .u64 (partMI b) (9 : Int))) then
  bif (nearPre (w_u64 ((bShl .u64 (partMI b) (9 : Int)) - (rightI (bShl .u64 (partMI a) (9 : Int)) (w_i64 ((partEI b) - (partEI a)))))) (w_i64 ((partEI b) - (9 : Int))) false) then
  some (.tup [.int .u64 (nearBI (negI b) (w_u64 ((bShl .u64 (partMI b) (9 : Int)) - (rightI (bShl .u64 (partMI a) (9 : Int)) (w_i64 ((partEI b) - (partEI a)))))) (w_i64 ((partEI b) - (9 : Int))) false), .int .u8 (nearFI (negI b) (w_u64 ((bShl .u64 (partMI b) (9 : Int)) - (rightI (bShl .u64 (partMI a) (9 : Int)) (w_i64 ((partEI b) - (partEI a)))))) (w_i64 ((partEI b) - (9 : Int))) false)])
  else none
  else bif (ltI (bShl .u64 (partMI b) (9 : Int)) (rightI (bShl .u64 (partMI a) (9 : Int)) (w_i64 ((partEI b) - (partEI a))))) then
  bif (nearPre (w_u64 ((rightI (bShl .u64 (partMI a) (9 : Int)) (w_i64 ((partEI b) - (partEI a)))) - (bShl .u64 (partMI b) (9 : Int)))) (w_i64 ((partEI b) - (9 : Int))) false) then
  some (.tup [.int .u64 (nearBI (negI a) (w_u64 ((rightI (bShl .u64 (partMI a) (9 : Int)) (w_i64 ((partEI b) - (partEI a)))) - (bShl .u64 (partMI b) (9 : Int)))) (w_i64 ((partEI b) - (9 : Int))) false), .int .u8 (nearFI (negI a) (w_u64 ((rightI (bShl .u64 (partMI a) (9 : Int)) (w_i64 ((partEI b) - (partEI a)))) - (bShl .u64 (partMI b) (9 : Int)))) (w_i64 ((partEI b) - (9 : Int))) false)])
  else none
  else some (.tup [.int .u64 (0 : Int), .int .u8 (0 : Int)])
  else none
  else bif (inU64 (bShl .u64 (partMI b) (9 : Int)) && cdec (0 ≤ (w_i64 ((partEI a) - (partEI b))) ∧ (w_i64 ((partEI a) - (partEI b))) < 1000000)) then
  bif ((negI a) == (negI b)) then
  bif (nearPre (w_u64 ((bShl .u64 (partMI a) (9 : Int)) + (rightI (bShl .u64 (partMI b) (9 : Int)) (w_i64 ((partEI a) - (partEI b)))))) (w_i64 ((partEI a) - (9 : Int))) false) then
  some (.tup [.int .u64 (nearBI (negI a) (w_u64 ((bShl .u64 (partMI a) (9 : Int)) + (rightI (bShl .u64 (partMI b) (9 : Int)) (w_i64 ((partEI a) - (partEI b)))))) (w_i64 ((partEI a) - (9 : Int))) false), .int .u8 (nearFI (negI a) (w_u64 ((bShl .u64 (partMI a) (9 : Int)) + (rightI (bShl .u64 (partMI b) (9 : Int)) (w_i64 ((partEI a) - (partEI b)))))) (w_i64 ((partEI a) - (9 : Int))) false)])
  else none
  else bif (ltI (rightI (bShl .u64 (partMI b) (9 : Int)) (w_i64 ((partEI a) - (partEI b)))) (bShl .u64 (partMI a) (9 : Int))) then
  bif (nearPre (w_u64 ((bShl .u64 (partMI a) (9 : Int)) - (rightI (bShl .u64 (partMI b) (9 : Int)) (w_i64 ((partEI a) - (partEI b)))))) (w_i64 ((partEI a) - (9 : Int))) false) then
  some (.tup [.int .u64 (nearBI (negI a) (w_u64 ((bShl .u64 (partMI a) (9 : Int)) - (rightI (bShl .u64 (partMI b) (9 : Int)) (w_i64 ((partEI a) - (partEI b)))))) (w_i64 ((partEI a) - (9 : Int))) false), .int .u8 (nearFI (negI a) (w_u64 ((bShl .u64 (partMI a) (9 : Int)) - (rightI (bShl .u64 (partMI b) (9 : Int)) (w_i64 ((partEI a) - (partEI b)))))) (w_i64 ((partEI a) - (9 : Int))) false)])
  else none
  else bif (ltI (bShl .u64 (partMI a) (9 : Int)) (rightI (bShl .u64 (partMI b) (9 : Int)) (w_i64 ((partEI a) - (partEI b))))) then
  bif (nearPre (w_u64 ((rightI (bShl .u64 (partMI b) (9 : Int)) (w_i64 ((partEI a) - (partEI b)))) - (bShl .u64 (partMI a) (9 : Int)))) (w_i64 ((partEI a) - (9 : Int))) false) then
  some (.tup [.int .u64 (nearBI (negI b) (w_u64 ((rightI (bShl .u64 (partMI b) (9 : Int)) (w_i64 ((partEI a) - (partEI b)))) - (bShl .u64 (partMI a) (9 : Int)))) (w_i64 ((partEI a) - (9 : Int))) false), .int .u8 (nearFI (negI b) (w_u64 ((rightI (bShl .u64 (partMI b) (9 : Int)) (w_i64 ((partEI a) - (partEI b)))) - (bShl .u64 (partMI a) (9 : Int)))) (w_i64 ((partEI a) - (9 : Int))) false)])
  else none
  else some (.tup [.int .u64 (0 : Int), .int .u8 (0 : Int)])
  else none
  else none
  else none
  else none
  else none
  else none
  else none :=
  Eq.trans (by kernel_rfl)
  (ifE (ifTn (tt8 (finI a)) (ifS (tt7 (finI a) (inU64 b)) (ifTn (tt6 (finI a)) (ifTn (tt5 (finI a)) (ifS (tt4 (finI a) (finI b)) rfl rfl))) rfl)) rfl)
theorem sum.Add.known_of (hk : Knowns Tryz.prog sum.Add.tab) (h : ∀ (a : Int) (b : Int), sum.Add.pre [.i a, .i b] = true → ∃ N dv drops, funD sum.Add.E N Tryz.f200 (bodyOf Tryz.f200) [.int .u64 a, .int .u64 b] = some dv ∧ Wk drops dv (sum.Add.out [.i a, .i b])) : Known Tryz.prog 200 sum.Add.spec := by
  refine ⟨meets_entry (E := sum.Add.E) (env_ok hk _ _ _) Tryz.func200 (show Tryz.f200.body = some (bodyOf Tryz.f200) by kernel_rfl) fun ats dvs he hp => ?_, call_enter Tryz.func200 (by kernel_rfl) (show Tryz.f200.body = some (bodyOf Tryz.f200) by kernel_rfl)⟩
  obtain ⟨a, _, _, rfl, rfl, he0⟩ := he.i_inv
  obtain ⟨b, _, _, rfl, rfl, he1⟩ := he0.i_inv
  obtain ⟨rfl, rfl⟩ := he1.nil_inv
  exact h a b hp

noncomputable def sum.Sub.tab : List (Nat × Entry) := [(201, soft.Minus.spec), (200, sum.Add.spec)]
noncomputable def sum.Sub.E : Env := envOf (tabOf sum.Sub.tab) (fun _ => false) (fun _ => none) (fun _ => none)
theorem sum.Sub.ev (N : Nat) (a : Int) (b : Int) : funD sum.Sub.E N Tryz.f167 (bodyOf Tryz.f167) [.int .u64 a, .int .u64 b] =
  bif (inU64 b) then
  bif (inU64 a && inU64 (minusI b)) then
  some (.tup [.int .u64 (addBI a (minusI b)), .int .u8 (addFI a (minusI b))])
  else none
  else none := by kernel_rfl
theorem sum.Sub.known_of (hk : Knowns Tryz.prog sum.Sub.tab) (h : ∀ (a : Int) (b : Int), sum.Sub.pre [.i a, .i b] = true → ∃ N dv drops, funD sum.Sub.E N Tryz.f167 (bodyOf Tryz.f167) [.int .u64 a, .int .u64 b] = some dv ∧ Wk drops dv (sum.Sub.out [.i a, .i b])) : Known Tryz.prog 167 sum.Sub.spec := by
  refine ⟨meets_entry (E := sum.Sub.E) (env_ok hk _ _ _) Tryz.func167 (show Tryz.f167.body = some (bodyOf Tryz.f167) by kernel_rfl) fun ats dvs he hp => ?_, call_enter Tryz.func167 (by kernel_rfl) (show Tryz.f167.body = some (bodyOf Tryz.f167) by kernel_rfl)⟩
  obtain ⟨a, _, _, rfl, rfl, he0⟩ := he.i_inv
  obtain ⟨b, _, _, rfl, rfl, he1⟩ := he0.i_inv
  obtain ⟨rfl, rfl⟩ := he1.nil_inv
  exact h a b hp
end EqSum
end Go.Proofs.S1

/- Package sum: what its functions answer. -/
namespace Go.Proofs.S1
open Go Go.Den Go.Rnd Go.Proofs
open EqSum

theorem or_one (q : Nat) : q ||| 1 = 2 * (q / 2) + 1 := by
  have e : q % 2 ||| (q / 2 * 2 ^ 1) = q / 2 * 2 ^ 1 + q % 2 := or_apart (Nat.mod_lt _ (by decide))
  have e1 : 1 ||| (q / 2 * 2 ^ 1) = q / 2 * 2 ^ 1 + 1 := or_apart (k := 1) (by decide)
  have hq : q / 2 * 2 ^ 1 + q % 2 = q := by omega
  rw [hq] at e
  rcases Nat.mod_two_eq_zero_or_one q with h | h
  · rw [h, Nat.zero_or] at e
    rw [e, Nat.or_comm] at e1
    omega
  · rw [h] at e
    have : q ||| 1 = q := by
      conv => lhs; rw [← e]
      rw [Nat.or_comm 1, Nat.or_assoc, Nat.or_self, Nat.or_comm, e]
    omega

theorem right_code {n s : Nat} (hn : n < 2 ^ 64) (hs : s ≤ 63) :
    (bif ((bShl .u64 (bShr .u64 (n : Int) (s : Int)) (s : Int)) != (n : Int)) then
      some (DV.int .u64 (bOr .u64 (bShr .u64 (n : Int) (s : Int)) (1 : Int)))
    else some (.int .u64 (bShr .u64 (n : Int) (s : Int)))) = some (.int .u64 ((rightN n s : Nat) : Int)) := by
  have hq : n / 2 ^ s ≤ n := Nat.div_le_self _ _
  have hm : n / 2 ^ s * 2 ^ s ≤ n := Nat.div_mul_le_self _ _
  have hd := Nat.div_add_mod n (2 ^ s)
  rw [Nat.mul_comm] at hd
  rw [bShr_nat .u64 n s (by show s ≤ 64; omega), bShl_u64 _ s (by omega), Nat.mod_eq_of_lt (by omega)]
  have h1 : bOr .u64 ((n / 2 ^ s : Nat) : Int) (1 : Int) = ((n / 2 ^ s ||| 1 : Nat) : Int) := bOr_u64 (by omega) (by decide)
  rw [h1, or_one]
  unfold rightN
  by_cases h : n % 2 ^ s = 0
  · have : ((((n / 2 ^ s * 2 ^ s : Nat) : Int)) != (n : Int)) = false := by
      simp only [bne_eq_false_iff_eq]; omega
    rw [this, if_pos h, cond_false]
  · have : ((((n / 2 ^ s * 2 ^ s : Nat) : Int)) != (n : Int)) = true := by
      simp only [bne_iff_ne, ne_eq]; omega
    rw [this, if_neg h, cond_true]

theorem sum.right.known : Known Tryz.prog 220 sum.right.spec := sum.right.known_of .nil fun m d hp => by
  obtain ⟨h1, h2⟩ := and_true_iff.1 hp
  obtain ⟨n, rfl, hn⟩ := inU64_nat h1
  have h2 := cdec_eq.1 h2
  obtain ⟨d, rfl⟩ : ∃ k : Nat, d = k := ⟨d.toNat, by omega⟩
  refine ⟨0, sum.right.out [.i n, .i d], [], ?_, .int⟩
  rw [sum.right.ev, ltI_eq]
  show _ = some (DV.int .u64 (rightI n d))
  unfold rightI
  rw [Int.toNat_natCast, Int.toNat_natCast]
  by_cases h : 63 < d
  · have : decide ((63 : Int) < (d : Int)) = true := by simp; omega
    rw [this, cond_true, Nat.min_eq_right (by omega)]
    exact right_code hn (Nat.le_refl 63)
  · have : decide ((63 : Int) < (d : Int)) = false := by simp; omega
    have h0 : decide ((0 : Int) ≤ (d : Int)) = true := by simp
    rw [this, cond_false, h0, cond_true, cond_true, Nat.min_eq_left (by omega)]
    exact right_code hn (by omega)

theorem NaN_eq : ((NaN : Nat) : Int) = 9221120237041090560 := rfl

theorem sum.special.known : Known Tryz.prog 219 sum.special.spec := sum.special.known_of (.cons soft.Finite.known (.cons soft.Kind.known .nil)) fun a b hp => by
  obtain ⟨h1, h2⟩ := and_true_iff.1 hp
  obtain ⟨ha, hb⟩ := and_true_iff.1 h1
  obtain ⟨a, rfl, hn⟩ := inU64_nat ha
  obtain ⟨b, rfl, hm⟩ := inU64_nat hb
  refine ⟨0, sum.special.out [.i a, .i b], [], ?_, Wk.tupL (.cons .int (.cons .int .nil))⟩
  rw [sum.special.ev, ha, hb]
  show _ = some (DV.tup [.int .u64 (addBI a b), .int .u8 (addFI a b)])
  unfold addBI addFI addN kindI finI
  simp only [Int.toNat_natCast, cond_true]
  unfold finI at h2
  simp only [Int.toNat_natCast] at h2
  by_cases a4 : kindN a = 4
  · simp [a4, NaN_eq]
  · have e4 : ((kindN a : Int) == 4) = false := by simp; omega
    rw [e4, cond_false]
    by_cases b4 : kindN b = 4
    · simp [b4, NaN_eq]
    · have f4 : ((kindN b : Int) == 4) = false := by simp; omega
      rw [f4, cond_false]
      have ka := kind_fin a
      have kb := kind_fin b
      by_cases a3 : kindN a = 3
      · have fa : finN a = false := by rw [ka]; simp [a3]
        rw [fa, cond_false]
        by_cases b3 : kindN b = 3
        · have fb : finN b = false := by rw [kb]; simp [b3]
          rw [fb]
          by_cases hab : a = b
          · subst hab; simp [a3]
          · have hab' : ((a : Int) == (b : Int)) = false := by simp; omega
            rw [hab']
            simp [a3, b3, hab, NaN_eq]
        · have fb : finN b = true := by rw [kb]; simp [b3, b4]
          rw [fb]
          simp [a3, b3, b4]
      · have fa : finN a = true := by rw [ka]; simp [a3, a4]
        have b3 : kindN b = 3 := by
          rw [fa, kb] at h2
          simp [b4] at h2
          exact h2
        rw [fa, cond_true]
        simp [a3, b3, a4]

def sumOf (na nb : Bool) (X r : Nat) (e : Int) : Nat × Nat :=
  if na = nb then nearN na (X + r) e false else if r < X then nearN na (X - r) e false else if X < r then nearN nb (r - X) e false else (0, 0)

theorem near_pair {na : Bool} {m : Int} {n : Nat} {e e' : Int} (h : m = n) (he : e' = e) (hn : n < 2 ^ 64) (h1 : -1100 ≤ e) (h2 : e ≤ 1000) :
    (bif nearPre m e' false then some (DV.tup [.int .u64 (nearBI na m e' false), .int .u8 (nearFI na m e' false)]) else none)
      = some (.tup [.int .u64 (((nearN na n e false).1 : Nat) : Int), .int .u8 (((nearN na n e false).2 : Nat) : Int)]) := by
  subst h; subst he
  have hp : nearPre (n : Int) e' false = true := cdec_eq.2 ⟨by omega, by omega, by omega, .inl (by omega), fun h => by cases h⟩
  rw [hp, cond_true]
  unfold nearBI nearFI
  rw [Int.toNat_natCast]

theorem add_code (na nb : Bool) {X r : Nat} {e e' : Int} (hX : X < 2 ^ 62) (hr : r ≤ 2 ^ 62) (h : e' = e) (h1 : -1100 ≤ e) (h2 : e ≤ 1000) :
    (bif (na == nb) then
      bif nearPre (w_u64 ((X : Int) + (r : Int))) e' false then some (DV.tup [.int .u64 (nearBI na (w_u64 ((X : Int) + (r : Int))) e' false), .int .u8 (nearFI na (w_u64 ((X : Int) + (r : Int))) e' false)]) else none
    else bif ltI (r : Int) (X : Int) then
      bif nearPre (w_u64 ((X : Int) - (r : Int))) e' false then some (DV.tup [.int .u64 (nearBI na (w_u64 ((X : Int) - (r : Int))) e' false), .int .u8 (nearFI na (w_u64 ((X : Int) - (r : Int))) e' false)]) else none
    else bif ltI (X : Int) (r : Int) then
      bif nearPre (w_u64 ((r : Int) - (X : Int))) e' false then some (DV.tup [.int .u64 (nearBI nb (w_u64 ((r : Int) - (X : Int))) e' false), .int .u8 (nearFI nb (w_u64 ((r : Int) - (X : Int))) e' false)]) else none
    else some (.tup [.int .u64 (0 : Int), .int .u8 (0 : Int)])) =
      some (.tup [.int .u64 (((sumOf na nb X r e).1 : Nat) : Int), .int .u8 (((sumOf na nb X r e).2 : Nat) : Int)]) := by
  unfold sumOf
  rw [ltI_eq, ltI_eq]
  by_cases hs : na = nb
  · have : (na == nb) = true := by simp [hs]
    rw [this, cond_true, if_pos hs]
    exact near_pair (by rw [w_u64_in (by omega) (by omega)]; omega) h (by omega) h1 h2
  · have : (na == nb) = false := by simp [hs]
    rw [this, cond_false, if_neg hs]
    by_cases hl : r < X
    · have : decide ((r : Int) < (X : Int)) = true := by simp; omega
      rw [this, cond_true, if_pos hl]
      exact near_pair (by rw [w_u64_in (by omega) (by omega)]; omega) h (by omega) h1 h2
    · have : decide ((r : Int) < (X : Int)) = false := by simp; omega
      rw [this, cond_false, if_neg hl]
      by_cases hg : X < r
      · have : decide ((X : Int) < (r : Int)) = true := by simp; omega
        rw [this, cond_true, if_pos hg]
        exact near_pair (by rw [w_u64_in (by omega) (by omega)]; omega) h (by omega) h1 h2
      · have : decide ((X : Int) < (r : Int)) = false := by simp; omega
        rw [this, cond_false, if_neg hg]
        rfl

theorem add_pre {a b : Nat} (ha : finN a = true) (hb : finN b = true) (hle : partE b ≤ partE a) :
    ∃ X r : Nat, X < 2 ^ 62 ∧ r ≤ 2 ^ 62 ∧ bShl .u64 (partMI a) (9 : Int) = (X : Int) ∧ rightI (bShl .u64 (partMI b) (9 : Int)) (w_i64 (partEI a - partEI b)) = (r : Int)
      ∧ w_i64 (partEI a - 9) = partE a - 9
      ∧ (inU64 (bShl .u64 (partMI b) (9 : Int)) && cdec (0 ≤ (w_i64 ((partEI a) - (partEI b))) ∧ (w_i64 ((partEI a) - (partEI b))) < 1000000)) = true
      ∧ sumOf (negI a) (negI b) X r (partE a - 9) = addN a b := by
  obtain ⟨d, hd⟩ : ∃ d : Nat, partE a = partE b + d := ⟨(partE a - partE b).toNat, by omega⟩
  have hx := partM_lt a
  have hy := partM_lt b
  have ea := partE_le a
  have eb := partE_le b
  have C := add_core (Mx := partM a) (My := partM b) hd hx hy (fun h => partM_big (by omega))
  have sh : ∀ m : Nat, m < 2 ^ 53 → bShl .u64 (m : Int) (9 : Int) = ((m * 2 ^ 9 : Nat) : Int) := fun m hm => by
    have := bShl_u64 m 9 (by decide)
    rw [Nat.mod_eq_of_lt (by omega)] at this
    exact this
  have h2 : w_i64 (partEI a - partEI b) = (d : Int) := by
    unfold partEI
    rw [Int.toNat_natCast, Int.toNat_natCast, w_i64_in (by omega) (by omega)]; omega
  have s1 : bShl .u64 (partMI a) (9 : Int) = ((partM a * 2 ^ 9 : Nat) : Int) := by
    unfold partMI; rw [Int.toNat_natCast]; exact sh _ hx
  have s2 : bShl .u64 (partMI b) (9 : Int) = ((partM b * 2 ^ 9 : Nat) : Int) := by
    unfold partMI; rw [Int.toNat_natCast]; exact sh _ hy
  refine ⟨partM a * 2 ^ 9, rightN (partM b * 2 ^ 9) (min d 63), by omega, C.small, s1, ?_, ?_, ?_, ?_⟩
  · rw [s2, h2]; unfold rightI; rw [Int.toNat_natCast, Int.toNat_natCast]
  · unfold partEI; rw [Int.toNat_natCast, w_i64_in (by omega) (by omega)]
  · rw [s2, h2, inU64_of (by omega), Bool.true_and]
    exact cdec_eq.2 ⟨by omega, by omega⟩
  · unfold negI
    rw [Int.toNat_natCast, Int.toNat_natCast, add_ordered ha hb hd]
    rfl

theorem sum.Add.known : Known Tryz.prog 200 sum.Add.spec := sum.Add.known_of (.cons soft.Finite.known (.cons soft.Near.known (.cons soft.Parts.known (.cons soft.Sign.known (.cons sum.right.known (.cons sum.special.known .nil)))))) fun a b hp => by
  obtain ⟨ha, hb⟩ := and_true_iff.1 hp
  obtain ⟨a, rfl, hn⟩ := inU64_nat ha
  obtain ⟨b, rfl, hm⟩ := inU64_nat hb
  refine ⟨0, sum.Add.out [.i a, .i b], [], ?_, Wk.tupL (.cons .int (.cons .int .nil))⟩
  rw [sum.Add.ev, ha, hb]
  show _ = some (DV.tup [.int .u64 (addBI a b), .int .u8 (addFI a b)])
  rw [Bool.or_true, cond_true, cond_true]
  by_cases hf : (!(finI a) || !(finI b)) = true
  · rw [hf]; rfl
  · have hf : (!(finI a) || !(finI b)) = false := by simpa using hf
    rw [hf, cond_false, cond_true, cond_true, cond_true, cond_true]
    have fa : finN a = true := by
      have := (Bool.or_eq_false_iff.1 hf).1
      unfold finI at this
      simpa using this
    have fb : finN b = true := by
      have := (Bool.or_eq_false_iff.1 hf).2
      unfold finI at this
      simpa using this
    have xa := partE_le a
    have xb := partE_le b
    rw [ltI_eq]
    by_cases hl : partE a < partE b
    · obtain ⟨X, r, hX, hr, e1, e2, e3, e4, e5⟩ := add_pre fb fa (by omega)
      have : decide (partEI a < partEI b) = true := by unfold partEI; simpa using hl
      rw [this, cond_true, e4, cond_true, e1, e2, add_code _ _ hX hr e3 (by omega) (by omega), e5, addN_comm]
      rfl
    · obtain ⟨X, r, hX, hr, e1, e2, e3, e4, e5⟩ := add_pre fa fb (by omega)
      have : decide (partEI a < partEI b) = false := by unfold partEI; simpa using hl
      rw [this, cond_false, e4, cond_true, e1, e2, add_code _ _ hX hr e3 (by omega) (by omega), e5]
      rfl

theorem sum.Sub.known : Known Tryz.prog 167 sum.Sub.spec := sum.Sub.known_of (.cons soft.Minus.known (.cons sum.Add.known .nil)) fun a b hp => by
  obtain ⟨ha, hb⟩ := and_true_iff.1 hp
  obtain ⟨b, rfl, hm⟩ := inU64_nat hb
  refine ⟨0, sum.Sub.out [.i a, .i b], [], ?_, Wk.tupL (.cons .int (.cons .int .nil))⟩
  have : inU64 (minusI (b : Int)) = true := by unfold minusI; rw [Int.toNat_natCast]; exact inU64_of (minusN_lt hm)
  rw [sum.Sub.ev, ha, hb, this]
  unfold addBI addFI minusI
  rw [Int.toNat_natCast]
  rfl

theorem or_lt8 {a b : Nat} (ha : a < 256) (hb : b < 256) : a ||| b < 256 := Nat.or_lt_two_pow (n := 8) ha hb

theorem bOr_u8 {a b : Nat} (ha : a < 256) (hb : b < 256) : bOr .u8 (a : Int) (b : Int) = ((a ||| b : Nat) : Int) := by
  unfold bOr
  rw [BitVec.toNat_or, ofInt_nat, ofInt_nat, show IntKind.u8.bits = 8 from rfl, Nat.mod_eq_of_lt ha, Nat.mod_eq_of_lt hb]
  exact w_u8_in (by omega) (by have := or_lt8 ha hb; omega)

end Go.Proofs.S1
