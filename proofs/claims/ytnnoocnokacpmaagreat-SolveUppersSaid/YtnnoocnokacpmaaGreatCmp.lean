/- Cmp of the verified evaluator and its use for this seat (of my texts S1EqCmp, S1PCmp, S1PDiv). -/
import Derived.Test.YtnnoocnokacpmaaGreatSpe
import Derived.Test.YtnnoocnokacpmaaGreatMtx
import Derived.Test.YtnnoocnokacpmaaGreatTim

/- The evaluator's equations: compare.rank, compare.Order, compare.Less, compare.Abs, compare.Scale, vector.Shift, vector.Div, vector.Biggest, vector.Finite, certify.Check. Printed by denpy.py. -/
namespace Go.Proofs.S1
open Go Go.Den Go.Rnd Go.Proofs
set_option linter.unusedVariables false
set_option maxRecDepth 100000
namespace EqCmp
theorem tt0 (a : Bool) : ((!(!a)) || (a == false)) = true := by cases a <;> rfl
theorem tt1 (a : Bool) : ((!(a == false)) || ((((!(a == false)) || (a == false)) && true) && true)) = true := by cases a <;> rfl
theorem tt2 (a : Bool) : ((!(a == false)) || true) = true := by cases a <;> rfl
theorem tt3 (a b : Bool) : (bif a then b else false) = (a && b) := by cases a <;> cases b <;> rfl
theorem tt4 (a : Bool) : (((!a) || (a == true)) && true) = true := by cases a <;> rfl
theorem tt5 (a : Bool) : ((!(a == true)) || ((((!(a == true)) || (a == true)) && true) && true)) = true := by cases a <;> rfl
theorem tt6 (a : Bool) : ((!(a == true)) || true) = true := by cases a <;> rfl
noncomputable def compare.rank.tab : List (Nat × Entry) := [(173, soft.Sign.spec)]
noncomputable def compare.rank.E : Env := envOf (tabOf compare.rank.tab) (fun _ => false) (fun _ => none) (fun _ => none)
theorem compare.rank.ev (N : Nat) (b : Int) : funD compare.rank.E N Tryz.f174 (bodyOf Tryz.f174) [.int .u64 b] =
  bif (inU64 b) then
  bif (negI b) then
  some (.int .i64 (w_i64 (0 - (w_i64 (bAndNot .u64 b (9223372036854775808 : Int))))))
  else some (.int .i64 (w_i64 b))
  else none := by kernel_rfl
theorem compare.rank.known_of (hk : Knowns Tryz.prog compare.rank.tab) (h : ∀ (b : Int), compare.rank.pre [.i b] = true → ∃ N dv drops, funD compare.rank.E N Tryz.f174 (bodyOf Tryz.f174) [.int .u64 b] = some dv ∧ Wk drops dv (compare.rank.out [.i b])) : Known Tryz.prog 174 compare.rank.spec := by
  refine ⟨meets_entry (E := compare.rank.E) (env_ok hk _ _ _) Tryz.func174 (show Tryz.f174.body = some (bodyOf Tryz.f174) by kernel_rfl) fun ats dvs he hp => ?_, call_enter Tryz.func174 (by kernel_rfl) (show Tryz.f174.body = some (bodyOf Tryz.f174) by kernel_rfl)⟩
  obtain ⟨b, _, _, rfl, rfl, he0⟩ := he.i_inv
  obtain ⟨rfl, rfl⟩ := he0.nil_inv
  exact h b hp

noncomputable def compare.Order.tab : List (Nat × Entry) := [(174, compare.rank.spec), (116, soft.Kind.spec)]
noncomputable def compare.Order.E : Env := envOf (tabOf compare.Order.tab) (fun _ => false) (fun _ => none) (fun _ => none)
theorem compare.Order.ev (N : Nat) (a : Int) (b : Int) : funD compare.Order.E N Tryz.f123 (bodyOf Tryz.f123) [.int .u64 a, .int .u64 b] =
  bif (inU64 a) then
  bif ((kindI a) == (4 : Int)) then
  some (.tup [.int .i64 (0 : Int), .bool false])
  else bif (inU64 b) then
  bif ((kindI b) == (4 : Int)) then
  some (.tup [.int .i64 (0 : Int), .bool false])
  else bif (inU64 a) then
  bif (inU64 b) then
  bif (ltI (rankI a) (rankI b)) then
  some (.tup [.int .i64 (-1 : Int), .bool true])
  else bif (inU64 a) then
  bif (inU64 b) then
  bif (ltI (rankI b) (rankI a)) then
  some (.tup [.int .i64 (1 : Int), .bool true])
  else some (.tup [.int .i64 (0 : Int), .bool true])
  else none
  else none
  else none
  else none
  else none
  else none := by kernel_rfl
theorem compare.Order.known_of (hk : Knowns Tryz.prog compare.Order.tab) (h : ∀ (a : Int) (b : Int), compare.Order.pre [.i a, .i b] = true → ∃ N dv drops, funD compare.Order.E N Tryz.f123 (bodyOf Tryz.f123) [.int .u64 a, .int .u64 b] = some dv ∧ Wk drops dv (compare.Order.out [.i a, .i b])) : Known Tryz.prog 123 compare.Order.spec := by
  refine ⟨meets_entry (E := compare.Order.E) (env_ok hk _ _ _) Tryz.func123 (show Tryz.f123.body = some (bodyOf Tryz.f123) by kernel_rfl) fun ats dvs he hp => ?_, call_enter Tryz.func123 (by kernel_rfl) (show Tryz.f123.body = some (bodyOf Tryz.f123) by kernel_rfl)⟩
  obtain ⟨a, _, _, rfl, rfl, he0⟩ := he.i_inv
  obtain ⟨b, _, _, rfl, rfl, he1⟩ := he0.i_inv
  obtain ⟨rfl, rfl⟩ := he1.nil_inv
  exact h a b hp

noncomputable def compare.Less.tab : List (Nat × Entry) := [(123, compare.Order.spec)]
noncomputable def compare.Less.E : Env := envOf (tabOf compare.Less.tab) (fun _ => false) (fun _ => none) (fun _ => none)
theorem compare.Less.ev (N : Nat) (a : Int) (b : Int) : funD compare.Less.E N Tryz.f64 (bodyOf Tryz.f64) [.int .u64 a, .int .u64 b] =
  bif (inU64 a && inU64 b) then
  some (.bool (ltI (ordI a b) (0 : Int)))
  else none := by kernel_rfl
theorem compare.Less.known_of (hk : Knowns Tryz.prog compare.Less.tab) (h : ∀ (a : Int) (b : Int), compare.Less.pre [.i a, .i b] = true → ∃ N dv drops, funD compare.Less.E N Tryz.f64 (bodyOf Tryz.f64) [.int .u64 a, .int .u64 b] = some dv ∧ Wk drops dv (compare.Less.out [.i a, .i b])) : Known Tryz.prog 64 compare.Less.spec := by
  refine ⟨meets_entry (E := compare.Less.E) (env_ok hk _ _ _) Tryz.func64 (show Tryz.f64.body = some (bodyOf Tryz.f64) by kernel_rfl) fun ats dvs he hp => ?_, call_enter Tryz.func64 (by kernel_rfl) (show Tryz.f64.body = some (bodyOf Tryz.f64) by kernel_rfl)⟩
  obtain ⟨a, _, _, rfl, rfl, he0⟩ := he.i_inv
  obtain ⟨b, _, _, rfl, rfl, he1⟩ := he0.i_inv
  obtain ⟨rfl, rfl⟩ := he1.nil_inv
  exact h a b hp

noncomputable def compare.Abs.tab : List (Nat × Entry) := []
noncomputable def compare.Abs.E : Env := envOf (tabOf compare.Abs.tab) (fun _ => false) (fun _ => none) (fun _ => none)
theorem compare.Abs.ev (N : Nat) (a : Int) : funD compare.Abs.E N Tryz.f61 (bodyOf Tryz.f61) [.int .u64 a] =
  some (.int .u64 (bAndNot .u64 a (9223372036854775808 : Int))) := by kernel_rfl
theorem compare.Abs.known_of (hk : Knowns Tryz.prog compare.Abs.tab) (h : ∀ (a : Int), compare.Abs.pre [.i a] = true → ∃ N dv drops, funD compare.Abs.E N Tryz.f61 (bodyOf Tryz.f61) [.int .u64 a] = some dv ∧ Wk drops dv (compare.Abs.out [.i a])) : Known Tryz.prog 61 compare.Abs.spec := by
  refine ⟨meets_entry (E := compare.Abs.E) (env_ok hk _ _ _) Tryz.func61 (show Tryz.f61.body = some (bodyOf Tryz.f61) by kernel_rfl) fun ats dvs he hp => ?_, call_enter Tryz.func61 (by kernel_rfl) (show Tryz.f61.body = some (bodyOf Tryz.f61) by kernel_rfl)⟩
  obtain ⟨a, _, _, rfl, rfl, he0⟩ := he.i_inv
  obtain ⟨rfl, rfl⟩ := he0.nil_inv
  exact h a hp

def compare.Scale.hint : Nat → Option LoopHint
  | 1 => some { keep := [0, 6, 7, 8], objs := [], boxes := [] }
  | _ => none
noncomputable def compare.Scale.tab : List (Nat × Entry) := [(116, soft.Kind.spec), (172, soft.Near.spec), (171, soft.Parts.spec), (173, soft.Sign.spec)]
noncomputable def compare.Scale.E : Env := envOf (tabOf compare.Scale.tab) (fun _ => false) compare.Scale.hint (fun _ => none)
noncomputable def compare.Scale.L0 (N M : Nat) (a : Int) (p6 : Int) (p7 : Int) (p8 : Bool) : Option DV := loopAt compare.Scale.E N Tryz.f122 (bodyOf Tryz.f122) [1, 1, 1, 1, 1, 1, 0, 0] [] M ⟨mkT 59 [(0, .int .u64 a), (6, .int .u64 p6), (7, .int .i64 p7), (8, .bool p8)], []⟩
theorem compare.Scale.L0_step (N M : Nat) (a : Int) (p6 : Int) (p7 : Int) (p8 : Bool) : compare.Scale.L0 N (M + 1) a p6 p7 p8 =
  bif ((ltI p7 (-1130 : Int)) && (ltI (1 : Int) p6)) then
  compare.Scale.L0 N M a (bShr .u64 p6 (1 : Int)) (w_i64 (p7 + (1 : Int))) (bif p8 then true else ((bAnd .u64 p6 (1 : Int)) == (1 : Int)))
  else bif (ltI p7 (-1130 : Int)) then
  bif (inU64 a) then
  bif (nearPre (0 : Int) (-1074 : Int) true) then
  some (.tup [.int .u64 (nearBI (negI a) (0 : Int) (-1074 : Int) true), .int .u8 (nearFI (negI a) (0 : Int) (-1074 : Int) true)])
  else none
  else none
  else bif (inU64 a) then
  bif (nearPre p6 p7 p8) then
  some (.tup [.int .u64 (nearBI (negI a) p6 p7 p8), .int .u8 (nearFI (negI a) p6 p7 p8)])
  else none
  else none :=
  Eq.trans (by kernel_rfl)
  (ifTn (tt6 (ltI p7 (-1130 : Int))) (ifTn (tt5 (ltI p7 (-1130 : Int))) (ifTn (tt4 (ltI p7 (-1130 : Int))) (ifS (tt3 (ltI p7 (-1130 : Int)) (ltI (1 : Int) p6)) (ifTn (tt2 p8) (ifTn (tt1 p8) (ifTn (tt1 p8) (ifTn (tt0 p8) rfl)))) rfl))))
theorem compare.Scale.ev (N : Nat) (a : Int) (n : Int) : funD compare.Scale.E N Tryz.f122 (bodyOf Tryz.f122) [.int .u64 a, .int .i64 n] =
  bif (inU64 a) then
  bif ((kindI a) == (4 : Int)) then
  some (.tup [.int .u64 (9221120237041090560 : Int), .int .u8 (0 : Int)])
  else bif ((kindI a) == (3 : Int)) then
  bif ((kindI a) == (3 : Int)) then
  some (.tup [.int .u64 a, .int .u8 (0 : Int)])
  else bif (inU64 a) then
  compare.Scale.L0 N N a (partMI a) (w_i64 ((partEI a) + (max (-2300 : Int) (min (2300 : Int) n)))) false
  else none
  else bif ((kindI a) == (0 : Int)) then
  some (.tup [.int .u64 a, .int .u8 (0 : Int)])
  else bif (inU64 a) then
  compare.Scale.L0 N N a (partMI a) (w_i64 ((partEI a) + (max (-2300 : Int) (min (2300 : Int) n)))) false
  else none
  else none := by kernel_rfl
theorem compare.Scale.known_of (hk : Knowns Tryz.prog compare.Scale.tab) (h : ∀ (a : Int) (n : Int), compare.Scale.pre [.i a, .i n] = true → ∃ N dv drops, funD compare.Scale.E N Tryz.f122 (bodyOf Tryz.f122) [.int .u64 a, .int .i64 n] = some dv ∧ Wk drops dv (compare.Scale.out [.i a, .i n])) : Known Tryz.prog 122 compare.Scale.spec := by
  refine ⟨meets_entry (E := compare.Scale.E) (env_ok hk _ _ _) Tryz.func122 (show Tryz.f122.body = some (bodyOf Tryz.f122) by kernel_rfl) fun ats dvs he hp => ?_, call_enter Tryz.func122 (by kernel_rfl) (show Tryz.f122.body = some (bodyOf Tryz.f122) by kernel_rfl)⟩
  obtain ⟨a, _, _, rfl, rfl, he0⟩ := he.i_inv
  obtain ⟨n, _, _, rfl, rfl, he1⟩ := he0.i_inv
  obtain ⟨rfl, rfl⟩ := he1.nil_inv
  exact h a n hp

noncomputable def vector.Shift.tab : List (Nat × Entry) := [(122, compare.Scale.spec)]
noncomputable def vector.Shift.E : Env := envOf (tabOf vector.Shift.tab) (fun _ => false) (fun _ => none) (fun _ => none)
theorem vector.Shift.ev (N : Nat) (a : Int) (n : Int) : funD vector.Shift.E N Tryz.f62 (bodyOf Tryz.f62) [.int .u64 a, .int .i64 n] =
  bif (scalePre a n) then
  some (.int .u64 (scaleBI a n))
  else none := by kernel_rfl
theorem vector.Shift.known_of (hk : Knowns Tryz.prog vector.Shift.tab) (h : ∀ (a : Int) (n : Int), vector.Shift.pre [.i a, .i n] = true → ∃ N dv drops, funD vector.Shift.E N Tryz.f62 (bodyOf Tryz.f62) [.int .u64 a, .int .i64 n] = some dv ∧ Wk drops dv (vector.Shift.out [.i a, .i n])) : Known Tryz.prog 62 vector.Shift.spec := by
  refine ⟨meets_entry (E := vector.Shift.E) (env_ok hk _ _ _) Tryz.func62 (show Tryz.f62.body = some (bodyOf Tryz.f62) by kernel_rfl) fun ats dvs he hp => ?_, call_enter Tryz.func62 (by kernel_rfl) (show Tryz.f62.body = some (bodyOf Tryz.f62) by kernel_rfl)⟩
  obtain ⟨a, _, _, rfl, rfl, he0⟩ := he.i_inv
  obtain ⟨n, _, _, rfl, rfl, he1⟩ := he0.i_inv
  obtain ⟨rfl, rfl⟩ := he1.nil_inv
  exact h a n hp

noncomputable def vector.Div.tab : List (Nat × Entry) := [(169, times.Div.spec)]
noncomputable def vector.Div.E : Env := envOf (tabOf vector.Div.tab) (fun _ => false) (fun _ => none) (fun _ => none)
theorem vector.Div.ev (N : Nat) (a : Int) (b : Int) : funD vector.Div.E N Tryz.f119 (bodyOf Tryz.f119) [.int .u64 a, .int .u64 b] =
  bif (inU64 a && inU64 b) then
  some (.int .u64 (divBI a b))
  else none := by kernel_rfl
theorem vector.Div.known_of (hk : Knowns Tryz.prog vector.Div.tab) (h : ∀ (a : Int) (b : Int), vector.Div.pre [.i a, .i b] = true → ∃ N dv drops, funD vector.Div.E N Tryz.f119 (bodyOf Tryz.f119) [.int .u64 a, .int .u64 b] = some dv ∧ Wk drops dv (vector.Div.out [.i a, .i b])) : Known Tryz.prog 119 vector.Div.spec := by
  refine ⟨meets_entry (E := vector.Div.E) (env_ok hk _ _ _) Tryz.func119 (show Tryz.f119.body = some (bodyOf Tryz.f119) by kernel_rfl) fun ats dvs he hp => ?_, call_enter Tryz.func119 (by kernel_rfl) (show Tryz.f119.body = some (bodyOf Tryz.f119) by kernel_rfl)⟩
  obtain ⟨a, _, _, rfl, rfl, he0⟩ := he.i_inv
  obtain ⟨b, _, _, rfl, rfl, he1⟩ := he0.i_inv
  obtain ⟨rfl, rfl⟩ := he1.nil_inv
  exact h a b hp

def vector.Biggest.hint : Nat → Option LoopHint
  | 0 => some { keep := [3, 6, 7, 8], objs := [], boxes := [] }
  | _ => none
noncomputable def vector.Biggest.tab : List (Nat × Entry) := [(61, compare.Abs.spec), (116, soft.Kind.spec)]
noncomputable def vector.Biggest.E : Env := envOf (tabOf vector.Biggest.tab) (fun _ => false) vector.Biggest.hint (fun _ => none)
noncomputable def vector.Biggest.L0 (N M : Nat) (x : List Int) (p3 : Int) (p8 : Int) : Option DV := loopAt vector.Biggest.E N Tryz.f63 (bodyOf Tryz.f63) [1, 1, 0, 1, 0] [] M ⟨mkT 21 [(3, .int .u64 p3), (6, .ints .arg .u64 x), (7, .int .i64 (List.length x : Int)), (8, .int .i64 p8)], []⟩
theorem vector.Biggest.L0_step (N M : Nat) (x : List Int) (p3 : Int) (p8 : Int) : vector.Biggest.L0 N (M + 1) x p3 p8 =
  bif (ltI p8 (List.length x : Int)) then
  bif ((decide (0 ≤ p8)) && (decide (p8 < (List.length x : Int)))) then
  bif (inU64 (List.getD x (Int.toNat p8) 0)) then
  bif ((kindI (List.getD x (Int.toNat p8) 0)) == (4 : Int)) then
  some (.int .u64 (9221120237041090560 : Int))
  else bif (inU64 (List.getD x (Int.toNat p8) 0)) then
  vector.Biggest.L0 N M x (max p3 (magI (List.getD x (Int.toNat p8) 0))) (w_i64 (p8 + (1 : Int)))
  else none
  else none
  else none
  else some (.int .u64 p3) := by kernel_rfl
theorem vector.Biggest.ev (N : Nat) (x : List Int) : funD vector.Biggest.E N Tryz.f63 (bodyOf Tryz.f63) [.ints .arg .u64 x] =
  vector.Biggest.L0 N N x (0 : Int) (0 : Int) := by kernel_rfl
theorem vector.Biggest.known_of (hk : Knowns Tryz.prog vector.Biggest.tab) (h : ∀ (x : List Int), vector.Biggest.pre [.l x] = true → ∃ N dv drops, funD vector.Biggest.E N Tryz.f63 (bodyOf Tryz.f63) [.ints .arg .u64 x] = some dv ∧ Wk drops dv (vector.Biggest.out [.l x])) : Known Tryz.prog 63 vector.Biggest.spec := by
  refine ⟨meets_entry (E := vector.Biggest.E) (env_ok hk _ _ _) Tryz.func63 (show Tryz.f63.body = some (bodyOf Tryz.f63) by kernel_rfl) fun ats dvs he hp => ?_, call_enter Tryz.func63 (by kernel_rfl) (show Tryz.f63.body = some (bodyOf Tryz.f63) by kernel_rfl)⟩
  obtain ⟨x, _, _, rfl, rfl, he0⟩ := he.s_inv
  obtain ⟨rfl, rfl⟩ := he0.nil_inv
  exact h x hp

def vector.Finite.hint : Nat → Option LoopHint
  | 0 => some { keep := [5, 6, 7], objs := [], boxes := [] }
  | _ => none
noncomputable def vector.Finite.tab : List (Nat × Entry) := [(108, soft.Finite.spec)]
noncomputable def vector.Finite.E : Env := envOf (tabOf vector.Finite.tab) (fun _ => false) vector.Finite.hint (fun _ => none)
noncomputable def vector.Finite.L0 (N M : Nat) (x : List Int) (p7 : Int) : Option DV := loopAt vector.Finite.E N Tryz.f110 (bodyOf Tryz.f110) [1, 0, 1, 0] [] M ⟨mkT 15 [(5, .ints .arg .u64 x), (6, .int .i64 (List.length x : Int)), (7, .int .i64 p7)], []⟩
theorem vector.Finite.L0_step (N M : Nat) (x : List Int) (p7 : Int) : vector.Finite.L0 N (M + 1) x p7 =
  bif (ltI p7 (List.length x : Int)) then
  bif ((decide (0 ≤ p7)) && (decide (p7 < (List.length x : Int)))) then
  bif (inU64 (List.getD x (Int.toNat p7) 0)) then
  bif (!(finI (List.getD x (Int.toNat p7) 0))) then
  some (.bool false)
  else vector.Finite.L0 N M x (w_i64 (p7 + (1 : Int)))
  else none
  else none
  else some (.bool true) := by kernel_rfl
theorem vector.Finite.ev (N : Nat) (x : List Int) : funD vector.Finite.E N Tryz.f110 (bodyOf Tryz.f110) [.ints .arg .u64 x] =
  vector.Finite.L0 N N x (0 : Int) := by kernel_rfl
theorem vector.Finite.known_of (hk : Knowns Tryz.prog vector.Finite.tab) (h : ∀ (x : List Int), vector.Finite.pre [.l x] = true → ∃ N dv drops, funD vector.Finite.E N Tryz.f110 (bodyOf Tryz.f110) [.ints .arg .u64 x] = some dv ∧ Wk drops dv (vector.Finite.out [.l x])) : Known Tryz.prog 110 vector.Finite.spec := by
  refine ⟨meets_entry (E := vector.Finite.E) (env_ok hk _ _ _) Tryz.func110 (show Tryz.f110.body = some (bodyOf Tryz.f110) by kernel_rfl) fun ats dvs he hp => ?_, call_enter Tryz.func110 (by kernel_rfl) (show Tryz.f110.body = some (bodyOf Tryz.f110) by kernel_rfl)⟩
  obtain ⟨x, _, _, rfl, rfl, he0⟩ := he.s_inv
  obtain ⟨rfl, rfl⟩ := he0.nil_inv
  exact h x hp

def certify.Check.hint : Nat → Option LoopHint
  | 0 => some { keep := [9, 10, 11], objs := [], boxes := [] }
  | _ => none
noncomputable def certify.Check.tab : List (Nat × Entry) := [(121, matrix.Check.spec), (108, soft.Finite.spec)]
noncomputable def certify.Check.E : Env := envOf (tabOf certify.Check.tab) (fun _ => false) certify.Check.hint (fun _ => none)
noncomputable def certify.Check.L0 (N M : Nat) (l : List Int) (p11 : Int) : Option DV := loopAt certify.Check.E N Tryz.f60 (bodyOf Tryz.f60) [1, 1, 0, 1, 0] [] M ⟨mkT 19 [(9, .ints .arg .u64 l), (10, .int .i64 (List.length l : Int)), (11, .int .i64 p11)], []⟩
theorem certify.Check.L0_step (N M : Nat) (l : List Int) (p11 : Int) : certify.Check.L0 N (M + 1) l p11 =
  bif (ltI p11 (List.length l : Int)) then
  bif ((decide (0 ≤ p11)) && (decide (p11 < (List.length l : Int)))) then
  bif (inU64 (List.getD l (Int.toNat p11) 0)) then
  bif (!(finI (List.getD l (Int.toNat p11) 0))) then
  some (.int .i64 (4 : Int))
  else certify.Check.L0 N M l (w_i64 (p11 + (1 : Int)))
  else none
  else none
  else some (.int .i64 (0 : Int)) := by kernel_rfl
theorem certify.Check.ev (N : Nat) (r : Int) (c : Int) (l : List Int) : funD certify.Check.E N Tryz.f60 (bodyOf Tryz.f60) [.agg [.int .i64 r, .int .i64 c, .ints .arg .u64 l]] =
  bif ((chkI r c l) != (0 : Int)) then
  some (.int .i64 (1 : Int))
  else certify.Check.L0 N N l (0 : Int) := by kernel_rfl
theorem certify.Check.known_of (hk : Knowns Tryz.prog certify.Check.tab) (h : ∀ (r : Int) (c : Int) (l : List Int), certify.Check.pre [.i r, .i c, .l l] = true → ∃ N dv drops, funD certify.Check.E N Tryz.f60 (bodyOf Tryz.f60) [.agg [.int .i64 r, .int .i64 c, .ints .arg .u64 l]] = some dv ∧ Wk drops dv (certify.Check.out [.i r, .i c, .l l])) : Known Tryz.prog 60 certify.Check.spec := by
  refine ⟨meets_entry (E := certify.Check.E) (env_ok hk _ _ _) Tryz.func60 (show Tryz.f60.body = some (bodyOf Tryz.f60) by kernel_rfl) fun ats dvs he hp => ?_, call_enter Tryz.func60 (by kernel_rfl) (show Tryz.f60.body = some (bodyOf Tryz.f60) by kernel_rfl)⟩
  obtain ⟨_, _, _, _, rfl, rfl, hs0, he0⟩ := he.st_inv
  obtain ⟨r, _, _, rfl, rfl, he1⟩ := hs0.i_inv
  obtain ⟨c, _, _, rfl, rfl, he2⟩ := he1.i_inv
  obtain ⟨l, _, _, rfl, rfl, he3⟩ := he2.s_inv
  obtain ⟨rfl, rfl⟩ := he3.nil_inv
  obtain ⟨rfl, rfl⟩ := he0.nil_inv
  exact h r c l hp
end EqCmp
end Go.Proofs.S1

/- Packages compare, vector (in part), certify (in part): what their functions answer. -/
namespace Go.Proofs.S1
open Go Go.Den Go.Rnd Go.Proofs
open EqCmp

theorem nat_beq {k j : Nat} (h : k ≠ j) : (((k : Nat) : Int) == ((j : Nat) : Int)) = false := by rw [beq_eq_false_iff_ne]; omega
theorem word63 (n : Nat) : n % 2 ^ 63 < 2 ^ 63 := Nat.mod_lt _ (by decide)
theorem andNot63 {n : Nat} (h : n < 2 ^ 64) : bAndNot .u64 (n : Int) (9223372036854775808 : Int) = ((n % 2 ^ 63 : Nat) : Int) := by
  have := andNot_top (negN n) (word63 n)
  rw [sign_join h] at this
  exact this

theorem compare.Abs.known : Known Tryz.prog 61 compare.Abs.spec := compare.Abs.known_of .nil fun a hp => by
  obtain ⟨n, rfl, hn⟩ := inU64_nat (show inU64 a = true from hp)
  refine ⟨0, compare.Abs.out [.i (n : Int)], [], ?_, .int⟩
  show _ = some (DV.int .u64 (((n : Int).toNat % 2 ^ 63 : Nat) : Int))
  rw [compare.Abs.ev, andNot63 hn, Int.toNat_natCast]

theorem compare.rank.known : Known Tryz.prog 174 compare.rank.spec := compare.rank.known_of (.cons soft.Sign.known .nil) fun b hp => by
  have hp : inU64 b = true := hp
  obtain ⟨n, rfl, hn⟩ := inU64_nat hp
  refine ⟨0, compare.rank.out [.i (n : Int)], [], ?_, .int⟩
  show _ = some (DV.int .i64 (keyN (n : Int).toNat))
  have h63 := word63 n
  rw [compare.rank.ev, hp, cond_true, andNot63 hn, Int.toNat_natCast]
  unfold keyN sgn negI
  rw [Int.toNat_natCast]
  cases hs : negN n with
  | true =>
    rw [cond_true, if_pos rfl, w_i64_in (x := ((n % 2 ^ 63 : Nat) : Int)) (by omega) (by omega), w_i64_in (by omega) (by omega)]
    congr 2; omega
  | false =>
    have : n < 2 ^ 63 := by
      unfold negN at hs
      have := of_decide_eq_false hs
      omega
    rw [cond_false, if_neg (by decide), Nat.mod_eq_of_lt this, w_i64_in (by omega) (by omega)]

theorem compare.Order.known : Known Tryz.prog 123 compare.Order.spec := compare.Order.known_of (.cons compare.rank.known (.cons soft.Kind.known .nil)) fun a b hp => by
  obtain ⟨ha, hb⟩ := and_true_iff.1 (show (inU64 a && inU64 b) = true from hp)
  refine ⟨0, compare.Order.out [.i a, .i b], [], ?_, Wk.tupL (.cons .int (.cons .bool .nil))⟩
  show _ = some (DV.tup [.int .i64 (ordN a.toNat b.toNat), .bool (ordB a.toNat b.toNat)])
  rw [compare.Order.ev, ha, hb, cond_true, cond_true, cond_true, cond_true, cond_true, cond_true, ltI_eq, ltI_eq]
  unfold ordN ordB rankI kindI
  by_cases h1 : kindN a.toNat = 4
  · have e : (((kindN a.toNat : Nat) : Int) == (4 : Int)) = true := by rw [h1]; rfl
    rw [e, cond_true, if_pos (.inl h1), decide_eq_true (.inl h1)]; rfl
  · have e : (((kindN a.toNat : Nat) : Int) == (4 : Int)) = false := nat_beq h1
    rw [e, cond_false]
    by_cases h2 : kindN b.toNat = 4
    · have e : (((kindN b.toNat : Nat) : Int) == (4 : Int)) = true := by rw [h2]; rfl
      rw [e, cond_true, if_pos (.inr h2), decide_eq_true (.inr h2)]; rfl
    · have e : (((kindN b.toNat : Nat) : Int) == (4 : Int)) = false := nat_beq h2
      have hn : ¬ (kindN a.toNat = 4 ∨ kindN b.toNat = 4) := fun h => h.elim h1 h2
      rw [e, cond_false, if_neg hn, decide_eq_false hn]
      by_cases h3 : keyN a.toNat < keyN b.toNat
      · rw [decide_eq_true h3, if_pos h3]; rfl
      · rw [decide_eq_false h3, if_neg h3]
        by_cases h4 : keyN b.toNat < keyN a.toNat
        · rw [decide_eq_true h4, if_pos h4]; rfl
        · rw [decide_eq_false h4, if_neg h4]; rfl

theorem compare.Less.known : Known Tryz.prog 64 compare.Less.spec := compare.Less.known_of (.cons compare.Order.known .nil) fun a b hp => by
  have hp : (inU64 a && inU64 b) = true := hp
  refine ⟨0, compare.Less.out [.i a, .i b], [], ?_, .bool⟩
  rw [compare.Less.ev, hp, ltI_eq]; rfl

/-! ### Times a power of two -/

theorem scale_loop (N : Nat) {a : Int} (ha : inU64 a = true) : ∀ (k F m : Nat) (e : Int) (b : Bool), e = -1130 - (k : Int) → k < F → m < 2 ^ 53 → (m ≠ 0 ∨ b = true) → -9000 < e →
    compare.Scale.L0 N F a (m : Int) e b = some (.tup [.int .u64 (((signN (negN a.toNat) 0, 3) : Nat × Nat).1 : Nat), .int .u8 (((signN (negN a.toNat) 0, 3) : Nat × Nat).2 : Nat)]) := by
  have pre1 : nearPre (0 : Int) (-1074 : Int) true = true := cdec_eq.2 (by omega)
  intro k
  induction k with
  | zero =>
    intro F m e b he hF hm h0 _
    obtain ⟨F, rfl⟩ : ∃ G, F = G + 1 := ⟨F - 1, by omega⟩
    have hlt : ltI e (-1130 : Int) = false := by rw [ltI_eq]; exact decide_eq_false (by omega)
    have pre2 : nearPre (m : Int) e b = true := cdec_eq.2 (by omega)
    rw [compare.Scale.L0_step, hlt, Bool.false_and, cond_false, cond_false, ha, cond_true, pre2, cond_true]
    unfold nearBI nearFI negI
    rw [Int.toNat_natCast, near_tiny _ hm h0 (by omega)]
  | succ k ih =>
    intro F m e b he hF hm h0 hb
    obtain ⟨F, rfl⟩ : ∃ G, F = G + 1 := ⟨F - 1, by omega⟩
    have hlt : ltI e (-1130 : Int) = true := by rw [ltI_eq]; exact decide_eq_true (by omega)
    rw [compare.Scale.L0_step, hlt, Bool.true_and, cond_true, ltI_eq]
    by_cases h1 : (1 : Int) < (m : Int)
    · have em : bShr .u64 (m : Int) (1 : Int) = ((m / 2 ^ 1 : Nat) : Int) := bShr_nat .u64 m 1 (by decide)
      rw [decide_eq_true h1, cond_true, em, w_i64_in (by omega) (by omega)]
      exact ih F (m / 2 ^ 1) (e + 1) _ (by omega) (by omega) (by omega) (.inl (by omega)) (by omega)
    · rw [decide_eq_false h1, cond_false, ha, cond_true, pre1, cond_true]
      unfold nearBI nearFI negI
      rw [show (0 : Int).toNat = 0 from rfl, near_one]

theorem compare.Scale.known : Known Tryz.prog 122 compare.Scale.spec := compare.Scale.known_of (.cons soft.Kind.known (.cons soft.Near.known (.cons soft.Parts.known (.cons soft.Sign.known .nil)))) fun a n hp => by
  obtain ⟨ha, hn⟩ := and_true_iff.1 (show scalePre a n = true from hp)
  have hn := cdec_eq.1 hn
  refine ⟨3000, compare.Scale.out [.i a, .i n], [], ?_, Wk.tupL (.cons .int (.cons .int .nil))⟩
  show _ = some (DV.tup [.int .u64 ((scaleN a.toNat n).1 : Nat), .int .u8 ((scaleN a.toNat n).2 : Nat)])
  have em : max (-2300 : Int) (min (2300 : Int) n) = n := by omega
  have pE := partE_le a.toNat
  have pM := partM_lt a.toNat
  have ee : w_i64 (partEI a + n) = partE a.toNat + n := by unfold partEI; exact w_i64_in (by omega) (by omega)
  rw [compare.Scale.ev, ha, cond_true, cond_true, em, ee]
  unfold kindI
  by_cases h4 : kindN a.toNat = 4
  · have e : (((kindN a.toNat : Nat) : Int) == (4 : Int)) = true := by rw [h4]; rfl
    rw [e, cond_true]
    unfold scaleN
    rw [if_pos h4]; rfl
  have e4 : (((kindN a.toNat : Nat) : Int) == (4 : Int)) = false := nat_beq h4
  rw [e4, cond_false]
  by_cases h3 : kindN a.toNat = 3
  · have e : (((kindN a.toNat : Nat) : Int) == (3 : Int)) = true := by rw [h3]; rfl
    obtain ⟨k, rfl, hk⟩ := inU64_nat ha
    rw [e, cond_true, cond_true]
    unfold scaleN
    rw [if_neg h4, if_pos (.inl h3), Int.toNat_natCast]; rfl
  have e3 : (((kindN a.toNat : Nat) : Int) == (3 : Int)) = false := nat_beq h3
  rw [e3, cond_false]
  by_cases h0 : kindN a.toNat = 0
  · have e : (((kindN a.toNat : Nat) : Int) == (0 : Int)) = true := by rw [h0]; rfl
    obtain ⟨k, rfl, hk⟩ := inU64_nat ha
    rw [e, cond_true]
    unfold scaleN
    rw [if_neg h4, if_pos (.inr h0), Int.toNat_natCast]; rfl
  have e0 : (((kindN a.toNat : Nat) : Int) == (0 : Int)) = false := nat_beq h0
  have hk : ¬ (kindN a.toNat = 3 ∨ kindN a.toNat = 0) := fun h => h.elim h3 h0
  have hm : partM a.toNat ≠ 0 := fun h => h0 ((partM_zero h3 h4).1 h)
  rw [e0, cond_false]
  show compare.Scale.L0 3000 3000 a (partM a.toNat : Nat) (partE a.toNat + n) false = _
  by_cases ht : partE a.toNat + n ≤ -1130
  · rw [scale_tiny h4 hk ht]
    exact scale_loop 3000 ha (-1130 - (partE a.toNat + n)).toNat 3000 _ _ false (by omega) (by omega) (by omega) (.inl hm) (by omega)
  · have hlt : ltI (partE a.toNat + n) (-1130 : Int) = false := by rw [ltI_eq]; exact decide_eq_false (by omega)
    have pre2 : nearPre ((partM a.toNat : Nat) : Int) (partE a.toNat + n) false = true := cdec_eq.2 ⟨by omega, by omega, by omega, by omega, fun h => by cases h⟩
    rw [scale_num h4 hk, show (3000 : Nat) = 2999 + 1 from rfl, compare.Scale.L0_step, hlt, Bool.false_and, cond_false, cond_false, ha, cond_true, pre2, cond_true]
    unfold nearBI nearFI negI
    rw [Int.toNat_natCast, nearN_false]

theorem vector.Shift.known : Known Tryz.prog 62 vector.Shift.spec := vector.Shift.known_of (.cons compare.Scale.known .nil) fun a n hp => by
  have hp : scalePre a n = true := hp
  refine ⟨0, vector.Shift.out [.i a, .i n], [], ?_, .int⟩
  rw [vector.Shift.ev, hp]; rfl

theorem vector.Div.known : Known Tryz.prog 119 vector.Div.spec := vector.Div.known_of (.cons times.Div.known .nil) fun a b hp => by
  have hp : (inU64 a && inU64 b) = true := hp
  refine ⟨0, vector.Div.out [.i a, .i b], [], ?_, .int⟩
  rw [vector.Div.ev, hp]; rfl

/-! ### Over a list -/

theorem drop_getD {l : List Int} {i : Nat} (h : i < l.length) : l.drop i = l.getD i 0 :: l.drop (i + 1) := by
  rw [List.drop_eq_getElem_cons h, List.getD_eq_getElem?_getD, List.getElem?_eq_getElem h]; rfl
theorem okU_get {l : List Int} (h : okU64 l = true) : l.length < 4611686018427387904 ∧ ∀ j, j < l.length → inU64 (l.getD j 0) = true := by
  obtain ⟨h1, h2⟩ := cdec_eq.1 h
  exact ⟨h1, fun j hj => by rw [List.getD_eq_getElem?_getD, List.getElem?_eq_getElem hj]; exact h2 _ (List.getElem_mem hj)⟩
theorem okU_of {l : List Int} (h : allU64 l = true) (hl : l.length ≤ 1000) : okU64 l = true := cdec_eq.2 ⟨by omega, cdec_eq.1 h⟩

theorem finite_loop (N : Nat) {x : List Int} (hx : okU64 x = true) : ∀ (k i F : Nat), i + k = x.length → k < F → vector.Finite.L0 N F x (i : Int) = some (.bool ((x.drop i).all finI)) := by
  obtain ⟨hl, hu⟩ := okU_get hx
  intro k
  induction k with
  | zero =>
    intro i F hi hF
    obtain ⟨F, rfl⟩ : ∃ G, F = G + 1 := ⟨F - 1, by omega⟩
    rw [vector.Finite.L0_step, ltI_eq, decide_eq_false (by omega), cond_false, List.drop_of_length_le (by omega)]; rfl
  | succ k ih =>
    intro i F hi hF
    obtain ⟨F, rfl⟩ : ∃ G, F = G + 1 := ⟨F - 1, by omega⟩
    rw [vector.Finite.L0_step, ltI_eq, decide_eq_true (show (i : Int) < (x.length : Int) by omega), cond_true, decide_eq_true (show (0 : Int) ≤ (i : Int) by omega), Bool.and_self, cond_true, Int.toNat_natCast, hu i (by omega), cond_true, drop_getD (by omega), List.all_cons]
    cases finI (x.getD i 0) with
    | false => rfl
    | true =>
      rw [Bool.not_true, cond_false, w_i64_in (by omega) (by omega), Bool.true_and]
      exact ih (i + 1) F (by omega) (by omega)

theorem vector.Finite.known : Known Tryz.prog 110 vector.Finite.spec := vector.Finite.known_of (.cons soft.Finite.known .nil) fun x hp => by
  have hp : okU64 x = true := hp
  refine ⟨x.length + 1, vector.Finite.out [.l x], [], ?_, .bool⟩
  show _ = some (DV.bool (x.all finI))
  rw [vector.Finite.ev]
  exact finite_loop _ hp x.length 0 (x.length + 1) (by omega) (by omega)

theorem bigP_drop {x : List Int} {i : Nat} (h : i < x.length) (m : Nat) : bigP (x.drop i) m = if kindN (x.getD i 0).toNat = 4 then NaN else bigP (x.drop (i + 1)) (max m (absN (x.getD i 0).toNat)) := by
  rw [drop_getD h]; rfl

theorem biggest_loop (N : Nat) {x : List Int} (hx : okU64 x = true) : ∀ (k i F m : Nat), i + k = x.length → k < F → vector.Biggest.L0 N F x (m : Int) (i : Int) = some (.int .u64 ((bigP (x.drop i) m : Nat) : Int)) := by
  obtain ⟨hl, hu⟩ := okU_get hx
  intro k
  induction k with
  | zero =>
    intro i F m hi hF
    obtain ⟨F, rfl⟩ : ∃ G, F = G + 1 := ⟨F - 1, by omega⟩
    rw [vector.Biggest.L0_step, ltI_eq, decide_eq_false (by omega), cond_false, List.drop_of_length_le (by omega)]; rfl
  | succ k ih =>
    intro i F m hi hF
    obtain ⟨F, rfl⟩ : ∃ G, F = G + 1 := ⟨F - 1, by omega⟩
    rw [vector.Biggest.L0_step, ltI_eq, decide_eq_true (show (i : Int) < (x.length : Int) by omega), cond_true, decide_eq_true (show (0 : Int) ≤ (i : Int) by omega), Bool.and_self, cond_true, Int.toNat_natCast, hu i (by omega), cond_true, bigP_drop (by omega)]
    unfold kindI
    by_cases h4 : kindN (x.getD i 0).toNat = 4
    · have e : (((kindN (x.getD i 0).toNat : Nat) : Int) == (4 : Int)) = true := by rw [h4]; rfl
      rw [e, cond_true, if_pos h4]; rfl
    · have e : (((kindN (x.getD i 0).toNat : Nat) : Int) == (4 : Int)) = false := nat_beq h4
      have em : max (m : Int) (magI (x.getD i 0)) = ((max m (absN (x.getD i 0).toNat) : Nat) : Int) := by unfold magI; omega
      rw [e, cond_false, cond_true, if_neg h4, em, w_i64_in (by omega) (by omega)]
      exact ih (i + 1) F _ (by omega) (by omega)

theorem vector.Biggest.known : Known Tryz.prog 63 vector.Biggest.spec := vector.Biggest.known_of (.cons compare.Abs.known (.cons soft.Kind.known .nil)) fun x hp => by
  have hp : okU64 x = true := hp
  refine ⟨x.length + 1, vector.Biggest.out [.l x], [], ?_, .int⟩
  rw [vector.Biggest.ev]
  exact biggest_loop _ hp x.length 0 (x.length + 1) 0 (by omega) (by omega)

theorem certify_loop (N : Nat) {x : List Int} (hx : okU64 x = true) : ∀ (k i F : Nat), i + k = x.length → k < F → certify.Check.L0 N F x (i : Int) = some (.int .i64 (if (x.drop i).all finI = true then 0 else 4)) := by
  obtain ⟨hl, hu⟩ := okU_get hx
  intro k
  induction k with
  | zero =>
    intro i F hi hF
    obtain ⟨F, rfl⟩ : ∃ G, F = G + 1 := ⟨F - 1, by omega⟩
    rw [certify.Check.L0_step, ltI_eq, decide_eq_false (by omega), cond_false, List.drop_of_length_le (by omega)]; rfl
  | succ k ih =>
    intro i F hi hF
    obtain ⟨F, rfl⟩ : ∃ G, F = G + 1 := ⟨F - 1, by omega⟩
    rw [certify.Check.L0_step, ltI_eq, decide_eq_true (show (i : Int) < (x.length : Int) by omega), cond_true, decide_eq_true (show (0 : Int) ≤ (i : Int) by omega), Bool.and_self, cond_true, Int.toNat_natCast, hu i (by omega), cond_true, drop_getD (by omega), List.all_cons]
    cases finI (x.getD i 0) with
    | false => rfl
    | true =>
      rw [Bool.not_true, cond_false, w_i64_in (by omega) (by omega), Bool.true_and]
      exact ih (i + 1) F (by omega) (by omega)

theorem right_len {r c : Int} {l : List Int} (h : rightB r c l = true) : l.length ≤ 36 := by
  obtain ⟨R, C, rfl, rfl, r6, c6, hl⟩ := right_nat h
  have := Nat.mul_le_mul r6 c6
  omega

theorem certify.Check.known : Known Tryz.prog 60 certify.Check.spec := certify.Check.known_of (.cons matrix.Check.known (.cons soft.Finite.known .nil)) fun r c l hp => by
  have hp : allU64 l = true := hp
  refine ⟨l.length + 1, certify.Check.out [.i r, .i c, .l l], [], ?_, .int⟩
  show _ = some (DV.int .i64 (chkFI r c l))
  rw [certify.Check.ev]
  unfold chkI chkFI finL
  by_cases h : rightB r c l = true
  · have := right_len h
    rw [if_pos h, if_pos h]
    have e : ((0 : Int) != (0 : Int)) = false := by decide
    rw [e, cond_false]
    exact certify_loop _ (okU_of hp (by omega)) l.length 0 (l.length + 1) (by omega) (by omega)
  · rw [if_neg h, if_neg h]; rfl

end Go.Proofs.S1

/- Go's own quotient is the quotient. -/
namespace Go.Proofs.S1
open Go Go.Den Go.Rnd Go.Proofs Ieee

theorem quo_ieee {m n : Nat} (hm : m ≠ 0) (hn : n ≠ 0) (lm : m < 2 ^ 53) (ln : n < 2 ^ 53) (i j : Int) :
    rung (stick m n (54 + n.log2 - m.log2)) (i - j - ((54 + n.log2 - m.log2 : Nat) : Int) - 1) = rung (stick m n 120) (i - j - 121) := by
  have l1 := (Nat.log2_lt hm).2 lm
  have a1 := Nat.log2_self_le hm
  have a2 := Nat.lt_log2_self (n := n)
  have g1 : 2 ^ 53 ≤ m * 2 ^ (54 + n.log2 - m.log2) / n := by
    rw [Nat.le_div_iff_mul_le (by omega)]
    have h1 : 2 ^ m.log2 * 2 ^ (54 + n.log2 - m.log2) ≤ m * 2 ^ (54 + n.log2 - m.log2) := Nat.mul_le_mul_right _ a1
    have h2 : 2 ^ m.log2 * 2 ^ (54 + n.log2 - m.log2) = 2 ^ 53 * 2 ^ (n.log2 + 1) := by
      rw [← Nat.pow_add, ← Nat.pow_add]
      congr 1
      omega
    have h3 : 2 ^ 53 * n ≤ 2 ^ 53 * 2 ^ (n.log2 + 1) := Nat.mul_le_mul_left _ (by omega)
    omega
  have g2 : 2 ^ 53 ≤ m * 2 ^ 120 / n := quo_ge (t := 53) (by omega) (by omega) ln (by omega)
  exact (stick_same (by omega) g1 g2 (by omega)).1

theorem quo_num (s t : Bool) (m : Nat) (i : Int) (n : Nat) (j : Int) (hn : n ≠ 0) : (Datum.number s m i).quotient 54 (.number t n j) =
    some (.number (s ^^ t) (stick m n (54 + n.log2 - m.log2)) (i - j - ((54 + n.log2 - m.log2 : Nat) : Int) - 1)) := by
  have e : (Datum.number s m i).quotient 54 (.number t n j) = some (.number (s ^^ t) (2 * (m <<< (54 + n.log2 - m.log2) / n) + (m <<< (54 + n.log2 - m.log2) % n != 0).toNat) (i - j - ((54 + n.log2 - m.log2 : Nat) : Int) - 1)) := if_neg hn
  rw [e, Nat.shiftLeft_eq]
  unfold stick
  congr 3
  by_cases h : m * 2 ^ (54 + n.log2 - m.log2) % n = 0
  · rw [if_pos h, h]; rfl
  · have : (m * 2 ^ (54 + n.log2 - m.log2) % n != 0) = true := by simpa using h
    rw [if_neg h, this]; rfl

theorem div_ieee {a b : Nat} (ha : a < 2 ^ 64) (hb : b < 2 ^ 64) {d : Nat} (hd : kindN d = 4) : canonN ((Ieee.double.div a b).getD d) = (divN a b).1 := by
  have cd : canonN d = NaN := if_pos hd
  have ex : ∀ s t : Bool, (s ^^ t) = (s != t) := fun s t => by cases s <;> cases t <;> rfl
  have e54 : Ieee.double.fractionBits + 2 = 54 := rfl
  unfold Format.div
  rw [read_eq ha, read_eq hb, e54]
  unfold divN
  by_cases a4 : kindN a = 4
  · rw [if_pos (.inl a4), readN_nan a4]; exact cd
  · by_cases b4 : kindN b = 4
    · rw [if_pos (.inr b4), readN_nan b4]
      by_cases a3 : kindN a = 3
      · rw [readN_inf a3]; exact cd
      · rw [readN_num a3 a4]; exact cd
    · rw [if_neg (fun h => h.elim a4 b4)]
      by_cases a3 : kindN a = 3
      · rw [readN_inf a3]
        by_cases b3 : kindN b = 3
        · rw [readN_inf b3, if_pos ⟨by omega, .inl a3⟩]; exact cd
        · rw [readN_num b3 b4, if_neg (by omega), if_pos a3]
          show canonN (signN (negN a ^^ negN b) infR) = _
          rw [Go.Proofs.S1.canon_inf, ex]
      · rw [readN_num a3 a4]
        by_cases b3 : kindN b = 3
        · rw [readN_inf b3, if_neg (by omega), if_neg a3, if_pos (.inl b3)]
          show canonN (Ieee.double.write (.number (negN a ^^ negN b) 0 0)) = _
          rw [write_num, rung_zero, ex]
          exact canon_sign _ (Nat.zero_le _)
        · rw [readN_num b3 b4]
          have za := num_zero a3 a4
          have zb := num_zero b3 b4
          by_cases b0 : kindN b = 0
          · by_cases a0 : kindN a = 0
            · have e : (Datum.number (negN a) (partM a) (partE a)).quotient 54 (.number (negN b) (partM b) (partE b)) = none := by
                show (if partM b = 0 then (if partM a = 0 then none else _) else _) = _
                rw [if_pos (zb.2 b0), if_pos (za.2 a0)]
              rw [e, if_pos ⟨by omega, .inr a0⟩]; exact cd
            · have e : (Datum.number (negN a) (partM a) (partE a)).quotient 54 (.number (negN b) (partM b) (partE b)) = some (.infinity (negN a ^^ negN b)) := by
                show (if partM b = 0 then (if partM a = 0 then none else _) else _) = _
                rw [if_pos (zb.2 b0), if_neg (fun k => a0 (za.1 k))]
              rw [e, if_neg (by omega), if_neg a3, if_neg (by omega), if_pos b0]
              show canonN (signN (negN a ^^ negN b) infR) = _
              rw [Go.Proofs.S1.canon_inf, ex]
          · have hn : partM b ≠ 0 := fun k => b0 (zb.1 k)
            rw [quo_num _ _ _ _ _ _ hn, if_neg (by omega), if_neg a3]
            show canonN (Ieee.double.write (.number _ _ _)) = _
            rw [write_num, canon_sign _ (rung_le _ _), ex]
            by_cases a0 : kindN a = 0
            · rw [if_pos (.inr a0), za.2 a0]
              have : stick 0 (partM b) (54 + (partM b).log2 - Nat.log2 0) = 0 := by
                unfold stick
                rw [Nat.zero_mul, Nat.zero_div, Nat.zero_mod, if_pos rfl]
              rw [this, rung_zero]
            · have hm : partM a ≠ 0 := fun k => a0 (za.1 k)
              have la := partM_lt a
              have lb := partM_lt b
              rw [if_neg (by omega), if_neg b0, quo_ieee hm hn (by omega) (by omega)]

end Go.Proofs.S1
