/- Tim of the verified evaluator and its use for this seat (of my texts S1EqBits6, S1EqTimes, S1PTimes, S1PTimesA). -/
import Derived.Test.YtnnoocnokacpmaaGreatSpe
import Derived.Test.YtnnoocnokacpmaaGreatSum
import Derived.Test.YtnnoocnokacpmaaGreatLen
import Derived.Test.YtnnoocnokacpmaaGreatRef

/- The evaluator's equations: math/bits.LeadingZeros64, math/bits.Mul64. Printed by denpy.py. -/
namespace Go.Proofs.S1
open Go Go.Den Go.Rnd Go.Proofs
set_option linter.unusedVariables false
set_option maxRecDepth 100000
namespace EqBits6

noncomputable def mbits.LeadingZeros64.tab : List (Nat × Entry) := [(232, mbits.Len64.spec)]
noncomputable def mbits.LeadingZeros64.E : Env := envOf (tabOf mbits.LeadingZeros64.tab) (fun _ => false) (fun _ => none) (fun _ => none)
theorem mbits.LeadingZeros64.ev (N : Nat) (x : Int) : funD mbits.LeadingZeros64.E N Tryz.f221 (bodyOf Tryz.f221) [.int .u64 x] =
  bif (inU64 x) then
  some (.int .i64 (w_i64 ((64 : Int) - (len64I x))))
  else none := by kernel_rfl
theorem mbits.LeadingZeros64.known_of (hk : Knowns Tryz.prog mbits.LeadingZeros64.tab) (h : ∀ (x : Int), mbits.LeadingZeros64.pre [.i x] = true → ∃ N dv drops, funD mbits.LeadingZeros64.E N Tryz.f221 (bodyOf Tryz.f221) [.int .u64 x] = some dv ∧ Wk drops dv (mbits.LeadingZeros64.out [.i x])) : Known Tryz.prog 221 mbits.LeadingZeros64.spec := by
  refine ⟨meets_entry (E := mbits.LeadingZeros64.E) (env_ok hk _ _ _) Tryz.func221 (show Tryz.f221.body = some (bodyOf Tryz.f221) by kernel_rfl) fun ats dvs he hp => ?_, call_enter Tryz.func221 (by kernel_rfl) (show Tryz.f221.body = some (bodyOf Tryz.f221) by kernel_rfl)⟩
  obtain ⟨x, _, _, rfl, rfl, he0⟩ := he.i_inv
  obtain ⟨rfl, rfl⟩ := he0.nil_inv
  exact h x hp

noncomputable def mbits.Mul64.tab : List (Nat × Entry) := []
noncomputable def mbits.Mul64.E : Env := envOf (tabOf mbits.Mul64.tab) (fun _ => false) (fun _ => none) (fun _ => none)
theorem mbits.Mul64.ev (N : Nat) (x : Int) (y : Int) : funD mbits.Mul64.E N Tryz.f205 (bodyOf Tryz.f205) [.int .u64 x, .int .u64 y] =
  some (.tup [.int .u64 (w_u64 ((w_u64 ((w_u64 ((bShr .u64 x (32 : Int)) * (bShr .u64 y (32 : Int)))) + (bShr .u64 (w_u64 ((w_u64 ((bShr .u64 x (32 : Int)) * (bAnd .u64 y (4294967295 : Int)))) + (bShr .u64 (w_u64 ((bAnd .u64 x (4294967295 : Int)) * (bAnd .u64 y (4294967295 : Int)))) (32 : Int)))) (32 : Int)))) + (bShr .u64 (w_u64 ((bAnd .u64 (w_u64 ((w_u64 ((bShr .u64 x (32 : Int)) * (bAnd .u64 y (4294967295 : Int)))) + (bShr .u64 (w_u64 ((bAnd .u64 x (4294967295 : Int)) * (bAnd .u64 y (4294967295 : Int)))) (32 : Int)))) (4294967295 : Int)) + (w_u64 ((bAnd .u64 x (4294967295 : Int)) * (bShr .u64 y (32 : Int)))))) (32 : Int)))), .int .u64 (w_u64 (x * y))]) := by kernel_rfl
theorem mbits.Mul64.known_of (hk : Knowns Tryz.prog mbits.Mul64.tab) (h : ∀ (x : Int) (y : Int), mbits.Mul64.pre [.i x, .i y] = true → ∃ N dv drops, funD mbits.Mul64.E N Tryz.f205 (bodyOf Tryz.f205) [.int .u64 x, .int .u64 y] = some dv ∧ Wk drops dv (mbits.Mul64.out [.i x, .i y])) : Known Tryz.prog 205 mbits.Mul64.spec := by
  refine ⟨meets_entry (E := mbits.Mul64.E) (env_ok hk _ _ _) Tryz.func205 (show Tryz.f205.body = some (bodyOf Tryz.f205) by kernel_rfl) fun ats dvs he hp => ?_, call_enter Tryz.func205 (by kernel_rfl) (show Tryz.f205.body = some (bodyOf Tryz.f205) by kernel_rfl)⟩
  obtain ⟨x, _, _, rfl, rfl, he0⟩ := he.i_inv
  obtain ⟨y, _, _, rfl, rfl, he1⟩ := he0.i_inv
  obtain ⟨rfl, rfl⟩ := he1.nil_inv
  exact h x y hp
end EqBits6
end Go.Proofs.S1

/- The evaluator's equations: times.signed, times.nan, times.norm, times.wide, times.Mul, times.Div. Printed by denpy.py. -/
namespace Go.Proofs.S1
open Go Go.Den Go.Rnd Go.Proofs
set_option linter.unusedVariables false
set_option maxRecDepth 100000
namespace EqTimes
theorem tt0 (a : Bool) : ((!(!a)) || (a == false)) = true := by cases a <;> rfl
theorem tt1 (a : Bool) : ((!(a == false)) || ((((!(a == false)) || (a == false)) && true) && true)) = true := by cases a <;> rfl
theorem tt2 (a : Bool) : ((!(a == false)) || true) = true := by cases a <;> rfl
theorem tt3 (a b : Bool) : (bif a then b else false) = (a && b) := by cases a <;> cases b <;> rfl
theorem tt4 (a : Bool) : (((!a) || (a == true)) && true) = true := by cases a <;> rfl
theorem tt5 (a : Bool) : ((!(a == true)) || ((((!(a == true)) || (a == true)) && true) && true)) = true := by cases a <;> rfl
theorem tt6 (a : Bool) : ((!(a == true)) || true) = true := by cases a <;> rfl
theorem tt7 (a b : Bool) : (bif a then true else b) = (a || b) := by cases a <;> cases b <;> rfl
theorem tt8 (a b c d : Bool) : (bif (bif a then b else false) then true else (bif c then d else false)) = ((a && b) || (c && d)) := by cases a <;> cases b <;> cases c <;> cases d <;> rfl
theorem tt9 (a b : Bool) : ((!(!(bif a then b else false))) || ((bif a then b else false) == false)) = true := by cases a <;> cases b <;> rfl
theorem tt10 (a b c : Bool) : ((!((bif a then b else false) == false)) || (((!((bif a then b else false) == false)) || ((bif a then b else false) == false)) && (((!c) || (((bif a then b else false) == false) && (c == true))) && true))) = true := by cases a <;> cases b <;> cases c <;> rfl
theorem tt11 (a b c : Bool) : ((!(((bif a then b else false) == false) && (c == true))) || ((((!(((bif a then b else false) == false) && (c == true))) || (((bif a then b else false) == false) && (c == true))) && true) && true)) = true := by cases a <;> cases b <;> cases c <;> rfl
theorem tt12 (a b c : Bool) : ((!(((bif a then b else false) == false) && (c == true))) || true) = true := by cases a <;> cases b <;> cases c <;> rfl
theorem tt13 (a b : Bool) : ((!((bif a then b else false) == false)) || ((((!((bif a then b else false) == false)) || ((bif a then b else false) == false)) && true) && true)) = true := by cases a <;> cases b <;> rfl
theorem tt14 (a b : Bool) : ((!((bif a then b else false) == false)) || true) = true := by cases a <;> cases b <;> rfl
theorem tt15 (a : Bool) : (a && true) = a := by cases a <;> rfl
noncomputable def times.signed.tab : List (Nat × Entry) := [(201, soft.Minus.spec)]
noncomputable def times.signed.E : Env := envOf (tabOf times.signed.tab) (fun _ => false) (fun _ => none) (fun _ => none)
theorem times.signed.ev (N : Nat) (b : Int) (n : Bool) : funD times.signed.E N Tryz.f203 (bodyOf Tryz.f203) [.int .u64 b, .bool n] =
  bif n then
  bif (inU64 b) then
  some (.int .u64 (minusI b))
  else none
  else some (.int .u64 b) := by kernel_rfl
theorem times.signed.known_of (hk : Knowns Tryz.prog times.signed.tab) (h : ∀ (b : Int) (n : Bool), times.signed.pre [.i b, .b n] = true → ∃ N dv drops, funD times.signed.E N Tryz.f203 (bodyOf Tryz.f203) [.int .u64 b, .bool n] = some dv ∧ Wk drops dv (times.signed.out [.i b, .b n])) : Known Tryz.prog 203 times.signed.spec := by
  refine ⟨meets_entry (E := times.signed.E) (env_ok hk _ _ _) Tryz.func203 (show Tryz.f203.body = some (bodyOf Tryz.f203) by kernel_rfl) fun ats dvs he hp => ?_, call_enter Tryz.func203 (by kernel_rfl) (show Tryz.f203.body = some (bodyOf Tryz.f203) by kernel_rfl)⟩
  obtain ⟨b, _, _, rfl, rfl, he0⟩ := he.i_inv
  obtain ⟨n, _, _, rfl, rfl, he1⟩ := he0.b_inv
  obtain ⟨rfl, rfl⟩ := he1.nil_inv
  exact h b n hp

noncomputable def times.nan.tab : List (Nat × Entry) := [(116, soft.Kind.spec)]
noncomputable def times.nan.E : Env := envOf (tabOf times.nan.tab) (fun _ => false) (fun _ => none) (fun _ => none)
theorem times.nan.ev (N : Nat) (a : Int) (b : Int) : funD times.nan.E N Tryz.f202 (bodyOf Tryz.f202) [.int .u64 a, .int .u64 b] =
  bif (inU64 a) then
  bif ((kindI a) == (4 : Int)) then
  some (.bool true)
  else bif (inU64 b) then
  bif ((kindI b) == (4 : Int)) then
  some (.bool true)
  else some (.bool false)
  else none
  else none := by kernel_rfl
theorem times.nan.known_of (hk : Knowns Tryz.prog times.nan.tab) (h : ∀ (a : Int) (b : Int), times.nan.pre [.i a, .i b] = true → ∃ N dv drops, funD times.nan.E N Tryz.f202 (bodyOf Tryz.f202) [.int .u64 a, .int .u64 b] = some dv ∧ Wk drops dv (times.nan.out [.i a, .i b])) : Known Tryz.prog 202 times.nan.spec := by
  refine ⟨meets_entry (E := times.nan.E) (env_ok hk _ _ _) Tryz.func202 (show Tryz.f202.body = some (bodyOf Tryz.f202) by kernel_rfl) fun ats dvs he hp => ?_, call_enter Tryz.func202 (by kernel_rfl) (show Tryz.f202.body = some (bodyOf Tryz.f202) by kernel_rfl)⟩
  obtain ⟨a, _, _, rfl, rfl, he0⟩ := he.i_inv
  obtain ⟨b, _, _, rfl, rfl, he1⟩ := he0.i_inv
  obtain ⟨rfl, rfl⟩ := he1.nil_inv
  exact h a b hp

noncomputable def times.norm.tab : List (Nat × Entry) := [(221, mbits.LeadingZeros64.spec), (171, soft.Parts.spec)]
noncomputable def times.norm.E : Env := envOf (tabOf times.norm.tab) (fun _ => false) (fun _ => none) (fun _ => none)
theorem times.norm.ev (N : Nat) (b : Int) : funD times.norm.E N Tryz.f204 (bodyOf Tryz.f204) [.int .u64 b] =
  bif (inU64 b) then
  bif (inU64 (partMI b)) then
  bif (decide (0 ≤ (w_i64 ((64 - len64I (partMI b)) - (11 : Int))))) then
  some (.tup [.int .u64 (bShl .u64 (partMI b) (w_i64 ((64 - len64I (partMI b)) - (11 : Int)))), .int .i64 (w_i64 ((partEI b) - (w_i64 ((64 - len64I (partMI b)) - (11 : Int)))))])
  else none
  else none
  else none := by kernel_rfl
theorem times.norm.known_of (hk : Knowns Tryz.prog times.norm.tab) (h : ∀ (b : Int), times.norm.pre [.i b] = true → ∃ N dv drops, funD times.norm.E N Tryz.f204 (bodyOf Tryz.f204) [.int .u64 b] = some dv ∧ Wk drops dv (times.norm.out [.i b])) : Known Tryz.prog 204 times.norm.spec := by
  refine ⟨meets_entry (E := times.norm.E) (env_ok hk _ _ _) Tryz.func204 (show Tryz.f204.body = some (bodyOf Tryz.f204) by kernel_rfl) fun ats dvs he hp => ?_, call_enter Tryz.func204 (by kernel_rfl) (show Tryz.f204.body = some (bodyOf Tryz.f204) by kernel_rfl)⟩
  obtain ⟨b, _, _, rfl, rfl, he0⟩ := he.i_inv
  obtain ⟨rfl, rfl⟩ := he0.nil_inv
  exact h b hp

def times.wide.hint : Nat → Option LoopHint
  | 0 => some { keep := [0, 1, 2, 3], objs := [], boxes := [] }
  | _ => none
noncomputable def times.wide.tab : List (Nat × Entry) := [(172, soft.Near.spec)]
noncomputable def times.wide.E : Env := envOf (tabOf times.wide.tab) (fun _ => false) times.wide.hint (fun _ => none)
noncomputable def times.wide.L0 (N M : Nat) (n : Bool) (p1 : Int) (p2 : Int) (p3 : Bool) : Option DV := loopAt times.wide.E N Tryz.f206 (bodyOf Tryz.f206) [1, 0, 0] [] M ⟨mkT 39 [(0, .bool n), (1, .int .u64 p1), (2, .int .i64 p2), (3, .bool p3)], []⟩
theorem times.wide.L0_step (N M : Nat) (n : Bool) (p1 : Int) (p2 : Int) (p3 : Bool) : times.wide.L0 N (M + 1) n p1 p2 p3 =
  bif ((ltI p2 (-1130 : Int)) && (ltI (1 : Int) p1)) then
  times.wide.L0 N M n (bShr .u64 p1 (1 : Int)) (w_i64 (p2 + (1 : Int))) (bif p3 then true else ((bAnd .u64 p1 (1 : Int)) == (1 : Int)))
  else bif (ltI p2 (-1130 : Int)) then
  bif (nearPre (0 : Int) (-1074 : Int) true) then
  some (.tup [.int .u64 (nearBI n (0 : Int) (-1074 : Int) true), .int .u8 (nearFI n (0 : Int) (-1074 : Int) true)])
  else none
  else bif (nearPre p1 p2 p3) then
  some (.tup [.int .u64 (nearBI n p1 p2 p3), .int .u8 (nearFI n p1 p2 p3)])
  else none :=
  Eq.trans (by kernel_rfl)
  (ifTn (tt6 (ltI p2 (-1130 : Int))) (ifTn (tt5 (ltI p2 (-1130 : Int))) (ifTn (tt4 (ltI p2 (-1130 : Int))) (ifS (tt3 (ltI p2 (-1130 : Int)) (ltI (1 : Int) p1)) (ifTn (tt2 p3) (ifTn (tt1 p3) (ifTn (tt1 p3) (ifTn (tt0 p3) rfl)))) rfl))))
theorem times.wide.ev (N : Nat) (n : Bool) (m : Int) (e : Int) (r : Bool) : funD times.wide.E N Tryz.f206 (bodyOf Tryz.f206) [.bool n, .int .u64 m, .int .i64 e, .bool r] =
  times.wide.L0 N N n m e r := by kernel_rfl
theorem times.wide.known_of (hk : Knowns Tryz.prog times.wide.tab) (h : ∀ (n : Bool) (m : Int) (e : Int) (r : Bool), times.wide.pre [.b n, .i m, .i e, .b r] = true → ∃ N dv drops, funD times.wide.E N Tryz.f206 (bodyOf Tryz.f206) [.bool n, .int .u64 m, .int .i64 e, .bool r] = some dv ∧ Wk drops dv (times.wide.out [.b n, .i m, .i e, .b r])) : Known Tryz.prog 206 times.wide.spec := by
  refine ⟨meets_entry (E := times.wide.E) (env_ok hk _ _ _) Tryz.func206 (show Tryz.f206.body = some (bodyOf Tryz.f206) by kernel_rfl) fun ats dvs he hp => ?_, call_enter Tryz.func206 (by kernel_rfl) (show Tryz.f206.body = some (bodyOf Tryz.f206) by kernel_rfl)⟩
  obtain ⟨n, _, _, rfl, rfl, he0⟩ := he.b_inv
  obtain ⟨m, _, _, rfl, rfl, he1⟩ := he0.i_inv
  obtain ⟨e, _, _, rfl, rfl, he2⟩ := he1.i_inv
  obtain ⟨r, _, _, rfl, rfl, he3⟩ := he2.b_inv
  obtain ⟨rfl, rfl⟩ := he3.nil_inv
  exact h n m e r hp

noncomputable def times.Mul.tab : List (Nat × Entry) := [(205, mbits.Mul64.spec), (116, soft.Kind.spec), (173, soft.Sign.spec), (202, times.nan.spec), (204, times.norm.spec), (203, times.signed.spec), (206, times.wide.spec)]
noncomputable def times.Mul.E : Env := envOf (tabOf times.Mul.tab) (fun _ => false) (fun _ => none) (fun _ => none)
theorem times.Mul.ev (N : Nat) (a : Int) (b : Int) : funD times.Mul.E N Tryz.f168 (bodyOf Tryz.f168) [.int .u64 a, .int .u64 b] =
  bif (inU64 a) then
  bif (inU64 b) then
  bif (inU64 a) then
  bif (inU64 b) then
  bif (inU64 a && inU64 b) then
  bif (nanI a b) then
  some (.tup [.int .u64 (9221120237041090560 : Int), .int .u8 (0 : Int)])
  else bif ((((kindI a) == (3 : Int)) && ((kindI b) == (0 : Int))) || (((kindI a) == (0 : Int)) && ((kindI b) == (3 : Int)))) then
  some (.tup [.int .u64 (9221120237041090560 : Int), .int .u8 (16 : Int)])
  else bif (((kindI a) == (3 : Int)) || ((kindI b) == (3 : Int))) then
  bif (inU64 (9218868437227405312 : Int)) then
  some (.tup [.int .u64 (signI (!((negI a) == (negI b))) (9218868437227405312 : Int)), .int .u8 (0 : Int)])
  else none
  else bif (((kindI a) == (0 : Int)) || ((kindI b) == (0 : Int))) then
  bif (inU64 (0 : Int)) then
  some (.tup [.int .u64 (signI (!((negI a) == (negI b))) (0 : Int)), .int .u8 (0 : Int)])
  else none
  else bif (inU64 a && normPre a) then
  bif (inU64 b && normPre b) then
  bif (inU64 (normM a) && inU64 (normM b)) then
  bif (widePre (bOr .u64 (bShl .u64 (mulHi (normM a) (normM b)) (20 : Int)) (bShr .u64 (mulLo (normM a) (normM b)) (44 : Int))) (w_i64 ((w_i64 ((normE a) + (normE b))) + (44 : Int)))) then
  some (.tup [.int .u64 (nearBI (!((negI a) == (negI b))) (bOr .u64 (bShl .u64 (mulHi (normM a) (normM b)) (20 : Int)) (bShr .u64 (mulLo (normM a) (normM b)) (44 : Int))) (w_i64 ((w_i64 ((normE a) + (normE b))) + (44 : Int))) ((bShl .u64 (mulLo (normM a) (normM b)) (20 : Int)) != (0 : Int))), .int .u8 (nearFI (!((negI a) == (negI b))) (bOr .u64 (bShl .u64 (mulHi (normM a) (normM b)) (20 : Int)) (bShr .u64 (mulLo (normM a) (normM b)) (44 : Int))) (w_i64 ((w_i64 ((normE a) + (normE b))) + (44 : Int))) ((bShl .u64 (mulLo (normM a) (normM b)) (20 : Int)) != (0 : Int)))])
  else none
  else none
  else none
  else none
  else none
  else none
  else none
  else none
  else none :=
  Eq.trans (by kernel_rfl)
  (ifE (ifE (ifE (ifE (ifE (ifE rfl (ifTn (tt6 ((kindI a) == (3 : Int))) (ifTn (tt5 ((kindI a) == (3 : Int))) (ifTn (tt4 ((kindI a) == (3 : Int))) (ifTn (tt14 ((kindI a) == (3 : Int)) ((kindI b) == (0 : Int))) (ifTn (tt13 ((kindI a) == (3 : Int)) ((kindI b) == (0 : Int))) (ifTn (tt13 ((kindI a) == (3 : Int)) ((kindI b) == (0 : Int))) (ifTn (tt12 ((kindI a) == (3 : Int)) ((kindI b) == (0 : Int)) ((kindI a) == (0 : Int))) (ifTn (tt11 ((kindI a) == (3 : Int)) ((kindI b) == (0 : Int)) ((kindI a) == (0 : Int))) (ifTn (tt10 ((kindI a) == (3 : Int)) ((kindI b) == (0 : Int)) ((kindI a) == (0 : Int))) (ifTn (tt9 ((kindI a) == (3 : Int)) ((kindI b) == (0 : Int))) (ifS (tt8 ((kindI a) == (3 : Int)) ((kindI b) == (0 : Int)) ((kindI a) == (0 : Int)) ((kindI b) == (3 : Int))) rfl (ifTn (tt2 ((kindI a) == (3 : Int))) (ifTn (tt1 ((kindI a) == (3 : Int))) (ifTn (tt0 ((kindI a) == (3 : Int))) (ifS (tt7 ((kindI a) == (3 : Int)) ((kindI b) == (3 : Int))) rfl (ifTn (tt2 ((kindI a) == (0 : Int))) (ifTn (tt1 ((kindI a) == (0 : Int))) (ifTn (tt0 ((kindI a) == (0 : Int))) (ifS (tt7 ((kindI a) == (0 : Int)) ((kindI b) == (0 : Int))) rfl rfl)))))))))))))))))))) rfl) rfl) rfl) rfl) rfl)
theorem times.Mul.known_of (hk : Knowns Tryz.prog times.Mul.tab) (h : ∀ (a : Int) (b : Int), times.Mul.pre [.i a, .i b] = true → ∃ N dv drops, funD times.Mul.E N Tryz.f168 (bodyOf Tryz.f168) [.int .u64 a, .int .u64 b] = some dv ∧ Wk drops dv (times.Mul.out [.i a, .i b])) : Known Tryz.prog 168 times.Mul.spec := by
  refine ⟨meets_entry (E := times.Mul.E) (env_ok hk _ _ _) Tryz.func168 (show Tryz.f168.body = some (bodyOf Tryz.f168) by kernel_rfl) fun ats dvs he hp => ?_, call_enter Tryz.func168 (by kernel_rfl) (show Tryz.f168.body = some (bodyOf Tryz.f168) by kernel_rfl)⟩
  obtain ⟨a, _, _, rfl, rfl, he0⟩ := he.i_inv
  obtain ⟨b, _, _, rfl, rfl, he1⟩ := he0.i_inv
  obtain ⟨rfl, rfl⟩ := he1.nil_inv
  exact h a b hp

def times.Div.hint : Nat → Option LoopHint
  | 1 => some { keep := [6, 10, 11, 12, 13, 14, 78], objs := [], boxes := [] }
  | _ => none
noncomputable def times.Div.tab : List (Nat × Entry) := [(116, soft.Kind.spec), (173, soft.Sign.spec), (202, times.nan.spec), (204, times.norm.spec), (203, times.signed.spec), (206, times.wide.spec)]
noncomputable def times.Div.E : Env := envOf (tabOf times.Div.tab) (fun _ => false) times.Div.hint (fun _ => none)
noncomputable def times.Div.L0 (N M : Nat) (a : Int) (b : Int) (p13 : Int) (p14 : Int) (p78 : Int) : Option DV := loopAt times.Div.E N Tryz.f169 (bodyOf Tryz.f169) [1, 1, 1, 1, 1, 1, 1, 0, 1, 0] [] M ⟨mkT 104 [(6, .bool (!((negI a) == (negI b)))), (10, .int .i64 (normE a)), (11, .int .u64 (normM b)), (12, .int .i64 (normE b)), (13, .int .u64 p13), (14, .int .u64 p14), (78, .int .i64 p78)], []⟩
theorem times.Div.L0_step (N M : Nat) (a : Int) (b : Int) (p13 : Int) (p14 : Int) (p78 : Int) : times.Div.L0 N (M + 1) a b p13 p14 p78 =
  bif (ltI p78 (61 : Int)) then
  bif (leI (normM b) (bShl .u64 p14 (1 : Int))) then
  times.Div.L0 N M a b (bOr .u64 (bShl .u64 p13 (1 : Int)) (1 : Int)) (w_u64 ((bShl .u64 p14 (1 : Int)) - (normM b))) (w_i64 (p78 + (1 : Int)))
  else times.Div.L0 N M a b (bShl .u64 p13 (1 : Int)) (bShl .u64 p14 (1 : Int)) (w_i64 (p78 + (1 : Int)))
  else bif (widePre p13 (w_i64 ((w_i64 ((normE a) - (normE b))) - (61 : Int)))) then
  some (.tup [.int .u64 (nearBI (!((negI a) == (negI b))) p13 (w_i64 ((w_i64 ((normE a) - (normE b))) - (61 : Int))) (p14 != (0 : Int))), .int .u8 (nearFI (!((negI a) == (negI b))) p13 (w_i64 ((w_i64 ((normE a) - (normE b))) - (61 : Int))) (p14 != (0 : Int)))])
  else none := by kernel_rfl
theorem times.Div.ev (N : Nat) (a : Int) (b : Int) : funD times.Div.E N Tryz.f169 (bodyOf Tryz.f169) [.int .u64 a, .int .u64 b] =
  bif (inU64 a) then
  bif (inU64 b) then
  bif (inU64 a) then
  bif (inU64 b) then
  bif (inU64 a && inU64 b) then
  bif (nanI a b) then
  some (.tup [.int .u64 (9221120237041090560 : Int), .int .u8 (0 : Int)])
  else bif ((((kindI a) == (3 : Int)) && ((kindI b) == (3 : Int))) || (((kindI a) == (0 : Int)) && ((kindI b) == (0 : Int)))) then
  some (.tup [.int .u64 (9221120237041090560 : Int), .int .u8 (16 : Int)])
  else bif ((kindI a) == (3 : Int)) then
  bif (inU64 (9218868437227405312 : Int)) then
  some (.tup [.int .u64 (signI (!((negI a) == (negI b))) (9218868437227405312 : Int)), .int .u8 (0 : Int)])
  else none
  else bif (((kindI b) == (3 : Int)) || ((kindI a) == (0 : Int))) then
  bif (inU64 (0 : Int)) then
  some (.tup [.int .u64 (signI (!((negI a) == (negI b))) (0 : Int)), .int .u8 (0 : Int)])
  else none
  else bif ((kindI b) == (0 : Int)) then
  bif (inU64 (9218868437227405312 : Int)) then
  some (.tup [.int .u64 (signI (!((negI a) == (negI b))) (9218868437227405312 : Int)), .int .u8 (8 : Int)])
  else none
  else bif (inU64 a && normPre a) then
  bif (inU64 b && normPre b) then
  bif ((normM b) != 0) then
  bif ((normM b) != 0) then
  times.Div.L0 N N a b (w_u64 (Int.tdiv (normM a) (normM b))) (Int.tmod (normM a) (normM b)) (0 : Int)
  else none
  else none
  else none
  else none
  else none
  else none
  else none
  else none
  else none :=
  Eq.trans (by kernel_rfl)
  (ifE (ifE (ifE (ifE (ifE (ifE rfl (ifTn (tt6 ((kindI a) == (3 : Int))) (ifTn (tt5 ((kindI a) == (3 : Int))) (ifTn (tt4 ((kindI a) == (3 : Int))) (ifTn (tt14 ((kindI a) == (3 : Int)) ((kindI b) == (3 : Int))) (ifTn (tt13 ((kindI a) == (3 : Int)) ((kindI b) == (3 : Int))) (ifTn (tt13 ((kindI a) == (3 : Int)) ((kindI b) == (3 : Int))) (ifTn (tt12 ((kindI a) == (3 : Int)) ((kindI b) == (3 : Int)) ((kindI a) == (0 : Int))) (ifTn (tt11 ((kindI a) == (3 : Int)) ((kindI b) == (3 : Int)) ((kindI a) == (0 : Int))) (ifTn (tt10 ((kindI a) == (3 : Int)) ((kindI b) == (3 : Int)) ((kindI a) == (0 : Int))) (ifTn (tt9 ((kindI a) == (3 : Int)) ((kindI b) == (3 : Int))) (ifS (tt8 ((kindI a) == (3 : Int)) ((kindI b) == (3 : Int)) ((kindI a) == (0 : Int)) ((kindI b) == (0 : Int))) rfl (ifE rfl (ifTn (tt2 ((kindI b) == (3 : Int))) (ifTn (tt1 ((kindI b) == (3 : Int))) (ifTn (tt0 ((kindI b) == (3 : Int))) (ifS (tt7 ((kindI b) == (3 : Int)) ((kindI a) == (0 : Int))) rfl (ifE rfl (ifE (ifE (ifS (tt15 ((normM b) != 0)) (ifS (tt15 ((normM b) != 0)) rfl rfl) rfl) rfl) rfl))))))))))))))))))) rfl) rfl) rfl) rfl) rfl)
theorem times.Div.known_of (hk : Knowns Tryz.prog times.Div.tab) (h : ∀ (a : Int) (b : Int), times.Div.pre [.i a, .i b] = true → ∃ N dv drops, funD times.Div.E N Tryz.f169 (bodyOf Tryz.f169) [.int .u64 a, .int .u64 b] = some dv ∧ Wk drops dv (times.Div.out [.i a, .i b])) : Known Tryz.prog 169 times.Div.spec := by
  refine ⟨meets_entry (E := times.Div.E) (env_ok hk _ _ _) Tryz.func169 (show Tryz.f169.body = some (bodyOf Tryz.f169) by kernel_rfl) fun ats dvs he hp => ?_, call_enter Tryz.func169 (by kernel_rfl) (show Tryz.f169.body = some (bodyOf Tryz.f169) by kernel_rfl)⟩
  obtain ⟨a, _, _, rfl, rfl, he0⟩ := he.i_inv
  obtain ⟨b, _, _, rfl, rfl, he1⟩ := he0.i_inv
  obtain ⟨rfl, rfl⟩ := he1.nil_inv
  exact h a b hp
end EqTimes
end Go.Proofs.S1

/- Package times: what its functions answer; math/bits' functions that it calls. -/
namespace Go.Proofs.S1
open Go Go.Den Go.Rnd Go.Proofs
open EqBits6 EqTimes

theorem bitLen_log2 {n : Nat} (h0 : n ≠ 0) (h : n < 2 ^ 64) : Go.Lib.bitLen n = n.log2 + 1 := by
  have h1 := Nat.log2_self_le h0
  have h2 := Nat.lt_log2_self (n := n)
  have hp := pow_pos2 n.log2
  have e : n / 2 ^ n.log2 = 1 := by
    rw [Nat.pow_succ] at h2
    exact Nat.div_eq_of_lt_le (by omega) (by omega)
  have e1 : Go.Lib.bitLen 1 = 1 := by decide
  rw [Go.Lib.bitLen_shift n.log2 n h1 h, e, e1]

theorem mbits.Len64.known : Known Tryz.prog 232 mbits.Len64.spec := by
  refine ⟨?_, call_enter Tryz.func232 (by kernel_rfl) (show Tryz.f232.body = some (bodyOf Tryz.f232) by kernel_rfl)⟩
  intro args ha
  simp only [mbits.Len64.spec, entry] at ha ⊢
  cases hd : decL [.i .u64] args with
  | none => rw [hd] at ha; cases ha
  | some ats =>
    rw [hd] at ha
    simp only at ha ⊢
    obtain ⟨ds, h1, h2⟩ := decL_ok hd
    obtain ⟨x, _, _, rfl, rfl, he⟩ := h1.i_inv
    obtain ⟨rfl, rfl⟩ := he.nil_inv
    obtain ⟨n, rfl, hn⟩ := inU64_nat (x := x) ha
    refine CallsV.args ?_ h2
    intro w vals I hI hv
    obtain ⟨u, us, e1, e2, e3⟩ := hv
    simp only [VRel] at e2
    have e3 : us = [] := e3
    subst e2 e3
    have e4 : vals = #[.int .u64 (n : Int)] := Array.ext' e1
    subst e4
    refine (Tryz.bits_Len64 n w (by omega) (by omega)).mono ?_
    rintro e w' ⟨rfl, rfl⟩
    refine ⟨_, fun _ => none, rfl, Go.RowKit.Below.refl _ _, ⟨fun i b h => (by cases h), fun i j b h => (by cases h)⟩, ?_⟩
    show VRel _ _ (DV.int .i64 (len64I n)) _
    simp only [VRel]
    congr 1
    unfold len64I
    rw [Int.toNat_natCast]
    by_cases h0 : n = 0
    · subst h0; rfl
    · rw [bitLen_log2 h0 hn, if_neg (by omega)]; rfl

theorem len64_le {n : Nat} (hn : n < 2 ^ 64) : 0 ≤ len64I n ∧ len64I n ≤ 64 := by
  unfold len64I
  rw [Int.toNat_natCast]
  by_cases h0 : n = 0
  · subst h0; decide
  · have := (Nat.log2_lt h0).2 hn
    rw [if_neg (by omega)]; omega

theorem mbits.LeadingZeros64.known : Known Tryz.prog 221 mbits.LeadingZeros64.spec := mbits.LeadingZeros64.known_of (.cons mbits.Len64.known .nil) fun x hp => by
  obtain ⟨n, rfl, hn⟩ := inU64_nat (x := x) hp
  have := len64_le hn
  refine ⟨0, mbits.LeadingZeros64.out [.i n], [], ?_, .int⟩
  rw [mbits.LeadingZeros64.ev, inU64_of hn, cond_true, w_i64_in (by omega) (by omega)]
  rfl

theorem mul_le_32 {a b : Nat} (ha : a < 4294967296) (hb : b < 4294967296) : a * b ≤ 18446744065119617025 :=
  Nat.le_trans (Nat.mul_le_mul (show a ≤ 4294967295 by omega) (show b ≤ 4294967295 by omega)) (by decide)

theorem mul64_hi (x y : Nat) (hx : x < 2 ^ 64) (hy : y < 2 ^ 64) :
    x * y / 18446744073709551616 = (x / 2 ^ 32) * (y / 2 ^ 32) + ((x / 2 ^ 32) * (y % 2 ^ 32) + (x % 2 ^ 32) * (y % 2 ^ 32) / 2 ^ 32) / 2 ^ 32 +
      (((x / 2 ^ 32) * (y % 2 ^ 32) + (x % 2 ^ 32) * (y % 2 ^ 32) / 2 ^ 32) % 2 ^ 32 + (x % 2 ^ 32) * (y / 2 ^ 32)) / 2 ^ 32 := by
  have ex : x = x / 2 ^ 32 * 4294967296 + x % 2 ^ 32 := by omega
  have ey : y = y / 2 ^ 32 * 4294967296 + y % 2 ^ 32 := by omega
  have ha : x / 2 ^ 32 < 4294967296 := by omega
  have hc : y / 2 ^ 32 < 4294967296 := by omega
  have hb : x % 2 ^ 32 < 4294967296 := by omega
  have hd : y % 2 ^ 32 < 4294967296 := by omega
  generalize x / 2 ^ 32 = a at *
  generalize x % 2 ^ 32 = b at *
  generalize y / 2 ^ 32 = c at *
  generalize y % 2 ^ 32 = d at *
  have e : x * y = a * c * 18446744073709551616 + (a * d + b * c) * 4294967296 + b * d := by
    rw [ex, ey, Nat.add_mul, Nat.mul_add, Nat.mul_add]
    have e1 : a * 4294967296 * (c * 4294967296) = a * c * 18446744073709551616 := by
      rw [Nat.mul_mul_mul_comm]
    have e2 : a * 4294967296 * d = a * d * 4294967296 := Nat.mul_right_comm _ _ _
    have e3 : b * (c * 4294967296) = b * c * 4294967296 := (Nat.mul_assoc _ _ _).symm
    rw [e1, e2, e3]
    omega
  have b1 := mul_le_32 ha hc
  have b2 := mul_le_32 ha hd
  have b3 := mul_le_32 hb hc
  have b4 := mul_le_32 hb hd
  rw [e]
  clear e ex ey
  generalize a * c = p at *
  generalize a * d = q at *
  generalize b * c = r at *
  generalize b * d = s at *
  omega

theorem mbits.Mul64.known : Known Tryz.prog 205 mbits.Mul64.spec := mbits.Mul64.known_of .nil fun x y hp => by
  obtain ⟨h1, h2⟩ := and_true_iff.1 hp
  obtain ⟨x, rfl, hx⟩ := inU64_nat h1
  obtain ⟨y, rfl, hy⟩ := inU64_nat h2
  refine ⟨0, mbits.Mul64.out [.i x, .i y], [], ?_, Wk.tupL (.cons .int (.cons .int .nil))⟩
  show _ = some (DV.tup [.int .u64 (mulHi x y), .int .u64 (mulLo x y)])
  have s32 : ∀ n : Nat, bShr .u64 (n : Int) (32 : Int) = ((n / 2 ^ 32 : Nat) : Int) := fun n => bShr_nat .u64 n 32 (by decide)
  have m32 : ∀ n : Nat, n < 2 ^ 64 → bAnd .u64 (n : Int) (4294967295 : Int) = ((n % 2 ^ 32 : Nat) : Int) := fun n hn => bAnd_mask 32 hn (by decide)
  have ha : x / 2 ^ 32 < 4294967296 := by omega
  have hc : y / 2 ^ 32 < 4294967296 := by omega
  have hb : x % 2 ^ 32 < 4294967296 := by omega
  have hd : y % 2 ^ 32 < 4294967296 := by omega
  have b1 := mul_le_32 ha hc
  have b2 := mul_le_32 ha hd
  have b3 := mul_le_32 hb hc
  have b4 := mul_le_32 hb hd
  have hhi := mul64_hi x y hx hy
  have wn : ∀ n : Nat, n < 2 ^ 64 → w_u64 (n : Int) = n := fun n hn => w_u64_in (by omega) (by omega)
  have hlt : x * y / 18446744073709551616 < 2 ^ 64 := by
    rw [Nat.div_lt_iff_lt_mul (by decide)]
    have := Nat.mul_le_mul (show x ≤ 18446744073709551615 by omega) (show y ≤ 18446744073709551615 by omega)
    omega
  rw [mbits.Mul64.ev]
  simp only [s32, m32 x hx, m32 y hy]
  generalize hA : x / 2 ^ 32 = a at *
  generalize hB : x % 2 ^ 32 = b at *
  generalize hC : y / 2 ^ 32 = c at *
  generalize hD : y % 2 ^ 32 = d at *
  simp only [← Int.natCast_mul]
  rw [wn (a * c) (by omega), wn (a * d) (by omega), wn (b * c) (by omega), wn (b * d) (by omega), s32]
  simp only [← Int.natCast_add]
  rw [wn (a * d + b * d / 2 ^ 32) (by omega), s32, m32 _ (by omega)]
  simp only [← Int.natCast_add]
  rw [wn (a * c + (a * d + b * d / 2 ^ 32) / 2 ^ 32) (by omega), wn _ (by omega), s32]
  simp only [← Int.natCast_add]
  rw [← hhi, wn _ hlt]
  unfold mulHi mulLo
  rw [Int.toNat_natCast, Int.toNat_natCast, w_u64_eq]
  congr 3

theorem times.signed.known : Known Tryz.prog 203 times.signed.spec := times.signed.known_of (.cons soft.Minus.known .nil) fun b n hp => by
  have hp : inU64 b = true := hp
  refine ⟨0, times.signed.out [.i b, .b n], [], ?_, .int⟩
  rw [times.signed.ev, hp]
  cases n <;> rfl

theorem times.nan.known : Known Tryz.prog 202 times.nan.spec := times.nan.known_of (.cons soft.Kind.known .nil) fun a b hp => by
  obtain ⟨ha, hb⟩ := and_true_iff.1 hp
  refine ⟨0, times.nan.out [.i a, .i b], [], ?_, .bool⟩
  rw [times.nan.ev, ha, hb, cond_true, cond_true]
  show _ = some (DV.bool (decide (kindI a = 4) || decide (kindI b = 4)))
  by_cases h1 : kindI a = 4
  · rw [h1]; rfl
  · have e1 : (kindI a == (4 : Int)) = false := by simp; exact h1
    rw [e1, decide_eq_false h1, cond_false]
    by_cases h2 : kindI b = 4
    · rw [h2]; rfl
    · have e2 : (kindI b == (4 : Int)) = false := by simp; exact h2
      rw [e2, decide_eq_false h2]; rfl

theorem norm_log {n : Nat} (h : partM n ≠ 0) : (partM n).log2 ≤ 52 ∧ 2 ^ 52 ≤ partM n * 2 ^ normZ n ∧ partM n * 2 ^ normZ n < 2 ^ 53 ∧ normZ n ≤ 52 := by
  have h1 := partM_lt n
  have h2 : (partM n).log2 < 53 := (Nat.log2_lt h).2 (by omega)
  have hz := log2_mul (partM n) (normZ n) h
  have hne : partM n * 2 ^ normZ n ≠ 0 := mul_pow_ne h
  have hl : (partM n * 2 ^ normZ n).log2 = 52 := by rw [hz]; unfold normZ; omega
  refine ⟨by omega, ?_, ?_, by unfold normZ; omega⟩
  · rw [← Nat.le_log2 hne]; omega
  · rw [← Nat.log2_lt hne]; omega

theorem times.norm.known : Known Tryz.prog 204 times.norm.spec := times.norm.known_of (.cons mbits.LeadingZeros64.known (.cons soft.Parts.known .nil)) fun b hp => by
  obtain ⟨h1, h2⟩ := and_true_iff.1 hp
  obtain ⟨n, rfl, hn⟩ := inU64_nat h1
  have h2 : partM n ≠ 0 := cdec_eq.1 h2
  obtain ⟨l1, l2, l3, l4⟩ := norm_log h2
  have hM := partM_lt n
  have hE := partE_le n
  refine ⟨0, times.norm.out [.i n], [], ?_, Wk.tupL (.cons .int (.cons .int .nil))⟩
  show _ = some (DV.tup [.int .u64 (normM n), .int .i64 (normE n)])
  have e1 : partMI (n : Int) = (partM n : Int) := rfl
  have e2 : partEI (n : Int) = partE n := rfl
  have e3 : len64I (partM n : Int) = ((partM n).log2 : Int) + 1 := by
    unfold len64I
    rw [if_neg (by omega), Int.toNat_natCast]
  have e4 : w_i64 ((64 - (((partM n).log2 : Int) + 1)) - (11 : Int)) = ((normZ n : Nat) : Int) := by
    rw [w_i64_in (by omega) (by omega)]; unfold normZ; omega
  rw [times.norm.ev, inU64_of hn, e1, e2, inU64_of (n := partM n) (by omega), e3, e4, bShl_u64 _ _ (by omega), Nat.mod_eq_of_lt (by omega), w_i64_in (by omega) (by omega), decide_eq_true (by omega)]
  rfl

/-- Far below all numbers. -/
theorem tiny {V t : Nat} {E : Int} (h0 : V ≠ 0) (h : V < 2 ^ t) (hE : E + t ≤ -1075) : rung V E = 0 ∧ flagsOf V E = 3 := by
  have hl : V.log2 < t := (Nat.log2_lt h0).2 h
  have hL : lastE V E = -1074 := by unfold lastE; omega
  obtain ⟨k, hk⟩ : ∃ k : Nat, (-1074 - E).toNat = t + 1 + k := ⟨(-1074 - E).toNat - t - 1, by omega⟩
  have hp : 2 ^ (t + 1) ≤ 2 ^ (t + 1 + k) := Nat.pow_le_pow_right (by decide) (by omega)
  have ht : 2 ^ (t + 1) = 2 * 2 ^ t := by rw [Nat.pow_succ]; omega
  have e2 : (-(-1074 - E)).toNat = 0 := by omega
  have hr : rdivZ V (-1074 - E) = 0 := by
    unfold rdivZ rdiv
    rw [e2, hk, Nat.pow_zero, Nat.mul_one, Nat.div_eq_of_lt (by omega), Nat.mod_eq_of_lt (by omega), if_neg (by omega)]
  have hru : rung V E = 0 := by
    unfold rung kept
    rw [if_neg h0, hL, hr]
    simp
  refine ⟨hru, ?_⟩
  unfold flagsOf exact wholeZ
  rw [if_neg h0, hru, hL, e2, hk, Nat.pow_zero, Nat.mul_one, Nat.mod_eq_of_lt (by omega), decide_eq_false h0]
  decide

theorem near_half (n : Bool) {m : Nat} {e : Int} (r : Bool) (hm : 1 < m) (he : e < -1130) : nearN n (m / 2) (e + 1) (r || decide (m % 2 = 1)) = nearN n m e r := by
  have e1 : (4 * m + r.toNat) / 2 ^ 3 = m / 2 := by cases r <;> simp <;> omega
  have e2 : (r || decide (m % 2 = 1)) = decide ((4 * m + r.toNat) % 2 ^ 3 ≠ 0) := by
    rw [Bool.eq_iff_iff]
    cases r
    · simp; omega
    · simp; omega
  have := nearN_eq n (V := 4 * m + r.toNat) (k := 3) (E := e - 2) (e := e + 1) (s := r || decide (m % 2 = 1)) (by omega) e2 (by omega) (.inr (by omega))
  rw [e1] at this
  exact this

theorem near_nothing (n : Bool) {e : Int} (r : Bool) (he : e < -1130) : nearN n 1 e r = nearN n 0 (-1074) true := by
  have h1 : r.toNat ≤ 1 := by cases r <;> decide
  obtain ⟨a1, a2⟩ := tiny (V := 4 * 1 + r.toNat) (t := 3) (E := e - 2) (by omega) (by omega) (by omega)
  obtain ⟨b1, b2⟩ := tiny (V := 4 * 0 + true.toNat) (t := 1) (E := -1074 - 2) (by decide) (by decide) (by decide)
  unfold nearN
  rw [a1, a2, b1, b2]

theorem wide_loop (N : Nat) (n : Bool) : ∀ (k m : Nat) (e : Int) (r : Bool), 1 ≤ m → m < 2 ^ 62 → m ≤ 2 ^ k → -7000 ≤ e → e ≤ 6000 → (2 ^ 60 ≤ m ∨ e ≤ -1130) →
    times.wide.L0 N (k + 1) n (m : Int) e r = some (.tup [.int .u64 (((nearN n m e r).1 : Nat) : Int), .int .u8 (((nearN n m e r).2 : Nat) : Int)]) := by
  intro k
  induction k with
  | zero =>
    intro m e r h1 h2 h3 h4 h5 h6
    have hm : m = 1 := by simp at h3; omega
    subst hm
    rw [times.wide.L0_step, ltI_eq, ltI_eq]
    have c1 : decide ((1 : Int) < ((1 : Nat) : Int)) = false := by decide
    rw [c1, Bool.and_false, cond_false]
    by_cases he : e < -1130
    · have hp : nearPre (0 : Int) (-1074 : Int) true = true := cdec_eq.2 (by omega)
      rw [decide_eq_true he, cond_true, hp, cond_true, near_nothing n r he]
      rfl
    · have he : e = -1130 := by omega
      subst he
      have hp : nearPre ((1 : Nat) : Int) (-1130 : Int) r = true := cdec_eq.2 (by omega)
      rw [decide_eq_false (by omega), cond_false, hp, cond_true]
      rfl
  | succ k ih =>
    intro m e r h1 h2 h3 h4 h5 h6
    rw [times.wide.L0_step, ltI_eq, ltI_eq]
    by_cases he : e < -1130
    · by_cases hm : 1 < m
      · have c1 : decide ((1 : Int) < (m : Int)) = true := decide_eq_true (by omega)
        have e1 : bShr .u64 (m : Int) (1 : Int) = ((m / 2 : Nat) : Int) := bShr_nat .u64 m 1 (by decide)
        have e2 : bAnd .u64 (m : Int) (1 : Int) = ((m % 2 : Nat) : Int) := bAnd_mask (a := m) 1 (by omega) (by decide)
        have e3 : (bif r then true else (bAnd .u64 (m : Int) (1 : Int)) == (1 : Int)) = (r || decide (m % 2 = 1)) := by
          rw [e2]
          cases r
          · rw [Bool.eq_iff_iff]; simp; omega
          · rfl
        rw [decide_eq_true he, c1, Bool.and_self, cond_true, e1, e3, w_i64_in (by omega) (by omega)]
        have hk : m / 2 ≤ 2 ^ k := by rw [Nat.pow_succ] at h3; omega
        rw [ih (m / 2) (e + 1) _ (by omega) (by omega) hk (by omega) (by omega) (.inr (by omega)), near_half n r hm he]
      · have hm : m = 1 := by omega
        subst hm
        have c1 : decide ((1 : Int) < ((1 : Nat) : Int)) = false := by decide
        have hp : nearPre (0 : Int) (-1074 : Int) true = true := cdec_eq.2 (by omega)
        rw [c1, Bool.and_false, cond_false, decide_eq_true he, cond_true, hp, cond_true, near_nothing n r he]
        rfl
    · have hp : nearPre (m : Int) e r = true := cdec_eq.2 ⟨by omega, by omega, by omega, .inl (by omega), fun _ => by omega⟩
      rw [decide_eq_false he, Bool.false_and, cond_false, cond_false, hp, cond_true]
      rfl

theorem times.wide.known : Known Tryz.prog 206 times.wide.spec := times.wide.known_of (.cons soft.Near.known .nil) fun n m e r hp => by
  obtain ⟨h1, h2, h3, h4⟩ := cdec_eq.1 (show widePre m e = true from hp)
  obtain ⟨m, rfl⟩ : ∃ k : Nat, m = k := ⟨m.toNat, by omega⟩
  refine ⟨63, times.wide.out [.b n, .i m, .i e, .b r], [], ?_, Wk.tupL (.cons .int (.cons .int .nil))⟩
  rw [times.wide.ev, wide_loop 63 n 62 m e r (by omega) (by omega) (by omega) (by omega) (by omega) (.inl (by omega))]
  rfl

end Go.Proofs.S1

/- times.Mul, times.Div, times.Square. -/
namespace Go.Proofs.S1
open Go Go.Den Go.Rnd Go.Proofs
open EqTimes

theorem partM_pos {b : Nat} (h0 : kindN b ≠ 0) (h3 : kindN b ≠ 3) (h4 : kindN b ≠ 4) : partM b ≠ 0 := by
  have := powN_lt b
  unfold kindN at h0 h3 h4
  unfold partM
  by_cases h1 : powN b = 2047
  · rw [if_pos h1] at h3 h4
    by_cases h2 : fracN b = 0
    · rw [if_pos h2] at h3; exact absurd rfl h3
    · rw [if_neg h2] at h4; exact absurd rfl h4
  · rw [if_neg h1] at h0
    by_cases h2 : 0 < powN b
    · rw [if_neg (by omega)]; omega
    · rw [if_neg h2] at h0
      by_cases h5 : 0 < fracN b
      · rw [if_pos (by omega)]; omega
      · rw [if_neg h5] at h0; exact absurd rfl h0

theorem partM_nil {b : Nat} (h0 : kindN b = 0) : partM b = 0 := by
  unfold kindN at h0
  unfold partM
  by_cases h1 : powN b = 2047
  · rw [if_pos h1] at h0; split at h0 <;> omega
  · rw [if_neg h1] at h0
    by_cases h2 : 0 < powN b
    · rw [if_pos h2] at h0; omega
    · rw [if_neg h2] at h0
      by_cases h5 : 0 < fracN b
      · rw [if_pos h5] at h0; omega
      · rw [if_pos (by omega)]; omega

theorem kindN_le (b : Nat) : kindN b ≤ 4 := by
  unfold kindN
  split
  · split <;> omega
  · split
    · omega
    · split <;> omega

theorem mul_bounds {x y : Nat} (hx1 : 2 ^ 52 ≤ x) (hx2 : x < 2 ^ 53) (hy1 : 2 ^ 52 ≤ y) (hy2 : y < 2 ^ 53) : 2 ^ 104 ≤ x * y ∧ x * y < 2 ^ 106 := by
  have h1 := Nat.mul_le_mul hx1 hy1
  have h2 : x * y < 2 ^ 53 * 2 ^ 53 := Nat.mul_lt_mul'' hx2 hy2
  exact ⟨Nat.le_trans (by decide) h1, Nat.lt_of_lt_of_le h2 (by decide)⟩

theorem pack_hi {V : Nat} (h : V < 2 ^ 106) : bOr .u64 (bShl .u64 ((V / 18446744073709551616 : Nat) : Int) (20 : Int)) (bShr .u64 ((V % 18446744073709551616 : Nat) : Int) (44 : Int)) = ((V / 2 ^ 44 : Nat) : Int) := by
  have e1 : bShl .u64 ((V / 18446744073709551616 : Nat) : Int) (20 : Int) = ((V / 18446744073709551616 * 2 ^ 20 % 2 ^ 64 : Nat) : Int) := bShl_u64 _ 20 (by decide)
  have e2 : bShr .u64 ((V % 18446744073709551616 : Nat) : Int) (44 : Int) = ((V % 18446744073709551616 / 2 ^ 44 : Nat) : Int) := bShr_nat .u64 _ 44 (by decide)
  rw [e1, e2, Nat.mod_eq_of_lt (by omega), bOr_apart' (k := 20) (by omega) (by omega)]
  congr 1
  omega

theorem pack_lo {V : Nat} : ((bShl .u64 ((V % 18446744073709551616 : Nat) : Int) (20 : Int)) != (0 : Int)) = decide (V % 2 ^ 44 ≠ 0) := by
  have e1 : bShl .u64 ((V % 18446744073709551616 : Nat) : Int) (20 : Int) = ((V % 18446744073709551616 * 2 ^ 20 % 2 ^ 64 : Nat) : Int) := bShl_u64 _ 20 (by decide)
  rw [e1, Bool.eq_iff_iff]
  simp only [bne_iff_ne, ne_eq, decide_eq_true_eq]
  omega

theorem not_beq (s t : Bool) : (!(s == t)) = (s != t) := rfl

theorem w53 {x : Nat} (h : x < 2 ^ 53) : inU64 (x : Int) = true := inU64_of (by omega)

theorem mul_num (n : Bool) {a b : Nat} (ha : partM a ≠ 0) (hb : partM b ≠ 0) :
    (bif (inU64 (normM a) && inU64 (normM b)) then
      bif (widePre (bOr .u64 (bShl .u64 (mulHi (normM a) (normM b)) (20 : Int)) (bShr .u64 (mulLo (normM a) (normM b)) (44 : Int))) (w_i64 ((w_i64 ((normE a) + (normE b))) + (44 : Int)))) then
        some (DV.tup [.int .u64 (nearBI n (bOr .u64 (bShl .u64 (mulHi (normM a) (normM b)) (20 : Int)) (bShr .u64 (mulLo (normM a) (normM b)) (44 : Int))) (w_i64 ((w_i64 ((normE a) + (normE b))) + (44 : Int))) ((bShl .u64 (mulLo (normM a) (normM b)) (20 : Int)) != (0 : Int))), .int .u8 (nearFI n (bOr .u64 (bShl .u64 (mulHi (normM a) (normM b)) (20 : Int)) (bShr .u64 (mulLo (normM a) (normM b)) (44 : Int))) (w_i64 ((w_i64 ((normE a) + (normE b))) + (44 : Int))) ((bShl .u64 (mulLo (normM a) (normM b)) (20 : Int)) != (0 : Int)))])
      else none
    else none) = some (.tup [.int .u64 ((signN n (rung (partM a * partM b) (partE a + partE b)) : Nat) : Int), .int .u8 ((flagsOf (partM a * partM b) (partE a + partE b) : Nat) : Int)]) := by
  obtain ⟨a1, a2, a3, a4⟩ := norm_log ha
  obtain ⟨b1, b2, b3, b4⟩ := norm_log hb
  have ea := partE_le a
  have eb := partE_le b
  have ma : normM (a : Int) = ((partM a * 2 ^ normZ a : Nat) : Int) := rfl
  have mb : normM (b : Int) = ((partM b * 2 ^ normZ b : Nat) : Int) := rfl
  have na : normE (a : Int) = partE a - normZ a := rfl
  have nb : normE (b : Int) = partE b - normZ b := rfl
  have hi : mulHi (normM a) (normM b) = ((partM a * 2 ^ normZ a * (partM b * 2 ^ normZ b) / 18446744073709551616 : Nat) : Int) := rfl
  have lo : mulLo (normM a) (normM b) = ((partM a * 2 ^ normZ a * (partM b * 2 ^ normZ b) % 18446744073709551616 : Nat) : Int) := rfl
  rw [hi, lo, ma, mb, na, nb, w53 a3, w53 b3, Bool.and_self, cond_true]
  obtain ⟨v1, v2⟩ := mul_bounds a2 a3 b2 b3
  have ev : partM a * 2 ^ normZ a * (partM b * 2 ^ normZ b) = partM a * partM b * 2 ^ (normZ a + normZ b) := by
    rw [Nat.mul_mul_mul_comm, ← Nat.pow_add]
  obtain ⟨s1, s2⟩ := rung_shift (partM a * partM b) (normZ a + normZ b) (partE a + partE b)
  rw [← ev] at s1 s2
  generalize partM a * 2 ^ normZ a * (partM b * 2 ^ normZ b) = V at *
  rw [pack_hi v2, pack_lo, w_i64_in (x := _ + _) (by rw [w_i64_in (by omega) (by omega)]; omega) (by rw [w_i64_in (by omega) (by omega)]; omega), w_i64_in (by omega) (by omega)]
  have hw : widePre ((V / 2 ^ 44 : Nat) : Int) (partE a - normZ a + (partE b - normZ b) + 44) = true := cdec_eq.2 ⟨by omega, by omega, by omega, by omega⟩
  rw [hw, cond_true]
  unfold nearBI nearFI
  rw [Int.toNat_natCast, nearN_eq n (V := V) (k := 44) (E := partE a + partE b - ((normZ a + normZ b : Nat) : Int)) (e := partE a - normZ a + (partE b - normZ b) + 44) (s := decide (V % 2 ^ 44 ≠ 0)) (by omega) rfl (by omega) (.inl (by omega)), s1, s2]

theorem kq (b k : Nat) : (((kindN b : Nat) : Int) == ((k : Nat) : Int)) = decide (kindN b = k) := by
  rw [Bool.eq_iff_iff]; simp only [beq_iff_eq, decide_eq_true_eq]; omega

theorem sign_word (n : Bool) {r : Nat} (h : r < 2 ^ 63) : signI n (r : Int) = ((signN n r : Nat) : Int) := by
  unfold signI signN minusI
  cases n
  · rfl
  · simp only [if_true]
    rw [Int.toNat_natCast, minus_sign h]

theorem inf_word (n : Bool) : signI n (9218868437227405312 : Int) = ((signN n infR : Nat) : Int) := sign_word n (r := infR) (by decide)
theorem zero_word (n : Bool) : signI n (0 : Int) = ((signN n 0 : Nat) : Int) := sign_word n (r := 0) (by decide)

theorem kindI_nat (b : Nat) : kindI (b : Int) = ((kindN b : Nat) : Int) := rfl
theorem nan_dec (a b : Nat) : nanI (a : Int) (b : Int) = (decide (kindN a = 4) || decide (kindN b = 4)) := by
  unfold nanI kindI
  simp only [Int.toNat_natCast]
  rw [Bool.eq_iff_iff]
  simp only [Bool.or_eq_true, decide_eq_true_eq]
  omega

theorem k3 (b : Nat) : (((kindN b : Nat) : Int) == (3 : Int)) = decide (kindN b = 3) := kq b 3
theorem k0 (b : Nat) : (((kindN b : Nat) : Int) == (0 : Int)) = decide (kindN b = 0) := kq b 0

theorem times.Mul.known : Known Tryz.prog 168 times.Mul.spec := times.Mul.known_of (.cons mbits.Mul64.known (.cons soft.Kind.known (.cons soft.Sign.known (.cons times.nan.known (.cons times.norm.known (.cons times.signed.known (.cons times.wide.known .nil))))))) fun a b hp => by
  obtain ⟨ha, hb⟩ := and_true_iff.1 hp
  obtain ⟨a, rfl, hn⟩ := inU64_nat ha
  obtain ⟨b, rfl, hm⟩ := inU64_nat hb
  refine ⟨0, times.Mul.out [.i a, .i b], [], ?_, Wk.tupL (.cons .int (.cons .int .nil))⟩
  have i1 : inU64 (9218868437227405312 : Int) = true := inU64_of (n := 9218868437227405312) (by decide)
  have i2 : inU64 (0 : Int) = true := inU64_of (n := 0) (by decide)
  rw [times.Mul.ev, ha, hb, nan_dec, kindI_nat, kindI_nat, k3, k3, k0, k0, i1, i2, inf_word, zero_word, not_beq]
  show _ = some (DV.tup [.int .u64 (((mulN a b).1 : Nat) : Int), .int .u8 (((mulN a b).2 : Nat) : Int)])
  have ea : negI (a : Int) = negN a := rfl
  have eb : negI (b : Int) = negN b := rfl
  rw [ea, eb]
  unfold mulN
  simp only [Bool.and_self, cond_true]
  by_cases h4 : kindN a = 4 ∨ kindN b = 4
  · have c4 : (decide (kindN a = 4) || decide (kindN b = 4)) = true := by simp; exact h4
    rw [if_pos h4, c4, cond_true]; rfl
  · have c4 : (decide (kindN a = 4) || decide (kindN b = 4)) = false := by simp; omega
    rw [if_neg h4, c4, cond_false]
    by_cases h3 : kindN a = 3 ∨ kindN b = 3
    · rw [if_pos h3]
      by_cases h0 : kindN a = 0 ∨ kindN b = 0
      · have c0 : (decide (kindN a = 3) && decide (kindN b = 0) || decide (kindN a = 0) && decide (kindN b = 3)) = true := by simp; omega
        rw [if_pos h0, c0, cond_true]; rfl
      · have c0 : (decide (kindN a = 3) && decide (kindN b = 0) || decide (kindN a = 0) && decide (kindN b = 3)) = false := by simp; omega
        have c3 : (decide (kindN a = 3) || decide (kindN b = 3)) = true := by simp; omega
        rw [if_neg h0, c0, cond_false, c3, cond_true]; rfl
    · have c0 : (decide (kindN a = 3) && decide (kindN b = 0) || decide (kindN a = 0) && decide (kindN b = 3)) = false := by simp; omega
      have c3 : (decide (kindN a = 3) || decide (kindN b = 3)) = false := by simp; omega
      rw [if_neg h3, c0, cond_false, c3, cond_false]
      by_cases h0 : kindN a = 0 ∨ kindN b = 0
      · have c5 : (decide (kindN a = 0) || decide (kindN b = 0)) = true := by simp; exact h0
        have hz : partM a * partM b = 0 := by
          rcases h0 with h | h
          · rw [partM_nil h, Nat.zero_mul]
          · rw [partM_nil h, Nat.mul_zero]
        rw [c5, cond_true, hz, rung_zero, flagsOf_zero]; rfl
      · have c5 : (decide (kindN a = 0) || decide (kindN b = 0)) = false := by simp; omega
        have pa := partM_pos (b := a) (by omega) (by omega) (by omega)
        have pb := partM_pos (b := b) (by omega) (by omega) (by omega)
        have na : normPre (a : Int) = true := cdec_eq.2 pa
        have nb : normPre (b : Int) = true := cdec_eq.2 pb
        rw [c5, cond_false, na, nb, Bool.and_self, cond_true, cond_true]
        exact mul_num _ pa pb

/-- The long division: i digits more. -/
theorem div_loop (N : Nat) {a b : Nat} {X Y : Nat} (hY : 0 < Y) (hY2 : Y < 2 ^ 53) (hX : X < 2 * Y) (em : normM (b : Int) = (Y : Int)) : ∀ (k i : Nat), k + i = 61 →
    times.Div.L0 N (k + 1) a b ((X * 2 ^ i / Y : Nat) : Int) ((X * 2 ^ i % Y : Nat) : Int) (i : Int) =
      times.Div.L0 N 1 a b ((X * 2 ^ 61 / Y : Nat) : Int) ((X * 2 ^ 61 % Y : Nat) : Int) (61 : Int) := by
  intro k
  induction k with
  | zero =>
    intro i hi
    have : i = 61 := by omega
    subst this
    rfl
  | succ k ih =>
    intro i hi
    have hq : X * 2 ^ i / Y < 2 ^ 62 := by
      rw [Nat.div_lt_iff_lt_mul hY]
      have h1 : X * 2 ^ i < 2 * Y * 2 ^ i := (Nat.mul_lt_mul_right (pow_pos2 i)).2 hX
      have h2 : 2 * 2 ^ i ≤ 2 ^ 62 := by
        rw [Nat.mul_comm, ← Nat.pow_succ]; exact Nat.pow_le_pow_right (by decide) (by omega)
      have h3 : 2 * 2 ^ i * Y ≤ 2 ^ 62 * Y := Nat.mul_le_mul_right _ h2
      rw [Nat.mul_right_comm] at h1
      omega
    have hr : X * 2 ^ i % Y < Y := Nat.mod_lt _ hY
    have hd := Nat.div_add_mod (X * 2 ^ i) Y
    have e2 : X * 2 ^ (i + 1) = X * 2 ^ i * 2 := by rw [Nat.pow_succ, Nat.mul_assoc]
    rw [times.Div.L0_step, ltI_eq, leI_eq, em, decide_eq_true (by omega), cond_true]
    have s1 : bShl .u64 ((X * 2 ^ i % Y : Nat) : Int) (1 : Int) = ((X * 2 ^ i % Y * 2 : Nat) : Int) := by
      have := bShl_u64 (X * 2 ^ i % Y) 1 (by decide)
      rw [Nat.mod_eq_of_lt (a := X * 2 ^ i % Y * 2 ^ 1) (by omega)] at this
      exact this
    have s2 : bShl .u64 ((X * 2 ^ i / Y : Nat) : Int) (1 : Int) = ((X * 2 ^ i / Y * 2 ^ 1 : Nat) : Int) := by
      have := bShl_u64 (X * 2 ^ i / Y) 1 (by decide)
      rw [Nat.mod_eq_of_lt (a := X * 2 ^ i / Y * 2 ^ 1) (by omega)] at this
      exact this
    have s3 : bOr .u64 ((X * 2 ^ i / Y * 2 ^ 1 : Nat) : Int) (1 : Int) = ((X * 2 ^ i / Y * 2 ^ 1 + 1 : Nat) : Int) := bOr_apart' (k := 1) (b := 1) (by decide) (by omega)
    have ei : w_i64 ((i : Int) + 1) = ((i + 1 : Nat) : Int) := by rw [w_i64_in (by omega) (by omega)]; rfl
    rw [s1, s2, s3, ei]
    generalize hq' : X * 2 ^ i / Y = q at *
    generalize hr' : X * 2 ^ i % Y = r at *
    have step : ∀ c, X * 2 ^ i * 2 = Y * (2 * q + c) + (2 * r - c * Y) → c * Y ≤ 2 * r → 2 * r < c * Y + Y → X * 2 ^ (i + 1) / Y = 2 * q + c ∧ X * 2 ^ (i + 1) % Y = 2 * r - c * Y := fun c h1 h2 h3 => by
      rw [e2, h1]
      constructor
      · rw [Nat.mul_add_div hY, Nat.div_eq_of_lt (by omega)]; omega
      · rw [Nat.mul_add_mod, Nat.mod_eq_of_lt (by omega)]
    by_cases hc : Y ≤ r * 2
    · obtain ⟨t1, t2⟩ := step 1 (by rw [Nat.mul_add, Nat.mul_one, Nat.mul_left_comm]; omega) (by omega) (by omega)
      have := ih (i + 1) (by omega)
      rw [t1, t2] at this
      rw [decide_eq_true (by omega), cond_true, w_u64_in (by omega) (by omega)]
      have e3 : ((r * 2 : Nat) : Int) - (Y : Int) = ((2 * r - 1 * Y : Nat) : Int) := by omega
      have e4 : q * 2 ^ 1 + 1 = 2 * q + 1 := by omega
      rw [e3, e4]
      exact this
    · obtain ⟨t1, t2⟩ := step 0 (by rw [Nat.add_zero, Nat.mul_left_comm]; omega) (by omega) (by omega)
      have := ih (i + 1) (by omega)
      rw [t1, t2] at this
      rw [decide_eq_false (by omega), cond_false]
      have e3 : r * 2 = 2 * r - 0 * Y := by omega
      have e4 : q * 2 ^ 1 = 2 * q + 0 := by omega
      rw [e3, e4]
      exact this

theorem div_num {a b : Nat} (ha : partM a ≠ 0) (hb : partM b ≠ 0) :
    times.Div.L0 62 62 a b (w_u64 (Int.tdiv (normM a) (normM b))) (Int.tmod (normM a) (normM b)) (0 : Int) =
      some (.tup [.int .u64 ((signN (negN a != negN b) (rung (stick (partM a) (partM b) 120) (partE a - partE b - 121)) : Nat) : Int), .int .u8 ((flagsOf (stick (partM a) (partM b) 120) (partE a - partE b - 121) : Nat) : Int)]) := by
  obtain ⟨a1, a2, a3, a4⟩ := norm_log ha
  obtain ⟨b1, b2, b3, b4⟩ := norm_log hb
  have ea := partE_le a
  have eb := partE_le b
  have ma : normM (a : Int) = ((partM a * 2 ^ normZ a : Nat) : Int) := rfl
  have mb : normM (b : Int) = ((partM b * 2 ^ normZ b : Nat) : Int) := rfl
  have na : normE (a : Int) = partE a - normZ a := rfl
  have nb : normE (b : Int) = partE b - normZ b := rfl
  have sL := stick_left (partM a) (partM b * 2 ^ normZ b) (normZ a) 61
  have hpos : 0 < partM b * 2 ^ normZ b := by omega
  have hq1 : 2 ^ 53 ≤ partM a * 2 ^ normZ a * 2 ^ 61 / (partM b * 2 ^ normZ b) := by
    rw [Nat.le_div_iff_mul_le hpos]; omega
  have hqq : 2 ^ 60 ≤ partM a * 2 ^ normZ a * 2 ^ 61 / (partM b * 2 ^ normZ b) := by
    rw [Nat.le_div_iff_mul_le hpos]; omega
  have hq2 : partM a * 2 ^ normZ a * 2 ^ 61 / (partM b * 2 ^ normZ b) < 2 ^ 62 := by
    rw [Nat.div_lt_iff_lt_mul hpos]; omega
  -- the same quotient, of the numbers as they are
  have hstick : stick (partM a * 2 ^ normZ a) (partM b * 2 ^ normZ b) 61 = stick (partM a) (partM b) (61 + normZ a - normZ b) := by
    rw [sL]
    have : 61 + normZ a = 61 + normZ a - normZ b + normZ b := by omega
    conv => lhs; rw [this]
    rw [stick_right]
  have hge1 : 2 ^ 53 ≤ partM a * 2 ^ (61 + normZ a - normZ b) / partM b := by
    have e1 : partM a * 2 ^ normZ a * 2 ^ 61 = partM a * 2 ^ (61 + normZ a - normZ b) * 2 ^ normZ b := by
      rw [Nat.mul_assoc, ← Nat.pow_add, Nat.mul_assoc, ← Nat.pow_add]
      congr 2
      omega
    rw [e1, Nat.mul_div_mul_right _ _ (pow_pos2 _)] at hq1
    exact hq1
  have hge2 : 2 ^ 53 ≤ partM a * 2 ^ 120 / partM b := quo_ge (t := 53) (by omega) (by omega) (by have := partM_lt b; omega) (by omega)
  obtain ⟨s1, s2⟩ := stick_same (X := partM a) (Y := partM b) (K := 61 + normZ a - normZ b) (L := 120) (E := partE a - normZ a - (partE b - normZ b) - 61 - 1) (F := partE a - partE b - 121) (by omega) hge1 hge2 (by omega)
  have d1 : w_u64 (Int.tdiv (normM a) (normM b)) = ((partM a * 2 ^ normZ a * 2 ^ 0 / (partM b * 2 ^ normZ b) : Nat) : Int) := by
    rw [ma, mb, tdiv_nat, Nat.pow_zero, Nat.mul_one]
    have h1 := Nat.div_le_self (partM a * 2 ^ normZ a) (partM b * 2 ^ normZ b)
    have h2 : partM a * 2 ^ normZ a / (partM b * 2 ^ normZ b) < 2 ^ 64 := Nat.lt_of_le_of_lt h1 (Nat.lt_trans a3 (by decide))
    generalize partM a * 2 ^ normZ a / (partM b * 2 ^ normZ b) = q at h2 ⊢
    exact w_u64_in (Int.natCast_nonneg q) (by omega)
  have d2 : Int.tmod (normM a) (normM b) = ((partM a * 2 ^ normZ a * 2 ^ 0 % (partM b * 2 ^ normZ b) : Nat) : Int) := by
    rw [ma, mb, tmod_nat, Nat.pow_zero, Nat.mul_one]
  rw [d1, d2]
  have lp := div_loop 62 (a := a) (b := b) hpos b3 (X := partM a * 2 ^ normZ a) (by omega) mb 61 0 (by omega)
  refine lp.trans ?_
  rw [times.Div.L0_step, ltI_eq, na, nb, decide_eq_false (by omega), cond_false]
  have we : w_i64 (w_i64 (partE a - normZ a - (partE b - normZ b)) - 61) = partE a - normZ a - (partE b - normZ b) - 61 := by
    rw [w_i64_in (x := partE a - normZ a - (partE b - normZ b)) (by omega) (by omega), w_i64_in (by omega) (by omega)]
  have hne : (((partM a * 2 ^ normZ a * 2 ^ 61 % (partM b * 2 ^ normZ b) : Nat) : Int) != (0 : Int)) = decide (partM a * 2 ^ normZ a * 2 ^ 61 % (partM b * 2 ^ normZ b) ≠ 0) := by
    rw [Bool.eq_iff_iff]; simp only [bne_iff_ne, ne_eq, decide_eq_true_eq]; omega
  rw [we, hne]
  have hw : widePre ((partM a * 2 ^ normZ a * 2 ^ 61 / (partM b * 2 ^ normZ b) : Nat) : Int) (partE a - normZ a - (partE b - normZ b) - 61) = true := cdec_eq.2 ⟨by omega, by omega, by omega, by omega⟩
  have hn : negI (a : Int) = negN a := rfl
  have hn' : negI (b : Int) = negN b := rfl
  rw [hw, cond_true, not_beq, hn, hn']
  unfold nearBI nearFI
  rw [Int.toNat_natCast, nearN_quo _ rfl rfl hq1, hstick, s1, s2]

theorem times.Div.known : Known Tryz.prog 169 times.Div.spec := times.Div.known_of (.cons soft.Kind.known (.cons soft.Sign.known (.cons times.nan.known (.cons times.norm.known (.cons times.signed.known (.cons times.wide.known .nil)))))) fun a b hp => by
  obtain ⟨ha, hb⟩ := and_true_iff.1 hp
  obtain ⟨a, rfl, hn⟩ := inU64_nat ha
  obtain ⟨b, rfl, hm⟩ := inU64_nat hb
  refine ⟨62, times.Div.out [.i a, .i b], [], ?_, Wk.tupL (.cons .int (.cons .int .nil))⟩
  have i1 : inU64 (9218868437227405312 : Int) = true := inU64_of (n := 9218868437227405312) (by decide)
  have i2 : inU64 (0 : Int) = true := inU64_of (n := 0) (by decide)
  rw [times.Div.ev, ha, hb, nan_dec, kindI_nat, kindI_nat, k3, k3, k0, k0, i1, i2, inf_word, zero_word, not_beq]
  show _ = some (DV.tup [.int .u64 (((divN a b).1 : Nat) : Int), .int .u8 (((divN a b).2 : Nat) : Int)])
  have ea : negI (a : Int) = negN a := rfl
  have eb : negI (b : Int) = negN b := rfl
  rw [ea, eb]
  unfold divN
  rw [Bool.and_self, cond_true, cond_true, cond_true, cond_true, cond_true]
  by_cases h4 : kindN a = 4 ∨ kindN b = 4
  · have c4 : (decide (kindN a = 4) || decide (kindN b = 4)) = true := by simp; exact h4
    rw [if_pos h4, c4, cond_true]; rfl
  · have c4 : (decide (kindN a = 4) || decide (kindN b = 4)) = false := by simp; omega
    rw [if_neg h4, c4, cond_false]
    by_cases h1 : kindN a = kindN b ∧ (kindN a = 3 ∨ kindN a = 0)
    · have c1 : (decide (kindN a = 3) && decide (kindN b = 3) || decide (kindN a = 0) && decide (kindN b = 0)) = true := by simp; omega
      rw [if_pos h1, c1, cond_true]; rfl
    · have c1 : (decide (kindN a = 3) && decide (kindN b = 3) || decide (kindN a = 0) && decide (kindN b = 0)) = false := by simp; omega
      rw [if_neg h1, c1, cond_false]
      by_cases h2 : kindN a = 3
      · rw [if_pos h2, decide_eq_true h2, cond_true]; rfl
      · rw [if_neg h2, decide_eq_false h2, cond_false]
        by_cases h3 : kindN b = 3 ∨ kindN a = 0
        · have c3 : (decide (kindN b = 3) || decide (kindN a = 0)) = true := by simp; exact h3
          rw [if_pos h3, c3, cond_true]; rfl
        · have c3 : (decide (kindN b = 3) || decide (kindN a = 0)) = false := by simp; omega
          rw [if_neg h3, c3, cond_false]
          by_cases h5 : kindN b = 0
          · rw [if_pos h5, decide_eq_true h5, cond_true]; rfl
          · rw [if_neg h5, decide_eq_false h5, cond_false]
            have pa := partM_pos (b := a) (by omega) (by omega) (by omega)
            have pb := partM_pos (b := b) (by omega) (by omega) (by omega)
            have na : normPre (a : Int) = true := cdec_eq.2 pa
            have nb : normPre (b : Int) = true := cdec_eq.2 pb
            have hnb : (normM (b : Int) != 0) = true := by
              obtain ⟨_, l2, _, _⟩ := norm_log pb
              have mb : normM (b : Int) = ((partM b * 2 ^ normZ b : Nat) : Int) := rfl
              rw [mb]
              simp only [bne_iff_ne, ne_eq]
              omega
            rw [na, nb, hnb, Bool.and_self, cond_true, cond_true, cond_true, cond_true, div_num pa pb]

end Go.Proofs.S1
