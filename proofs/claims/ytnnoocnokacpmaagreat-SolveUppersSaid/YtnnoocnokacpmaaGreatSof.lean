/- Sof of the verified evaluator and its use for this seat (of my texts S1EqSoft, S1PSoft, S1PPack, S1PNear). -/
import Derived.Test.YtnnoocnokacpmaaGreatSpe
import Derived.Test.YtnnoocnokacpmaaGreatFlo

/- The evaluator's equations: soft.Split, soft.Kind, soft.Sign, soft.Finite, soft.Minus, soft.Parts, soft.Pack, soft.Near. Printed by denpy.py. -/
namespace Go.Proofs.S1
open Go Go.Den Go.Rnd Go.Proofs
set_option linter.unusedVariables false
set_option maxRecDepth 100000
namespace EqSoft
theorem tt0 (a b c : Bool) : ((a == a) && (b && (c && true))) = (b && c) := by cases a <;> cases b <;> cases c <;> rfl
theorem tt1 (a b : Bool) : (bif a then b else false) = (a && b) := by cases a <;> cases b <;> rfl
theorem tt2 (a : Bool) : (((!a) || (a == true)) && true) = true := by cases a <;> rfl
theorem tt3 (a : Bool) : ((!(a == true)) || ((((!(a == true)) || (a == true)) && true) && true)) = true := by cases a <;> rfl
theorem tt4 (a : Bool) : ((!(a == true)) || true) = true := by cases a <;> rfl
theorem tt5 (a b : Bool) : (bif a then true else b) = (a || b) := by cases a <;> cases b <;> rfl
theorem tt6 (a : Bool) : ((!(!a)) || (a == false)) = true := by cases a <;> rfl
theorem tt7 (a : Bool) : ((!(a == false)) || ((((!(a == false)) || (a == false)) && true) && true)) = true := by cases a <;> rfl
theorem tt8 (a : Bool) : ((!(a == false)) || ((((!(a == false)) || (a == false)) && (((!(a == false)) || (a == false)) && true)) && true)) = true := by cases a <;> rfl
theorem tt9 (a : Bool) : ((!(a == false)) || true) = true := by cases a <;> rfl
theorem tt10 (a : Bool) : (a && true) = a := by cases a <;> rfl
theorem tt11 (a b c d e : Bool) : (bif a then (bif b then true else (bif c then (bif d then true else e) else false)) else false) = (a && (b || (c && (d || e)))) := by cases a <;> cases b <;> cases c <;> cases d <;> cases e <;> rfl
theorem tt12 (a b : Bool) : ((!(a == true)) || (((!(a == true)) || (a == true)) && ((!(!b)) || ((a == true) && (b == false))))) = true := by cases a <;> cases b <;> rfl
theorem tt13 (a b c : Bool) : ((!((a == true) && (b == false))) || (((!((a == true) && (b == false))) || ((a == true) && (b == false))) && (((!c) || (((a == true) && (b == false)) && (c == true))) && true))) = true := by cases a <;> cases b <;> cases c <;> rfl
theorem tt14 (a b c d : Bool) : ((!(((a == true) && (b == false)) && (c == true))) || (((!(((a == true) && (b == false)) && (c == true))) || (((a == true) && (b == false)) && (c == true))) && ((!(!d)) || ((((a == true) && (b == false)) && (c == true)) && (d == false))))) = true := by cases a <;> cases b <;> cases c <;> cases d <;> rfl
theorem tt15 (a b c d : Bool) : ((!((((a == true) && (b == false)) && (c == true)) && (d == false))) || ((((!((((a == true) && (b == false)) && (c == true)) && (d == false))) || ((((a == true) && (b == false)) && (c == true)) && (d == false))) && true) && true)) = true := by cases a <;> cases b <;> cases c <;> cases d <;> rfl
theorem tt16 (a b c d : Bool) : ((!((((a == true) && (b == false)) && (c == true)) && (d == false))) || true) = true := by cases a <;> cases b <;> cases c <;> cases d <;> rfl
theorem tt17 (a b c : Bool) : ((!(((a == true) && (b == false)) && (c == true))) || ((((!(((a == true) && (b == false)) && (c == true))) || (((a == true) && (b == false)) && (c == true))) && true) && true)) = true := by cases a <;> cases b <;> cases c <;> rfl
theorem tt18 (a b c : Bool) : ((!(((a == true) && (b == false)) && (c == true))) || true) = true := by cases a <;> cases b <;> cases c <;> rfl
theorem tt19 (a b : Bool) : ((!((a == true) && (b == false))) || ((((!((a == true) && (b == false))) || ((a == true) && (b == false))) && true) && true)) = true := by cases a <;> cases b <;> rfl
theorem tt20 (a b : Bool) : ((!((a == true) && (b == false))) || ((((!((a == true) && (b == false))) || ((a == true) && (b == false))) && (((!((a == true) && (b == false))) || ((a == true) && (b == false))) && true)) && true)) = true := by cases a <;> cases b <;> rfl
theorem tt21 (a b : Bool) : ((!((a == true) && (b == false))) || true) = true := by cases a <;> cases b <;> rfl
theorem tt22 (a : Bool) : ((!(a == true)) || ((((!(a == true)) || (a == true)) && (((!(a == true)) || (a == true)) && true)) && true)) = true := by cases a <;> rfl
theorem tt23 (a b : Bool) : (bif (!a) then true else b) = ((!a) || b) := by cases a <;> cases b <;> rfl
theorem tt24 (a : Bool) : ((!(!(!a))) || ((!a) == false)) = true := by cases a <;> rfl
theorem tt25 (a : Bool) : ((!((!a) == false)) || ((((!((!a) == false)) || ((!a) == false)) && true) && true)) = true := by cases a <;> rfl
theorem tt26 (a : Bool) : ((!((!a) == false)) || true) = true := by cases a <;> rfl
theorem tt27 (a b : Bool) : (bif a then (!b) else false) = (a && (!b)) := by cases a <;> cases b <;> rfl
noncomputable def soft.Split.tab : List (Nat × Entry) := []
noncomputable def soft.Split.E : Env := envOf (tabOf soft.Split.tab) (fun _ => false) (fun _ => none) (fun _ => none)
theorem soft.Split.ev (N : Nat) (x : Int) : funD soft.Split.E N Tryz.f166 (bodyOf Tryz.f166) [.int .u64 x] =
  some (.agg [.bool ((bShr .u64 x (63 : Int)) == (1 : Int)), .int .i64 (w_i64 (bAnd .u64 (bShr .u64 x (52 : Int)) (2047 : Int))), .int .u64 (bAnd .u64 x (4503599627370495 : Int))]) := by kernel_rfl
theorem soft.Split.known_of (hk : Knowns Tryz.prog soft.Split.tab) (h : ∀ (x : Int), soft.Split.pre [.i x] = true → ∃ N dv drops, funD soft.Split.E N Tryz.f166 (bodyOf Tryz.f166) [.int .u64 x] = some dv ∧ Wk drops dv (soft.Split.out [.i x])) : Known Tryz.prog 166 soft.Split.spec := by
  refine ⟨meets_entry (E := soft.Split.E) (env_ok hk _ _ _) Tryz.func166 (show Tryz.f166.body = some (bodyOf Tryz.f166) by kernel_rfl) fun ats dvs he hp => ?_, call_enter Tryz.func166 (by kernel_rfl) (show Tryz.f166.body = some (bodyOf Tryz.f166) by kernel_rfl)⟩
  obtain ⟨x, _, _, rfl, rfl, he0⟩ := he.i_inv
  obtain ⟨rfl, rfl⟩ := he0.nil_inv
  exact h x hp

noncomputable def soft.Kind.tab : List (Nat × Entry) := [(166, soft.Split.spec)]
noncomputable def soft.Kind.E : Env := envOf (tabOf soft.Kind.tab) (fun _ => false) (fun _ => none) (fun _ => none)
theorem soft.Kind.ev (N : Nat) (x : Int) : funD soft.Kind.E N Tryz.f116 (bodyOf Tryz.f116) [.int .u64 x] =
  bif (inU64 x) then
  bif (((powI x) == (2047 : Int)) && ((fracI x) == (0 : Int))) then
  some (.int .i64 (3 : Int))
  else bif ((powI x) == (2047 : Int)) then
  some (.int .i64 (4 : Int))
  else bif (ltI (0 : Int) (powI x)) then
  some (.int .i64 (2 : Int))
  else bif (ltI (0 : Int) (fracI x)) then
  some (.int .i64 (1 : Int))
  else some (.int .i64 (0 : Int))
  else none :=
  Eq.trans (by kernel_rfl)
  (ifE (ifS (tt0 (negI x) ((powI x) == (2047 : Int)) ((fracI x) == (0 : Int))) rfl rfl) rfl)
theorem soft.Kind.known_of (hk : Knowns Tryz.prog soft.Kind.tab) (h : ∀ (x : Int), soft.Kind.pre [.i x] = true → ∃ N dv drops, funD soft.Kind.E N Tryz.f116 (bodyOf Tryz.f116) [.int .u64 x] = some dv ∧ Wk drops dv (soft.Kind.out [.i x])) : Known Tryz.prog 116 soft.Kind.spec := by
  refine ⟨meets_entry (E := soft.Kind.E) (env_ok hk _ _ _) Tryz.func116 (show Tryz.f116.body = some (bodyOf Tryz.f116) by kernel_rfl) fun ats dvs he hp => ?_, call_enter Tryz.func116 (by kernel_rfl) (show Tryz.f116.body = some (bodyOf Tryz.f116) by kernel_rfl)⟩
  obtain ⟨x, _, _, rfl, rfl, he0⟩ := he.i_inv
  obtain ⟨rfl, rfl⟩ := he0.nil_inv
  exact h x hp

noncomputable def soft.Sign.tab : List (Nat × Entry) := []
noncomputable def soft.Sign.E : Env := envOf (tabOf soft.Sign.tab) (fun _ => false) (fun _ => none) (fun _ => none)
theorem soft.Sign.ev (N : Nat) (x : Int) : funD soft.Sign.E N Tryz.f173 (bodyOf Tryz.f173) [.int .u64 x] =
  some (.bool ((bShr .u64 x (63 : Int)) == (1 : Int))) := by kernel_rfl
theorem soft.Sign.known_of (hk : Knowns Tryz.prog soft.Sign.tab) (h : ∀ (x : Int), soft.Sign.pre [.i x] = true → ∃ N dv drops, funD soft.Sign.E N Tryz.f173 (bodyOf Tryz.f173) [.int .u64 x] = some dv ∧ Wk drops dv (soft.Sign.out [.i x])) : Known Tryz.prog 173 soft.Sign.spec := by
  refine ⟨meets_entry (E := soft.Sign.E) (env_ok hk _ _ _) Tryz.func173 (show Tryz.f173.body = some (bodyOf Tryz.f173) by kernel_rfl) fun ats dvs he hp => ?_, call_enter Tryz.func173 (by kernel_rfl) (show Tryz.f173.body = some (bodyOf Tryz.f173) by kernel_rfl)⟩
  obtain ⟨x, _, _, rfl, rfl, he0⟩ := he.i_inv
  obtain ⟨rfl, rfl⟩ := he0.nil_inv
  exact h x hp

noncomputable def soft.Finite.tab : List (Nat × Entry) := [(116, soft.Kind.spec)]
noncomputable def soft.Finite.E : Env := envOf (tabOf soft.Finite.tab) (fun _ => false) (fun _ => none) (fun _ => none)
theorem soft.Finite.ev (N : Nat) (x : Int) : funD soft.Finite.E N Tryz.f108 (bodyOf Tryz.f108) [.int .u64 x] =
  bif (inU64 x) then
  bif ((kindI x) == (3 : Int)) then
  some (.bool false)
  else bif ((kindI x) == (4 : Int)) then
  some (.bool false)
  else some (.bool true)
  else none := by kernel_rfl
theorem soft.Finite.known_of (hk : Knowns Tryz.prog soft.Finite.tab) (h : ∀ (x : Int), soft.Finite.pre [.i x] = true → ∃ N dv drops, funD soft.Finite.E N Tryz.f108 (bodyOf Tryz.f108) [.int .u64 x] = some dv ∧ Wk drops dv (soft.Finite.out [.i x])) : Known Tryz.prog 108 soft.Finite.spec := by
  refine ⟨meets_entry (E := soft.Finite.E) (env_ok hk _ _ _) Tryz.func108 (show Tryz.f108.body = some (bodyOf Tryz.f108) by kernel_rfl) fun ats dvs he hp => ?_, call_enter Tryz.func108 (by kernel_rfl) (show Tryz.f108.body = some (bodyOf Tryz.f108) by kernel_rfl)⟩
  obtain ⟨x, _, _, rfl, rfl, he0⟩ := he.i_inv
  obtain ⟨rfl, rfl⟩ := he0.nil_inv
  exact h x hp

noncomputable def soft.Minus.tab : List (Nat × Entry) := []
noncomputable def soft.Minus.E : Env := envOf (tabOf soft.Minus.tab) (fun _ => false) (fun _ => none) (fun _ => none)
theorem soft.Minus.ev (N : Nat) (x : Int) : funD soft.Minus.E N Tryz.f201 (bodyOf Tryz.f201) [.int .u64 x] =
  some (.int .u64 (bXor .u64 x (9223372036854775808 : Int))) := by kernel_rfl
theorem soft.Minus.known_of (hk : Knowns Tryz.prog soft.Minus.tab) (h : ∀ (x : Int), soft.Minus.pre [.i x] = true → ∃ N dv drops, funD soft.Minus.E N Tryz.f201 (bodyOf Tryz.f201) [.int .u64 x] = some dv ∧ Wk drops dv (soft.Minus.out [.i x])) : Known Tryz.prog 201 soft.Minus.spec := by
  refine ⟨meets_entry (E := soft.Minus.E) (env_ok hk _ _ _) Tryz.func201 (show Tryz.f201.body = some (bodyOf Tryz.f201) by kernel_rfl) fun ats dvs he hp => ?_, call_enter Tryz.func201 (by kernel_rfl) (show Tryz.f201.body = some (bodyOf Tryz.f201) by kernel_rfl)⟩
  obtain ⟨x, _, _, rfl, rfl, he0⟩ := he.i_inv
  obtain ⟨rfl, rfl⟩ := he0.nil_inv
  exact h x hp

noncomputable def soft.Parts.tab : List (Nat × Entry) := [(166, soft.Split.spec)]
noncomputable def soft.Parts.E : Env := envOf (tabOf soft.Parts.tab) (fun _ => false) (fun _ => none) (fun _ => none)
theorem soft.Parts.ev (N : Nat) (x : Int) : funD soft.Parts.E N Tryz.f171 (bodyOf Tryz.f171) [.int .u64 x] =
  bif (inU64 x) then
  bif ((powI x) == (0 : Int)) then
  some (.tup [.int .u64 (fracI x), .int .i64 (-1074 : Int)])
  else some (.tup [.int .u64 (bOr .u64 (fracI x) (4503599627370496 : Int)), .int .i64 (w_i64 ((powI x) - (1075 : Int)))])
  else none := by kernel_rfl
theorem soft.Parts.known_of (hk : Knowns Tryz.prog soft.Parts.tab) (h : ∀ (x : Int), soft.Parts.pre [.i x] = true → ∃ N dv drops, funD soft.Parts.E N Tryz.f171 (bodyOf Tryz.f171) [.int .u64 x] = some dv ∧ Wk drops dv (soft.Parts.out [.i x])) : Known Tryz.prog 171 soft.Parts.spec := by
  refine ⟨meets_entry (E := soft.Parts.E) (env_ok hk _ _ _) Tryz.func171 (show Tryz.f171.body = some (bodyOf Tryz.f171) by kernel_rfl) fun ats dvs he hp => ?_, call_enter Tryz.func171 (by kernel_rfl) (show Tryz.f171.body = some (bodyOf Tryz.f171) by kernel_rfl)⟩
  obtain ⟨x, _, _, rfl, rfl, he0⟩ := he.i_inv
  obtain ⟨rfl, rfl⟩ := he0.nil_inv
  exact h x hp

noncomputable def soft.Pack.tab : List (Nat × Entry) := [(201, soft.Minus.spec)]
noncomputable def soft.Pack.E (rk : Nat) : Env := envOf (tabOf ((207, recN [.b, .i .u64, .i .i64] soft.Pack.pre soft.Pack.out soft.Pack.mu rk) :: soft.Pack.tab)) (fun _ => false) (fun _ => none) (fun _ => none)
theorem soft.Pack.ev (N rk : Nat) (n : Bool) (m : Int) (e : Int) : funD (soft.Pack.E rk) N Tryz.f207 (bodyOf Tryz.f207) [.bool n, .int .u64 m, .int .i64 e] =
  bif (m == (0 : Int)) then
  bif n then
  bif (inU64 (0 : Int)) then
  some (.int .u64 (minusI (0 : Int)))
  else none
  else some (.int .u64 (0 : Int))
  else bif (leI (9007199254740992 : Int) m) then
  bif ((packPre (bShr .u64 m (1 : Int)) (w_i64 (e + (1 : Int)))) && (cdec ((packMu (bShr .u64 m (1 : Int)) (w_i64 (e + (1 : Int)))) < rk))) then
  some (.int .u64 (packI n (bShr .u64 m (1 : Int)) (w_i64 (e + (1 : Int)))))
  else none
  else bif ((ltI m (4503599627370496 : Int)) && (ltI (-1074 : Int) e)) then
  bif ((packPre (bShl .u64 m (1 : Int)) (w_i64 (e - (1 : Int)))) && (cdec ((packMu (bShl .u64 m (1 : Int)) (w_i64 (e - (1 : Int)))) < rk))) then
  some (.int .u64 (packI n (bShl .u64 m (1 : Int)) (w_i64 (e - (1 : Int)))))
  else none
  else bif (ltI m (4503599627370496 : Int)) then
  bif n then
  bif (inU64 m) then
  some (.int .u64 (minusI m))
  else none
  else some (.int .u64 m)
  else bif (leI (2047 : Int) (w_i64 (e + (1075 : Int)))) then
  bif n then
  bif (inU64 (9218868437227405312 : Int)) then
  some (.int .u64 (minusI (9218868437227405312 : Int)))
  else none
  else some (.int .u64 (9218868437227405312 : Int))
  else bif n then
  bif (inU64 (bOr .u64 (bShl .u64 (w_u64 (w_i64 (e + (1075 : Int)))) (52 : Int)) (bAnd .u64 m (4503599627370495 : Int)))) then
  some (.int .u64 (minusI (bOr .u64 (bShl .u64 (w_u64 (w_i64 (e + (1075 : Int)))) (52 : Int)) (bAnd .u64 m (4503599627370495 : Int)))))
  else none
  else some (.int .u64 (bOr .u64 (bShl .u64 (w_u64 (w_i64 (e + (1075 : Int)))) (52 : Int)) (bAnd .u64 m (4503599627370495 : Int)))) :=
  Eq.trans (by kernel_rfl)
  (ifE rfl (ifE rfl (ifTn (tt4 (ltI m (4503599627370496 : Int))) (ifTn (tt3 (ltI m (4503599627370496 : Int))) (ifTn (tt2 (ltI m (4503599627370496 : Int))) (ifS (tt1 (ltI m (4503599627370496 : Int)) (ltI (-1074 : Int) e)) rfl rfl))))))
theorem soft.Pack.known_of (hk : Knowns Tryz.prog soft.Pack.tab) (h : ∀ (rk : Nat) (n : Bool) (m : Int) (e : Int), soft.Pack.pre [.b n, .i m, .i e] = true → soft.Pack.mu [.b n, .i m, .i e] < rk + 1 → ∃ N dv drops, funD (soft.Pack.E rk) N Tryz.f207 (bodyOf Tryz.f207) [.bool n, .int .u64 m, .int .i64 e] = some dv ∧ Wk drops dv (soft.Pack.out [.b n, .i m, .i e])) : Known Tryz.prog 207 soft.Pack.spec := by
  have call := call_enter (f := 207) Tryz.func207 (by kernel_rfl) (show Tryz.f207.body = some (bodyOf Tryz.f207) by kernel_rfl)
  refine ⟨meets_recN (E := soft.Pack.E) Tryz.func207 (show Tryz.f207.body = some (bodyOf Tryz.f207) by kernel_rfl) soft.Pack.mu (fun rk hm => env_ok (.cons ⟨hm, call⟩ hk) _ _ _) fun rk ats dvs he hp hr => ?_, call⟩
  obtain ⟨n, _, _, rfl, rfl, he0⟩ := he.b_inv
  obtain ⟨m, _, _, rfl, rfl, he1⟩ := he0.i_inv
  obtain ⟨e, _, _, rfl, rfl, he2⟩ := he1.i_inv
  obtain ⟨rfl, rfl⟩ := he2.nil_inv
  exact h rk n m e hp hr

def soft.Near.hint : Nat → Option LoopHint
  | 0 => some { keep := [0, 1, 2, 3, 10], objs := [], boxes := [] }
  | _ => none
noncomputable def soft.Near.tab : List (Nat × Entry) := [(116, soft.Kind.spec), (207, soft.Pack.spec)]
def soft.Near.live : Nat → Option (List Nat)
  | 7 => some [0, 1, 2, 3, 10]
  | 12 => some [0, 2, 3, 10, 11, 12, 13, 14]
  | 14 => some [0, 2, 10, 11, 14]
  | 16 => some [0, 2, 10, 11, 14]
  | 18 => some [14, 15, 16]
  | _ => none
noncomputable def soft.Near.E : Env := envOf (tabOf soft.Near.tab) (fun _ => false) soft.Near.hint soft.Near.live
noncomputable def soft.Near.L0 (N M : Nat) (n : Bool) (m : Int) (e : Int) (r : Bool) (p10 : Int) : Option DV := loopAt soft.Near.E N Tryz.f172 (bodyOf Tryz.f172) [1, 1, 1, 0, 0] [] M ⟨mkT 111 [(0, .bool n), (1, .int .u64 m), (2, .int .i64 e), (3, .bool r), (10, .int .i64 p10)], []⟩
noncomputable def soft.Near.C7 (N : Nat) (n : Bool) (m : Int) (e : Int) (r : Bool) (p10_1 : Int) : Option DV := cutAt soft.Near.E N Tryz.f172 (bodyOf Tryz.f172) [1, 1, 1, 1] [] ⟨mkT 111 [(0, .bool n), (1, .int .u64 m), (2, .int .i64 e), (3, .bool r), (10, .int .i64 p10_1)], []⟩
noncomputable def soft.Near.C12 (N : Nat) (n : Bool) (e : Int) (r : Bool) (p10_2 : Int) (p11_1 : Int) (p12 : Int) (p13 : Int) (p14 : Bool) : Option DV := cutAt soft.Near.E N Tryz.f172 (bodyOf Tryz.f172) [1, 1, 1, 1, 1, 1, 1, 1, 0] [] ⟨mkT 111 [(0, .bool n), (2, .int .i64 e), (3, .bool r), (10, .int .i64 p10_2), (11, .int .u64 p11_1), (12, .int .u64 p12), (13, .int .u64 p13), (14, .bool p14)], []⟩
noncomputable def soft.Near.C14 (N : Nat) (n : Bool) (e : Int) (p10_3 : Int) (p11_2 : Int) (p14_1 : Bool) : Option DV := cutAt soft.Near.E N Tryz.f172 (bodyOf Tryz.f172) [1, 1, 1, 1, 1, 1, 1, 1, 1, 0] [] ⟨mkT 111 [(0, .bool n), (2, .int .i64 e), (10, .int .i64 p10_3), (11, .int .u64 p11_2), (14, .bool p14_1)], []⟩
noncomputable def soft.Near.C16 (N : Nat) (n : Bool) (e : Int) (p11 : Int) (p10_4 : Int) (p14_2 : Bool) : Option DV := cutAt soft.Near.E N Tryz.f172 (bodyOf Tryz.f172) [1, 1, 1, 1, 1, 1, 1, 1, 1, 1] [] ⟨mkT 111 [(0, .bool n), (2, .int .i64 e), (10, .int .i64 p10_4), (11, .int .u64 p11), (14, .bool p14_2)], []⟩
noncomputable def soft.Near.C18 (N : Nat) (p14_3 : Bool) (p15 : Int) : Option DV := cutAt soft.Near.E N Tryz.f172 (bodyOf Tryz.f172) [1, 1, 1, 1, 1, 1, 1, 1, 1, 1, 1, 1, 0] [] ⟨mkT 111 [(14, .bool p14_3), (15, .int .u64 p15), (16, .int .u8 (0 : Int))], []⟩
theorem soft.Near.L0_step (N M : Nat) (n : Bool) (m : Int) (e : Int) (r : Bool) (p10 : Int) : soft.Near.L0 N (M + 1) n m e r p10 =
  bif (decide (0 ≤ p10)) then
  bif ((leI (9007199254740992 : Int) (bShr .u64 m p10)) || (ltI (w_i64 (e + p10)) (-1074 : Int))) then
  bif ((w_i64 (p10 + (1 : Int))) == (63 : Int)) then
  soft.Near.C7 N n m e r (w_i64 (p10 + (1 : Int)))
  else soft.Near.L0 N M n m e r (w_i64 (p10 + (1 : Int)))
  else soft.Near.C7 N n m e r p10
  else none :=
  Eq.trans (by kernel_rfl)
  (ifE (ifTn (tt9 (leI (9007199254740992 : Int) (bShr .u64 m p10))) (ifTn (tt9 (leI (9007199254740992 : Int) (bShr .u64 m p10))) (ifTn (tt8 (leI (9007199254740992 : Int) (bShr .u64 m p10))) (ifTn (tt7 (leI (9007199254740992 : Int) (bShr .u64 m p10))) (ifTn (tt6 (leI (9007199254740992 : Int) (bShr .u64 m p10))) (ifS (tt5 (leI (9007199254740992 : Int) (bShr .u64 m p10)) (ltI (w_i64 (e + p10)) (-1074 : Int))) rfl rfl)))))) rfl)
theorem soft.Near.C7_eq (N : Nat) (n : Bool) (m : Int) (e : Int) (r : Bool) (p10_1 : Int) : soft.Near.C7 N n m e r p10_1 =
  bif (decide (0 ≤ p10_1)) then
  bif (decide (0 ≤ p10_1)) then
  bif (ltI (0 : Int) p10_1) then
  bif (decide (0 ≤ (w_i64 (p10_1 - (1 : Int))))) then
  soft.Near.C12 N n e r p10_1 (bShr .u64 m p10_1) (bAnd .u64 m (w_u64 ((bShl .u64 (1 : Int) p10_1) - (1 : Int)))) (bShl .u64 (1 : Int) (w_i64 (p10_1 - (1 : Int)))) (bif ((bAnd .u64 m (w_u64 ((bShl .u64 (1 : Int) p10_1) - (1 : Int)))) == (0 : Int)) then (!r) else false)
  else none
  else soft.Near.C12 N n e r p10_1 (bShr .u64 m p10_1) (bAnd .u64 m (w_u64 ((bShl .u64 (1 : Int) p10_1) - (1 : Int)))) (0 : Int) (bif ((bAnd .u64 m (w_u64 ((bShl .u64 (1 : Int) p10_1) - (1 : Int)))) == (0 : Int)) then (!r) else false)
  else none
  else none :=
  Eq.trans ((cutAt_eq _ _ _ _ _ _ _).trans (by kernel_rfl))
  (ifS (tt10 (decide (0 ≤ p10_1))) (ifS (tt10 (decide (0 ≤ p10_1))) (ifE (ifE (ifTn (tt4 ((bAnd .u64 m (w_u64 ((bShl .u64 (1 : Int) p10_1) - (1 : Int)))) == (0 : Int))) (ifTn (tt3 ((bAnd .u64 m (w_u64 ((bShl .u64 (1 : Int) p10_1) - (1 : Int)))) == (0 : Int))) (ifTn (tt2 ((bAnd .u64 m (w_u64 ((bShl .u64 (1 : Int) p10_1) - (1 : Int)))) == (0 : Int))) rfl))) rfl) (ifTn (tt4 ((bAnd .u64 m (w_u64 ((bShl .u64 (1 : Int) p10_1) - (1 : Int)))) == (0 : Int))) (ifTn (tt3 ((bAnd .u64 m (w_u64 ((bShl .u64 (1 : Int) p10_1) - (1 : Int)))) == (0 : Int))) (ifTn (tt2 ((bAnd .u64 m (w_u64 ((bShl .u64 (1 : Int) p10_1) - (1 : Int)))) == (0 : Int))) rfl)))) rfl) rfl)
theorem soft.Near.C12_eq (N : Nat) (n : Bool) (e : Int) (r : Bool) (p10_2 : Int) (p11_1 : Int) (p12 : Int) (p13 : Int) (p14 : Bool) : soft.Near.C12 N n e r p10_2 p11_1 p12 p13 p14 =
  bif ((ltI (0 : Int) p10_2) && ((ltI p13 p12) || ((p12 == p13) && (r || ((bAnd .u64 p11_1 (1 : Int)) == (1 : Int)))))) then
  soft.Near.C14 N n e p10_2 (w_u64 (p11_1 + (1 : Int))) p14
  else soft.Near.C14 N n e p10_2 p11_1 p14 :=
  Eq.trans ((cutAt_eq _ _ _ _ _ _ _).trans (by kernel_rfl))
  (ifTn (tt4 (ltI (0 : Int) p10_2)) (ifTn (tt4 (ltI (0 : Int) p10_2)) (ifTn (tt22 (ltI (0 : Int) p10_2)) (ifTn (tt3 (ltI (0 : Int) p10_2)) (ifTn (tt21 (ltI (0 : Int) p10_2) (ltI p13 p12)) (ifTn (tt21 (ltI (0 : Int) p10_2) (ltI p13 p12)) (ifTn (tt20 (ltI (0 : Int) p10_2) (ltI p13 p12)) (ifTn (tt19 (ltI (0 : Int) p10_2) (ltI p13 p12)) (ifTn (tt18 (ltI (0 : Int) p10_2) (ltI p13 p12) (p12 == p13)) (ifTn (tt17 (ltI (0 : Int) p10_2) (ltI p13 p12) (p12 == p13)) (ifTn (tt16 (ltI (0 : Int) p10_2) (ltI p13 p12) (p12 == p13) r) (ifTn (tt15 (ltI (0 : Int) p10_2) (ltI p13 p12) (p12 == p13) r) (ifTn (tt15 (ltI (0 : Int) p10_2) (ltI p13 p12) (p12 == p13) r) (ifTn (tt14 (ltI (0 : Int) p10_2) (ltI p13 p12) (p12 == p13) r) (ifTn (tt13 (ltI (0 : Int) p10_2) (ltI p13 p12) (p12 == p13)) (ifTn (tt12 (ltI (0 : Int) p10_2) (ltI p13 p12)) (ifTn (tt2 (ltI (0 : Int) p10_2)) (ifS (tt11 (ltI (0 : Int) p10_2) (ltI p13 p12) (p12 == p13) r ((bAnd .u64 p11_1 (1 : Int)) == (1 : Int))) rfl rfl))))))))))))))))))
theorem soft.Near.C14_eq (N : Nat) (n : Bool) (e : Int) (p10_3 : Int) (p11_2 : Int) (p14_1 : Bool) : soft.Near.C14 N n e p10_3 p11_2 p14_1 =
  bif (ltI (w_i64 (e + p10_3)) (-1074 : Int)) then
  soft.Near.C16 N n e (0 : Int) p10_3 p14_1
  else soft.Near.C16 N n e p11_2 p10_3 p14_1 := (cutAt_eq _ _ _ _ _ _ _).trans (by kernel_rfl)
theorem soft.Near.C16_eq (N : Nat) (n : Bool) (e : Int) (p11 : Int) (p10_4 : Int) (p14_2 : Bool) : soft.Near.C16 N n e p11 p10_4 p14_2 =
  bif (packPre p11 (max (w_i64 (e + p10_4)) (-1074 : Int))) then
  soft.Near.C18 N p14_2 (packI n p11 (max (w_i64 (e + p10_4)) (-1074 : Int)))
  else none := (cutAt_eq _ _ _ _ _ _ _).trans (by kernel_rfl)
theorem soft.Near.C18_eq (N : Nat) (p14_3 : Bool) (p15 : Int) : soft.Near.C18 N p14_3 p15 =
  bif ((!p14_3) || ((bAndNot .u64 p15 (9223372036854775808 : Int)) == (9218868437227405312 : Int))) then
  bif (inU64 p15) then
  bif ((kindI p15) == (3 : Int)) then
  some (.tup [.int .u64 p15, .int .u8 (5 : Int)])
  else bif ((kindI p15) == (0 : Int)) then
  bif ((kindI p15) == (0 : Int)) then
  some (.tup [.int .u64 p15, .int .u8 (3 : Int)])
  else some (.tup [.int .u64 p15, .int .u8 (1 : Int)])
  else bif ((kindI p15) == (1 : Int)) then
  some (.tup [.int .u64 p15, .int .u8 (3 : Int)])
  else some (.tup [.int .u64 p15, .int .u8 (1 : Int)])
  else none
  else some (.tup [.int .u64 p15, .int .u8 (0 : Int)]) :=
  Eq.trans ((cutAt_eq _ _ _ _ _ _ _).trans (by kernel_rfl))
  (ifTn (tt26 p14_3) (ifTn (tt25 p14_3) (ifTn (tt25 p14_3) (ifTn (tt24 p14_3) (ifS (tt23 p14_3 ((bAndNot .u64 p15 (9223372036854775808 : Int)) == (9218868437227405312 : Int))) rfl rfl)))))
theorem soft.Near.ev (N : Nat) (n : Bool) (m : Int) (e : Int) (r : Bool) : funD soft.Near.E N Tryz.f172 (bodyOf Tryz.f172) [.bool n, .int .u64 m, .int .i64 e, .bool r] =
  bif ((m == (0 : Int)) && (!r)) then
  bif (packPre (0 : Int) (-1074 : Int)) then
  some (.tup [.int .u64 (packI n (0 : Int) (-1074 : Int)), .int .u8 (0 : Int)])
  else none
  else soft.Near.L0 N N n m e r (0 : Int) :=
  Eq.trans (by kernel_rfl)
  (ifTn (tt4 (m == (0 : Int))) (ifTn (tt3 (m == (0 : Int))) (ifTn (tt2 (m == (0 : Int))) (ifS (tt27 (m == (0 : Int)) r) rfl rfl))))
theorem soft.Near.known_of (hk : Knowns Tryz.prog soft.Near.tab) (h : ∀ (n : Bool) (m : Int) (e : Int) (r : Bool), soft.Near.pre [.b n, .i m, .i e, .b r] = true → ∃ N dv drops, funD soft.Near.E N Tryz.f172 (bodyOf Tryz.f172) [.bool n, .int .u64 m, .int .i64 e, .bool r] = some dv ∧ Wk drops dv (soft.Near.out [.b n, .i m, .i e, .b r])) : Known Tryz.prog 172 soft.Near.spec := by
  refine ⟨meets_entry (E := soft.Near.E) (env_ok hk _ _ _) Tryz.func172 (show Tryz.f172.body = some (bodyOf Tryz.f172) by kernel_rfl) fun ats dvs he hp => ?_, call_enter Tryz.func172 (by kernel_rfl) (show Tryz.f172.body = some (bodyOf Tryz.f172) by kernel_rfl)⟩
  obtain ⟨n, _, _, rfl, rfl, he0⟩ := he.b_inv
  obtain ⟨m, _, _, rfl, rfl, he1⟩ := he0.i_inv
  obtain ⟨e, _, _, rfl, rfl, he2⟩ := he1.i_inv
  obtain ⟨r, _, _, rfl, rfl, he3⟩ := he2.b_inv
  obtain ⟨rfl, rfl⟩ := he3.nil_inv
  exact h n m e r hp
end EqSoft
end Go.Proofs.S1

/- Package soft: what its functions answer. -/
namespace Go.Proofs.S1
open Go Go.Den Go.Rnd Go.Proofs

theorem and_true_iff {a b : Bool} : (a && b) = true ↔ a = true ∧ b = true := by simp

theorem neg_lem {n : Nat} (hn : n < 2 ^ 64) : ((bShr .u64 (n : Int) (63 : Int)) == (1 : Int)) = negI n := by
  rw [show (63 : Int) = ((63 : Nat) : Int) from rfl, bShr_nat .u64 n 63 (by decide)]
  unfold negI negN
  rw [Int.toNat_natCast, Bool.eq_iff_iff]
  simp only [beq_iff_eq, decide_eq_true_eq]
  omega

theorem pow_lem {n : Nat} (hn : n < 2 ^ 64) : w_i64 (bAnd .u64 (bShr .u64 (n : Int) (52 : Int)) (2047 : Int)) = powI n := by
  rw [show (52 : Int) = ((52 : Nat) : Int) from rfl, bShr_nat .u64 n 52 (by decide), show (2047 : Int) = ((2 ^ 11 - 1 : Nat) : Int) from rfl, bAnd_mask 11 (by omega) (by decide)]
  unfold powI powN
  rw [Int.toNat_natCast, w_i64_in (by omega) (by omega)]

theorem frac_lem {n : Nat} (hn : n < 2 ^ 64) : bAnd .u64 (n : Int) (4503599627370495 : Int) = fracI n := by
  rw [show (4503599627370495 : Int) = ((2 ^ 52 - 1 : Nat) : Int) from rfl, bAnd_mask 52 hn (by decide)]
  unfold fracI fracN
  rw [Int.toNat_natCast]

theorem soft.Split.known : Known Tryz.prog 166 soft.Split.spec := EqSoft.soft.Split.known_of .nil fun x hp => by
  obtain ⟨n, rfl, hn⟩ := inU64_nat (x := x) hp
  refine ⟨0, soft.Split.out [.i n], [], ?_, Wk.aggL (.cons .bool (.cons .int (.cons .int .nil)))⟩
  rw [EqSoft.soft.Split.ev, neg_lem hn, pow_lem hn, frac_lem hn]
  rfl

theorem soft.Kind.known : Known Tryz.prog 116 soft.Kind.spec := EqSoft.soft.Kind.known_of (.cons soft.Split.known .nil) fun x hp => by
  obtain ⟨n, rfl, hn⟩ := inU64_nat (x := x) hp
  refine ⟨0, soft.Kind.out [.i n], [], ?_, .int⟩
  rw [EqSoft.soft.Kind.ev, inU64_of hn]
  show _ = some (DV.int .i64 (kindI n))
  unfold kindI kindN powI fracI
  simp only [Int.toNat_natCast, cond_true, ltI_eq]
  have := powN_lt n
  by_cases h1 : powN n = 2047
  · by_cases h2 : fracN n = 0
    · simp [h1, h2]
    · have : ((fracN n : Int) == 0) = false := by simp; exact h2
      simp [h1, this, h2]
  · have h1' : ((powN n : Int) == 2047) = false := by simp; omega
    rw [h1']
    by_cases h3 : 0 < powN n
    · simp [h1, h3]
    · by_cases h4 : 0 < fracN n
      · simp [h1, h3, h4]
      · simp [h1, h3, h4]

theorem soft.Sign.known : Known Tryz.prog 173 soft.Sign.spec := EqSoft.soft.Sign.known_of .nil fun x hp => by
  obtain ⟨n, rfl, hn⟩ := inU64_nat (x := x) hp
  refine ⟨0, soft.Sign.out [.i n], [], ?_, .bool⟩
  rw [EqSoft.soft.Sign.ev, neg_lem hn]
  rfl

theorem kind_fin (n : Nat) : finN n = !(decide (kindN n = 3) || decide (kindN n = 4)) := by
  have := powN_lt n
  unfold finN kindN
  by_cases h1 : powN n = 2047
  · by_cases h2 : fracN n = 0 <;> simp [h1, h2]
  · have : powN n < 2047 := by omega
    by_cases h3 : 0 < powN n
    · simp [h1, h3, this]
    · by_cases h4 : 0 < fracN n <;> simp [h1, h3, h4, this]

theorem soft.Finite.known : Known Tryz.prog 108 soft.Finite.spec := EqSoft.soft.Finite.known_of (.cons soft.Kind.known .nil) fun x hp => by
  obtain ⟨n, rfl, hn⟩ := inU64_nat (x := x) hp
  refine ⟨0, soft.Finite.out [.i n], [], ?_, .bool⟩
  rw [EqSoft.soft.Finite.ev, inU64_of hn]
  show _ = some (DV.bool (finI n))
  unfold finI kindI
  rw [Int.toNat_natCast, kind_fin]
  by_cases h3 : kindN n = 3
  · simp [h3]
  · by_cases h4 : kindN n = 4
    · simp [h4]
    · have e3 : ((kindN n : Int) == 3) = false := by simp; omega
      have e4 : ((kindN n : Int) == 4) = false := by simp; omega
      simp [h3, h4, e3, e4]

theorem minus_lem {n : Nat} (hn : n < 2 ^ 64) : bXor .u64 (n : Int) (9223372036854775808 : Int) = minusI n := by
  rw [show (9223372036854775808 : Int) = ((2 ^ 63 : Nat) : Int) from rfl, bXor_u64 hn (by decide), xor_top hn]
  unfold minusI minusN
  rw [Int.toNat_natCast]

theorem soft.Minus.known : Known Tryz.prog 201 soft.Minus.spec := EqSoft.soft.Minus.known_of .nil fun x hp => by
  obtain ⟨n, rfl, hn⟩ := inU64_nat (x := x) hp
  refine ⟨0, soft.Minus.out [.i n], [], ?_, .int⟩
  rw [EqSoft.soft.Minus.ev, minus_lem hn]
  rfl

theorem soft.Parts.known : Known Tryz.prog 171 soft.Parts.spec := EqSoft.soft.Parts.known_of (.cons soft.Split.known .nil) fun x hp => by
  obtain ⟨n, rfl, hn⟩ := inU64_nat (x := x) hp
  refine ⟨0, soft.Parts.out [.i n], [], ?_, Wk.tupL (.cons .int (.cons .int .nil))⟩
  rw [EqSoft.soft.Parts.ev, inU64_of hn]
  show _ = some (DV.tup [.int .u64 (partMI n), .int .i64 (partEI n)])
  have hf := fracN_lt n
  have hp := powN_lt n
  unfold partMI partEI powI fracI partM partE
  rw [Int.toNat_natCast]
  by_cases h : powN n = 0
  · simp [h]
  · have e : ((powN n : Int) == 0) = false := by simp; omega
    have e2 : bOr .u64 ((fracN n : Nat) : Int) (4503599627370496 : Int) = ((fracN n + 2 ^ 52 : Nat) : Int) := by
      rw [show (4503599627370496 : Int) = ((1 * 2 ^ 52 : Nat) : Int) from rfl, bOr_apart (by omega) (by omega)]
      congr 1; omega
    rw [e, e2, w_i64_in (by omega) (by omega)]
    simp [h]

end Go.Proofs.S1

/- soft.Pack: the number of a whole one times a power of two. -/
namespace Go.Proofs.S1
open Go Go.Den Go.Rnd Go.Proofs

theorem minusI_small {r : Nat} (h : r < 2 ^ 63) : minusI r = ((2 ^ 63 + r : Nat) : Int) := by
  unfold minusI; rw [Int.toNat_natCast, minus_sign h]

/-- A word with its sign, as the code makes it. -/
theorem signed_case {r : Nat} (h : r < 2 ^ 63) (n : Bool) : (bif n then (bif (inU64 (r : Int)) then some (DV.int .u64 (minusI r)) else none) else some (DV.int .u64 r)) = some (DV.int .u64 ((signN n r : Nat) : Int)) := by
  cases n
  · rfl
  · rw [inU64_of (by omega), minusI_small h]; rfl

theorem packI_nat (n : Bool) (m : Nat) (e : Int) : packI n m e = ((signN n (rung m e) : Nat) : Int) := by
  unfold packI; rw [Int.toNat_natCast]

theorem pack_arith {E M : Nat} (h1 : 1 ≤ E) (h2 : E ≤ 2046) (h3 : 4503599627370496 ≤ M) (h4 : M < 9007199254740992) : E * 2 ^ 52 + M % 2 ^ 52 = min ((E - 1) * 2 ^ 52 + M) infR := by
  obtain ⟨k, rfl⟩ : ∃ k, E = k + 1 := ⟨E - 1, by omega⟩
  obtain ⟨r, rfl⟩ : ∃ r, M = 2 ^ 52 + r := ⟨M - 2 ^ 52, by omega⟩
  have hr : r < 2 ^ 52 := by omega
  have hm : (2 ^ 52 + r) % 2 ^ 52 = r := by rw [Nat.add_mod_left, Nat.mod_eq_of_lt hr]
  have hk : k * 2 ^ 52 ≤ 2045 * 2 ^ 52 := Nat.mul_le_mul_right _ (by omega)
  have hi : infR = 2045 * 2 ^ 52 + 2 ^ 52 + 2 ^ 52 := by unfold infR; rfl
  rw [hm, Nat.add_sub_cancel, Nat.succ_mul, hi]
  generalize 2 ^ 52 = c at *
  omega

theorem soft.Pack.known : Known Tryz.prog 207 soft.Pack.spec := EqSoft.soft.Pack.known_of (.cons soft.Minus.known .nil) fun rk n m e hp hr => by
  have hp := cdec_eq.1 (show packPre m e = true from hp)
  have hr : packMu m e < rk + 1 := hr
  obtain ⟨m0, m1, e0, e1⟩ := hp
  obtain ⟨M, rfl⟩ : ∃ M : Nat, m = M := ⟨m.toNat, by omega⟩
  refine ⟨0, soft.Pack.out [.b n, .i M, .i e], [], ?_, .int⟩
  rw [EqSoft.soft.Pack.ev]
  show _ = some (DV.int .u64 (packI n M e))
  rw [packI_nat]
  unfold packMu at hr
  by_cases h0 : M = 0
  · subst h0
    have := signed_case (r := 0) (by decide) n
    have e0 : rung 0 e = 0 := rfl
    rw [e0]
    simpa using this
  · have b0 : ((M : Int) == 0) = false := by simp; omega
    rw [b0, cond_false]
    by_cases h1 : M = 9007199254740992
    · have b1 : leI (9007199254740992 : Int) (M : Int) = true := by rw [leI_eq]; simp; omega
      have s1 : bShr .u64 (M : Int) (1 : Int) = ((2 ^ 52 : Nat) : Int) := by
        rw [show (1 : Int) = ((1 : Nat) : Int) from rfl, bShr_nat .u64 M 1 (by decide), h1]
      have w1 : w_i64 (e + 1) = e + 1 := w_i64_in (by omega) (by omega)
      rw [if_pos (by omega)] at hr
      have p1 : packPre ((2 ^ 52 : Nat) : Int) (e + 1) = true := cdec_eq.2 (by omega)
      have p2 : cdec (packMu ((2 ^ 52 : Nat) : Int) (e + 1) < rk) = true := cdec_eq.2 (by
        unfold packMu
        rw [if_neg (by omega), if_neg (by omega)]; omega)
      rw [b1, s1, w1, p1, p2, packI_nat, h1]
      have := (rung_shift (2 ^ 52) 1 (e + 1)).1
      have e2 : e + 1 - ((1 : Nat) : Int) = e := by omega
      rw [e2] at this
      rw [← this]; rfl
    · have b1 : leI (9007199254740992 : Int) (M : Int) = false := by rw [leI_eq]; simp; omega
      rw [b1, cond_false]
      rw [if_neg (by omega)] at hr
      by_cases h2 : M < 4503599627370496
      · have b2 : ltI (M : Int) (4503599627370496 : Int) = true := by rw [ltI_eq]; simp; omega
        rw [if_pos (by omega)] at hr
        by_cases h3 : e = -1074
        · subst h3
          have b3 : ltI (-1074 : Int) (-1074) = false := by decide
          rw [b2, b3, Bool.true_and, cond_false, cond_true, rung_sub h2]
          exact signed_case (by omega) n
        · have b3 : ltI (-1074 : Int) e = true := by rw [ltI_eq]; simp; omega
          have s1 : bShl .u64 (M : Int) (1 : Int) = ((M * 2 ^ 1 : Nat) : Int) := by
            rw [show (1 : Int) = ((1 : Nat) : Int) from rfl, bShl_u64 M 1 (by decide), Nat.mod_eq_of_lt (by omega)]
          have w1 : w_i64 (e - 1) = e - 1 := w_i64_in (by omega) (by omega)
          have p1 : packPre ((M * 2 ^ 1 : Nat) : Int) (e - 1) = true := cdec_eq.2 (by omega)
          have p2 : cdec (packMu ((M * 2 ^ 1 : Nat) : Int) (e - 1) < rk) = true := cdec_eq.2 (by
            unfold packMu
            rw [if_neg (by omega)]
            split <;> omega)
          rw [b2, b3, s1, w1, p1, p2, packI_nat]
          have := (rung_shift M 1 e).1
          have e2 : e - ((1 : Nat) : Int) = e - 1 := by omega
          rw [e2] at this
          rw [this]; rfl
      · have b2 : ltI (M : Int) (4503599627370496 : Int) = false := by rw [ltI_eq]; simp; omega
        have w1 : w_i64 (e + 1075) = e + 1075 := w_i64_in (by omega) (by omega)
        rw [b2, w1, Bool.false_and, cond_false, cond_false]
        have hr := rung_norm (m := M) (e := e) (by omega) (by omega) e0
        by_cases h4 : 2047 ≤ e + 1075
        · have b4 : leI (2047 : Int) (e + 1075) = true := by rw [leI_eq]; simp; omega
          have : rung M e = 9218868437227405312 := by rw [hr, infR_eq]; omega
          rw [b4, this, cond_true]
          exact signed_case (r := 9218868437227405312) (by decide) n
        · have b4 : leI (2047 : Int) (e + 1075) = false := by rw [leI_eq]; simp; omega
          obtain ⟨E, hE⟩ : ∃ E : Nat, e + 1075 = E := ⟨(e + 1075).toNat, by omega⟩
          have s1 : bOr .u64 (bShl .u64 (w_u64 (e + 1075)) (52 : Int)) (bAnd .u64 (M : Int) (4503599627370495 : Int)) = ((rung M e : Nat) : Int) := by
            rw [hE, w_u64_in (by omega) (by omega), show (52 : Int) = ((52 : Nat) : Int) from rfl, bShl_u64 E 52 (by decide), Nat.mod_eq_of_lt (by omega),
              show (4503599627370495 : Int) = ((2 ^ 52 - 1 : Nat) : Int) from rfl, bAnd_mask 52 (by omega) (by decide), bOr_apart' (by omega) (by omega)]
            have hE2 : (e + 1074).toNat = E - 1 := by omega
            have hE3 : 1 ≤ E ∧ E ≤ 2046 := by omega
            have hM : 4503599627370496 ≤ M ∧ M < 9007199254740992 := by omega
            rw [hr, hE2]
            exact congrArg (fun (x : Nat) => (x : Int)) (pack_arith hE3.1 hE3.2 hM.1 hM.2)
          rw [b4, s1, cond_false]
          exact signed_case (rung_lt M e) n

end Go.Proofs.S1

/- soft.Near: the number nearest to a whole one times a power of two. -/
namespace Go.Proofs.S1
open Go Go.Den Go.Rnd Go.Proofs
open EqSoft

theorem two_lt {D : Nat} (h : D ≤ 63) : 2 ^ D < 2 ^ 64 := Nat.pow_lt_pow_right (by decide) (by omega)

theorem andNot_top (n : Bool) {r : Nat} (h : r < 2 ^ 63) : bAndNot .u64 ((signN n r : Nat) : Int) (9223372036854775808 : Int) = (r : Int) := by
  have hs : signN n r < 2 ^ 64 := by unfold signN; split <;> omega
  unfold bAndNot
  rw [show (9223372036854775808 : Int) = ((2 ^ 63 : Nat) : Int) from rfl, BitVec.toNat_and, BitVec.toNat_not, ofInt_nat, ofInt_nat, show IntKind.u64.bits = 64 from rfl, Nat.mod_eq_of_lt hs,
    show 2 ^ 64 - 1 - 2 ^ 63 % 2 ^ 64 = 2 ^ 63 - 1 by decide, Nat.and_two_pow_sub_one_eq_mod]
  have : signN n r % 2 ^ 63 = r := by unfold signN; cases n <;> simp <;> omega
  rw [this]
  exact u64_nat (by omega)

/-- The flags as the code finds them. -/
theorem near_flags (N : Nat) (ex n : Bool) {r : Nat} (h : r ≤ infR) : soft.Near.C18 N ex ((signN n r : Nat) : Int) = some (.tup [.int .u64 ((signN n r : Nat) : Int), .int .u8 ((flags r ex : Nat) : Int)]) := by
  have h63 : r < 2 ^ 63 := by rw [infR_eq] at h; omega
  have hs : signN n r < 2 ^ 64 := by unfold signN; split <;> omega
  rw [soft.Near.C18_eq, andNot_top n h63, inU64_of hs]
  unfold kindI flags
  rw [Int.toNat_natCast, kind_sign n h]
  have hinf : (((r : Nat) : Int) == (9218868437227405312 : Int)) = decide (r = infR) := by
    rw [infR_eq, Bool.eq_iff_iff]; simp; omega
  rw [hinf]
  by_cases h1 : r = infR
  · simp [h1]
  · by_cases h2 : 2 ^ 52 ≤ r
    · cases ex <;> simp [h1] <;> simp [show 4503599627370496 ≤ r by omega]
    · by_cases h3 : 0 < r
      · cases ex <;> simp [h1, h3] <;> simp [show ¬ 4503599627370496 ≤ r by omega]
      · cases ex <;> simp [h1, h3] <;> simp [show ¬ 4503599627370496 ≤ r by omega]

/-- The loop finds the shift. -/
theorem near_loop (N : Nat) (n : Bool) {m : Nat} {e : Int} (he : -1140 ≤ e ∧ e ≤ 50000) (r : Bool) : ∀ (k d F : Nat), d + k = 62 → k < F → (∀ d', d' < d → 2 ^ 53 ≤ m / 2 ^ d' ∨ e + d' < -1074) →
    ∃ D : Nat, soft.Near.L0 N F n m e r (d : Int) = soft.Near.C7 N n m e r (D : Int) ∧ Drop m e D := by
  intro k
  induction k with
  | zero =>
    intro d F hd hF hl
    obtain ⟨F, rfl⟩ : ∃ G, F = G + 1 := ⟨F - 1, by omega⟩
    obtain rfl : d = 62 := by omega
    rw [soft.Near.L0_step, bShr_nat .u64 m 62 (by decide), w_i64_in (by omega) (by omega), w_i64_in (by omega) (by omega), leI_eq, ltI_eq]
    have a0 : decide ((0 : Int) ≤ ((62 : Nat) : Int)) = true := by decide
    have a1 : ((((62 : Nat) : Int) + 1) == 63) = true := by decide
    rw [a0, cond_true, a1, cond_true]
    by_cases h : 2 ^ 53 ≤ m / 2 ^ 62 ∨ e + (62 : Nat) < -1074
    · refine ⟨63, ?_, by omega, by omega, fun d' hd' => ?_⟩
      · have : (decide ((9007199254740992 : Int) ≤ ((m / 2 ^ 62 : Nat) : Int)) || decide (e + ((62 : Nat) : Int) < -1074)) = true := by
          simp only [Bool.or_eq_true, decide_eq_true_eq]; omega
        rw [this]; rfl
      · rcases Nat.lt_or_ge d' 62 with h' | h'
        · exact hl d' h'
        · obtain rfl : d' = 62 := by omega
          exact h
    · refine ⟨62, ?_, by omega, fun _ => by omega, hl⟩
      have : (decide ((9007199254740992 : Int) ≤ ((m / 2 ^ 62 : Nat) : Int)) || decide (e + ((62 : Nat) : Int) < -1074)) = false := by
        simp only [Bool.or_eq_false_iff, decide_eq_false_iff_not]; omega
      rw [this]; rfl
  | succ k ih =>
    intro d F hd hF hl
    obtain ⟨F, rfl⟩ : ∃ G, F = G + 1 := ⟨F - 1, by omega⟩
    rw [soft.Near.L0_step, bShr_nat .u64 m d (by show d ≤ 64; omega), w_i64_in (by omega) (by omega), w_i64_in (by omega) (by omega), leI_eq, ltI_eq]
    have a0 : decide ((0 : Int) ≤ (d : Int)) = true := by simp
    have a1 : (((d : Int) + 1) == 63) = false := by simp; omega
    rw [a0, cond_true, a1, cond_false]
    by_cases h : 2 ^ 53 ≤ m / 2 ^ d ∨ e + d < -1074
    · have : (decide ((9007199254740992 : Int) ≤ ((m / 2 ^ d : Nat) : Int)) || decide (e + (d : Int) < -1074)) = true := by
        simp only [Bool.or_eq_true, decide_eq_true_eq]; omega
      rw [this, cond_true, show (d : Int) + 1 = ((d + 1 : Nat) : Int) by omega]
      refine ih (d + 1) F (by omega) (by omega) fun d' hd' => ?_
      rcases Nat.lt_or_ge d' d with h' | h'
      · exact hl d' h'
      · obtain rfl : d' = d := by omega
        exact h
    · refine ⟨d, ?_, by omega, fun _ => by omega, hl⟩
      have : (decide ((9007199254740992 : Int) ≤ ((m / 2 ^ d : Nat) : Int)) || decide (e + (d : Int) < -1074)) = false := by
        simp only [Bool.or_eq_false_iff, decide_eq_false_iff_not]; omega
      rw [this]; rfl

/-- Behind the loop. -/
theorem near_rest (N : Nat) (n : Bool) {m D : Nat} (hm : m < 2 ^ 64) {e : Int} (he : -1140 ≤ e ∧ e ≤ 50000) (r : Bool) (hD : D ≤ 63) (hq : (if e + D < -1074 then 0 else qOf m D r.toNat) ≤ 2 ^ 53) :
    soft.Near.C7 N n m e r (D : Int) = soft.Near.C18 N (decide (m % 2 ^ D = 0 ∧ r.toNat = 0)) ((signN n (rung (if e + D < -1074 then 0 else qOf m D r.toNat) (max (e + D) (-1074))) : Nat) : Int) := by
  have hA := pow_pos2 D
  have h2D := two_lt hD
  have hr := Nat.mod_lt m hA
  have hqm : m / 2 ^ D ≤ m := Nat.div_le_self _ _
  rw [soft.Near.C7_eq]
  have a0 : decide ((0 : Int) ≤ (D : Int)) = true := by simp
  have e1 : bShr .u64 (m : Int) (D : Int) = ((m / 2 ^ D : Nat) : Int) := bShr_nat .u64 m D (by show D ≤ 64; omega)
  have e2 : bShl .u64 (1 : Int) (D : Int) = ((2 ^ D : Nat) : Int) := by
    rw [show (1 : Int) = ((1 : Nat) : Int) from rfl, bShl_u64 1 D (by omega), Nat.one_mul, Nat.mod_eq_of_lt h2D]
  have e3 : bAnd .u64 (m : Int) (w_u64 (bShl .u64 (1 : Int) (D : Int) - (1 : Int))) = ((m % 2 ^ D : Nat) : Int) := by
    rw [e2, w_u64_in (by omega) (by omega), show ((2 ^ D : Nat) : Int) - 1 = ((2 ^ D - 1 : Nat) : Int) by omega, bAnd_mask D hm (by omega)]
  have e5 : (bif (((m % 2 ^ D : Nat) : Int) == (0 : Int)) then (!r) else false) = decide (m % 2 ^ D = 0 ∧ r.toNat = 0) := by
    by_cases h : m % 2 ^ D = 0
    · cases r <;> simp [h]
    · have : (((m % 2 ^ D : Nat) : Int) == (0 : Int)) = false := by simp only [beq_eq_false_iff_ne, ne_eq]; omega
      rw [this]; simp [h]
  rw [a0, cond_true, cond_true, e1, e3, e5, ltI_eq]
  have last : ∀ (p : Bool) (q : Nat), q ≤ 2 ^ 64 - 1 → (if e + D < -1074 then 0 else q) ≤ 2 ^ 53 → soft.Near.C14 N n e (D : Int) ((q : Nat) : Int) p = soft.Near.C18 N p ((signN n (rung (if e + D < -1074 then 0 else q) (max (e + D) (-1074))) : Nat) : Int) := by
    intro p q hq hq2
    rw [soft.Near.C14_eq, w_i64_in (by omega) (by omega), ltI_eq]
    have c16 : ∀ q' : Nat, q' ≤ 2 ^ 53 → soft.Near.C16 N n e (q' : Int) (D : Int) p = soft.Near.C18 N p ((signN n (rung q' (max (e + D) (-1074))) : Nat) : Int) := by
      intro q' hq'
      rw [soft.Near.C16_eq, w_i64_in (by omega) (by omega)]
      have : packPre (q' : Int) (max (e + (D : Int)) (-1074)) = true := cdec_eq.2 (by omega)
      rw [this, packI_nat]; rfl
    by_cases h : e + D < -1074
    · rw [if_pos h] at hq2 ⊢
      have : decide (e + (D : Int) < -1074) = true := by simpa using h
      rw [this]
      exact c16 0 hq2
    · rw [if_neg h] at hq2 ⊢
      have : decide (e + (D : Int) < -1074) = false := by simpa using h
      rw [this]
      exact c16 q hq2
  have up : ∀ (half : Nat) (hh : 0 < D → half = 2 ^ (D - 1)) (p : Bool), soft.Near.C12 N n e r (D : Int) ((m / 2 ^ D : Nat) : Int) ((m % 2 ^ D : Nat) : Int) (half : Int) p = soft.Near.C18 N p ((signN n (rung (if e + D < -1074 then 0 else qOf m D r.toNat) (max (e + D) (-1074))) : Nat) : Int) := by
    intro half hh p
    rw [soft.Near.C12_eq, ltI_eq, ltI_eq]
    have odd : (bAnd .u64 ((m / 2 ^ D : Nat) : Int) (1 : Int) == (1 : Int)) = decide (m / 2 ^ D % 2 = 1) := by
      rw [show (1 : Int) = ((2 ^ 1 - 1 : Nat) : Int) from rfl, bAnd_mask 1 (by omega) (by decide), Bool.eq_iff_iff]
      simp only [beq_iff_eq, decide_eq_true_eq]
      omega
    rw [odd]
    have test : (decide ((0 : Int) < (D : Int)) && (decide ((half : Int) < ((m % 2 ^ D : Nat) : Int)) || ((((m % 2 ^ D : Nat) : Int) == (half : Int)) && (r || decide (m / 2 ^ D % 2 = 1))))) =
        decide (0 < D ∧ (2 ^ (D - 1) < m % 2 ^ D ∨ (m % 2 ^ D = 2 ^ (D - 1) ∧ (r.toNat = 1 ∨ m / 2 ^ D % 2 = 1)))) := by
      rw [Bool.eq_iff_iff]
      generalize m % 2 ^ D = rr
      generalize m / 2 ^ D = qq
      generalize hg : 2 ^ (D - 1) = gg at hh
      by_cases h0 : 0 < D
      · have := hh h0
        subst this
        cases r <;> simp [h0] <;> omega
      · simp [h0]
    rw [test]
    by_cases ht : 0 < D ∧ (2 ^ (D - 1) < m % 2 ^ D ∨ (m % 2 ^ D = 2 ^ (D - 1) ∧ (r.toNat = 1 ∨ m / 2 ^ D % 2 = 1)))
    · have hq1 : qOf m D r.toNat = m / 2 ^ D + 1 := by unfold qOf; rw [if_pos ht]
      have hlt : m / 2 ^ D + 1 < 2 ^ 64 := by
        obtain ⟨d, rfl⟩ : ∃ d, D = d + 1 := ⟨D - 1, by omega⟩
        have h1 : m / 2 ^ (d + 1) ≤ m / 2 := Nat.div_le_div_left (by rw [Nat.pow_succ]; have := pow_pos2 d; omega) (by decide)
        omega
      rw [hq1] at hq ⊢
      rw [decide_eq_true ht, cond_true, w_u64_in (by omega) (by omega), show ((m / 2 ^ D : Nat) : Int) + 1 = ((m / 2 ^ D + 1 : Nat) : Int) by omega]
      exact last p _ (by omega) hq
    · have hq1 : qOf m D r.toNat = m / 2 ^ D := by unfold qOf; rw [if_neg ht]; rfl
      rw [hq1] at hq ⊢
      rw [decide_eq_false ht, cond_false]
      exact last p _ (by omega) hq
  rcases Nat.eq_zero_or_pos D with rfl | hpos
  · have : decide ((0 : Int) < ((0 : Nat) : Int)) = false := by decide
    rw [this, cond_false]
    exact up 0 (fun h => absurd h (by omega)) _
  · have h1 : decide ((0 : Int) < (D : Int)) = true := by simpa using hpos
    have h2 : w_i64 ((D : Int) - 1) = ((D - 1 : Nat) : Int) := by rw [w_i64_in (by omega) (by omega)]; omega
    have h3 : decide ((0 : Int) ≤ ((D - 1 : Nat) : Int)) = true := by simp
    have h4 : bShl .u64 (1 : Int) ((D - 1 : Nat) : Int) = ((2 ^ (D - 1) : Nat) : Int) := by
      rw [show (1 : Int) = ((1 : Nat) : Int) from rfl, bShl_u64 1 (D - 1) (by omega), Nat.one_mul, Nat.mod_eq_of_lt (two_lt (by omega))]
    rw [h1, cond_true, h2, h3, cond_true, h4]
    exact up _ (fun _ => rfl) _

theorem soft.Near.known : Known Tryz.prog 172 soft.Near.spec := soft.Near.known_of (.cons soft.Kind.known (.cons soft.Pack.known .nil)) fun n m e r hp => by
  obtain ⟨m0, m1, e1, e2, hr⟩ := cdec_eq.1 (show nearPre m e r = true from hp)
  obtain ⟨M, rfl⟩ : ∃ M : Nat, m = M := ⟨m.toNat, by omega⟩
  refine ⟨63, soft.Near.out [.b n, .i M, .i e, .b r], [], ?_, Wk.tupL (.cons .int (.cons .int .nil))⟩
  show _ = some (DV.tup [.int .u64 (nearBI n M e r), .int .u8 (nearFI n M e r)])
  unfold nearBI nearFI nearN
  rw [Int.toNat_natCast, soft.Near.ev]
  dsimp only
  by_cases h0 : M = 0 ∧ r = false
  · obtain ⟨rfl, rfl⟩ := h0
    have : packPre (0 : Int) (-1074) = true := cdec_eq.2 (by omega)
    have hp0 := packI_nat n 0 (-1074)
    rw [this]
    simp only [Bool.not_false, Bool.and_true, cond_true, Bool.toNat_false]
    have hz : (((0 : Nat) : Int) == 0) = true := rfl
    rw [hz, cond_true]
    have hp0 : packI n (0 : Int) (-1074) = ((signN n (rung 0 (-1074)) : Nat) : Int) := hp0
    have z : ∀ E, rung 0 E = 0 := fun E => if_pos rfl
    have z3 : ∀ E, flagsOf 0 E = 0 := fun E => if_pos rfl
    rw [hp0, z, show 4 * 0 + 0 = 0 from rfl, z, z3]
    rfl
  · have hc : ((((M : Nat) : Int) == (0 : Int)) && !r) = false := by
      cases r
      · have : M ≠ 0 := fun h => h0 ⟨h, rfl⟩
        simp; omega
      · simp
    rw [hc, cond_false]
    have he : -1140 ≤ e ∧ e ≤ 50000 := by omega
    obtain ⟨D, hl, hD⟩ := near_loop 63 n (m := M) he r 62 0 63 (by omega) (by omega) (fun d' h => by omega)
    have hs : r.toNat ≤ 1 := by cases r <;> decide
    have hV : 4 * M + r.toNat ≠ 0 := by
      intro h
      refine h0 ⟨by omega, ?_⟩
      cases r
      · rfl
      · simp at h
    obtain ⟨t1, t2, t3⟩ := near_drop hD hs hV (by omega) (by omega) (fun h => by
      have : r = true := by cases r <;> simp_all
      have := hr this
      omega)
    have hl : soft.Near.L0 63 63 n (M : Int) e r (0 : Int) = soft.Near.C7 63 n (M : Int) e r (D : Int) := hl
    rw [hl, near_rest 63 n (by omega) he r hD.le t3, ← t1, near_flags 63 _ n (rung_le _ _), t2]

end Go.Proofs.S1
