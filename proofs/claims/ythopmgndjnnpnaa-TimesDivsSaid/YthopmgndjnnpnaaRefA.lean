/- RefA of the verified evaluator and its use for this seat (of my texts S1EqRefA, S1EqRefB, S1PRefA, S1PRefAa, S1PRefB, S1PRefBa). -/
import Derived.Test.YthopmgndjnnpnaaSpe
import Derived.Test.YthopmgndjnnpnaaRef
import Derived.Test.YthopmgndjnnpnaaLim

/- The evaluator's equations: dioptraref01.limb, dioptraref01.Made, dioptraref01.Of, dioptraref01.More, dioptraref01.plus, dioptraref01.minus, dioptraref01.Add, dioptraref01.Neg, dioptraref01.Sub. Printed by denpy.py. -/
namespace Go.Proofs.S1
open Go Go.Den Go.Rnd Go.Proofs
set_option linter.unusedVariables false
set_option maxRecDepth 100000
namespace EqRefA
theorem tt0 (a b : Bool) : (bif a then b else false) = (a && b) := by cases a <;> cases b <;> rfl
theorem tt1 (a : Bool) : (((!a) || (a == true)) && true) = true := by cases a <;> rfl
theorem tt2 (a : Bool) : ((!(a == true)) || ((((!(a == true)) || (a == true)) && (((!(a == true)) || (a == true)) && true)) && true)) = true := by cases a <;> rfl
theorem tt3 (a : Bool) : ((!(a == true)) || ((((!(a == true)) || (a == true)) && true) && true)) = true := by cases a <;> rfl
theorem tt4 (a : Bool) : ((!(a == true)) || true) = true := by cases a <;> rfl
theorem tt5 (a b : Bool) : ((a && b) && true) = (a && b) := by cases a <;> cases b <;> rfl
theorem tt6 (a b c : Bool) : ((!(a == true)) || ((((!(a == true)) || (a == true)) && (((!(a == true)) || (a == true)) && true)) && (b && c))) = ((!a) || (b && c)) := by cases a <;> cases b <;> cases c <;> rfl
theorem tt7 (a : Bool) : (a && true) = a := by cases a <;> rfl
noncomputable def ref01.limb.tab : List (Nat × Entry) := []
noncomputable def ref01.limb.E : Env := envOf (tabOf ref01.limb.tab) (fun _ => false) (fun _ => none) (fun _ => none)
theorem ref01.limb.ev (N : Nat) (l : List Int) (i : Int) : funD ref01.limb.E N Try.f96 (bodyOf Try.f96) [.ints .arg .u32 l, .int .i64 i] =
  bif ((leI (0 : Int) i) && (ltI i (List.length l : Int))) then
    bif ((decide (0 ≤ i)) && (decide (i < (List.length l : Int)))) then
      some (.int .u64 (w_u64 (List.getD l (Int.toNat i) 0)))
    else none
  else some (.int .u64 (0 : Int)) :=
  Eq.trans (b := bif ((!((leI (0 : Int) i) == true)) || true) then
    bif ((!((leI (0 : Int) i) == true)) || true) then
      bif ((!((leI (0 : Int) i) == true)) || ((((!((leI (0 : Int) i) == true)) || ((leI (0 : Int) i) == true)) && true) && true)) then
        bif ((!((leI (0 : Int) i) == true)) || ((((!((leI (0 : Int) i) == true)) || ((leI (0 : Int) i) == true)) && (((!((leI (0 : Int) i) == true)) || ((leI (0 : Int) i) == true)) && true)) && true)) then
          bif (((!(leI (0 : Int) i)) || ((leI (0 : Int) i) == true)) && true) then
            bif (bif (leI (0 : Int) i) then (ltI i (List.length l : Int)) else false) then
              bif ((decide (0 ≤ i)) && (decide (i < (List.length l : Int)))) then
                some (.int .u64 (w_u64 (List.getD l (Int.toNat i) 0)))
              else none
            else some (.int .u64 (0 : Int))
          else none
        else none
      else none
    else none
  else none) (by kernel_rfl)
  (ifT (tt4 _) (ifT (tt4 _) (ifT (tt3 _) (ifT (tt2 _) (ifT (tt1 _) (ifS (tt0 _ _) rfl rfl))))))
theorem ref01.limb.known_of (hk : Knowns Try.prog ref01.limb.tab) (h : ∀ (l : List Int) (i : Int), ref01.limb.pre [.l l, .i i] = true → ∃ N dv drops, funD ref01.limb.E N Try.f96 (bodyOf Try.f96) [.ints .arg .u32 l, .int .i64 i] = some dv ∧ Wk drops dv (ref01.limb.out [.l l, .i i])) : Known Try.prog 96 ref01.limb.spec := by
  refine ⟨meets_entry (E := ref01.limb.E) (env_ok hk _ _ _) Try.func96 (show Try.f96.body = some (bodyOf Try.f96) by kernel_rfl) fun ats dvs he hp => ?_, call_enter Try.func96 (by kernel_rfl) (show Try.f96.body = some (bodyOf Try.f96) by kernel_rfl)⟩
  obtain ⟨l, _, _, rfl, rfl, he0⟩ := he.s_inv
  obtain ⟨i, _, _, rfl, rfl, he1⟩ := he0.i_inv
  obtain ⟨rfl, rfl⟩ := he1.nil_inv
  exact h l i hp

def ref01.Made.hint : Nat → Option LoopHint
  | 0 => some { keep := [0, 1, 4, 5], objs := [], boxes := [4] }
  | _ => none
noncomputable def ref01.Made.tab : List (Nat × Entry) := []
noncomputable def ref01.Made.E : Env := envOf (tabOf ref01.Made.tab) (fun _ => false) ref01.Made.hint (fun _ => none)
noncomputable def ref01.Made.L0 (N M : Nat) (n : Bool) (l : List Int) (p5 : Int) : Option DV := loopAt ref01.Made.E N Try.f73 (bodyOf Try.f73) [1, 1, 0, 0] [] M ⟨mkT 28 [(0, .bool n), (1, .ints .arg .u32 l), (4, .ptr 4 0 0), (5, .int .i64 p5)], [(4, false, .box [.bool false, .nil])]⟩
theorem ref01.Made.L0_step (N M : Nat) (n : Bool) (l : List Int) (p5 : Int) : ref01.Made.L0 N (M + 1) n l p5 =
  bif ((!(ltI (0 : Int) p5)) || ((decide (0 ≤ (w_i64 (p5 - (1 : Int))))) && (decide ((w_i64 (p5 - (1 : Int))) < (List.length l : Int))))) then
    bif ((ltI (0 : Int) p5) && ((List.getD l (Int.toNat (w_i64 (p5 - (1 : Int)))) 0) == (0 : Int))) then
      ref01.Made.L0 N M n l (w_i64 (p5 - (1 : Int)))
    else bif (p5 == (0 : Int)) then
      some (.agg [.bool false, .nil])
    else bif ((decide ((0 : Int) ≤ p5)) && (decide (p5 ≤ (List.length l : Int)))) then
      some (.agg [.bool n, .ints .arg .u32 (List.take (Int.toNat p5) l)])
    else none
  else none :=
  Eq.trans (b := bif ((!((ltI (0 : Int) p5) == true)) || true) then
    bif ((!((ltI (0 : Int) p5) == true)) || true) then
      bif ((!((ltI (0 : Int) p5) == true)) || ((((!((ltI (0 : Int) p5) == true)) || ((ltI (0 : Int) p5) == true)) && true) && true)) then
        bif ((!((ltI (0 : Int) p5) == true)) || ((((!((ltI (0 : Int) p5) == true)) || ((ltI (0 : Int) p5) == true)) && (((!((ltI (0 : Int) p5) == true)) || ((ltI (0 : Int) p5) == true)) && true)) && ((decide (0 ≤ (w_i64 (p5 - (1 : Int))))) && (decide ((w_i64 (p5 - (1 : Int))) < (List.length l : Int)))))) then
          bif ((!((ltI (0 : Int) p5) == true)) || ((((!((ltI (0 : Int) p5) == true)) || ((ltI (0 : Int) p5) == true)) && true) && true)) then
            bif ((!((ltI (0 : Int) p5) == true)) || ((((!((ltI (0 : Int) p5) == true)) || ((ltI (0 : Int) p5) == true)) && true) && true)) then
              bif (((!(ltI (0 : Int) p5)) || ((ltI (0 : Int) p5) == true)) && true) then
                bif (bif (ltI (0 : Int) p5) then ((List.getD l (Int.toNat (w_i64 (p5 - (1 : Int)))) 0) == (0 : Int)) else false) then
                  ref01.Made.L0 N M n l (w_i64 (p5 - (1 : Int)))
                else bif (p5 == (0 : Int)) then
                  some (.agg [.bool false, .nil])
                else bif (((decide ((0 : Int) ≤ p5)) && (decide (p5 ≤ (List.length l : Int)))) && true) then
                  some (.agg [.bool n, .ints .arg .u32 (List.take (Int.toNat p5) l)])
                else none
              else none
            else none
          else none
        else none
      else none
    else none
  else none) (by kernel_rfl)
  (ifT (tt4 _) (ifT (tt4 _) (ifT (tt3 _) (ifS (tt6 _ _ _) (ifT (tt3 _) (ifT (tt3 _) (ifT (tt1 _) (ifS (tt0 _ _) rfl (ifE rfl (ifS (tt5 _ _) rfl rfl)))))) rfl))))
theorem ref01.Made.ev (N : Nat) (n : Bool) (l : List Int) : funD ref01.Made.E N Try.f73 (bodyOf Try.f73) [.bool n, .ints .arg .u32 l] =
  ref01.Made.L0 N N n l (List.length l : Int) := by kernel_rfl
theorem ref01.Made.known_of (hk : Knowns Try.prog ref01.Made.tab) (h : ∀ (n : Bool) (l : List Int), ref01.Made.pre [.b n, .l l] = true → ∃ N dv drops, funD ref01.Made.E N Try.f73 (bodyOf Try.f73) [.bool n, .ints .arg .u32 l] = some dv ∧ Wk drops dv (ref01.Made.out [.b n, .l l])) : Known Try.prog 73 ref01.Made.spec := by
  refine ⟨meets_entry (E := ref01.Made.E) (env_ok hk _ _ _) Try.func73 (show Try.f73.body = some (bodyOf Try.f73) by kernel_rfl) fun ats dvs he hp => ?_, call_enter Try.func73 (by kernel_rfl) (show Try.f73.body = some (bodyOf Try.f73) by kernel_rfl)⟩
  obtain ⟨n, _, _, rfl, rfl, he0⟩ := he.b_inv
  obtain ⟨l, _, _, rfl, rfl, he1⟩ := he0.s_inv
  obtain ⟨rfl, rfl⟩ := he1.nil_inv
  exact h n l hp

noncomputable def ref01.Of.tab : List (Nat × Entry) := [(73, ref01.Made.spec)]
noncomputable def ref01.Of.E : Env := envOf (tabOf ref01.Of.tab) (fun _ => false) (fun _ => none) (fun _ => none)
theorem ref01.Of.ev (N : Nat) (n : Int) : funD ref01.Of.E N Try.f55 (bodyOf Try.f55) [.int .i64 n] =
  bif (ltI n (0 : Int)) then
    bif (okL [(w_u32 (Int.tmod (w_u64 ((w_u64 (w_i64 (0 - (w_i64 (n + (1 : Int)))))) + (1 : Int))) (4294967296 : Int))), (w_u32 (w_u64 (Int.tdiv (w_u64 ((w_u64 (w_i64 (0 - (w_i64 (n + (1 : Int)))))) + (1 : Int))) (4294967296 : Int))))]) then
      some (.agg [.bool (negW (wv true [(w_u32 (Int.tmod (w_u64 ((w_u64 (w_i64 (0 - (w_i64 (n + (1 : Int)))))) + (1 : Int))) (4294967296 : Int))), (w_u32 (w_u64 (Int.tdiv (w_u64 ((w_u64 (w_i64 (0 - (w_i64 (n + (1 : Int)))))) + (1 : Int))) (4294967296 : Int))))])), .ints .arg .u32 (limbsI (wv true [(w_u32 (Int.tmod (w_u64 ((w_u64 (w_i64 (0 - (w_i64 (n + (1 : Int)))))) + (1 : Int))) (4294967296 : Int))), (w_u32 (w_u64 (Int.tdiv (w_u64 ((w_u64 (w_i64 (0 - (w_i64 (n + (1 : Int)))))) + (1 : Int))) (4294967296 : Int))))]))])
    else none
  else bif (okL [(w_u32 (Int.tmod n (4294967296 : Int))), (w_u32 (w_i64 (Int.tdiv n (4294967296 : Int))))]) then
    some (.agg [.bool (negW (wv false [(w_u32 (Int.tmod n (4294967296 : Int))), (w_u32 (w_i64 (Int.tdiv n (4294967296 : Int))))])), .ints .arg .u32 (limbsI (wv false [(w_u32 (Int.tmod n (4294967296 : Int))), (w_u32 (w_i64 (Int.tdiv n (4294967296 : Int))))]))])
  else none := by kernel_rfl
theorem ref01.Of.known_of (hk : Knowns Try.prog ref01.Of.tab) (h : ∀ (n : Int), ref01.Of.pre [.i n] = true → ∃ N dv drops, funD ref01.Of.E N Try.f55 (bodyOf Try.f55) [.int .i64 n] = some dv ∧ Wk drops dv (ref01.Of.out [.i n])) : Known Try.prog 55 ref01.Of.spec := by
  refine ⟨meets_entry (E := ref01.Of.E) (env_ok hk _ _ _) Try.func55 (show Try.f55.body = some (bodyOf Try.f55) by kernel_rfl) fun ats dvs he hp => ?_, call_enter Try.func55 (by kernel_rfl) (show Try.f55.body = some (bodyOf Try.f55) by kernel_rfl)⟩
  obtain ⟨n, _, _, rfl, rfl, he0⟩ := he.i_inv
  obtain ⟨rfl, rfl⟩ := he0.nil_inv
  exact h n hp

def ref01.More.hint : Nat → Option LoopHint
  | 0 => some { keep := [0, 1, 5], objs := [], boxes := [] }
  | _ => none
noncomputable def ref01.More.tab : List (Nat × Entry) := [(96, ref01.limb.spec)]
noncomputable def ref01.More.E : Env := envOf (tabOf ref01.More.tab) (fun _ => false) ref01.More.hint (fun _ => none)
noncomputable def ref01.More.L0 (N M : Nat) (a : List Int) (b : List Int) (p5 : Int) : Option DV := loopAt ref01.More.E N Try.f92 (bodyOf Try.f92) [1, 0, 1, 0] [] M ⟨mkT 29 [(0, .ints .arg .u32 a), (1, .ints .arg .u32 b), (5, .int .i64 p5)], []⟩
theorem ref01.More.L0_step (N M : Nat) (a : List Int) (b : List Int) (p5 : Int) : ref01.More.L0 N (M + 1) a b p5 =
  bif (leI (0 : Int) p5) then
    bif (okL a) then
      bif (okL b) then
        bif (ltI (limbAt a p5) (limbAt b p5)) then
          some (.int .i64 (-1 : Int))
        else bif (okL a) then
          bif (okL b) then
            bif (ltI (limbAt b p5) (limbAt a p5)) then
              some (.int .i64 (1 : Int))
            else ref01.More.L0 N M a b (w_i64 (p5 - (1 : Int)))
          else none
        else none
      else none
    else none
  else some (.int .i64 (0 : Int)) := by kernel_rfl
theorem ref01.More.ev (N : Nat) (a : List Int) (b : List Int) : funD ref01.More.E N Try.f92 (bodyOf Try.f92) [.ints .arg .u32 a, .ints .arg .u32 b] =
  ref01.More.L0 N N a b (max (List.length a : Int) (List.length b : Int)) := by kernel_rfl
theorem ref01.More.known_of (hk : Knowns Try.prog ref01.More.tab) (h : ∀ (a : List Int) (b : List Int), ref01.More.pre [.l a, .l b] = true → ∃ N dv drops, funD ref01.More.E N Try.f92 (bodyOf Try.f92) [.ints .arg .u32 a, .ints .arg .u32 b] = some dv ∧ Wk drops dv (ref01.More.out [.l a, .l b])) : Known Try.prog 92 ref01.More.spec := by
  refine ⟨meets_entry (E := ref01.More.E) (env_ok hk _ _ _) Try.func92 (show Try.f92.body = some (bodyOf Try.f92) by kernel_rfl) fun ats dvs he hp => ?_, call_enter Try.func92 (by kernel_rfl) (show Try.f92.body = some (bodyOf Try.f92) by kernel_rfl)⟩
  obtain ⟨a, _, _, rfl, rfl, he0⟩ := he.s_inv
  obtain ⟨b, _, _, rfl, rfl, he1⟩ := he0.s_inv
  obtain ⟨rfl, rfl⟩ := he1.nil_inv
  exact h a b hp

def ref01.plus.hint : Nat → Option LoopHint
  | 0 => some { keep := [0, 1, 5, 6, 7], objs := [(0, 5, 100005, .ints 84 .u32 [])], boxes := [] }
  | _ => none
noncomputable def ref01.plus.tab : List (Nat × Entry) := [(96, ref01.limb.spec)]
noncomputable def ref01.plus.E : Env := envOf (tabOf ref01.plus.tab) (fun _ => false) ref01.plus.hint (fun _ => none)
noncomputable def ref01.plus.L0 (N M : Nat) (a : List Int) (b : List Int) (p6 : Int) (p7 : Int) (p5 : List Int) : Option DV := loopAt ref01.plus.E N Try.f91 (bodyOf Try.f91) [1, 1, 1, 0, 1, 0] [] M ⟨mkT 37 [(0, .ints .arg .u32 a), (1, .ints .arg .u32 b), (5, .oref 100005), (6, .int .u64 p6), (7, .int .i64 p7)], [(100005, false, .ints 84 .u32 p5)]⟩
theorem ref01.plus.L0_step (N M : Nat) (a : List Int) (b : List Int) (p6 : Int) (p7 : Int) (p5 : List Int) : ref01.plus.L0 N (M + 1) a b p6 p7 p5 =
  bif (leI p7 (max (List.length a : Int) (List.length b : Int))) then
    bif (okL a) then
      bif (okL b) then
        bif (decide ((List.length p5) + 1 ≤ lim)) then
          ref01.plus.L0 N M a b (w_u64 (Int.tdiv (w_u64 ((w_u64 ((limbAt a p7) + (limbAt b p7))) + p6)) (4294967296 : Int))) (w_i64 (p7 + (1 : Int))) (p5 ++ [(w_u32 (Int.tmod (w_u64 ((w_u64 ((limbAt a p7) + (limbAt b p7))) + p6)) (4294967296 : Int)))])
        else none
      else none
    else none
  else some (.ints (.own 100005 84) .u32 p5) := by kernel_rfl
theorem ref01.plus.ev (N : Nat) (a : List Int) (b : List Int) : funD ref01.plus.E N Try.f91 (bodyOf Try.f91) [.ints .arg .u32 a, .ints .arg .u32 b] =
  ref01.plus.L0 N N a b (0 : Int) (0 : Int) [] := by kernel_rfl
theorem ref01.plus.known_of (hk : Knowns Try.prog ref01.plus.tab) (h : ∀ (a : List Int) (b : List Int), ref01.plus.pre [.l a, .l b] = true → ∃ N dv drops, funD ref01.plus.E N Try.f91 (bodyOf Try.f91) [.ints .arg .u32 a, .ints .arg .u32 b] = some dv ∧ Wk drops dv (ref01.plus.out [.l a, .l b])) : Known Try.prog 91 ref01.plus.spec := by
  refine ⟨meets_entry (E := ref01.plus.E) (env_ok hk _ _ _) Try.func91 (show Try.f91.body = some (bodyOf Try.f91) by kernel_rfl) fun ats dvs he hp => ?_, call_enter Try.func91 (by kernel_rfl) (show Try.f91.body = some (bodyOf Try.f91) by kernel_rfl)⟩
  obtain ⟨a, _, _, rfl, rfl, he0⟩ := he.s_inv
  obtain ⟨b, _, _, rfl, rfl, he1⟩ := he0.s_inv
  obtain ⟨rfl, rfl⟩ := he1.nil_inv
  exact h a b hp

def ref01.minus.hint : Nat → Option LoopHint
  | 0 => some { keep := [0, 1, 5, 6, 7], objs := [(0, 5, 100005, .ints 84 .u32 [])], boxes := [] }
  | _ => none
noncomputable def ref01.minus.tab : List (Nat × Entry) := [(96, ref01.limb.spec)]
noncomputable def ref01.minus.E : Env := envOf (tabOf ref01.minus.tab) (fun _ => false) ref01.minus.hint (fun _ => none)
noncomputable def ref01.minus.L0 (N M : Nat) (a : List Int) (b : List Int) (p6 : Int) (p7 : Int) (p5 : List Int) : Option DV := loopAt ref01.minus.E N Try.f93 (bodyOf Try.f93) [1, 1, 1, 0, 1, 0] [] M ⟨mkT 36 [(0, .ints .arg .u32 a), (1, .ints .arg .u32 b), (5, .oref 100005), (6, .int .u64 p6), (7, .int .i64 p7)], [(100005, false, .ints 84 .u32 p5)]⟩
theorem ref01.minus.L0_step (N M : Nat) (a : List Int) (b : List Int) (p6 : Int) (p7 : Int) (p5 : List Int) : ref01.minus.L0 N (M + 1) a b p6 p7 p5 =
  bif (ltI p7 (List.length a : Int)) then
    bif (okL a) then
      bif (okL b) then
        bif (decide ((List.length p5) + 1 ≤ lim)) then
          ref01.minus.L0 N M a b (w_u64 ((1 : Int) - (w_u64 (Int.tdiv (w_u64 ((w_u64 ((w_u64 ((4294967296 : Int) + (limbAt a p7))) - (limbAt b p7))) - p6)) (4294967296 : Int))))) (w_i64 (p7 + (1 : Int))) (p5 ++ [(w_u32 (Int.tmod (w_u64 ((w_u64 ((w_u64 ((4294967296 : Int) + (limbAt a p7))) - (limbAt b p7))) - p6)) (4294967296 : Int)))])
        else none
      else none
    else none
  else some (.ints (.own 100005 84) .u32 p5) := by kernel_rfl
theorem ref01.minus.ev (N : Nat) (a : List Int) (b : List Int) : funD ref01.minus.E N Try.f93 (bodyOf Try.f93) [.ints .arg .u32 a, .ints .arg .u32 b] =
  ref01.minus.L0 N N a b (0 : Int) (0 : Int) [] := by kernel_rfl
theorem ref01.minus.known_of (hk : Knowns Try.prog ref01.minus.tab) (h : ∀ (a : List Int) (b : List Int), ref01.minus.pre [.l a, .l b] = true → ∃ N dv drops, funD ref01.minus.E N Try.f93 (bodyOf Try.f93) [.ints .arg .u32 a, .ints .arg .u32 b] = some dv ∧ Wk drops dv (ref01.minus.out [.l a, .l b])) : Known Try.prog 93 ref01.minus.spec := by
  refine ⟨meets_entry (E := ref01.minus.E) (env_ok hk _ _ _) Try.func93 (show Try.f93.body = some (bodyOf Try.f93) by kernel_rfl) fun ats dvs he hp => ?_, call_enter Try.func93 (by kernel_rfl) (show Try.f93.body = some (bodyOf Try.f93) by kernel_rfl)⟩
  obtain ⟨a, _, _, rfl, rfl, he0⟩ := he.s_inv
  obtain ⟨b, _, _, rfl, rfl, he1⟩ := he0.s_inv
  obtain ⟨rfl, rfl⟩ := he1.nil_inv
  exact h a b hp

noncomputable def ref01.Add.tab : List (Nat × Entry) := [(73, ref01.Made.spec), (91, ref01.plus.spec), (92, ref01.More.spec), (93, ref01.minus.spec)]
noncomputable def ref01.Add.E : Env := envOf (tabOf ref01.Add.tab) (fun _ => false) (fun _ => none) (fun _ => none)
theorem ref01.Add.ev (N : Nat) (n : Bool) (a : List Int) (m : Bool) (b : List Int) : funD ref01.Add.E N Try.f72 (bodyOf Try.f72) [.agg [.bool n, .ints .arg .u32 a], .agg [.bool m, .ints .arg .u32 b]] =
  bif (n == m) then
    bif (okL a && okL b) then
      bif (okL (plusL a b)) then
        some (.agg [.bool (negW (wv n (plusL a b))), .ints .arg .u32 (limbsI (wv n (plusL a b)))])
      else none
    else none
  else bif (okL a && okL b) then
    bif (ltI (cmpN (valL a) (valL b)) (0 : Int)) then
      bif ((okL b && okL a) && leL a b) then
        bif (okL (minusL b a)) then
          some (.agg [.bool (negW (wv m (minusL b a))), .ints .arg .u32 (limbsI (wv m (minusL b a)))])
        else none
      else none
    else bif ((okL a && okL b) && leL b a) then
      bif (okL (minusL a b)) then
        some (.agg [.bool (negW (wv n (minusL a b))), .ints .arg .u32 (limbsI (wv n (minusL a b)))])
      else none
    else none
  else none :=
  Eq.trans (b := bif (n == m) then
    bif ((okL a && okL b) && true) then
      bif ((okL (plusL a b)) && true) then
        some (.agg [.bool (negW (wv n (plusL a b))), .ints .arg .u32 (limbsI (wv n (plusL a b)))])
      else none
    else none
  else bif (okL a && okL b) then
    bif (ltI (cmpN (valL a) (valL b)) (0 : Int)) then
      bif (((okL b && okL a) && leL a b) && true) then
        bif ((okL (minusL b a)) && true) then
          some (.agg [.bool (negW (wv m (minusL b a))), .ints .arg .u32 (limbsI (wv m (minusL b a)))])
        else none
      else none
    else bif (((okL a && okL b) && leL b a) && true) then
      bif ((okL (minusL a b)) && true) then
        some (.agg [.bool (negW (wv n (minusL a b))), .ints .arg .u32 (limbsI (wv n (minusL a b)))])
      else none
    else none
  else none) (by kernel_rfl)
  (ifE (ifS (tt7 _) (ifS (tt7 _) rfl rfl) rfl) (ifE (ifE (ifS (tt7 _) (ifS (tt7 _) rfl rfl) rfl) (ifS (tt7 _) (ifS (tt7 _) rfl rfl) rfl)) rfl))
theorem ref01.Add.known_of (hk : Knowns Try.prog ref01.Add.tab) (h : ∀ (n : Bool) (a : List Int) (m : Bool) (b : List Int), ref01.Add.pre [.b n, .l a, .b m, .l b] = true → ∃ N dv drops, funD ref01.Add.E N Try.f72 (bodyOf Try.f72) [.agg [.bool n, .ints .arg .u32 a], .agg [.bool m, .ints .arg .u32 b]] = some dv ∧ Wk drops dv (ref01.Add.out [.b n, .l a, .b m, .l b])) : Known Try.prog 72 ref01.Add.spec := by
  refine ⟨meets_entry (E := ref01.Add.E) (env_ok hk _ _ _) Try.func72 (show Try.f72.body = some (bodyOf Try.f72) by kernel_rfl) fun ats dvs he hp => ?_, call_enter Try.func72 (by kernel_rfl) (show Try.f72.body = some (bodyOf Try.f72) by kernel_rfl)⟩
  obtain ⟨_, _, _, _, rfl, rfl, hs0, he0⟩ := he.st_inv
  obtain ⟨n, _, _, rfl, rfl, he1⟩ := hs0.b_inv
  obtain ⟨a, _, _, rfl, rfl, he2⟩ := he1.s_inv
  obtain ⟨rfl, rfl⟩ := he2.nil_inv
  obtain ⟨_, _, _, _, rfl, rfl, hs3, he3⟩ := he0.st_inv
  obtain ⟨m, _, _, rfl, rfl, he4⟩ := hs3.b_inv
  obtain ⟨b, _, _, rfl, rfl, he5⟩ := he4.s_inv
  obtain ⟨rfl, rfl⟩ := he5.nil_inv
  obtain ⟨rfl, rfl⟩ := he3.nil_inv
  exact h n a m b hp

noncomputable def ref01.Neg.tab : List (Nat × Entry) := [(73, ref01.Made.spec)]
noncomputable def ref01.Neg.E : Env := envOf (tabOf ref01.Neg.tab) (fun _ => false) (fun _ => none) (fun _ => none)
theorem ref01.Neg.ev (N : Nat) (n : Bool) (a : List Int) : funD ref01.Neg.E N Try.f56 (bodyOf Try.f56) [.agg [.bool n, .ints .arg .u32 a]] =
  bif (okL a) then
    some (.agg [.bool (negW (wv (!n) a)), .ints .arg .u32 (limbsI (wv (!n) a))])
  else none := by kernel_rfl
theorem ref01.Neg.known_of (hk : Knowns Try.prog ref01.Neg.tab) (h : ∀ (n : Bool) (a : List Int), ref01.Neg.pre [.b n, .l a] = true → ∃ N dv drops, funD ref01.Neg.E N Try.f56 (bodyOf Try.f56) [.agg [.bool n, .ints .arg .u32 a]] = some dv ∧ Wk drops dv (ref01.Neg.out [.b n, .l a])) : Known Try.prog 56 ref01.Neg.spec := by
  refine ⟨meets_entry (E := ref01.Neg.E) (env_ok hk _ _ _) Try.func56 (show Try.f56.body = some (bodyOf Try.f56) by kernel_rfl) fun ats dvs he hp => ?_, call_enter Try.func56 (by kernel_rfl) (show Try.f56.body = some (bodyOf Try.f56) by kernel_rfl)⟩
  obtain ⟨_, _, _, _, rfl, rfl, hs0, he0⟩ := he.st_inv
  obtain ⟨n, _, _, rfl, rfl, he1⟩ := hs0.b_inv
  obtain ⟨a, _, _, rfl, rfl, he2⟩ := he1.s_inv
  obtain ⟨rfl, rfl⟩ := he2.nil_inv
  obtain ⟨rfl, rfl⟩ := he0.nil_inv
  exact h n a hp

noncomputable def ref01.Sub.tab : List (Nat × Entry) := [(56, ref01.Neg.spec), (72, ref01.Add.spec)]
noncomputable def ref01.Sub.E : Env := envOf (tabOf ref01.Sub.tab) (fun _ => false) (fun _ => none) (fun _ => none)
theorem ref01.Sub.ev (N : Nat) (n : Bool) (a : List Int) (m : Bool) (b : List Int) : funD ref01.Sub.E N Try.f90 (bodyOf Try.f90) [.agg [.bool n, .ints .arg .u32 a], .agg [.bool m, .ints .arg .u32 b]] =
  bif (okW m b) then
    bif (okW n a && okW (negW (- wv m b)) (limbsI (- wv m b))) then
      some (.agg [.bool (negW (wv n a + wv (negW (- wv m b)) (limbsI (- wv m b)))), .ints .arg .u32 (limbsI (wv n a + wv (negW (- wv m b)) (limbsI (- wv m b))))])
    else none
  else none :=
  Eq.trans (b := bif ((okW m b) && true) then
    bif ((okW n a && okW (negW (- wv m b)) (limbsI (- wv m b))) && true) then
      some (.agg [.bool (negW (wv n a + wv (negW (- wv m b)) (limbsI (- wv m b)))), .ints .arg .u32 (limbsI (wv n a + wv (negW (- wv m b)) (limbsI (- wv m b))))])
    else none
  else none) (by kernel_rfl)
  (ifS (tt7 _) (ifS (tt7 _) rfl rfl) rfl)
theorem ref01.Sub.known_of (hk : Knowns Try.prog ref01.Sub.tab) (h : ∀ (n : Bool) (a : List Int) (m : Bool) (b : List Int), ref01.Sub.pre [.b n, .l a, .b m, .l b] = true → ∃ N dv drops, funD ref01.Sub.E N Try.f90 (bodyOf Try.f90) [.agg [.bool n, .ints .arg .u32 a], .agg [.bool m, .ints .arg .u32 b]] = some dv ∧ Wk drops dv (ref01.Sub.out [.b n, .l a, .b m, .l b])) : Known Try.prog 90 ref01.Sub.spec := by
  refine ⟨meets_entry (E := ref01.Sub.E) (env_ok hk _ _ _) Try.func90 (show Try.f90.body = some (bodyOf Try.f90) by kernel_rfl) fun ats dvs he hp => ?_, call_enter Try.func90 (by kernel_rfl) (show Try.f90.body = some (bodyOf Try.f90) by kernel_rfl)⟩
  obtain ⟨_, _, _, _, rfl, rfl, hs0, he0⟩ := he.st_inv
  obtain ⟨n, _, _, rfl, rfl, he1⟩ := hs0.b_inv
  obtain ⟨a, _, _, rfl, rfl, he2⟩ := he1.s_inv
  obtain ⟨rfl, rfl⟩ := he2.nil_inv
  obtain ⟨_, _, _, _, rfl, rfl, hs3, he3⟩ := he0.st_inv
  obtain ⟨m, _, _, rfl, rfl, he4⟩ := hs3.b_inv
  obtain ⟨b, _, _, rfl, rfl, he5⟩ := he4.s_inv
  obtain ⟨rfl, rfl⟩ := he5.nil_inv
  obtain ⟨rfl, rfl⟩ := he3.nil_inv
  exact h n a m b hp
end EqRefA
end Go.Proofs.S1

/- The evaluator's equations: dioptraref01.Double, dioptraref01.Half, dioptraref01.Shift, dioptraref01.Compare, dioptraref01.Len, dioptraref01.Odd, dioptraref01.Same. Printed by denpy.py. -/
namespace Go.Proofs.S1
open Go Go.Den Go.Rnd Go.Proofs
set_option linter.unusedVariables false
set_option maxRecDepth 100000
namespace EqRefB
theorem tt0 (a : Bool) : (a && true) = a := by cases a <;> rfl
theorem tt1 (a b : Bool) : ((a && b) && true) = (a && b) := by cases a <;> cases b <;> rfl
theorem tt2 (a b : Bool) : (bif a then b else false) = (a && b) := by cases a <;> cases b <;> rfl
theorem tt3 (a : Bool) : (((!a) || (a == true)) && true) = true := by cases a <;> rfl
theorem tt4 (a : Bool) : ((!(a == true)) || ((((!(a == true)) || (a == true)) && true) && true)) = true := by cases a <;> rfl
theorem tt5 (a : Bool) : ((!(a == true)) || true) = true := by cases a <;> rfl
theorem tt6 (a : Bool) : (((a && true) && true) && true) = a := by cases a <;> rfl
theorem tt7 (a b : Bool) : ((!(a == true)) || ((((!(a == true)) || (a == true)) && true) && b)) = ((!a) || b) := by cases a <;> cases b <;> rfl
theorem tt8 (a b c : Bool) : (bif (!(a == b)) then true else c) = ((!(a == b)) || c) := by cases a <;> cases b <;> cases c <;> rfl
theorem tt9 (a b : Bool) : ((!(!(!(a == b)))) || ((!(a == b)) == false)) = true := by cases a <;> cases b <;> rfl
theorem tt10 (a b : Bool) : ((!((!(a == b)) == false)) || ((((!((!(a == b)) == false)) || ((!(a == b)) == false)) && (((!((!(a == b)) == false)) || ((!(a == b)) == false)) && true)) && true)) = true := by cases a <;> cases b <;> rfl
theorem tt11 (a b : Bool) : ((!((!(a == b)) == false)) || ((((!((!(a == b)) == false)) || ((!(a == b)) == false)) && true) && true)) = true := by cases a <;> cases b <;> rfl
theorem tt12 (a b : Bool) : ((!((!(a == b)) == false)) || true) = true := by cases a <;> cases b <;> rfl
noncomputable def ref01.Double.tab : List (Nat × Entry) := [(73, ref01.Made.spec), (91, ref01.plus.spec)]
noncomputable def ref01.Double.E : Env := envOf (tabOf ref01.Double.tab) (fun _ => false) (fun _ => none) (fun _ => none)
theorem ref01.Double.ev (N : Nat) (n : Bool) (a : List Int) : funD ref01.Double.E N Try.f71 (bodyOf Try.f71) [.agg [.bool n, .ints .arg .u32 a]] =
  bif (okL a && okL a) then
    bif (okL (plusL a a)) then
      some (.agg [.bool (negW (wv n (plusL a a))), .ints .arg .u32 (limbsI (wv n (plusL a a)))])
    else none
  else none :=
  Eq.trans (b := bif ((okL a && okL a) && true) then
    bif ((okL (plusL a a)) && true) then
      some (.agg [.bool (negW (wv n (plusL a a))), .ints .arg .u32 (limbsI (wv n (plusL a a)))])
    else none
  else none) (by kernel_rfl)
  (ifS (tt0 _) (ifS (tt0 _) rfl rfl) rfl)
theorem ref01.Double.known_of (hk : Knowns Try.prog ref01.Double.tab) (h : ∀ (n : Bool) (a : List Int), ref01.Double.pre [.b n, .l a] = true → ∃ N dv drops, funD ref01.Double.E N Try.f71 (bodyOf Try.f71) [.agg [.bool n, .ints .arg .u32 a]] = some dv ∧ Wk drops dv (ref01.Double.out [.b n, .l a])) : Known Try.prog 71 ref01.Double.spec := by
  refine ⟨meets_entry (E := ref01.Double.E) (env_ok hk _ _ _) Try.func71 (show Try.f71.body = some (bodyOf Try.f71) by kernel_rfl) fun ats dvs he hp => ?_, call_enter Try.func71 (by kernel_rfl) (show Try.f71.body = some (bodyOf Try.f71) by kernel_rfl)⟩
  obtain ⟨_, _, _, _, rfl, rfl, hs0, he0⟩ := he.st_inv
  obtain ⟨n, _, _, rfl, rfl, he1⟩ := hs0.b_inv
  obtain ⟨a, _, _, rfl, rfl, he2⟩ := he1.s_inv
  obtain ⟨rfl, rfl⟩ := he2.nil_inv
  obtain ⟨rfl, rfl⟩ := he0.nil_inv
  exact h n a hp

def ref01.Half.hint : Nat → Option LoopHint
  | 0 => some { keep := [1, 2, 3, 4], objs := [(0, 3, 100003, .ints 84 .u32 [])], boxes := [1, 2] }
  | _ => none
noncomputable def ref01.Half.tab : List (Nat × Entry) := [(73, ref01.Made.spec), (96, ref01.limb.spec)]
noncomputable def ref01.Half.E : Env := envOf (tabOf ref01.Half.tab) (fun _ => false) ref01.Half.hint (fun _ => none)
noncomputable def ref01.Half.L0 (N M : Nat) (n : Bool) (a : List Int) (p4 : Int) (p3 : List Int) : Option DV := loopAt ref01.Half.E N Try.f86 (bodyOf Try.f86) [1, 1, 0, 1, 0] [] M ⟨mkT 37 [(1, .ptr 1 0 0), (2, .ptr 2 0 0), (3, .oref 100003), (4, .int .i64 p4)], [(1, false, .box [.bool n, .ints .arg .u32 a]), (2, false, .box [.bool false, .nil]), (100003, false, .ints 84 .u32 p3)]⟩
theorem ref01.Half.L0_step (N M : Nat) (n : Bool) (a : List Int) (p4 : Int) (p3 : List Int) : ref01.Half.L0 N (M + 1) n a p4 p3 =
  bif (ltI p4 (List.length a : Int)) then
    bif (okL a) then
      bif (okL a) then
        bif ((decide (0 ≤ p4)) && (decide (p4 < (List.length p3 : Int)))) then
          bif (decide ((Int.toNat p4) < (List.length p3))) then
            ref01.Half.L0 N M n a (w_i64 (p4 + (1 : Int))) (List.set p3 (Int.toNat p4) (w_u32 (w_u64 (Int.tdiv (w_u64 ((w_u64 ((Int.tmod (limbAt a (w_i64 (p4 + (1 : Int)))) (2 : Int)) * (4294967296 : Int))) + (limbAt a p4))) (2 : Int)))))
          else none
        else none
      else none
    else none
  else bif (okL p3) then
    some (.agg [.bool (negW (wv n p3)), .ints .arg .u32 (limbsI (wv n p3))])
  else none :=
  Eq.trans (b := bif (ltI p4 (List.length a : Int)) then
    bif ((okL a) && true) then
      bif ((okL a) && true) then
        bif (((decide (0 ≤ p4)) && (decide (p4 < (List.length p3 : Int)))) && true) then
          bif ((decide ((Int.toNat p4) < (List.length p3))) && true) then
            ref01.Half.L0 N M n a (w_i64 (p4 + (1 : Int))) (List.set p3 (Int.toNat p4) (w_u32 (w_u64 (Int.tdiv (w_u64 ((w_u64 ((Int.tmod (limbAt a (w_i64 (p4 + (1 : Int)))) (2 : Int)) * (4294967296 : Int))) + (limbAt a p4))) (2 : Int)))))
          else none
        else none
      else none
    else none
  else bif (okL p3) then
    some (.agg [.bool (negW (wv n p3)), .ints .arg .u32 (limbsI (wv n p3))])
  else none) (by kernel_rfl)
  (ifE (ifS (tt0 _) (ifS (tt0 _) (ifS (tt1 _ _) (ifS (tt0 _) rfl rfl) rfl) rfl) rfl) rfl)
theorem ref01.Half.ev (N : Nat) (n : Bool) (a : List Int) : funD ref01.Half.E N Try.f86 (bodyOf Try.f86) [.agg [.bool n, .ints .arg .u32 a]] =
  bif (((decide ((0 : Int) ≤ (List.length a : Int))) && (decide ((List.length a : Int) ≤ (List.length a : Int)))) && (decide ((List.length a : Int) ≤ lim))) then
    ref01.Half.L0 N N n a (0 : Int) (List.replicate (Int.toNat (List.length a : Int)) (0 : Int))
  else none := by kernel_rfl
theorem ref01.Half.known_of (hk : Knowns Try.prog ref01.Half.tab) (h : ∀ (n : Bool) (a : List Int), ref01.Half.pre [.b n, .l a] = true → ∃ N dv drops, funD ref01.Half.E N Try.f86 (bodyOf Try.f86) [.agg [.bool n, .ints .arg .u32 a]] = some dv ∧ Wk drops dv (ref01.Half.out [.b n, .l a])) : Known Try.prog 86 ref01.Half.spec := by
  refine ⟨meets_entry (E := ref01.Half.E) (env_ok hk _ _ _) Try.func86 (show Try.f86.body = some (bodyOf Try.f86) by kernel_rfl) fun ats dvs he hp => ?_, call_enter Try.func86 (by kernel_rfl) (show Try.f86.body = some (bodyOf Try.f86) by kernel_rfl)⟩
  obtain ⟨_, _, _, _, rfl, rfl, hs0, he0⟩ := he.st_inv
  obtain ⟨n, _, _, rfl, rfl, he1⟩ := hs0.b_inv
  obtain ⟨a, _, _, rfl, rfl, he2⟩ := he1.s_inv
  obtain ⟨rfl, rfl⟩ := he2.nil_inv
  obtain ⟨rfl, rfl⟩ := he0.nil_inv
  exact h n a hp

def ref01.Shift.hint : Nat → Option LoopHint
  | 0 => some { keep := [1, 2, 4], objs := [], boxes := [2, 4] }
  | 2 => some { keep := [1, 2, 4], objs := [], boxes := [2, 4] }
  | 4 => some { keep := [1, 2, 4], objs := [], boxes := [2, 4] }
  | 6 => some { keep := [1, 2, 4], objs := [], boxes := [2, 4] }
  | _ => none
noncomputable def ref01.Shift.tab : List (Nat × Entry) := [(71, ref01.Double.spec), (73, ref01.Made.spec), (86, ref01.Half.spec)]
noncomputable def ref01.Shift.E : Env := envOf (tabOf ref01.Shift.tab) (fun _ => false) ref01.Shift.hint (fun _ => none)
noncomputable def ref01.Shift.L0 (N M : Nat) (p1 : Int) (p2 : Bool) (p2_1 : List Int) : Option DV := loopAt ref01.Shift.E N Try.f69 (bodyOf Try.f69) [1, 0, 0] [] M ⟨mkT 63 [(1, .int .i64 p1), (2, .ptr 2 0 0), (4, .ptr 4 0 0)], [(2, false, .box [.bool p2, .ints .arg .u32 p2_1]), (4, false, .box [.bool false, .nil])]⟩
noncomputable def ref01.Shift.L1 (N M : Nat) (p1_1 : Int) (p2_2 : Bool) (p2_3 : List Int) : Option DV := loopAt ref01.Shift.E N Try.f69 (bodyOf Try.f69) [1, 1, 0, 0] [] M ⟨mkT 63 [(1, .int .i64 p1_1), (2, .ptr 2 0 0), (4, .ptr 4 0 0)], [(2, false, .box [.bool p2_2, .ints .arg .u32 p2_3]), (4, false, .box [.bool false, .nil])]⟩
noncomputable def ref01.Shift.L2 (N M : Nat) (p1_2 : Int) (p2_4 : Bool) (p2_5 : List Int) : Option DV := loopAt ref01.Shift.E N Try.f69 (bodyOf Try.f69) [1, 1, 1, 0, 0] [] M ⟨mkT 63 [(1, .int .i64 p1_2), (2, .ptr 2 0 0), (4, .ptr 4 0 0)], [(2, false, .box [.bool p2_4, .ints .arg .u32 p2_5]), (4, false, .box [.bool false, .nil])]⟩
noncomputable def ref01.Shift.L3 (N M : Nat) (p1_3 : Int) (p2_6 : Bool) (p2_7 : List Int) : Option DV := loopAt ref01.Shift.E N Try.f69 (bodyOf Try.f69) [1, 1, 1, 1, 0, 0] [] M ⟨mkT 63 [(1, .int .i64 p1_3), (2, .ptr 2 0 0), (4, .ptr 4 0 0)], [(2, false, .box [.bool p2_6, .ints .arg .u32 p2_7]), (4, false, .box [.bool false, .nil])]⟩
theorem ref01.Shift.L0_step (N M : Nat) (p1 : Int) (p2 : Bool) (p2_1 : List Int) : ref01.Shift.L0 N (M + 1) p1 p2 p2_1 =
  bif ((leI (32 : Int) p1) && (ltI (0 : Int) (List.length p2_1 : Int))) then
    bif (decide (1 + (List.length p2_1) ≤ lim)) then
      bif (okL ([(0 : Int)] ++ p2_1)) then
        ref01.Shift.L0 N M (w_i64 (p1 - (32 : Int))) (negW (wv p2 ([(0 : Int)] ++ p2_1))) (limbsI (wv p2 ([(0 : Int)] ++ p2_1)))
      else none
    else none
  else ref01.Shift.L1 N N p1 p2 p2_1 :=
  Eq.trans (b := bif ((!((leI (32 : Int) p1) == true)) || true) then
    bif ((!((leI (32 : Int) p1) == true)) || ((((!((leI (32 : Int) p1) == true)) || ((leI (32 : Int) p1) == true)) && true) && true)) then
      bif ((!((leI (32 : Int) p1) == true)) || ((((!((leI (32 : Int) p1) == true)) || ((leI (32 : Int) p1) == true)) && true) && true)) then
        bif ((!((leI (32 : Int) p1) == true)) || ((((!((leI (32 : Int) p1) == true)) || ((leI (32 : Int) p1) == true)) && true) && true)) then
          bif (((!(leI (32 : Int) p1)) || ((leI (32 : Int) p1) == true)) && true) then
            bif (bif (leI (32 : Int) p1) then (ltI (0 : Int) (List.length p2_1 : Int)) else false) then
              bif ((decide (1 + (List.length p2_1) ≤ lim)) && true) then
                bif ((okL ([(0 : Int)] ++ p2_1)) && true) then
                  ref01.Shift.L0 N M (w_i64 (p1 - (32 : Int))) (negW (wv p2 ([(0 : Int)] ++ p2_1))) (limbsI (wv p2 ([(0 : Int)] ++ p2_1)))
                else none
              else none
            else ref01.Shift.L1 N N p1 p2 p2_1
          else none
        else none
      else none
    else none
  else none) (by kernel_rfl)
  (ifT (tt5 _) (ifT (tt4 _) (ifT (tt4 _) (ifT (tt4 _) (ifT (tt3 _) (ifS (tt2 _ _) (ifS (tt0 _) (ifS (tt0 _) rfl rfl) rfl) rfl))))))
theorem ref01.Shift.L1_step (N M : Nat) (p1_1 : Int) (p2_2 : Bool) (p2_3 : List Int) : ref01.Shift.L1 N (M + 1) p1_1 p2_2 p2_3 =
  bif ((ltI (0 : Int) p1_1) && (ltI (0 : Int) (List.length p2_3 : Int))) then
    bif (okW p2_2 p2_3) then
      ref01.Shift.L1 N M (w_i64 (p1_1 - (1 : Int))) (negW (2 * wv p2_2 p2_3)) (limbsI (2 * wv p2_2 p2_3))
    else none
  else ref01.Shift.L2 N N p1_1 p2_2 p2_3 :=
  Eq.trans (b := bif ((!((ltI (0 : Int) p1_1) == true)) || true) then
    bif ((!((ltI (0 : Int) p1_1) == true)) || ((((!((ltI (0 : Int) p1_1) == true)) || ((ltI (0 : Int) p1_1) == true)) && true) && true)) then
      bif ((!((ltI (0 : Int) p1_1) == true)) || ((((!((ltI (0 : Int) p1_1) == true)) || ((ltI (0 : Int) p1_1) == true)) && true) && true)) then
        bif ((!((ltI (0 : Int) p1_1) == true)) || ((((!((ltI (0 : Int) p1_1) == true)) || ((ltI (0 : Int) p1_1) == true)) && true) && true)) then
          bif (((!(ltI (0 : Int) p1_1)) || ((ltI (0 : Int) p1_1) == true)) && true) then
            bif (bif (ltI (0 : Int) p1_1) then (ltI (0 : Int) (List.length p2_3 : Int)) else false) then
              bif (okW p2_2 p2_3) then
                ref01.Shift.L1 N M (w_i64 (p1_1 - (1 : Int))) (negW (2 * wv p2_2 p2_3)) (limbsI (2 * wv p2_2 p2_3))
              else none
            else ref01.Shift.L2 N N p1_1 p2_2 p2_3
          else none
        else none
      else none
    else none
  else none) (by kernel_rfl)
  (ifT (tt5 _) (ifT (tt4 _) (ifT (tt4 _) (ifT (tt4 _) (ifT (tt3 _) (ifS (tt2 _ _) rfl rfl))))))
theorem ref01.Shift.L2_step (N M : Nat) (p1_2 : Int) (p2_4 : Bool) (p2_5 : List Int) : ref01.Shift.L2 N (M + 1) p1_2 p2_4 p2_5 =
  bif ((leI p1_2 (-32 : Int)) && (ltI (0 : Int) (List.length p2_5 : Int))) then
    bif (decide ((1 : Int) ≤ (List.length p2_5 : Int))) then
      bif (okL (List.drop 1 p2_5)) then
        ref01.Shift.L2 N M (w_i64 (p1_2 + (32 : Int))) (negW (wv p2_4 (List.drop 1 p2_5))) (limbsI (wv p2_4 (List.drop 1 p2_5)))
      else none
    else none
  else ref01.Shift.L3 N N p1_2 p2_4 p2_5 :=
  Eq.trans (b := bif ((!((leI p1_2 (-32 : Int)) == true)) || true) then
    bif ((!((leI p1_2 (-32 : Int)) == true)) || ((((!((leI p1_2 (-32 : Int)) == true)) || ((leI p1_2 (-32 : Int)) == true)) && true) && true)) then
      bif ((!((leI p1_2 (-32 : Int)) == true)) || ((((!((leI p1_2 (-32 : Int)) == true)) || ((leI p1_2 (-32 : Int)) == true)) && true) && true)) then
        bif ((!((leI p1_2 (-32 : Int)) == true)) || ((((!((leI p1_2 (-32 : Int)) == true)) || ((leI p1_2 (-32 : Int)) == true)) && true) && true)) then
          bif (((!(leI p1_2 (-32 : Int))) || ((leI p1_2 (-32 : Int)) == true)) && true) then
            bif (bif (leI p1_2 (-32 : Int)) then (ltI (0 : Int) (List.length p2_5 : Int)) else false) then
              bif ((((decide ((1 : Int) ≤ (List.length p2_5 : Int))) && true) && true) && true) then
                bif ((okL (List.drop 1 p2_5)) && true) then
                  ref01.Shift.L2 N M (w_i64 (p1_2 + (32 : Int))) (negW (wv p2_4 (List.drop 1 p2_5))) (limbsI (wv p2_4 (List.drop 1 p2_5)))
                else none
              else none
            else ref01.Shift.L3 N N p1_2 p2_4 p2_5
          else none
        else none
      else none
    else none
  else none) (by kernel_rfl)
  (ifT (tt5 _) (ifT (tt4 _) (ifT (tt4 _) (ifT (tt4 _) (ifT (tt3 _) (ifS (tt2 _ _) (ifS (tt6 _) (ifS (tt0 _) rfl rfl) rfl) rfl))))))
theorem ref01.Shift.L3_step (N M : Nat) (p1_3 : Int) (p2_6 : Bool) (p2_7 : List Int) : ref01.Shift.L3 N (M + 1) p1_3 p2_6 p2_7 =
  bif ((ltI p1_3 (0 : Int)) && (ltI (0 : Int) (List.length p2_7 : Int))) then
    bif (okW p2_6 p2_7) then
      ref01.Shift.L3 N M (w_i64 (p1_3 + (1 : Int))) (negW (shR (wv p2_6 p2_7) 1)) (limbsI (shR (wv p2_6 p2_7) 1))
    else none
  else some (.agg [.bool p2_6, .ints .arg .u32 p2_7]) :=
  Eq.trans (b := bif ((!((ltI p1_3 (0 : Int)) == true)) || true) then
    bif ((!((ltI p1_3 (0 : Int)) == true)) || ((((!((ltI p1_3 (0 : Int)) == true)) || ((ltI p1_3 (0 : Int)) == true)) && true) && true)) then
      bif ((!((ltI p1_3 (0 : Int)) == true)) || ((((!((ltI p1_3 (0 : Int)) == true)) || ((ltI p1_3 (0 : Int)) == true)) && true) && true)) then
        bif ((!((ltI p1_3 (0 : Int)) == true)) || ((((!((ltI p1_3 (0 : Int)) == true)) || ((ltI p1_3 (0 : Int)) == true)) && true) && true)) then
          bif (((!(ltI p1_3 (0 : Int))) || ((ltI p1_3 (0 : Int)) == true)) && true) then
            bif (bif (ltI p1_3 (0 : Int)) then (ltI (0 : Int) (List.length p2_7 : Int)) else false) then
              bif (okW p2_6 p2_7) then
                ref01.Shift.L3 N M (w_i64 (p1_3 + (1 : Int))) (negW (shR (wv p2_6 p2_7) 1)) (limbsI (shR (wv p2_6 p2_7) 1))
              else none
            else some (.agg [.bool p2_6, .ints .arg .u32 p2_7])
          else none
        else none
      else none
    else none
  else none) (by kernel_rfl)
  (ifT (tt5 _) (ifT (tt4 _) (ifT (tt4 _) (ifT (tt4 _) (ifT (tt3 _) (ifS (tt2 _ _) rfl rfl))))))
theorem ref01.Shift.ev (N : Nat) (n : Bool) (a : List Int) (k : Int) : funD ref01.Shift.E N Try.f69 (bodyOf Try.f69) [.agg [.bool n, .ints .arg .u32 a], .int .i64 k] =
  ref01.Shift.L0 N N k n a := by kernel_rfl
theorem ref01.Shift.known_of (hk : Knowns Try.prog ref01.Shift.tab) (h : ∀ (n : Bool) (a : List Int) (k : Int), ref01.Shift.pre [.b n, .l a, .i k] = true → ∃ N dv drops, funD ref01.Shift.E N Try.f69 (bodyOf Try.f69) [.agg [.bool n, .ints .arg .u32 a], .int .i64 k] = some dv ∧ Wk drops dv (ref01.Shift.out [.b n, .l a, .i k])) : Known Try.prog 69 ref01.Shift.spec := by
  refine ⟨meets_entry (E := ref01.Shift.E) (env_ok hk _ _ _) Try.func69 (show Try.f69.body = some (bodyOf Try.f69) by kernel_rfl) fun ats dvs he hp => ?_, call_enter Try.func69 (by kernel_rfl) (show Try.f69.body = some (bodyOf Try.f69) by kernel_rfl)⟩
  obtain ⟨_, _, _, _, rfl, rfl, hs0, he0⟩ := he.st_inv
  obtain ⟨n, _, _, rfl, rfl, he1⟩ := hs0.b_inv
  obtain ⟨a, _, _, rfl, rfl, he2⟩ := he1.s_inv
  obtain ⟨rfl, rfl⟩ := he2.nil_inv
  obtain ⟨k, _, _, rfl, rfl, he3⟩ := he0.i_inv
  obtain ⟨rfl, rfl⟩ := he3.nil_inv
  exact h n a k hp

noncomputable def ref01.Compare.tab : List (Nat × Entry) := [(90, ref01.Sub.spec)]
noncomputable def ref01.Compare.E : Env := envOf (tabOf ref01.Compare.tab) (fun _ => false) (fun _ => none) (fun _ => none)
theorem ref01.Compare.ev (N : Nat) (n : Bool) (a : List Int) (m : Bool) (b : List Int) : funD ref01.Compare.E N Try.f89 (bodyOf Try.f89) [.agg [.bool n, .ints .arg .u32 a], .agg [.bool m, .ints .arg .u32 b]] =
  bif (okW n a && okW m b) then
    bif (negW (wv n a - wv m b)) then
      some (.int .i64 (-1 : Int))
    else some (.int .i64 (min (List.length (limbsI (wv n a - wv m b)) : Int) (1 : Int)))
  else none := by kernel_rfl
theorem ref01.Compare.known_of (hk : Knowns Try.prog ref01.Compare.tab) (h : ∀ (n : Bool) (a : List Int) (m : Bool) (b : List Int), ref01.Compare.pre [.b n, .l a, .b m, .l b] = true → ∃ N dv drops, funD ref01.Compare.E N Try.f89 (bodyOf Try.f89) [.agg [.bool n, .ints .arg .u32 a], .agg [.bool m, .ints .arg .u32 b]] = some dv ∧ Wk drops dv (ref01.Compare.out [.b n, .l a, .b m, .l b])) : Known Try.prog 89 ref01.Compare.spec := by
  refine ⟨meets_entry (E := ref01.Compare.E) (env_ok hk _ _ _) Try.func89 (show Try.f89.body = some (bodyOf Try.f89) by kernel_rfl) fun ats dvs he hp => ?_, call_enter Try.func89 (by kernel_rfl) (show Try.f89.body = some (bodyOf Try.f89) by kernel_rfl)⟩
  obtain ⟨_, _, _, _, rfl, rfl, hs0, he0⟩ := he.st_inv
  obtain ⟨n, _, _, rfl, rfl, he1⟩ := hs0.b_inv
  obtain ⟨a, _, _, rfl, rfl, he2⟩ := he1.s_inv
  obtain ⟨rfl, rfl⟩ := he2.nil_inv
  obtain ⟨_, _, _, _, rfl, rfl, hs3, he3⟩ := he0.st_inv
  obtain ⟨m, _, _, rfl, rfl, he4⟩ := hs3.b_inv
  obtain ⟨b, _, _, rfl, rfl, he5⟩ := he4.s_inv
  obtain ⟨rfl, rfl⟩ := he5.nil_inv
  obtain ⟨rfl, rfl⟩ := he3.nil_inv
  exact h n a m b hp

def ref01.Len.hint : Nat → Option LoopHint
  | 0 => some { keep := [3, 4], objs := [], boxes := [] }
  | _ => none
noncomputable def ref01.Len.tab : List (Nat × Entry) := []
noncomputable def ref01.Len.E : Env := envOf (tabOf ref01.Len.tab) (fun _ => false) ref01.Len.hint (fun _ => none)
noncomputable def ref01.Len.L0 (N M : Nat) (p3 : Int) (p4 : Int) : Option DV := loopAt ref01.Len.E N Try.f87 (bodyOf Try.f87) [1, 1, 1, 0, 1, 0] [] M ⟨mkT 29 [(3, .int .i64 p3), (4, .int .u32 p4)], []⟩
theorem ref01.Len.L0_step (N M : Nat) (p3 : Int) (p4 : Int) : ref01.Len.L0 N (M + 1) p3 p4 =
  bif (ltI (0 : Int) p4) then
    ref01.Len.L0 N M (w_i64 (p3 + (1 : Int))) (w_u32 (Int.tdiv p4 (2 : Int)))
  else some (.int .i64 p3) := by kernel_rfl
theorem ref01.Len.ev (N : Nat) (n : Bool) (a : List Int) : funD ref01.Len.E N Try.f87 (bodyOf Try.f87) [.agg [.bool n, .ints .arg .u32 a]] =
  bif ((List.length a : Int) == (0 : Int)) then
    some (.int .i64 (0 : Int))
  else bif ((decide (0 ≤ (w_i64 ((List.length a : Int) - (1 : Int))))) && (decide ((w_i64 ((List.length a : Int) - (1 : Int))) < (List.length a : Int)))) then
    ref01.Len.L0 N N (w_i64 ((32 : Int) * (w_i64 ((List.length a : Int) - (1 : Int))))) (List.getD a (Int.toNat (w_i64 ((List.length a : Int) - (1 : Int)))) 0)
  else none := by kernel_rfl
theorem ref01.Len.known_of (hk : Knowns Try.prog ref01.Len.tab) (h : ∀ (n : Bool) (a : List Int), ref01.Len.pre [.b n, .l a] = true → ∃ N dv drops, funD ref01.Len.E N Try.f87 (bodyOf Try.f87) [.agg [.bool n, .ints .arg .u32 a]] = some dv ∧ Wk drops dv (ref01.Len.out [.b n, .l a])) : Known Try.prog 87 ref01.Len.spec := by
  refine ⟨meets_entry (E := ref01.Len.E) (env_ok hk _ _ _) Try.func87 (show Try.f87.body = some (bodyOf Try.f87) by kernel_rfl) fun ats dvs he hp => ?_, call_enter Try.func87 (by kernel_rfl) (show Try.f87.body = some (bodyOf Try.f87) by kernel_rfl)⟩
  obtain ⟨_, _, _, _, rfl, rfl, hs0, he0⟩ := he.st_inv
  obtain ⟨n, _, _, rfl, rfl, he1⟩ := hs0.b_inv
  obtain ⟨a, _, _, rfl, rfl, he2⟩ := he1.s_inv
  obtain ⟨rfl, rfl⟩ := he2.nil_inv
  obtain ⟨rfl, rfl⟩ := he0.nil_inv
  exact h n a hp

noncomputable def ref01.Odd.tab : List (Nat × Entry) := []
noncomputable def ref01.Odd.E : Env := envOf (tabOf ref01.Odd.tab) (fun _ => false) (fun _ => none) (fun _ => none)
theorem ref01.Odd.ev (N : Nat) (n : Bool) (a : List Int) : funD ref01.Odd.E N Try.f85 (bodyOf Try.f85) [.agg [.bool n, .ints .arg .u32 a]] =
  bif ((!(ltI (0 : Int) (List.length a : Int))) || (decide ((0 : Int) < (List.length a : Int)))) then
    some (.bool (bif (ltI (0 : Int) (List.length a : Int)) then ((Int.tmod (List.getD a 0 0) (2 : Int)) == (1 : Int)) else false))
  else none :=
  Eq.trans (b := bif ((!((ltI (0 : Int) (List.length a : Int)) == true)) || true) then
    bif ((!((ltI (0 : Int) (List.length a : Int)) == true)) || ((((!((ltI (0 : Int) (List.length a : Int)) == true)) || ((ltI (0 : Int) (List.length a : Int)) == true)) && true) && true)) then
      bif ((!((ltI (0 : Int) (List.length a : Int)) == true)) || ((((!((ltI (0 : Int) (List.length a : Int)) == true)) || ((ltI (0 : Int) (List.length a : Int)) == true)) && true) && (decide ((0 : Int) < (List.length a : Int))))) then
        bif ((!((ltI (0 : Int) (List.length a : Int)) == true)) || ((((!((ltI (0 : Int) (List.length a : Int)) == true)) || ((ltI (0 : Int) (List.length a : Int)) == true)) && true) && true)) then
          bif ((!((ltI (0 : Int) (List.length a : Int)) == true)) || ((((!((ltI (0 : Int) (List.length a : Int)) == true)) || ((ltI (0 : Int) (List.length a : Int)) == true)) && true) && true)) then
            bif ((!((ltI (0 : Int) (List.length a : Int)) == true)) || ((((!((ltI (0 : Int) (List.length a : Int)) == true)) || ((ltI (0 : Int) (List.length a : Int)) == true)) && true) && true)) then
              bif (((!(ltI (0 : Int) (List.length a : Int))) || ((ltI (0 : Int) (List.length a : Int)) == true)) && true) then
                some (.bool (bif (ltI (0 : Int) (List.length a : Int)) then ((Int.tmod (List.getD a 0 0) (2 : Int)) == (1 : Int)) else false))
              else none
            else none
          else none
        else none
      else none
    else none
  else none) (by kernel_rfl)
  (ifT (tt5 _) (ifT (tt4 _) (ifS (tt7 _ _) (ifT (tt4 _) (ifT (tt4 _) (ifT (tt4 _) (ifT (tt3 _) rfl)))) rfl)))
theorem ref01.Odd.known_of (hk : Knowns Try.prog ref01.Odd.tab) (h : ∀ (n : Bool) (a : List Int), ref01.Odd.pre [.b n, .l a] = true → ∃ N dv drops, funD ref01.Odd.E N Try.f85 (bodyOf Try.f85) [.agg [.bool n, .ints .arg .u32 a]] = some dv ∧ Wk drops dv (ref01.Odd.out [.b n, .l a])) : Known Try.prog 85 ref01.Odd.spec := by
  refine ⟨meets_entry (E := ref01.Odd.E) (env_ok hk _ _ _) Try.func85 (show Try.f85.body = some (bodyOf Try.f85) by kernel_rfl) fun ats dvs he hp => ?_, call_enter Try.func85 (by kernel_rfl) (show Try.f85.body = some (bodyOf Try.f85) by kernel_rfl)⟩
  obtain ⟨_, _, _, _, rfl, rfl, hs0, he0⟩ := he.st_inv
  obtain ⟨n, _, _, rfl, rfl, he1⟩ := hs0.b_inv
  obtain ⟨a, _, _, rfl, rfl, he2⟩ := he1.s_inv
  obtain ⟨rfl, rfl⟩ := he2.nil_inv
  obtain ⟨rfl, rfl⟩ := he0.nil_inv
  exact h n a hp

def ref01.Same.hint : Nat → Option LoopHint
  | 0 => some { keep := [2, 3, 5], objs := [], boxes := [2, 3] }
  | _ => none
noncomputable def ref01.Same.tab : List (Nat × Entry) := []
noncomputable def ref01.Same.E : Env := envOf (tabOf ref01.Same.tab) (fun _ => false) ref01.Same.hint (fun _ => none)
noncomputable def ref01.Same.L0 (N M : Nat) (n : Bool) (a : List Int) (m : Bool) (b : List Int) (p5 : Int) : Option DV := loopAt ref01.Same.E N Try.f60 (bodyOf Try.f60) [1, 1, 0, 1, 0] [] M ⟨mkT 38 [(2, .ptr 2 0 0), (3, .ptr 3 0 0), (5, .int .i64 p5)], [(2, false, .box [.bool n, .ints .arg .u32 a]), (3, false, .box [.bool m, .ints .arg .u32 b])]⟩
theorem ref01.Same.L0_step (N M : Nat) (n : Bool) (a : List Int) (m : Bool) (b : List Int) (p5 : Int) : ref01.Same.L0 N (M + 1) n a m b p5 =
  bif (ltI p5 (List.length a : Int)) then
    bif ((decide (0 ≤ p5)) && (decide (p5 < (List.length a : Int)))) then
      bif ((decide (0 ≤ p5)) && (decide (p5 < (List.length b : Int)))) then
        bif ((List.getD a (Int.toNat p5) 0) != (List.getD b (Int.toNat p5) 0)) then
          some (.bool false)
        else ref01.Same.L0 N M n a m b (w_i64 (p5 + (1 : Int)))
      else none
    else none
  else some (.bool true) :=
  Eq.trans (b := bif (ltI p5 (List.length a : Int)) then
    bif (((decide (0 ≤ p5)) && (decide (p5 < (List.length a : Int)))) && true) then
      bif (((decide (0 ≤ p5)) && (decide (p5 < (List.length b : Int)))) && true) then
        bif ((List.getD a (Int.toNat p5) 0) != (List.getD b (Int.toNat p5) 0)) then
          some (.bool false)
        else ref01.Same.L0 N M n a m b (w_i64 (p5 + (1 : Int)))
      else none
    else none
  else some (.bool true)) (by kernel_rfl)
  (ifE (ifS (tt1 _ _) (ifS (tt1 _ _) rfl rfl) rfl) rfl)
theorem ref01.Same.ev (N : Nat) (n : Bool) (a : List Int) (m : Bool) (b : List Int) : funD ref01.Same.E N Try.f60 (bodyOf Try.f60) [.agg [.bool n, .ints .arg .u32 a], .agg [.bool m, .ints .arg .u32 b]] =
  bif ((!(n == m)) || ((List.length a : Int) != (List.length b : Int))) then
    some (.bool false)
  else ref01.Same.L0 N N n a m b (0 : Int) :=
  Eq.trans (b := bif ((!((!(n == m)) == false)) || true) then
    bif ((!((!(n == m)) == false)) || ((((!((!(n == m)) == false)) || ((!(n == m)) == false)) && true) && true)) then
      bif ((!((!(n == m)) == false)) || ((((!((!(n == m)) == false)) || ((!(n == m)) == false)) && true) && true)) then
        bif ((!((!(n == m)) == false)) || true) then
          bif ((!((!(n == m)) == false)) || ((((!((!(n == m)) == false)) || ((!(n == m)) == false)) && true) && true)) then
            bif ((!((!(n == m)) == false)) || ((((!((!(n == m)) == false)) || ((!(n == m)) == false)) && true) && true)) then
              bif ((!((!(n == m)) == false)) || ((((!((!(n == m)) == false)) || ((!(n == m)) == false)) && (((!((!(n == m)) == false)) || ((!(n == m)) == false)) && true)) && true)) then
                bif ((!(!(!(n == m)))) || ((!(n == m)) == false)) then
                  bif (bif (!(n == m)) then true else ((List.length a : Int) != (List.length b : Int))) then
                    some (.bool false)
                  else ref01.Same.L0 N N n a m b (0 : Int)
                else none
              else none
            else none
          else none
        else none
      else none
    else none
  else none) (by kernel_rfl)
  (ifT (tt12 _ _) (ifT (tt11 _ _) (ifT (tt11 _ _) (ifT (tt12 _ _) (ifT (tt11 _ _) (ifT (tt11 _ _) (ifT (tt10 _ _) (ifT (tt9 _ _) (ifS (tt8 _ _ _) rfl rfl)))))))))
theorem ref01.Same.known_of (hk : Knowns Try.prog ref01.Same.tab) (h : ∀ (n : Bool) (a : List Int) (m : Bool) (b : List Int), ref01.Same.pre [.b n, .l a, .b m, .l b] = true → ∃ N dv drops, funD ref01.Same.E N Try.f60 (bodyOf Try.f60) [.agg [.bool n, .ints .arg .u32 a], .agg [.bool m, .ints .arg .u32 b]] = some dv ∧ Wk drops dv (ref01.Same.out [.b n, .l a, .b m, .l b])) : Known Try.prog 60 ref01.Same.spec := by
  refine ⟨meets_entry (E := ref01.Same.E) (env_ok hk _ _ _) Try.func60 (show Try.f60.body = some (bodyOf Try.f60) by kernel_rfl) fun ats dvs he hp => ?_, call_enter Try.func60 (by kernel_rfl) (show Try.f60.body = some (bodyOf Try.f60) by kernel_rfl)⟩
  obtain ⟨_, _, _, _, rfl, rfl, hs0, he0⟩ := he.st_inv
  obtain ⟨n, _, _, rfl, rfl, he1⟩ := hs0.b_inv
  obtain ⟨a, _, _, rfl, rfl, he2⟩ := he1.s_inv
  obtain ⟨rfl, rfl⟩ := he2.nil_inv
  obtain ⟨_, _, _, _, rfl, rfl, hs3, he3⟩ := he0.st_inv
  obtain ⟨m, _, _, rfl, rfl, he4⟩ := hs3.b_inv
  obtain ⟨b, _, _, rfl, rfl, he5⟩ := he4.s_inv
  obtain ⟨rfl, rfl⟩ := he5.nil_inv
  obtain ⟨rfl, rfl⟩ := he3.nil_inv
  exact h n a m b hp
end EqRefB
end Go.Proofs.S1

/- Package dioptraref01, first part: what its functions answer. -/
namespace Go.Proofs.S1
open Go Go.Den Go.Rnd Go.Proofs
open EqRefA

theorem ref01.limb.known : Known Try.prog 96 ref01.limb.spec := ref01.limb.known_of .nil fun l i hp => by
  obtain ⟨hl, hi⟩ := okL_get hp
  refine ⟨0, ref01.limb.out [.l l, .i i], [], ?_, .int⟩
  rw [ref01.limb.ev, leI_eq, ltI_eq]
  show _ = some (DV.int .u64 (limbAt l i))
  by_cases h0 : 0 ≤ i
  · obtain ⟨k, rfl⟩ : ∃ k : Nat, i = k := ⟨i.toNat, by omega⟩
    have hv := limbAt_val hi k
    have hg := get_val hi k
    rw [hv, Int.toNat_natCast, hg, decide_eq_true h0, Bool.true_and]
    by_cases h1 : (k : Int) < (l.length : Int)
    · rw [decide_eq_true h1, cond_true, cond_true, w_u64_in (by omega) (by omega)]
    · have h2 : l.getD k 0 = 0 := by
        rw [List.getD_eq_getElem?_getD, List.getElem?_eq_none (by omega)]; rfl
      rw [h2] at hg
      rw [decide_eq_false h1, cond_false, ← hg]
  · have : limbAt l i = 0 := by unfold limbAt; rw [if_neg h0]
    rw [decide_eq_false h0, Bool.false_and, cond_false, this]

theorem wagg {drops : List Nat} {b : Bool} {l : List Int} : Wk drops (.agg [.bool b, .ints .arg .u32 l]) (.agg [.bool b, .ints .arg .u32 l]) := Wk.aggL (.cons .bool (.cons .argL .nil))

theorem negW_zero : negW 0 = false := rfl
theorem limbsI_zero : limbsI 0 = [] := rfl

/-- What Made answers, where p limbs are left. -/
theorem made_loop (N : Nat) (n : Bool) {l : List Int} (hl : l.length < 1073741824) (hi : inL l) : ∀ (p F : Nat), p ≤ l.length → p < F → valL l < 2 ^ (32 * p) →
    ∃ dv, ref01.Made.L0 N F n l (p : Int) = some dv ∧ Wk [] dv (.agg [.bool (negW (wv n l)), .ints .arg .u32 (limbsI (wv n l))]) := by
  have hlast : ∀ p, p ≤ l.length → lenN (valL l) = p → p ≠ 0 → some (DV.agg [.bool n, .ints .arg .u32 (l.take p)]) = some (DV.agg [.bool (negW (wv n l)), .ints .arg .u32 (limbsI (wv n l))]) := by
    intro p hp hq h0
    have h1 := limbs_take hi
    rw [hq] at h1
    have h2 : valL l ≠ 0 := fun h => by rw [h] at hq; exact h0 hq.symm
    have e : (wv n l).natAbs = valL l := by unfold wv sgn; split <;> omega
    have e1 : limbsI (wv n l) = limbs (valL l) := by unfold limbsI; rw [e]
    have e2 : negW (wv n l) = n := by unfold negW wv sgn; cases n <;> simp <;> omega
    rw [h1, e1, e2]
  intro p
  induction p with
  | zero =>
    intro F hp hF hv
    obtain ⟨F, rfl⟩ : ∃ G, F = G + 1 := ⟨F - 1, by omega⟩
    have hz : wv n l = 0 := by
      have : valL l = 0 := by rw [Nat.mul_zero, Nat.pow_zero] at hv; omega
      unfold wv sgn; rw [this]; cases n <;> rfl
    refine ⟨.agg [.bool false, .nil], ?_, ?_⟩
    · rw [ref01.Made.L0_step, ltI_eq]; rfl
    · rw [hz, negW_zero, limbsI_zero]
      exact Wk.aggL (.cons .bool (.cons (.nil _ _) .nil))
  | succ p ih =>
    intro F hp hF hv
    obtain ⟨F, rfl⟩ : ∃ G, F = G + 1 := ⟨F - 1, by omega⟩
    rw [ref01.Made.L0_step, ltI_eq, w_i64_in (by omega) (by omega)]
    have e0 : ((p + 1 : Nat) : Int) - 1 = (p : Int) := by omega
    have t0 : decide ((0 : Int) < ((p + 1 : Nat) : Int)) = true := decide_eq_true (by omega)
    have t1 : decide ((0 : Int) ≤ (p : Int)) = true := by simp
    have t2 : decide ((p : Int) < (l.length : Int)) = true := by simp; omega
    have hg := get_val hi p
    have hq : valL l / 2 ^ (32 * p) < 4294967296 := by
      rw [Nat.div_lt_iff_lt_mul (pow_pos2 _), ← pow32]; exact hv
    rw [Nat.mod_eq_of_lt hq] at hg
    rw [e0, t0, t1, t2, Int.toNat_natCast, hg]
    simp only [Bool.not_true, Bool.and_self, Bool.false_or, cond_true, Bool.true_and]
    by_cases hz : valL l / 2 ^ (32 * p) = 0
    · have : (((valL l / 2 ^ (32 * p) : Nat) : Int) == 0) = true := by rw [hz]; rfl
      rw [this, cond_true]
      refine ih F (by omega) (by omega) ?_
      rcases Nat.lt_or_ge (valL l) (2 ^ (32 * p)) with h | h
      · exact h
      · have := Nat.div_pos h (pow_pos2 _); omega
    · have : (((valL l / 2 ^ (32 * p) : Nat) : Int) == 0) = false := by simp only [beq_eq_false_iff_ne, ne_eq]; omega
      have t3 : (((p + 1 : Nat) : Int) == 0) = false := by simp only [beq_eq_false_iff_ne, ne_eq]; omega
      have t4 : decide (((p + 1 : Nat) : Int) ≤ (l.length : Int)) = true := by simp; omega
      have t5 : decide ((0 : Int) ≤ ((p + 1 : Nat) : Int)) = true := decide_eq_true (by omega)
      rw [this, cond_false, t3, cond_false, t4, t5, Bool.and_self, cond_true, Int.toNat_natCast]
      have hlen : lenN (valL l) = p + 1 := by
        have a1 := lenN_le hv
        have a2 := lenN_ge (n := valL l) (k := p) (by
          rcases Nat.lt_or_ge (valL l) (2 ^ (32 * p)) with h | h
          · exact absurd (Nat.div_eq_of_lt h) hz
          · exact h)
        omega
      exact ⟨_, hlast (p + 1) hp hlen (by omega), wagg⟩

theorem ref01.Made.known : Known Try.prog 73 ref01.Made.spec := ref01.Made.known_of .nil fun n l hp => by
  obtain ⟨hl, hi⟩ := okL_get hp
  obtain ⟨dv, h1, h2⟩ := made_loop (l.length + 1) n hl hi l.length (l.length + 1) (Nat.le_refl _) (by omega) (valL_lt hi)
  exact ⟨l.length + 1, dv, [], by rw [ref01.Made.ev]; exact h1, h2⟩

theorem two_limbs {a b : Int} (ha : 0 ≤ a ∧ a < 4294967296) (hb : 0 ≤ b ∧ b < 4294967296) : okL [a, b] = true :=
  okL_of (show 2 < 1073741824 by decide) fun x hx => by
    rcases List.mem_cons.1 hx with rfl | hx
    · exact ha
    · rcases List.mem_cons.1 hx with rfl | hx
      · exact hb
      · cases hx

theorem lit32 : (4294967296 : Int) = ((4294967296 : Nat) : Int) := rfl

theorem ref01.Of.known : Known Try.prog 55 ref01.Of.spec := ref01.Of.known_of (.cons ref01.Made.known .nil) fun n hp => by
  have hp := cdec_eq.1 hp
  refine ⟨0, ref01.Of.out [.i n], [], ?_, wagg⟩
  rw [ref01.Of.ev, ltI_eq]
  show _ = some (DV.agg [.bool (negW n), .ints .arg .u32 (limbsI n)])
  by_cases h : n < 0
  · obtain ⟨k, rfl⟩ : ∃ k : Nat, n = -(k : Int) := ⟨(-n).toNat, by omega⟩
    have e1 : w_u64 (w_u64 (w_i64 (0 - w_i64 (-(k : Int) + 1))) + 1) = (k : Int) := by
      rw [w_i64_in (x := -(k : Int) + 1) (by omega) (by omega), w_i64_in (by omega) (by omega), w_u64_in (x := 0 - (-(k : Int) + 1)) (by omega) (by omega), w_u64_in (by omega) (by omega)]; omega
    rw [decide_eq_true h, cond_true, e1, lit32, tmod_nat, tdiv_nat, w_u32_in (by omega) (by omega), w_u64_in (by omega) (by omega), w_u32_in (by omega) (by omega),
      two_limbs (by omega) (by omega), cond_true]
    have e2 : wv true [((k % 4294967296 : Nat) : Int), ((k / 4294967296 : Nat) : Int)] = -(k : Int) := by
      unfold wv sgn valL valL valL
      rw [if_pos rfl, Int.toNat_natCast, Int.toNat_natCast]
      omega
    rw [e2]
  · obtain ⟨k, rfl⟩ : ∃ k : Nat, n = (k : Int) := ⟨n.toNat, by omega⟩
    rw [decide_eq_false h, cond_false, lit32, tmod_nat, tdiv_nat, w_u32_in (by omega) (by omega), w_i64_in (by omega) (by omega), w_u32_in (by omega) (by omega),
      two_limbs (by omega) (by omega), cond_true]
    have e2 : wv false [((k % 4294967296 : Nat) : Int), ((k / 4294967296 : Nat) : Int)] = (k : Int) := by
      unfold wv sgn valL valL valL
      rw [if_neg (by decide), Int.toNat_natCast, Int.toNat_natCast]
      omega
    rw [e2]

theorem ref01.Neg.known : Known Try.prog 56 ref01.Neg.spec := ref01.Neg.known_of (.cons ref01.Made.known .nil) fun n a hp => by
  obtain ⟨v, rfl, rfl, hv⟩ := okW_get hp
  refine ⟨0, ref01.Neg.out [.b (negW v), .l (limbsI v)], [], ?_, wagg⟩
  rw [ref01.Neg.ev, okL_limbs (by omega), cond_true, wv_neg]
  rfl

end Go.Proofs.S1

/- Package dioptraref01: order, sums, differences. -/
namespace Go.Proofs.S1
open Go Go.Den Go.Rnd Go.Proofs
open EqRefA

theorem more_loop (N : Nat) {a b : List Int} (ha : okL a = true) (hb : okL b = true) : ∀ (j F : Nat), j < 4000000000 → j < F → valL a / 2 ^ (32 * j) = valL b / 2 ^ (32 * j) →
    ref01.More.L0 N F a b ((j : Int) - 1) = some (.int .i64 (cmpN (valL a) (valL b))) := by
  have ia := (okL_get ha).2
  have ib := (okL_get hb).2
  intro j
  induction j with
  | zero =>
    intro F hj hF h
    obtain ⟨F, rfl⟩ : ∃ G, F = G + 1 := ⟨F - 1, by omega⟩
    rw [Nat.mul_zero, Nat.pow_zero, Nat.div_one, Nat.div_one] at h
    have e : cmpN (valL a) (valL b) = 0 := by unfold cmpN; rw [if_neg (by omega), if_neg (by omega)]
    rw [ref01.More.L0_step, leI_eq, e]
    rfl
  | succ j ih =>
    intro F hj hF h
    obtain ⟨F, rfl⟩ : ∃ G, F = G + 1 := ⟨F - 1, by omega⟩
    have e0 : ((j + 1 : Nat) : Int) - 1 = (j : Int) := by omega
    have t0 : decide ((0 : Int) ≤ (j : Int)) = true := decide_eq_true (by omega)
    rw [pow32, Nat.mul_comm, ← Nat.div_div_eq_div_mul, ← Nat.div_div_eq_div_mul] at h
    have up : valL a / 2 ^ (32 * j) < valL b / 2 ^ (32 * j) → valL a < valL b := fun k => by
      rcases Nat.lt_or_ge (valL a) (valL b) with h1 | h1
      · exact h1
      · have := Nat.div_le_div_right (c := 2 ^ (32 * j)) h1; omega
    have down : valL b / 2 ^ (32 * j) < valL a / 2 ^ (32 * j) → valL b < valL a := fun k => by
      rcases Nat.lt_or_ge (valL b) (valL a) with h1 | h1
      · exact h1
      · have := Nat.div_le_div_right (c := 2 ^ (32 * j)) h1; omega
    rw [ref01.More.L0_step, e0, leI_eq, t0, cond_true, ha, hb, cond_true, cond_true, ltI_eq, ltI_eq, limbAt_val ia, limbAt_val ib, w_i64_in (by omega) (by omega)]
    have ih := ih F (by omega) (by omega)
    generalize valL a / 2 ^ (32 * j) = x at *
    generalize valL b / 2 ^ (32 * j) = y at *
    by_cases h1 : x % 4294967296 < y % 4294967296
    · have e : cmpN (valL a) (valL b) = -1 := by unfold cmpN; rw [if_pos (up (by omega))]
      rw [decide_eq_true (by omega), cond_true, e]
    · rw [decide_eq_false (by omega), cond_false]
      by_cases h2 : y % 4294967296 < x % 4294967296
      · have := down (by omega)
        have e : cmpN (valL a) (valL b) = 1 := by unfold cmpN; rw [if_neg (by omega), if_pos this]
        rw [decide_eq_true (by omega), cond_true, e]
        rfl
      · rw [decide_eq_false (by omega), cond_false]
        exact ih (by omega)

theorem div_len {l : List Int} (h : inL l) {j : Nat} (hj : l.length ≤ j) : valL l / 2 ^ (32 * j) = 0 :=
  Nat.div_eq_of_lt (Nat.lt_of_lt_of_le (valL_lt h) (Nat.pow_le_pow_right (by decide) (by omega)))

theorem ref01.More.known : Known Try.prog 92 ref01.More.spec := ref01.More.known_of (.cons ref01.limb.known .nil) fun a b hp => by
  obtain ⟨ha, hb⟩ := and_true_iff.1 hp
  obtain ⟨la, ia⟩ := okL_get ha
  obtain ⟨lb, ib⟩ := okL_get hb
  refine ⟨max a.length b.length + 2, ref01.More.out [.l a, .l b], [], ?_, .int⟩
  rw [ref01.More.ev]
  have e : max (a.length : Int) (b.length : Int) = ((max a.length b.length + 1 : Nat) : Int) - 1 := by omega
  rw [e]
  exact more_loop _ ha hb _ _ (by omega) (by omega) (by rw [div_len ia (by omega), div_len ib (by omega)])

theorem plus_loop (N : Nat) {a b : List Int} (ha : okL a = true) (hb : okL b = true) : ∀ (k i c F : Nat), i + k = max a.length b.length + 1 → k < F → c ≤ 1 →
    valL a / 2 ^ (32 * i) + valL b / 2 ^ (32 * i) + c = (valL a + valL b) / 2 ^ (32 * i) →
    ref01.plus.L0 N F a b (c : Int) (i : Int) (digits i (valL a + valL b)) = some (.ints (.own 100005 84) .u32 (plusL a b)) := by
  obtain ⟨la, ia⟩ := okL_get ha
  obtain ⟨lb, ib⟩ := okL_get hb
  intro k
  induction k with
  | zero =>
    intro i c F hi hF hc h
    obtain ⟨F, rfl⟩ : ∃ G, F = G + 1 := ⟨F - 1, by omega⟩
    have t0 : decide ((i : Int) ≤ max (a.length : Int) (b.length : Int)) = false := decide_eq_false (by omega)
    rw [ref01.plus.L0_step, leI_eq, t0, cond_false]
    unfold plusL
    rw [show i = max a.length b.length + 1 by omega]
  | succ k ih =>
    intro i c F hi hF hc h
    obtain ⟨F, rfl⟩ : ∃ G, F = G + 1 := ⟨F - 1, by omega⟩
    have t0 : decide ((i : Int) ≤ max (a.length : Int) (b.length : Int)) = true := decide_eq_true (by omega)
    have t1 : decide ((digits i (valL a + valL b)).length + 1 ≤ lim) = true := decide_eq_true (by rw [digits_length]; unfold lim; omega)
    rw [ref01.plus.L0_step, leI_eq, t0, ha, hb, t1]
    simp only [cond_true]
    rw [limbAt_val ia, limbAt_val ib]
    have ih := ih (i + 1)
    rw [pow32, Nat.mul_comm 4294967296, ← Nat.div_div_eq_div_mul, ← Nat.div_div_eq_div_mul, ← Nat.div_div_eq_div_mul, digits_snoc] at ih
    generalize valL a / 2 ^ (32 * i) = x at *
    generalize valL b / 2 ^ (32 * i) = y at *
    generalize (valL a + valL b) / 2 ^ (32 * i) = z at *
    have e1 : w_u64 (w_u64 (((x % 4294967296 : Nat) : Int) + ((y % 4294967296 : Nat) : Int)) + (c : Int)) = ((x % 4294967296 + y % 4294967296 + c : Nat) : Int) := by
      rw [w_u64_in (x := ((x % 4294967296 : Nat) : Int) + ((y % 4294967296 : Nat) : Int)) (by omega) (by omega), w_u64_in (by omega) (by omega)]; omega
    rw [e1, lit32, tmod_nat, tdiv_nat, w_u32_in (by omega) (by omega), w_u64_in (by omega) (by omega), w_i64_in (by omega) (by omega)]
    have e2 : (x % 4294967296 + y % 4294967296 + c) % 4294967296 = z % 4294967296 := by omega
    rw [e2]
    exact ih ((x % 4294967296 + y % 4294967296 + c) / 4294967296) F (by omega) (by omega) (by omega) (by omega)

theorem own_arg {i : Nat} {e : TypeId} {k : IntKind} {l : List Int} : Wk [i] (.ints (.own i e) k l) (.ints .arg k l) := .dropA i e k l (List.mem_singleton.2 rfl)

theorem ref01.plus.known : Known Try.prog 91 ref01.plus.spec := ref01.plus.known_of (.cons ref01.limb.known .nil) fun a b hp => by
  obtain ⟨ha, hb⟩ := and_true_iff.1 hp
  refine ⟨max a.length b.length + 2, .ints (.own 100005 84) .u32 (plusL a b), [100005], ?_, own_arg⟩
  rw [ref01.plus.ev]
  exact plus_loop _ ha hb (max a.length b.length + 1) 0 0 _ (by omega) (by omega) (by omega) (by simp)

theorem minus_loop (N : Nat) {a b : List Int} (ha : okL a = true) (hb : okL b = true) : ∀ (k i w F : Nat), i + k = a.length → k < F → w ≤ 1 →
    valL a / 2 ^ (32 * i) = valL b / 2 ^ (32 * i) + (valL a - valL b) / 2 ^ (32 * i) + w →
    ref01.minus.L0 N F a b (w : Int) (i : Int) (digits i (valL a - valL b)) = some (.ints (.own 100005 84) .u32 (minusL a b)) := by
  obtain ⟨la, ia⟩ := okL_get ha
  obtain ⟨lb, ib⟩ := okL_get hb
  intro k
  induction k with
  | zero =>
    intro i c F hi hF hc h
    obtain ⟨F, rfl⟩ : ∃ G, F = G + 1 := ⟨F - 1, by omega⟩
    have t0 : decide ((i : Int) < (a.length : Int)) = false := decide_eq_false (by omega)
    rw [ref01.minus.L0_step, ltI_eq, t0, cond_false]
    unfold minusL
    rw [show i = a.length by omega]
  | succ k ih =>
    intro i w F hi hF hc h
    obtain ⟨F, rfl⟩ : ∃ G, F = G + 1 := ⟨F - 1, by omega⟩
    have t0 : decide ((i : Int) < (a.length : Int)) = true := decide_eq_true (by omega)
    have t1 : decide ((digits i (valL a - valL b)).length + 1 ≤ lim) = true := decide_eq_true (by rw [digits_length]; unfold lim; omega)
    rw [ref01.minus.L0_step, ltI_eq, t0, ha, hb, t1]
    simp only [cond_true]
    rw [limbAt_val ia, limbAt_val ib]
    have ih := ih (i + 1)
    rw [pow32, Nat.mul_comm 4294967296, ← Nat.div_div_eq_div_mul, ← Nat.div_div_eq_div_mul, ← Nat.div_div_eq_div_mul, digits_snoc] at ih
    generalize valL a / 2 ^ (32 * i) = x at *
    generalize valL b / 2 ^ (32 * i) = y at *
    generalize (valL a - valL b) / 2 ^ (32 * i) = z at *
    have e1 : w_u64 (w_u64 (w_u64 ((4294967296 : Int) + ((x % 4294967296 : Nat) : Int)) - ((y % 4294967296 : Nat) : Int)) - (w : Int)) = ((4294967296 + x % 4294967296 - y % 4294967296 - w : Nat) : Int) := by
      rw [w_u64_in (x := (4294967296 : Int) + ((x % 4294967296 : Nat) : Int)) (by omega) (by omega), w_u64_in (x := (4294967296 : Int) + ((x % 4294967296 : Nat) : Int) - ((y % 4294967296 : Nat) : Int)) (by omega) (by omega), w_u64_in (by omega) (by omega)]; omega
    have e2 : (4294967296 + x % 4294967296 - y % 4294967296 - w) % 4294967296 = z % 4294967296 := by omega
    have e3 : w_u64 ((1 : Int) - (((4294967296 + x % 4294967296 - y % 4294967296 - w) / 4294967296 : Nat) : Int)) = ((1 - (4294967296 + x % 4294967296 - y % 4294967296 - w) / 4294967296 : Nat) : Int) := by
      rw [w_u64_in (by omega) (by omega)]; omega
    rw [e1, lit32, tmod_nat, tdiv_nat, w_u32_in (by omega) (by omega), w_u64_in (x := (((4294967296 + x % 4294967296 - y % 4294967296 - w) / 4294967296 : Nat) : Int)) (by omega) (by omega), w_i64_in (by omega) (by omega), e2, e3]
    exact ih (1 - (4294967296 + x % 4294967296 - y % 4294967296 - w) / 4294967296) F (by omega) (by omega) (by omega) (by omega)

theorem ref01.minus.known : Known Try.prog 93 ref01.minus.spec := ref01.minus.known_of (.cons ref01.limb.known .nil) fun a b hp => by
  obtain ⟨h1, hle⟩ := and_true_iff.1 hp
  obtain ⟨ha, hb⟩ := and_true_iff.1 h1
  have hle := cdec_eq.1 hle
  refine ⟨a.length + 1, .ints (.own 100005 84) .u32 (minusL a b), [100005], ?_, own_arg⟩
  rw [ref01.minus.ev]
  exact minus_loop _ ha hb a.length 0 0 _ (by omega) (by omega) (by omega) (by simp; omega)

theorem limbsI_in (v : Int) : inL (limbsI v) := limbs_in _

theorem wv_add {v w : Int} (h : negW v = negW w) : wv (negW v) (plusL (limbsI v) (limbsI w)) = v + w := by
  unfold wv
  rw [plusL_val (limbsI_in _) (limbsI_in _), valL_limbsI, valL_limbsI]
  unfold negW at h ⊢
  unfold sgn
  rw [decide_eq_decide] at h
  by_cases hv : v < 0
  · have hw := h.1 hv
    rw [decide_eq_true hv, if_pos rfl]; omega
  · have hw : ¬ w < 0 := fun k => hv (h.2 k)
    rw [decide_eq_false hv, if_neg (by decide)]; omega

theorem wv_less {v w : Int} (h : negW v ≠ negW w) (hl : w.natAbs ≤ v.natAbs) : wv (negW v) (minusL (limbsI v) (limbsI w)) = v + w := by
  unfold wv
  rw [minusL_val _ (limbsI_in _), valL_limbsI, valL_limbsI]
  unfold negW at h ⊢
  unfold sgn
  rw [ne_eq, decide_eq_decide] at h
  by_cases hv : v < 0
  · have hw : ¬ w < 0 := fun k => h ⟨fun _ => k, fun _ => hv⟩
    rw [decide_eq_true hv, if_pos rfl]; omega
  · have hw : w < 0 := by
      rcases Int.lt_or_le w 0 with k | k
      · exact k
      · exact absurd ⟨fun k' => absurd k' hv, fun k' => by omega⟩ h
    rw [decide_eq_false hv, if_neg (by decide)]; omega

theorem ref01.Add.known : Known Try.prog 72 ref01.Add.spec := ref01.Add.known_of (.cons ref01.Made.known (.cons ref01.plus.known (.cons ref01.More.known (.cons ref01.minus.known .nil)))) fun n a m b hp => by
  obtain ⟨h1, h2⟩ := and_true_iff.1 hp
  obtain ⟨v, rfl, rfl, hv⟩ := okW_get h1
  obtain ⟨w, rfl, rfl, hw⟩ := okW_get h2
  refine ⟨0, ref01.Add.out [.b (negW v), .l (limbsI v), .b (negW w), .l (limbsI w)], [], ?_, wagg⟩
  have o1 : okL (limbsI v) = true := okL_limbs (by omega)
  have o2 : okL (limbsI w) = true := okL_limbs (by omega)
  rw [ref01.Add.ev, o1, o2, Bool.and_self, cond_true]
  show _ = some (DV.agg [.bool (negW (wv (negW v) (limbsI v) + wv (negW w) (limbsI w))), .ints .arg .u32 (limbsI (wv (negW v) (limbsI v) + wv (negW w) (limbsI w)))])
  rw [wv_of, wv_of]
  by_cases hs : negW v = negW w
  · have : (negW v == negW w) = true := by simp [hs]
    have o3 : okL (plusL (limbsI v) (limbsI w)) = true := okL_of (by rw [plusL_length, length_limbsI, length_limbsI]; omega) (plusL_in _ _)
    rw [this, cond_true, o3, cond_true, wv_add hs]
  · have : (negW v == negW w) = false := by simp [hs]
    rw [this, cond_false, cond_true, ltI_eq, valL_limbsI, valL_limbsI, Bool.true_and, Bool.true_and]
    by_cases hl : v.natAbs < w.natAbs
    · have e : decide (cmpN v.natAbs w.natAbs < 0) = true := decide_eq_true (by unfold cmpN; rw [if_pos hl]; decide)
      have o3 : okL (minusL (limbsI w) (limbsI v)) = true := okL_of (by rw [minusL_length, length_limbsI]; omega) (minusL_in _ _)
      have o4 : leL (limbsI v) (limbsI w) = true := cdec_eq.2 (by rw [valL_limbsI, valL_limbsI]; omega)
      rw [e, cond_true, o4, cond_true, o3, cond_true, wv_less (fun k => hs k.symm) (by omega), Int.add_comm]
    · have e : decide (cmpN v.natAbs w.natAbs < 0) = false := decide_eq_false (by unfold cmpN; rw [if_neg hl]; split <;> decide)
      have o3 : okL (minusL (limbsI v) (limbsI w)) = true := okL_of (by rw [minusL_length, length_limbsI]; omega) (minusL_in _ _)
      have o4 : leL (limbsI w) (limbsI v) = true := cdec_eq.2 (by rw [valL_limbsI, valL_limbsI]; omega)
      rw [e, cond_false, o4, cond_true, o3, cond_true, wv_less hs (by omega)]

theorem ref01.Sub.known : Known Try.prog 90 ref01.Sub.spec := ref01.Sub.known_of (.cons ref01.Neg.known (.cons ref01.Add.known .nil)) fun n a m b hp => by
  obtain ⟨h1, h2⟩ := and_true_iff.1 hp
  obtain ⟨v, rfl, rfl, hv⟩ := okW_get h1
  obtain ⟨w, rfl, rfl, hw⟩ := okW_get h2
  refine ⟨0, ref01.Sub.out [.b (negW v), .l (limbsI v), .b (negW w), .l (limbsI w)], [], ?_, wagg⟩
  have o3 : okW (negW (-w)) (limbsI (-w)) = true := okW_of (by rw [Int.natAbs_neg]; exact hw)
  rw [ref01.Sub.ev, h1, h2, cond_true, wv_of, wv_of, wv_of, o3, Bool.and_self, cond_true]
  show _ = some (DV.agg [.bool (negW (wv (negW v) (limbsI v) - wv (negW w) (limbsI w))), .ints .arg .u32 (limbsI (wv (negW v) (limbsI v) - wv (negW w) (limbsI w)))])
  rw [wv_of, wv_of, Int.sub_eq_add_neg]

end Go.Proofs.S1

/- Package dioptraref01: shifts, lengths, comparisons. -/
namespace Go.Proofs.S1
open Go Go.Den Go.Rnd Go.Proofs
open EqRefB

theorem ref01.Double.known : Known Try.prog 71 ref01.Double.spec := ref01.Double.known_of (.cons ref01.Made.known (.cons ref01.plus.known .nil)) fun n a hp => by
  obtain ⟨v, rfl, rfl, hv⟩ := okW_get hp
  refine ⟨0, ref01.Double.out [.b (negW v), .l (limbsI v)], [], ?_, wagg⟩
  have o1 : okL (limbsI v) = true := okL_limbs (by omega)
  have o3 : okL (plusL (limbsI v) (limbsI v)) = true := okL_of (by rw [plusL_length, length_limbsI]; omega) (plusL_in _ _)
  rw [ref01.Double.ev, o1, o3, Bool.and_self, cond_true, cond_true, wv_add rfl]
  show _ = some (DV.agg [.bool (negW (2 * wv (negW v) (limbsI v))), .ints .arg .u32 (limbsI (2 * wv (negW v) (limbsI v)))])
  rw [wv_of, Int.two_mul]

theorem set_at (l : List Int) (y x : Int) (r : List Int) : ∀ i, i = l.length → (l ++ y :: r).set i x = l ++ x :: r := by
  induction l with
  | nil => intro i h; subst h; rfl
  | cons z l ih =>
    intro i h
    obtain ⟨j, rfl⟩ : ∃ j, i = j + 1 := ⟨i - 1, by rw [List.length_cons] at h; omega⟩
    show z :: (l ++ y :: r).set j x = z :: (l ++ x :: r)
    rw [ih j (by rw [List.length_cons] at h; omega)]

theorem half_loop (N : Nat) {v : Int} (hv : lenN v.natAbs < 268435456) : ∀ (k i F : Nat), i + k = lenN v.natAbs → k < F →
    ref01.Half.L0 N F (negW v) (limbsI v) (i : Int) (digits i (v.natAbs / 2) ++ List.replicate k 0) = some (.agg [.bool (negW (shR v 1)), .ints .arg .u32 (limbsI (shR v 1))]) := by
  have o1 : okL (limbsI v) = true := okL_limbs (by omega)
  have ia := limbsI_in v
  intro k
  induction k with
  | zero =>
    intro i F hi hF
    obtain ⟨F, rfl⟩ : ∃ G, F = G + 1 := ⟨F - 1, by omega⟩
    have t0 : decide ((i : Int) < ((limbsI v).length : Int)) = false := decide_eq_false (by rw [length_limbsI]; omega)
    rw [List.replicate_zero, List.append_nil, ref01.Half.L0_step, ltI_eq, t0, cond_false]
    have o3 : okL (digits i (v.natAbs / 2)) = true := okL_of (by rw [digits_length]; omega) (digits_in _ _)
    have e : wv (negW v) (digits i (v.natAbs / 2)) = shR v 1 := by
      unfold wv shR
      rw [valL_digits, Nat.mod_eq_of_lt, Nat.pow_one]
      have := lt_lenN v.natAbs
      rw [show i = lenN v.natAbs by omega]
      exact Nat.lt_of_le_of_lt (Nat.div_le_self _ _) this
    rw [o3, cond_true, e]
  | succ k ih =>
    intro i F hi hF
    obtain ⟨F, rfl⟩ : ∃ G, F = G + 1 := ⟨F - 1, by omega⟩
    have hlen : (digits i (v.natAbs / 2) ++ List.replicate (k + 1) (0 : Int)).length = i + (k + 1) := by rw [List.length_append, digits_length, List.length_replicate]
    have t0 : decide ((i : Int) < ((limbsI v).length : Int)) = true := decide_eq_true (by rw [length_limbsI]; omega)
    have t1 : decide ((0 : Int) ≤ (i : Int)) = true := decide_eq_true (by omega)
    have t2 : decide ((i : Int) < ((digits i (v.natAbs / 2) ++ List.replicate (k + 1) (0 : Int)).length : Int)) = true := decide_eq_true (by rw [hlen]; omega)
    have t3 : decide (i < (digits i (v.natAbs / 2) ++ List.replicate (k + 1) (0 : Int)).length) = true := decide_eq_true (by rw [hlen]; omega)
    have e0 : w_i64 ((i : Int) + 1) = ((i + 1 : Nat) : Int) := by rw [w_i64_in (by omega) (by omega)]; omega
    rw [ref01.Half.L0_step, ltI_eq, t0, o1, Int.toNat_natCast, t1, t2, t3, Bool.and_self]
    simp only [cond_true]
    rw [e0, limbAt_val ia, limbAt_val ia, valL_limbsI]
    have ih := ih (i + 1) F (by omega) (by omega)
    rw [digits_snoc, Nat.div_div_eq_div_mul, Nat.mul_comm 2, ← Nat.div_div_eq_div_mul] at ih
    rw [pow32, Nat.mul_comm 4294967296, ← Nat.div_div_eq_div_mul, List.replicate_succ, set_at _ _ _ _ i (digits_length _ _).symm]
    rw [List.append_assoc] at ih
    generalize v.natAbs / 2 ^ (32 * i) = x at *
    have e1 : Int.tmod ((x / 4294967296 % 4294967296 : Nat) : Int) 2 = ((x / 4294967296 % 4294967296 % 2 : Nat) : Int) := tmod_nat _ 2
    have e2 : w_u64 (w_u64 (((x / 4294967296 % 4294967296 % 2 : Nat) : Int) * 4294967296) + ((x % 4294967296 : Nat) : Int)) = ((x / 4294967296 % 4294967296 % 2 * 4294967296 + x % 4294967296 : Nat) : Int) := by
      rw [w_u64_in (x := ((x / 4294967296 % 4294967296 % 2 : Nat) : Int) * 4294967296) (by omega) (by omega), w_u64_in (by omega) (by omega)]; omega
    have e3 : Int.tdiv ((x / 4294967296 % 4294967296 % 2 * 4294967296 + x % 4294967296 : Nat) : Int) 2 = (((x / 4294967296 % 4294967296 % 2 * 4294967296 + x % 4294967296) / 2 : Nat) : Int) := tdiv_nat _ 2
    have e4 : (x / 4294967296 % 4294967296 % 2 * 4294967296 + x % 4294967296) / 2 = x / 2 % 4294967296 := by omega
    rw [e1, e2, e3, e4, w_u64_in (by omega) (by omega), w_u32_in (by omega) (by omega)]
    exact ih

theorem ref01.Half.known : Known Try.prog 86 ref01.Half.spec := ref01.Half.known_of (.cons ref01.Made.known (.cons ref01.limb.known .nil)) fun n a hp => by
  obtain ⟨v, rfl, rfl, hv⟩ := okW_get hp
  refine ⟨lenN v.natAbs + 1, ref01.Half.out [.b (negW v), .l (limbsI v)], [], ?_, wagg⟩
  show _ = some (DV.agg [.bool (negW (shR (wv (negW v) (limbsI v)) 1)), .ints .arg .u32 (limbsI (shR (wv (negW v) (limbsI v)) 1))])
  rw [ref01.Half.ev, wv_of, length_limbsI, decide_eq_true (by omega), decide_eq_true (by omega), decide_eq_true (by unfold lim; omega), Bool.and_self, Bool.and_self, cond_true, Int.toNat_natCast]
  have h := half_loop (lenN v.natAbs + 1) hv (lenN v.natAbs) 0 (lenN v.natAbs + 1) (by omega) (by omega)
  rw [digits, List.nil_append] at h
  exact h

/-! ### Shifts -/

def wout (v : Int) : Option DV := some (.agg [.bool (negW v), .ints .arg .u32 (limbsI v)])

theorem len_pos (v : Int) : ltI (0 : Int) ((limbsI v).length : Int) = decide (v ≠ 0) := by
  rw [ltI_eq, length_limbsI, decide_eq_decide]
  constructor
  · intro h e
    rw [e] at h
    exact absurd h (by decide)
  · intro h
    have := lenN_pos (n := v.natAbs) (by omega)
    omega

theorem shift3 (N : Nat) : ∀ (j F : Nat) (v : Int), j < F → j < 2000000 → lenN v.natAbs < 268435456 → ref01.Shift.L3 N F (-(j : Int)) (negW v) (limbsI v) = wout (shR v j) := by
  intro j
  induction j with
  | zero =>
    intro F v hF _ hv
    obtain ⟨F, rfl⟩ : ∃ G, F = G + 1 := ⟨F - 1, by omega⟩
    rw [ref01.Shift.L3_step, ltI_eq, decide_eq_false (by omega), Bool.false_and, cond_false, shR_zero]
    rfl
  | succ j ih =>
    intro F v hF hj hv
    obtain ⟨F, rfl⟩ : ∃ G, F = G + 1 := ⟨F - 1, by omega⟩
    rw [ref01.Shift.L3_step, ltI_eq, decide_eq_true (by omega), Bool.true_and, len_pos]
    by_cases h0 : v = 0
    · rw [decide_eq_false (by omega), cond_false, h0, shR_nil]
      rfl
    · rw [decide_eq_true h0, cond_true, okW_of hv, cond_true, wv_of, w_i64_in (by omega) (by omega)]
      have e : -((j + 1 : Nat) : Int) + 1 = -(j : Int) := by omega
      have hl : lenN (shR v 1).natAbs < 268435456 := by
        rw [shR_abs]
        exact Nat.lt_of_le_of_lt (lenN_mono (Nat.div_le_self _ _)) hv
      rw [e, ih F (shR v 1) (by omega) (by omega) hl, shR_add, Nat.add_comm]

theorem wv_tail (v : Int) : wv (negW v) ((limbsI v).drop 1) = shR v 32 := by
  unfold wv shR
  rw [valL_tail (limbsI_in v), valL_limbsI, two32]

theorem shift2 (N : Nat) : ∀ (F j : Nat) (v : Int), j < F → j < N → j < 2000000 → lenN v.natAbs < 268435456 → ref01.Shift.L2 N F (-(j : Int)) (negW v) (limbsI v) = wout (shR v j) := by
  intro F
  induction F with
  | zero => intro j v h; omega
  | succ F ih =>
    intro j v hF hN hj hv
    rw [ref01.Shift.L2_step, leI_eq, len_pos]
    by_cases hc : 32 ≤ j ∧ v ≠ 0
    · have o3 : okL ((limbsI v).drop 1) = true := okL_of (by rw [List.length_drop, length_limbsI]; omega) (inL_tail (limbsI_in v))
      have t1 : decide ((1 : Int) ≤ ((limbsI v).length : Int)) = true := decide_eq_true (by
        rw [length_limbsI]
        have := lenN_pos (n := v.natAbs) (by omega)
        omega)
      have hl : lenN (shR v 32).natAbs < 268435456 := by
        rw [shR_abs]
        exact Nat.lt_of_le_of_lt (lenN_mono (Nat.div_le_self _ _)) hv
      rw [decide_eq_true (by omega), decide_eq_true hc.2, Bool.and_self, cond_true, t1, cond_true, o3, cond_true, wv_tail, w_i64_in (by omega) (by omega)]
      have e : -(j : Int) + 32 = -((j - 32 : Nat) : Int) := by omega
      rw [e, ih (j - 32) (shR v 32) (by omega) (by omega) (by omega) hl, shR_add]
      congr 2
      omega
    · have : (decide (-(j : Int) ≤ -32) && decide (v ≠ 0)) = false := by
        rw [Bool.and_eq_false_iff, decide_eq_false_iff_not, decide_eq_false_iff_not]
        omega
      rw [this, cond_false]
      exact shift3 N j N v hN hj hv

theorem shift2_zero (N F : Nat) {k : Int} (hk : 0 ≤ k) (hN : 0 < N) (v : Int) : ref01.Shift.L2 N (F + 1) k (negW v) (limbsI v) = wout v := by
  obtain ⟨M, rfl⟩ : ∃ M, N = M + 1 := ⟨N - 1, by omega⟩
  rw [ref01.Shift.L2_step, leI_eq, decide_eq_false (by omega), Bool.false_and, cond_false, ref01.Shift.L3_step, ltI_eq, decide_eq_false (by omega), Bool.false_and, cond_false]
  rfl

theorem shift1 (N : Nat) (hN : 0 < N) : ∀ (j F : Nat) (v : Int), j < F → j < 2000000 → lenN v.natAbs + j < 268435456 → ref01.Shift.L1 N F (j : Int) (negW v) (limbsI v) = wout (v * ((2 ^ j : Nat) : Int)) := by
  obtain ⟨M, rfl⟩ : ∃ M, N = M + 1 := ⟨N - 1, by omega⟩
  intro j
  induction j with
  | zero =>
    intro F v hF _ hv
    obtain ⟨F, rfl⟩ : ∃ G, F = G + 1 := ⟨F - 1, by omega⟩
    rw [ref01.Shift.L1_step, ltI_eq, decide_eq_false (by omega), Bool.false_and, cond_false, shift2_zero _ _ (by omega) (by omega), Nat.pow_zero]
    congr 1
    omega
  | succ j ih =>
    intro F v hF hj hv
    obtain ⟨F, rfl⟩ : ∃ G, F = G + 1 := ⟨F - 1, by omega⟩
    rw [ref01.Shift.L1_step, ltI_eq, decide_eq_true (by omega), Bool.true_and, len_pos]
    by_cases h0 : v = 0
    · rw [decide_eq_false (by omega), cond_false, h0, Int.zero_mul, shift2_zero _ _ (by omega) (by omega)]
    · have hl := lenN_two v.natAbs
      have e2 : (2 * v).natAbs = 2 * v.natAbs := by omega
      have e : ((j + 1 : Nat) : Int) - 1 = (j : Int) := by omega
      rw [decide_eq_true h0, cond_true, okW_of (by omega), cond_true, wv_of, w_i64_in (by omega) (by omega), e, ih F (2 * v) (by omega) (by omega) (by rw [e2]; omega)]
      congr 1
      rw [Nat.pow_succ, Int.natCast_mul, Int.mul_comm 2 v, Int.mul_assoc, Int.mul_comm ((2 ^ j : Nat) : Int)]
      rfl

theorem wv_up (v : Int) : wv (negW v) ([(0 : Int)] ++ limbsI v) = v * ((2 ^ 32 : Nat) : Int) := by
  have e : valL ([(0 : Int)] ++ limbsI v) = 4294967296 * v.natAbs := by
    show valL (0 :: limbsI v) = _
    rw [valL, valL_limbsI]
    exact Nat.zero_add _
  unfold wv
  rw [e, two32]
  by_cases h : v < 0
  · rw [sgn_neg h]; omega
  · rw [sgn_pos h]; omega

theorem shift0 (N : Nat) : ∀ (F j : Nat) (v : Int), j < F → j < N → j < 2000000 → lenN v.natAbs + j < 268435456 → ref01.Shift.L0 N F (j : Int) (negW v) (limbsI v) = wout (v * ((2 ^ j : Nat) : Int)) := by
  intro F
  induction F with
  | zero => intro j v h; omega
  | succ F ih =>
    intro j v hF hN hj hv
    rw [ref01.Shift.L0_step, leI_eq, len_pos]
    by_cases hc : 32 ≤ j ∧ v ≠ 0
    · have o3 : okL ([(0 : Int)] ++ limbsI v) = true := okL_of (by rw [List.length_append, length_limbsI]; show 1 + _ < _; omega) (inL_zero (limbsI_in v))
      have t1 : decide (1 + (limbsI v).length ≤ lim) = true := decide_eq_true (by rw [length_limbsI]; unfold lim; omega)
      have e2 : (v * ((2 ^ 32 : Nat) : Int)).natAbs = v.natAbs * 4294967296 := by rw [Int.natAbs_mul, Int.natAbs_natCast, two32]
      have hl := lenN_up v.natAbs
      rw [decide_eq_true (by omega), decide_eq_true hc.2, Bool.and_self, cond_true, t1, cond_true, o3, cond_true, wv_up, w_i64_in (by omega) (by omega)]
      have e : (j : Int) - 32 = ((j - 32 : Nat) : Int) := by omega
      rw [e, ih (j - 32) _ (by omega) (by omega) (by omega) (by rw [e2]; omega)]
      have e3 : 2 ^ j = 2 ^ 32 * 2 ^ (j - 32) := by rw [← Nat.pow_add]; congr 1; omega
      rw [e3, Int.natCast_mul, Int.mul_assoc]
    · have : (decide ((32 : Int) ≤ (j : Int)) && decide (v ≠ 0)) = false := by
        rw [Bool.and_eq_false_iff, decide_eq_false_iff_not, decide_eq_false_iff_not]
        omega
      rw [this, cond_false]
      exact shift1 N (by omega) j N v hN hj hv

theorem shift_down (N j : Nat) (v : Int) (hj : 0 < j) (hN : j < N) (hj2 : j < 2000000) (hv : lenN v.natAbs < 268435456) : ref01.Shift.L0 N N (-(j : Int)) (negW v) (limbsI v) = wout (shR v j) := by
  obtain ⟨M, rfl⟩ : ∃ M, N = M + 1 := ⟨N - 1, by omega⟩
  rw [ref01.Shift.L0_step, leI_eq, decide_eq_false (by omega), Bool.false_and, cond_false, ref01.Shift.L1_step, ltI_eq, decide_eq_false (by omega), Bool.false_and, cond_false]
  exact shift2 _ _ j v hN hN hj2 hv

theorem ref01.Shift.known : Known Try.prog 69 ref01.Shift.spec := ref01.Shift.known_of (.cons ref01.Double.known (.cons ref01.Made.known (.cons ref01.Half.known .nil))) fun n a k hp => by
  obtain ⟨h1, h2⟩ := and_true_iff.1 hp
  obtain ⟨v, rfl, rfl, hv⟩ := okV_get h1
  have h2 := cdec_eq.1 h2
  refine ⟨k.natAbs + 1, ref01.Shift.out [.b (negW v), .l (limbsI v), .i k], [], ?_, wagg⟩
  show _ = some (DV.agg [.bool (negW (shW (wv (negW v) (limbsI v)) k)), .ints .arg .u32 (limbsI (shW (wv (negW v) (limbsI v)) k))])
  rw [ref01.Shift.ev, wv_of]
  unfold shW
  by_cases h : 0 ≤ k
  · obtain ⟨j, rfl⟩ : ∃ j : Nat, k = j := ⟨k.toNat, by omega⟩
    rw [if_pos h, Int.toNat_natCast, Int.natAbs_natCast]
    exact shift0 _ _ j v (by omega) (by omega) (by omega) (by omega)
  · obtain ⟨j, rfl⟩ : ∃ j : Nat, k = -(j : Int) := ⟨(-k).toNat, by omega⟩
    have e : (-(-(j : Int))).toNat = j := by omega
    rw [if_neg h, e, Int.natAbs_neg, Int.natAbs_natCast]
    exact shift_down _ j v (by omega) (by omega) (by omega) (by omega)

end Go.Proofs.S1

/- Package dioptraref01: lengths, comparisons. -/
namespace Go.Proofs.S1
open Go Go.Den Go.Rnd Go.Proofs
open EqRefB

theorem ref01.Compare.known : Known Try.prog 89 ref01.Compare.spec := ref01.Compare.known_of (.cons ref01.Sub.known .nil) fun n a m b hp => by
  obtain ⟨h1, h2⟩ := and_true_iff.1 hp
  obtain ⟨v, rfl, rfl, hv⟩ := okW_get h1
  obtain ⟨w, rfl, rfl, hw⟩ := okW_get h2
  refine ⟨0, ref01.Compare.out [.b (negW v), .l (limbsI v), .b (negW w), .l (limbsI w)], [], ?_, .int⟩
  rw [ref01.Compare.ev, h1, h2, Bool.and_self, cond_true]
  show _ = some (DV.int .i64 (cmpZ (wv (negW v) (limbsI v)) (wv (negW w) (limbsI w))))
  rw [wv_of, wv_of, length_limbsI]
  unfold cmpZ negW
  by_cases h : v < w
  · rw [decide_eq_true (by omega), cond_true, if_pos h]
  · rw [decide_eq_false (by omega), cond_false, if_neg h]
    by_cases h3 : w < v
    · have := lenN_pos (n := (v - w).natAbs) (by omega)
      rw [if_pos h3]
      congr 2
      omega
    · have e : (v - w).natAbs = 0 := by omega
      rw [if_neg h3, e, lenN_zero]
      rfl

theorem log2_half {t : Nat} (h : 2 ≤ t) : (t / 2).log2 + 1 = t.log2 := by
  have := log2_div (n := t) (m := 1) (by omega)
  rw [Nat.pow_one] at this
  exact this

theorem len_loop (N : Nat) : ∀ (F : Nat) (t : Nat) (p : Int), t < 2 ^ 32 → 0 < t → t.log2 + 1 < F → -1000 ≤ p → p + t.log2 < 4611686018427387904 →
    ref01.Len.L0 N F p (t : Int) = some (.int .i64 (p + t.log2 + 1)) := by
  intro F
  induction F with
  | zero => intro t p _ _ h; omega
  | succ F ih =>
    intro t p ht h0 hF hp1 hp2
    have e2 : Int.tdiv (t : Int) 2 = ((t / 2 : Nat) : Int) := tdiv_nat t 2
    rw [two32] at ht
    rw [ref01.Len.L0_step, ltI_eq, decide_eq_true (by omega), cond_true, e2, w_u32_in (by omega) (by omega), w_i64_in (by omega) (by omega)]
    by_cases h1 : t = 1
    · subst h1
      obtain ⟨G, rfl⟩ : ∃ G, F = G + 1 := ⟨F - 1, by omega⟩
      rw [ref01.Len.L0_step, ltI_eq, decide_eq_false (by decide), cond_false]
      have : (1 : Nat).log2 = 0 := by decide
      rw [this]
      congr 2
      omega
    · have hl := log2_half (t := t) (by omega)
      rw [ih (t / 2) (p + 1) (by rw [two32]; omega) (by omega) (by omega) (by omega) (by omega)]
      congr 2
      omega

theorem ref01.Len.known : Known Try.prog 87 ref01.Len.spec := ref01.Len.known_of .nil fun n a hp => by
  obtain ⟨v, rfl, rfl, hv⟩ := okW_get hp
  refine ⟨40, ref01.Len.out [.b (negW v), .l (limbsI v)], [], ?_, .int⟩
  show _ = some (DV.int .i64 (lenI (wv (negW v) (limbsI v))))
  rw [ref01.Len.ev, wv_of, length_limbsI]
  unfold lenI
  by_cases h0 : v = 0
  · rw [if_pos h0, h0]; rfl
  · have hn : v.natAbs ≠ 0 := by omega
    have hl := lenN_pos hn
    have e0 : ((lenN v.natAbs : Int) == 0) = false := by simp only [beq_eq_false_iff_ne, ne_eq]; omega
    have e1 : (lenN v.natAbs : Int) - 1 = ((lenN v.natAbs - 1 : Nat) : Int) := by omega
    have hlen : lenN v.natAbs = v.natAbs.log2 / 32 + 1 := by unfold lenN; rw [if_neg hn]
    have hge : 2 ^ (32 * (lenN v.natAbs - 1)) ≤ v.natAbs := Nat.le_trans (Nat.pow_le_pow_right (by decide) (by omega)) (Nat.log2_self_le hn)
    have hq : v.natAbs / 2 ^ (32 * (lenN v.natAbs - 1)) < 2 ^ 32 := by
      rw [Nat.div_lt_iff_lt_mul (pow_pos2 _), ← Nat.pow_add]
      have := lt_lenN v.natAbs
      have e : 32 + 32 * (lenN v.natAbs - 1) = 32 * lenN v.natAbs := by omega
      rw [e]; exact this
    have hlog := log2_div hge
    have hg := get_val (limbsI_in v) (lenN v.natAbs - 1)
    have hq' := hq
    rw [two32] at hq'
    rw [valL_limbsI, Nat.mod_eq_of_lt hq'] at hg
    have hpos := Nat.div_pos hge (pow_pos2 _)
    have h32 : (v.natAbs / 2 ^ (32 * (lenN v.natAbs - 1))).log2 < 32 := (Nat.log2_lt (by omega)).2 hq
    rw [if_neg h0, e0, cond_false, w_i64_in (by omega) (by omega), e1, decide_eq_true (by omega), decide_eq_true (by omega), Bool.and_self, cond_true, Int.toNat_natCast, hg, w_i64_in (by omega) (by omega)]
    rw [len_loop 40 40 _ _ hq hpos (by omega) (by omega) (by omega)]
    congr 2
    omega

theorem ref01.Odd.known : Known Try.prog 85 ref01.Odd.spec := ref01.Odd.known_of .nil fun n a hp => by
  obtain ⟨v, rfl, rfl, hv⟩ := okW_get hp
  refine ⟨0, ref01.Odd.out [.b (negW v), .l (limbsI v)], [], ?_, .bool⟩
  show _ = some (DV.bool (oddB (wv (negW v) (limbsI v))))
  rw [ref01.Odd.ev, wv_of, len_pos]
  have hg := get_val (limbsI_in v) 0
  rw [valL_limbsI, Nat.mul_zero, Nat.pow_zero, Nat.div_one] at hg
  have e2 : Int.tmod ((v.natAbs % 4294967296 : Nat) : Int) 2 = ((v.natAbs % 4294967296 % 2 : Nat) : Int) := tmod_nat _ 2
  unfold oddB
  by_cases h0 : v = 0
  · rw [h0]; rfl
  · have hl := lenN_pos (n := v.natAbs) (by omega)
    rw [hg, e2, decide_eq_true h0, length_limbsI, decide_eq_true (by omega), Bool.or_true, cond_true, cond_true]
    congr 2
    rw [Bool.eq_iff_iff]
    simp only [beq_iff_eq, decide_eq_true_eq]
    omega

theorem same_loop (N : Nat) (n m : Bool) {a b : List Int} (hab : a.length = b.length) (hl : a.length < 1073741824) : ∀ (k i F : Nat), i + k = a.length → k < F →
    ref01.Same.L0 N F n a m b (i : Int) = some (.bool (decide (a.drop i = b.drop i))) := by
  intro k
  induction k with
  | zero =>
    intro i F hi hF
    obtain ⟨F, rfl⟩ : ∃ G, F = G + 1 := ⟨F - 1, by omega⟩
    have e : a.drop i = b.drop i := by rw [List.drop_of_length_le (by omega), List.drop_of_length_le (by omega)]
    rw [ref01.Same.L0_step, ltI_eq, decide_eq_false (by omega), cond_false, decide_eq_true e]
  | succ k ih =>
    intro i F hi hF
    obtain ⟨F, rfl⟩ : ∃ G, F = G + 1 := ⟨F - 1, by omega⟩
    have ha : i < a.length := by omega
    have hb : i < b.length := by omega
    have ga : a.getD i 0 = a[i] := by rw [List.getD_eq_getElem?_getD, List.getElem?_eq_getElem ha]; rfl
    have gb : b.getD i 0 = b[i] := by rw [List.getD_eq_getElem?_getD, List.getElem?_eq_getElem hb]; rfl
    have t1 : decide ((i : Int) < (a.length : Int)) = true := decide_eq_true (by omega)
    have t2 : decide ((i : Int) < (b.length : Int)) = true := decide_eq_true (by omega)
    have t0 : decide ((0 : Int) ≤ (i : Int)) = true := decide_eq_true (by omega)
    rw [ref01.Same.L0_step, ltI_eq, t1, t2, t0, Bool.and_self, cond_true, cond_true, cond_true, Int.toNat_natCast, ga, gb, List.drop_eq_getElem_cons ha, List.drop_eq_getElem_cons hb, w_i64_in (by omega) (by omega)]
    by_cases h : a[i] = b[i]
    · have e : (a[i] != b[i]) = false := by simp [h]
      have e1 : (i : Int) + 1 = ((i + 1 : Nat) : Int) := by omega
      rw [e, cond_false, e1, ih (i + 1) F (by omega) (by omega), h]
      congr 2
      rw [decide_eq_decide, List.cons.injEq]
      exact ⟨fun k => ⟨rfl, k⟩, fun k => k.2⟩
    · have e : (a[i] != b[i]) = true := by simp [h]
      rw [e, cond_true, decide_eq_false (fun k => h (List.cons.inj k).1)]

theorem limbsI_inj {v w : Int} (h1 : negW v = negW w) (h2 : limbsI v = limbsI w) : v = w := by
  have e1 := wv_of v
  have e2 := wv_of w
  rw [h1, h2] at e1
  omega

theorem ref01.Same.known : Known Try.prog 60 ref01.Same.spec := ref01.Same.known_of .nil fun n a m b hp => by
  obtain ⟨h1, h2⟩ := and_true_iff.1 hp
  obtain ⟨v, rfl, rfl, hv⟩ := okW_get h1
  obtain ⟨w, rfl, rfl, hw⟩ := okW_get h2
  refine ⟨(limbsI v).length + 1, ref01.Same.out [.b (negW v), .l (limbsI v), .b (negW w), .l (limbsI w)], [], ?_, .bool⟩
  show _ = some (DV.bool (sameI (wv (negW v) (limbsI v)) (wv (negW w) (limbsI w))))
  rw [ref01.Same.ev, wv_of, wv_of]
  unfold sameI
  by_cases hs : negW v = negW w
  · have e : (negW v == negW w) = true := by simp [hs]
    rw [e, Bool.not_true, Bool.false_or]
    by_cases hl : (limbsI v).length = (limbsI w).length
    · have e : (((limbsI v).length : Int) != ((limbsI w).length : Int)) = false := by simp [hl]
      have hlen := length_limbsI v
      have := same_loop ((limbsI v).length + 1) (negW v) (negW w) hl (by omega) (limbsI v).length 0 ((limbsI v).length + 1) (by omega) (by omega)
      rw [List.drop_zero, List.drop_zero] at this
      have e2 : decide (limbsI v = limbsI w) = decide (v = w) := decide_eq_decide.2 ⟨limbsI_inj hs, fun k => by rw [k]⟩
      rw [e2] at this
      rw [e, cond_false]
      exact this
    · have e : (((limbsI v).length : Int) != ((limbsI w).length : Int)) = true := by simp only [bne_iff_ne, ne_eq]; omega
      rw [e, cond_true, decide_eq_false (fun k => hl (by rw [k]))]
  · have e : (negW v == negW w) = false := by simp [hs]
    rw [e, Bool.not_false, Bool.true_or, cond_true, decide_eq_false (fun k => hs (by rw [k]))]

end Go.Proofs.S1
