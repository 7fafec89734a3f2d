/- A verified evaluator of the program's form and its use for this seat: S1EqLow, S1PLow, S1PRefL, S1EqLaw17, S1PLaw17, S1EqLaw17L, S1PLaw17L. -/
import Derived.Test.YtjbokjpbiobjpaaGreatTE
import Derived.Test.YtjbokjpbiobjpaaGreatTF
import Derived.Test.YtjbokjpbiobjpaaGreatTL
set_option linter.unusedVariables false
set_option linter.unusedSimpArgs false
noncomputable section
namespace Go.Proofs.S1
open Go Go.Den Go.Rnd Go.Proofs
set_option linter.unusedVariables false
set_option maxRecDepth 100000
namespace EqLow
theorem Eu : ∀ a : Bool, (a && true) = a := by decide
theorem I7 : ∀ a b : Bool, ((a && b) && true) = (a && b) := by decide
theorem H8 : ∀ a b : Bool, (bif a then b else false) = (a && b) := by decide
theorem Hr : ∀ a : Bool, (((!a) || (a == true)) && true) = true := by decide
theorem Ge : ∀ a : Bool, ((!(a == true)) || ((((!(a == true)) || (a == true)) && (((!(a == true)) || (a == true)) && true)) && true)) = true := by decide
theorem Kb : ∀ a : Bool, ((!(a == true)) || ((((!(a == true)) || (a == true)) && true) && true)) = true := by decide
theorem Lu : ∀ a : Bool, ((!(a == true)) || true) = true := by decide
def Cq.Cp.down.A9 : List (Nat × Entry) := []
def Cq.Cp.down.E : Env := Bb (A8 Cq.Cp.down.A9) (fun _ => false) (fun _ => none) (fun _ => none)
theorem Cq.Cp.down.ev (N : Nat) (n k : Int) : A1 Cq.Cp.down.E N Tryz.f77 (Ad Tryz.f77) [.int .i64 n, .int .i64 k] =
  some (.int .i64 k) := by kernel_rfl
theorem Cq.Cp.down.Ac (hk : A0 Tryz.prog Cq.Cp.down.A9) (h : ∀ (n k : Int), Cq.Cp.down.pre [.i n, .i k] = true → ∃ N dv drops, A1 Cq.Cp.down.E N Tryz.f77 (Ad Tryz.f77) [.int .i64 n, .int .i64 k] = some dv ∧ Wk drops dv (Cq.Cp.down.out [.i n, .i k])) : Am Tryz.prog 77 Cq.Cp.down.spec :=
  Aj (A2 hk _ _ _) Tryz.func77 (by kernel_rfl) (by kernel_rfl) h
abbrev _root_.Go.Proofs.S1.Cq.Cp.down.Kn : Prop := Am Tryz.prog 77 Cq.Cp.down.spec
def solve.D2.A9 : List (Nat × Entry) := []
def solve.D2.E : Env := Bb (A8 solve.D2.A9) (fun _ => false) (fun _ => none) (fun _ => none)
theorem solve.D2.ev (N : Nat) (i k : Int) : A1 solve.D2.E N Tryz.f78 (Ad Tryz.f78) [.int .i64 i, .int .i64 k] =
  some (.bool (A5 k i)) := by kernel_rfl
theorem solve.D2.Ac (hk : A0 Tryz.prog solve.D2.A9) (h : ∀ (i k : Int), solve.D2.pre [.i i, .i k] = true → ∃ N dv drops, A1 solve.D2.E N Tryz.f78 (Ad Tryz.f78) [.int .i64 i, .int .i64 k] = some dv ∧ Wk drops dv (solve.D2.out [.i i, .i k])) : Am Tryz.prog 78 solve.D2.spec :=
  Aj (A2 hk _ _ _) Tryz.func78 (by kernel_rfl) (by kernel_rfl) h
abbrev _root_.Go.Proofs.S1.solve.D2.Kn : Prop := Am Tryz.prog 78 solve.D2.spec
def solve.Au.Lo.hint : Nat → Option Bf
  | 0 => some { keep := [2, 3, 4, 5, 8, 10, 11, 28, 29], objs := [(12, 2, 112002, .ints 37 .u64 [])], boxes := [4, 5, 8, 11] }
  | 2 => some { keep := [2, 3, 4, 5, 8, 10, 11, 13, 28, 29, 32, 33], objs := [(12, 2, 112002, .ints 37 .u64 [])], boxes := [4, 5, 8, 11] }
  | 4 => some { keep := [2, 3, 4, 5, 8, 10, 11, 13, 15, 16, 28, 29, 32, 33, 49, 50], objs := [(12, 2, 112002, .ints 37 .u64 [])], boxes := [4, 5, 8, 11] }
  | _ => none
def solve.Au.Lo.A9 : List (Nat × Entry) := [(77, Cq.Cp.down.spec), (151, Aa.Bt.own.spec), (78, solve.D2.spec), (158, Ae.Div.spec), (150, Ae.Finite.spec), (157, Ae.Mul.spec), (156, Ae.Sub.spec)]
def solve.Au.Lo.E : Env := Bb (A8 solve.Au.Lo.A9) (fun n => Nat.beq n 24) solve.Au.Lo.hint (fun _ => none)
def solve.Au.Lo.L0 (N M : Nat) (r c : Int) (l : List Int) (p q : Int) (m : List Int) (n p29 : Int) (p2_2 : List Int) : Option DV := B6 solve.Au.Lo.E N Tryz.f76 (Ad Tryz.f76) [1, 1, 1, 0, 1, 0] [] M ⟨Hq 108 [(2, .fn 77 [.int .i64 n] []), (3, .fn 78 [] []), (4, .ptr 4 0 0), (5, .ptr 5 0 0), (8, .ptr 8 0 0), (10, .int .i64 r), (11, .ptr 11 0 0), (28, .int .i64 q), (29, .int .i64 p29)], [(4, false, .box [.int .i64 r, .int .i64 c, .ints .arg .u64 l]), (5, false, .box [.int .i64 p, .int .i64 q, .ints .arg .u64 m]), (8, false, .box [.int .i64 0, .int .i64 0, .nil]), (11, false, .box [.int .i64 r, .int .i64 q, .oref 112002]), (112002, false, .ints 37 .u64 p2_2)]⟩
def solve.Au.Lo.L1 (N M0 M : Nat) (r c : Int) (l : List Int) (p q : Int) (m : List Int) (n p33 : Int) (p2 : List Int) (p13 p29_1 : Int) : Option DV := B6 solve.Au.Lo.E N Tryz.f76 (Ad Tryz.f76) [1, 1, 1, 0, 1, 0, 0, 1, 1, 0, 0, 1, 0, 1, 1, 0] [M0] M ⟨Hq 108 [(2, .fn 77 [.int .i64 n] []), (3, .fn 78 [] []), (4, .ptr 4 0 0), (5, .ptr 5 0 0), (8, .ptr 8 0 0), (10, .int .i64 r), (11, .ptr 11 0 0), (13, .int .i64 p13), (28, .int .i64 q), (29, .int .i64 p29_1), (32, .int .i64 r), (33, .int .i64 p33)], [(4, false, .box [.int .i64 r, .int .i64 c, .ints .arg .u64 l]), (5, false, .box [.int .i64 p, .int .i64 q, .ints .arg .u64 m]), (8, false, .box [.int .i64 0, .int .i64 0, .nil]), (11, false, .box [.int .i64 r, .int .i64 q, .oref 112002]), (112002, false, .ints 37 .u64 p2)]⟩
def solve.Au.Lo.L2 (N M0 M1 M : Nat) (r c : Int) (l : List Int) (p q : Int) (m : List Int) (n p16 : Int) (p50 p13_1 : Int) (p15 p29_2 p33_1 : Int) (p2_1 : List Int) : Option DV := B6 solve.Au.Lo.E N Tryz.f76 (Ad Tryz.f76) [1, 1, 1, 0, 1, 0, 0, 1, 1, 0, 0, 1, 0, 1, 1, 0, 0, 1, 1, 0, 0, 1, 1, 1, 0, 1, 0] [M0, M1] M ⟨Hq 108 [(2, .fn 77 [.int .i64 n] []), (3, .fn 78 [] []), (4, .ptr 4 0 0), (5, .ptr 5 0 0), (8, .ptr 8 0 0), (10, .int .i64 r), (11, .ptr 11 0 0), (13, .int .i64 p13_1), (15, .int .i64 p15), (16, .int .u64 p16), (28, .int .i64 q), (29, .int .i64 p29_2), (32, .int .i64 r), (33, .int .i64 p33_1), (49, .int .i64 r), (50, .int .i64 p50)], [(4, false, .box [.int .i64 r, .int .i64 c, .ints .arg .u64 l]), (5, false, .box [.int .i64 p, .int .i64 q, .ints .arg .u64 m]), (8, false, .box [.int .i64 0, .int .i64 0, .nil]), (11, false, .box [.int .i64 r, .int .i64 q, .oref 112002]), (112002, false, .ints 37 .u64 p2_1)]⟩
theorem solve.Au.Lo.Az (N M : Nat) (r c : Int) (l : List Int) (p q : Int) (m : List Int) (n p29 : Int) (p2_2 : List Int) : solve.Au.Lo.L0 N (M + 1) r c l p q m n p29 p2_2 =
  bif (A5 p29 q) then
  solve.Au.Lo.L1 N M N r c l p q m n (0 : Int) p2_2 p29 p29
  else bif (Di p2_2) then
  bif (!(Ev p2_2)) then
  some (.tup [.agg [.int .i64 0, .int .i64 0, .nil], .int .i64 2])
  else some (.tup [.agg [.int .i64 r, .int .i64 q, .ints (.own 112002 37) .u64 p2_2], .int .i64 0])
  else none := by kernel_rfl
theorem solve.Au.Lo.Ch (N M0 M : Nat) (r c : Int) (l : List Int) (p q : Int) (m : List Int) (n p33 : Int) (p2 : List Int) (p13 p29_1 : Int) : solve.Au.Lo.L1 N M0 (M + 1) r c l p q m n p33 p2 p13 p29_1 =
  bif (A5 p33 r) then
  bif ((decide (0 ≤ (Ab ((Ab (p33 * q)) + p13)))) && (decide ((Ab ((Ab (p33 * q)) + p13)) < (List.length m : Int)))) then
  solve.Au.Lo.L2 N M0 M N r c l p q m n (List.getD m (Int.toNat (Ab ((Ab (p33 * q)) + p13))) 0) (0 : Int) p13 p33 p29_1 p33 p2
  else none
  else solve.Au.Lo.L0 N M0 r c l p q m n (Ab (p29_1 + (1 : Int))) p2 := by kernel_rfl
theorem solve.Au.Lo.Fq (N M0 M1 M : Nat) (r c : Int) (l : List Int) (p q : Int) (m : List Int) (n p16 : Int) (p50 p13_1 : Int) (p15 p29_2 p33_1 : Int) (p2_1 : List Int) : solve.Au.Lo.L2 N M0 M1 (M + 1) r c l p q m n p16 p50 p13_1 p15 p29_2 p33_1 p2_1 =
  bif (A5 p50 r) then
  bif (decide (p50 < p15)) then
  bif ((decide (0 ≤ (Ab ((Ab (p15 * r)) + p50)))) && (decide ((Ab ((Ab (p15 * r)) + p50)) < (List.length l : Int)))) then
  bif ((decide (0 ≤ (Ab ((Ab (p50 * q)) + p13_1)))) && (decide ((Ab ((Ab (p50 * q)) + p13_1)) < (List.length p2_1 : Int)))) then
  bif (decide ((Int.toNat (Ab ((Ab (p50 * q)) + p13_1))) < (List.length p2_1))) then
  bif (Ah (List.getD l (Int.toNat (Ab ((Ab (p15 * r)) + p50))) 0) && Ah (List.getD p2_1 (Int.toNat (Ab ((Ab (p50 * q)) + p13_1))) 0)) then
  bif (Ah p16 && Ah (Ed (List.getD l (Int.toNat (Ab ((Ab (p15 * r)) + p50))) 0) (List.getD p2_1 (Int.toNat (Ab ((Ab (p50 * q)) + p13_1))) 0))) then
  solve.Au.Lo.L2 N M0 M1 M r c l p q m n (Ep p16 (Ed (List.getD l (Int.toNat (Ab ((Ab (p15 * r)) + p50))) 0) (List.getD p2_1 (Int.toNat (Ab ((Ab (p50 * q)) + p13_1))) 0))) (Ab (p50 + (1 : Int))) p13_1 p15 p29_2 p33_1 p2_1
  else none
  else none
  else none
  else none
  else none
  else solve.Au.Lo.L2 N M0 M1 M r c l p q m n p16 (Ab (p50 + (1 : Int))) p13_1 p15 p29_2 p33_1 p2_1
  else bif ((decide (0 ≤ (Ab ((Ab (p15 * r)) + p15)))) && (decide ((Ab ((Ab (p15 * r)) + p15)) < (List.length l : Int)))) then
  bif (Ah p16 && Ah (List.getD l (Int.toNat (Ab ((Ab (p15 * r)) + p15))) 0)) then
  bif ((decide (0 ≤ (Ab ((Ab (p15 * q)) + p13_1)))) && (decide ((Ab ((Ab (p15 * q)) + p13_1)) < (List.length p2_1 : Int)))) then
  bif (decide ((Int.toNat (Ab ((Ab (p15 * q)) + p13_1))) < (List.length p2_1))) then
  solve.Au.Lo.L1 N M0 M1 r c l p q m n (Ab (p33_1 + (1 : Int))) (List.set p2_1 (Int.toNat (Ab ((Ab (p15 * q)) + p13_1))) (Et p16 (List.getD l (Int.toNat (Ab ((Ab (p15 * r)) + p15))) 0))) p13_1 p29_2
  else none
  else none
  else none
  else none :=
  Eq.trans (by kernel_rfl)
  (Fb (Fb (C1 (I7 (decide (0 ≤ (Ab ((Ab (p15 * r)) + p50)))) (decide ((Ab ((Ab (p15 * r)) + p50)) < (List.length l : Int)))) (C1 (I7 (decide (0 ≤ (Ab ((Ab (p50 * q)) + p13_1)))) (decide ((Ab ((Ab (p50 * q)) + p13_1)) < (List.length p2_1 : Int)))) (C1 (Eu (decide ((Int.toNat (Ab ((Ab (p50 * q)) + p13_1))) < (List.length p2_1)))) (C1 (Eu (Ah (List.getD l (Int.toNat (Ab ((Ab (p15 * r)) + p50))) 0) && Ah (List.getD p2_1 (Int.toNat (Ab ((Ab (p50 * q)) + p13_1))) 0))) (C1 (Eu (Ah p16 && Ah (Ed (List.getD l (Int.toNat (Ab ((Ab (p15 * r)) + p50))) 0) (List.getD p2_1 (Int.toNat (Ab ((Ab (p50 * q)) + p13_1))) 0)))) rfl rfl) rfl) rfl) rfl) rfl) rfl) (C1 (I7 (decide (0 ≤ (Ab ((Ab (p15 * r)) + p15)))) (decide ((Ab ((Ab (p15 * r)) + p15)) < (List.length l : Int)))) (C1 (Eu (Ah p16 && Ah (List.getD l (Int.toNat (Ab ((Ab (p15 * r)) + p15))) 0))) (C1 (I7 (decide (0 ≤ (Ab ((Ab (p15 * q)) + p13_1)))) (decide ((Ab ((Ab (p15 * q)) + p13_1)) < (List.length p2_1 : Int)))) (C1 (Eu (decide ((Int.toNat (Ab ((Ab (p15 * q)) + p13_1))) < (List.length p2_1)))) rfl rfl) rfl) rfl) rfl))
theorem solve.Au.Lo.ev (N : Nat) (r c : Int) (l : List Int) (p q : Int) (m : List Int) (n : Int) : A1 solve.Au.Lo.E N Tryz.f76 (Ad Tryz.f76) [.agg [.int .i64 r, .int .i64 c, .ints .arg .u64 l], .agg [.int .i64 p, .int .i64 q, .ints .arg .u64 m], .fn 77 [.int .i64 n] [], .fn 78 [] []] =
  bif (Bs r && Bs q) then
  solve.Au.Lo.L0 N N r c l p q m n (0 : Int) (Cx (Int.toNat r) (Int.toNat q) (fun _ _ => 0))
  else none := by kernel_rfl
theorem solve.Au.Lo.Ac (hk : A0 Tryz.prog solve.Au.Lo.A9) (h : ∀ (r c : Int) (l : List Int) (p q : Int) (m : List Int) (n : Int), solve.Au.Lo.pre [.i r, .i c, .l l, .i p, .i q, .l m, .i n] = true → ∃ N dv drops, A1 solve.Au.Lo.E N Tryz.f76 (Ad Tryz.f76) [.agg [.int .i64 r, .int .i64 c, .ints .arg .u64 l], .agg [.int .i64 p, .int .i64 q, .ints .arg .u64 m], .fn 77 [.int .i64 n] [], .fn 78 [] []] = some dv ∧ Wk drops dv (solve.Au.Lo.out [.i r, .i c, .l l, .i p, .i q, .l m, .i n])) : Am Tryz.prog 76 solve.Au.Lo.spec :=
  Aj (A2 hk _ _ _) Tryz.func76 (by kernel_rfl) (by kernel_rfl) h
abbrev _root_.Go.Proofs.S1.solve.Au.Lo.Kn : Prop := Am Tryz.prog 76 solve.Au.Lo.spec
def solve.B8.A9 : List (Nat × Entry) := [(75, solve.check.spec), (76, solve.Au.Lo.spec)]
def solve.B8.E : Env := Bb (A8 solve.B8.A9) (fun _ => false) (fun _ => none) (fun _ => none)
theorem solve.B8.ev (N : Nat) (r c : Int) (l : List Int) (p q : Int) (m : List Int) : A1 solve.B8.E N Tryz.f22 (Ad Tryz.f22) [.agg [.int .i64 r, .int .i64 c, .ints .arg .u64 l], .agg [.int .i64 p, .int .i64 q, .ints .arg .u64 m]] =
  bif (An l && An m) then
  bif ((Lw r c l p q m) != (0 : Int)) then
  some (.tup [.agg [.int .i64 0, .int .i64 0, .nil], .int .i64 (Lw r c l p q m)])
  else bif (On r c l p q m && decide (r = r)) then
  some (.tup [.agg [.int .i64 ((Gj r q (loG c l q m (Int.toNat r) (Int.toNat q))).1), .int .i64 ((Gj r q (loG c l q m (Int.toNat r) (Int.toNat q))).2.1), .ints .fresh .u64 ((Gj r q (loG c l q m (Int.toNat r) (Int.toNat q))).2.2.1)], .int .i64 ((Gj r q (loG c l q m (Int.toNat r) (Int.toNat q))).2.2.2)])
  else none
  else none := by kernel_rfl
theorem solve.B8.Ac (hk : A0 Tryz.prog solve.B8.A9) (h : ∀ (r c : Int) (l : List Int) (p q : Int) (m : List Int), solve.B8.pre [.i r, .i c, .l l, .i p, .i q, .l m] = true → ∃ N dv drops, A1 solve.B8.E N Tryz.f22 (Ad Tryz.f22) [.agg [.int .i64 r, .int .i64 c, .ints .arg .u64 l], .agg [.int .i64 p, .int .i64 q, .ints .arg .u64 m]] = some dv ∧ Wk drops dv (solve.B8.out [.i r, .i c, .l l, .i p, .i q, .l m])) : Am Tryz.prog 22 solve.B8.spec :=
  Aj (A2 hk _ _ _) Tryz.func22 (by kernel_rfl) (by kernel_rfl) h
abbrev _root_.Go.Proofs.S1.solve.B8.Kn : Prop := Am Tryz.prog 22 solve.B8.spec
def A6.B8.hint : Nat → Option Bf
  | 0 => some { keep := [2, 3, 4, 6, 7], objs := [], boxes := [2, 3, 4, 6] }
  | 2 => some { keep := [2, 3, 4, 6, 7, 8], objs := [], boxes := [2, 3, 4, 6] }
  | 4 => some { keep := [2, 3, 4, 6, 7, 8, 9, 10], objs := [], boxes := [2, 3, 4, 6] }
  | _ => none
def A6.B8.A9 : List (Nat × Entry) := [(84, Av.Div.spec), (82, Av.Mul.spec), (81, Av.Sub.spec), (80, Bh.At.spec), (83, Bh.Lr.spec), (35, Bh.Bt.spec), (79, A6.Check.spec), (85, A6.finite.spec)]
def A6.B8.E : Env := Bb (A8 A6.B8.A9) (fun _ => false) A6.B8.hint (fun _ => none)
def A6.B8.L0 (N M : Nat) (r c : Int) (l : List Int) (p q : Int) (m : List Int) (p7 : Int) (p6_2 : List Int) : Option DV := B6 A6.B8.E N Tryz.f23 (Ad Tryz.f23) [1, 1, 1, 0, 1, 0] [] M ⟨Hq 70 [(2, .ptr 2 0 0), (3, .ptr 3 0 0), (4, .ptr 4 0 0), (6, .ptr 6 0 0), (7, .int .i64 p7)], [(2, false, .box [.int .i64 r, .int .i64 c, .ints .arg .u64 l]), (3, false, .box [.int .i64 p, .int .i64 q, .ints .arg .u64 m]), (4, false, .box [.int .i64 0, .int .i64 0, .nil]), (6, false, .box [.int .i64 p, .int .i64 q, .ints .fresh .u64 p6_2])]⟩
def A6.B8.L1 (N M0 M : Nat) (r c : Int) (l : List Int) (p q : Int) (m : List Int) (p8 : Int) (p6 : List Int) (p7_1 : Int) : Option DV := B6 A6.B8.E N Tryz.f23 (Ad Tryz.f23) [1, 1, 1, 0, 1, 0, 0, 1, 0, 0, 1, 0] [M0] M ⟨Hq 70 [(2, .ptr 2 0 0), (3, .ptr 3 0 0), (4, .ptr 4 0 0), (6, .ptr 6 0 0), (7, .int .i64 p7_1), (8, .int .i64 p8)], [(2, false, .box [.int .i64 r, .int .i64 c, .ints .arg .u64 l]), (3, false, .box [.int .i64 p, .int .i64 q, .ints .arg .u64 m]), (4, false, .box [.int .i64 0, .int .i64 0, .nil]), (6, false, .box [.int .i64 p, .int .i64 q, .ints .fresh .u64 p6])]⟩
def A6.B8.L2 (N M0 M1 M : Nat) (r c : Int) (l : List Int) (p q : Int) (m : List Int) (p7_2 p8_1 p9 : Int) (p6_1 : List Int) (p10 : Int) : Option DV := B6 A6.B8.E N Tryz.f23 (Ad Tryz.f23) [1, 1, 1, 0, 1, 0, 0, 1, 0, 0, 1, 0, 0, 1, 0, 0, 1, 0, 1, 0] [M0, M1] M ⟨Hq 70 [(2, .ptr 2 0 0), (3, .ptr 3 0 0), (4, .ptr 4 0 0), (6, .ptr 6 0 0), (7, .int .i64 p7_2), (8, .int .i64 p8_1), (9, .int .u64 p9), (10, .int .i64 p10)], [(2, false, .box [.int .i64 r, .int .i64 c, .ints .arg .u64 l]), (3, false, .box [.int .i64 p, .int .i64 q, .ints .arg .u64 m]), (4, false, .box [.int .i64 0, .int .i64 0, .nil]), (6, false, .box [.int .i64 p, .int .i64 q, .ints .fresh .u64 p6_1])]⟩
theorem A6.B8.Az (N M : Nat) (r c : Int) (l : List Int) (p q : Int) (m : List Int) (p7 : Int) (p6_2 : List Int) : A6.B8.L0 N (M + 1) r c l p q m p7 p6_2 =
  bif (A5 p7 q) then
  A6.B8.L1 N M N r c l p q m (0 : Int) p6_2 p7
  else bif (An p6_2 && Bn p q p6_2) then
  some (.tup [.agg [.int .i64 ((Gj p q p6_2).1), .int .i64 ((Gj p q p6_2).2.1), .ints .arg .u64 ((Gj p q p6_2).2.2.1)], .int .i64 ((Gj p q p6_2).2.2.2)])
  else none := by kernel_rfl
theorem A6.B8.Ch (N M0 M : Nat) (r c : Int) (l : List Int) (p q : Int) (m : List Int) (p8 : Int) (p6 : List Int) (p7_1 : Int) : A6.B8.L1 N M0 (M + 1) r c l p q m p8 p6 p7_1 =
  bif (A5 p8 r) then
  bif (Ec p q m p8 p7_1) then
  A6.B8.L2 N M0 M N r c l p q m p7_1 p8 (Eg q m p8 p7_1) p6 (0 : Int)
  else none
  else A6.B8.L0 N M0 r c l p q m (Ab (p7_1 + (1 : Int))) p6 := by kernel_rfl
theorem A6.B8.Fq (N M0 M1 M : Nat) (r c : Int) (l : List Int) (p q : Int) (m : List Int) (p7_2 p8_1 p9 : Int) (p6_1 : List Int) (p10 : Int) : A6.B8.L2 N M0 M1 (M + 1) r c l p q m p7_2 p8_1 p9 p6_1 p10 =
  bif (A5 p10 p8_1) then
  bif (Ec r c l p8_1 p10) then
  bif (Ec p q p6_1 p10 p7_2) then
  bif (Ah (Eg c l p8_1 p10) && Ah (Eg q p6_1 p10 p7_2)) then
  bif (Ah p9 && Ah (Ed (Eg c l p8_1 p10) (Eg q p6_1 p10 p7_2))) then
  A6.B8.L2 N M0 M1 M r c l p q m p7_2 p8_1 (Ep p9 (Ed (Eg c l p8_1 p10) (Eg q p6_1 p10 p7_2))) p6_1 (Ab (p10 + (1 : Int)))
  else none
  else none
  else none
  else none
  else bif (Ec r c l p8_1 p8_1) then
  bif (Ah p9 && Ah (Eg c l p8_1 p8_1)) then
  bif (Ec p q p6_1 p8_1 p7_2) then
  A6.B8.L1 N M0 M1 r c l p q m (Ab (p8_1 + (1 : Int))) (List.set p6_1 (Int.toNat (p8_1 * q + p7_2)) (Et p9 (Eg c l p8_1 p8_1))) p7_2
  else none
  else none
  else none :=
  Eq.trans (by kernel_rfl)
  (Fb (C1 (Eu (Ec r c l p8_1 p10)) (C1 (Eu (Ec p q p6_1 p10 p7_2)) (C1 (Eu (Ah (Eg c l p8_1 p10) && Ah (Eg q p6_1 p10 p7_2))) (C1 (Eu (Ah p9 && Ah (Ed (Eg c l p8_1 p10) (Eg q p6_1 p10 p7_2)))) rfl rfl) rfl) rfl) rfl) (C1 (Eu (Ec r c l p8_1 p8_1)) (C1 (Eu (Ah p9 && Ah (Eg c l p8_1 p8_1))) (C1 (Eu (Ec p q p6_1 p8_1 p7_2)) rfl rfl) rfl) rfl))
theorem A6.B8.ev (N : Nat) (r c : Int) (l : List Int) (p q : Int) (m : List Int) : A1 A6.B8.E N Tryz.f23 (Ad Tryz.f23) [.agg [.int .i64 r, .int .i64 c, .ints .arg .u64 l], .agg [.int .i64 p, .int .i64 q, .ints .arg .u64 m]] =
  bif (An l && An m) then
  bif ((Lw r c l p q m) != (0 : Int)) then
  bif (An l && An m) then
  some (.tup [.agg [.int .i64 0, .int .i64 0, .nil], .int .i64 (Lw r c l p q m)])
  else none
  else bif (Bs p && Bs q) then
  A6.B8.L0 N N r c l p q m (0 : Int) (Cx (Int.toNat p) (Int.toNat q) (fun _ _ => 0))
  else none
  else none := by kernel_rfl
theorem A6.B8.Ac (hk : A0 Tryz.prog A6.B8.A9) (h : ∀ (r c : Int) (l : List Int) (p q : Int) (m : List Int), A6.B8.pre [.i r, .i c, .l l, .i p, .i q, .l m] = true → ∃ N dv drops, A1 A6.B8.E N Tryz.f23 (Ad Tryz.f23) [.agg [.int .i64 r, .int .i64 c, .ints .arg .u64 l], .agg [.int .i64 p, .int .i64 q, .ints .arg .u64 m]] = some dv ∧ Wk drops dv (A6.B8.out [.i r, .i c, .l l, .i p, .i q, .l m])) : Am Tryz.prog 23 A6.B8.spec :=
  Aj (A2 hk _ _ _) Tryz.func23 (by kernel_rfl) (by kernel_rfl) h
abbrev _root_.Go.Proofs.S1.A6.B8.Kn : Prop := Am Tryz.prog 23 A6.B8.spec
def A6.Flat.hint : Nat → Option Bf
  | 0 => some { keep := [1, 3, 4], objs := [], boxes := [1] }
  | 2 => some { keep := [1, 3, 5], objs := [], boxes := [1] }
  | _ => none
def A6.Flat.A9 : List (Nat × Entry) := [(94, Bw.Gm.spec), (93, Bw.Max.spec), (95, Bw.Order.spec), (96, Av.Bj.spec), (80, Bh.At.spec)]
def A6.Flat.E : Env := Bb (A8 A6.Flat.A9) (fun _ => false) A6.Flat.hint (fun _ => none)
def A6.Flat.L0 (N M : Nat) (r c : Int) (l : List Int) (p3 p4 : Int) : Option DV := B6 A6.Flat.E N Tryz.f26 (Ad Tryz.f26) [1, 1, 0, 1, 0] [] M ⟨Hq 52 [(1, .ptr 1 0 0), (3, .int .u64 p3), (4, .int .i64 p4)], [(1, false, .box [.int .i64 r, .int .i64 c, .ints .arg .u64 l])]⟩
def A6.Flat.L1 (N M : Nat) (r c : Int) (l : List Int) (p5 p3_1 : Int) : Option DV := B6 A6.Flat.E N Tryz.f26 (Ad Tryz.f26) [1, 1, 1, 0, 1, 0] [] M ⟨Hq 52 [(1, .ptr 1 0 0), (3, .int .u64 p3_1), (5, .int .i64 p5)], [(1, false, .box [.int .i64 r, .int .i64 c, .ints .arg .u64 l])]⟩
theorem A6.Flat.Az (N M : Nat) (r c : Int) (l : List Int) (p3 p4 : Int) : A6.Flat.L0 N (M + 1) r c l p3 p4 =
  bif ((A5 p4 r) && (A5 p4 c)) then
  bif (Ec r c l p4 p4) then
  bif (Ah (Eg c l p4 p4)) then
  bif (Ah p3 && Ah (Ix (Eg c l p4 p4))) then
  A6.Flat.L0 N M r c l (Og p3 (Ix (Eg c l p4 p4))) (Ab (p4 + (1 : Int)))
  else none
  else none
  else none
  else A6.Flat.L1 N N r c l (0 : Int) p3 :=
  Eq.trans (by kernel_rfl)
  (Ax (Lu (A5 p4 r)) (Ax (Lu (A5 p4 r)) (Ax (Kb (A5 p4 r)) (Ax (Ge (A5 p4 r)) (Ax (Hr (A5 p4 r)) (C1 (H8 (A5 p4 r) (A5 p4 c)) rfl rfl))))))
theorem A6.Flat.Ch (N M : Nat) (r c : Int) (l : List Int) (p5 p3_1 : Int) : A6.Flat.L1 N (M + 1) r c l p5 p3_1 =
  bif ((A5 p5 r) && (A5 p5 c)) then
  bif (Dp p3_1 (-40 : Int)) then
  bif (Ec r c l p5 p5) then
  bif (Ah (Eg c l p5 p5)) then
  bif (Ah (B3 p3_1 (-40 : Int)) && Ah (Ix (Eg c l p5 p5))) then
  bif (Ds (0 : Int) (Q9 (B3 p3_1 (-40 : Int)) (Ix (Eg c l p5 p5)))) then
  some (.bool true)
  else A6.Flat.L1 N M r c l (Ab (p5 + (1 : Int))) p3_1
  else none
  else none
  else none
  else none
  else some (.bool false) :=
  Eq.trans (by kernel_rfl)
  (Ax (Lu (A5 p5 r)) (Ax (Lu (A5 p5 r)) (Ax (Kb (A5 p5 r)) (Ax (Ge (A5 p5 r)) (Ax (Hr (A5 p5 r)) (C1 (H8 (A5 p5 r) (A5 p5 c)) (C1 (Eu (Dp p3_1 (-40 : Int))) (C1 (Eu (Ec r c l p5 p5)) (C1 (Eu (Ah (Eg c l p5 p5))) (C1 (Eu (Ah (B3 p3_1 (-40 : Int)) && Ah (Ix (Eg c l p5 p5)))) rfl rfl) rfl) rfl) rfl) rfl))))))
theorem A6.Flat.ev (N : Nat) (r c : Int) (l : List Int) : A1 A6.Flat.E N Tryz.f26 (Ad Tryz.f26) [.agg [.int .i64 r, .int .i64 c, .ints .arg .u64 l]] =
  A6.Flat.L0 N N r c l (0 : Int) (0 : Int) := by kernel_rfl
theorem A6.Flat.Ac (hk : A0 Tryz.prog A6.Flat.A9) (h : ∀ (r c : Int) (l : List Int), A6.Flat.pre [.i r, .i c, .l l] = true → ∃ N dv drops, A1 A6.Flat.E N Tryz.f26 (Ad Tryz.f26) [.agg [.int .i64 r, .int .i64 c, .ints .arg .u64 l]] = some dv ∧ Wk drops dv (A6.Flat.out [.i r, .i c, .l l])) : Am Tryz.prog 26 A6.Flat.spec :=
  Aj (A2 hk _ _ _) Tryz.func26 (by kernel_rfl) (by kernel_rfl) h
abbrev _root_.Go.Proofs.S1.A6.Flat.Kn : Prop := Am Tryz.prog 26 A6.Flat.spec
end EqLow
end Go.Proofs.S1
namespace Go.Proofs.S1
open Go Go.Den Go.Rnd Go.Proofs
open EqLow
theorem solve.D2.known : solve.D2.Kn := solve.D2.Ac .nil fun i k _ => by
  refine ⟨0, solve.D2.out [.i i, .i k], [], ?_, .bool⟩
  rw [solve.D2.ev, Aw]; rfl
theorem order_down.known : Cq.Cp.down.Kn := Cq.Cp.down.Ac .nil fun n k _ => ⟨0, Cq.Cp.down.out [.i n, .i k], [], by rw [Cq.Cp.down.ev]; rfl, .int⟩
section
variable {n Q : Nat} {l m : List Int}
def loF (n Q : Nat) (l m : List Int) (i j : Nat) : Int := (Zu (n : Int) l (fun i => Eg (Q : Int) m (i : Int) (j : Int)) n).getD i 0
def loD (j k a b : Nat) : Bool := decide (b < j ∨ (b = j ∧ a < k))
def Qm (n Q : Nat) (l m : List Int) (j k : Nat) : List Int := Cx n Q fun a b => if loD j k a b = true then loF n Q l m a b else 0
theorem loF_in (i j : Nat) : Ah (loF n Q l m i j) = true := Z0 (loL_in _ _ _ _) i
theorem loS_in (j k : Nat) : An (Qm n Q l m j k) = true := L8 fun a b => by
  split
  · exact loF_in _ _
  · exact Ik
theorem loS_get {j k t : Nat} (ht : t < n) (hj : j < Q) (hk : t < k) : Eg (Q : Int) (Qm n Q l m j k) (t : Int) (j : Int) = loF n Q l m t j := by
  unfold Qm
  have hd : loD j k t j = true := decide_eq_true (.inr ⟨rfl, hk⟩)
  rw [grid_at ht hj, hd, if_pos rfl]
theorem Qa (j k : Nat) : (Qm n Q l m j k).length = n * Q := Cd _ _ _
theorem loS_set {i j : Nat} (hj : j < Q) {x : Int} (hx : x = loF n Q l m i j) : List.set (Qm n Q l m j i) (Int.toNat ((i : Int) * (Q : Int) + (j : Int))) x = Qm n Q l m j (i + 1) := by
  refine done_set hj hx fun a b ha hb => ?_
  unfold loD
  rw [decide_eq_true_eq, decide_eq_true_eq]
  omega
theorem loS_next (j : Nat) : Qm n Q l m j n = Qm n Q l m (j + 1) 0 := by
  unfold Qm
  refine Dv fun a b ha hb => ?_
  have : loD j n a b = loD (j + 1) 0 a b := by
    unfold loD
    rw [decide_eq_decide]
    omega
  rw [this]
theorem loS_zero : Qm n Q l m 0 0 = Cx n Q fun _ _ => 0 := by
  unfold Qm
  refine Dv fun a b ha hb => ?_
  have : loD 0 0 a b = false := decide_eq_false (by omega)
  rw [this]; rfl
theorem loS_all : Qm n Q l m Q 0 = loG (n : Int) l (Q : Int) m n Q := by
  unfold Qm loG
  refine Dv fun a b ha hb => ?_
  have : loD Q 0 a b = true := decide_eq_true (.inl hb)
  rw [this]; rfl
def loR (n Q : Nat) (l m : List Int) (i j t : Nat) (s : Int) : Int := Oc (n : Int) l (i : Int) s (t : Int) (((Zu (n : Int) l (fun i => Eg (Q : Int) m (i : Int) (j : Int)) n).take i).drop t)
theorem Zt {i j : Nat} (hi : i < n) (s : Int) : loR n Q l m i j i s = s := by
  unfold loR
  rw [List.drop_of_length_le (by rw [List.length_take, H6]; omega), Oc]
theorem loR_step {i j t : Nat} (hi : i < n) (ht : t < i) (s : Int) : loR n Q l m i j t s = loR n Q l m i j (t + 1) (Ep s (Ed (Eg (n : Int) l (i : Int) (t : Int)) (loF n Q l m t j))) := by
  unfold loR loF
  rw [X8 (by rw [List.length_take, H6]; omega), List.getD_eq_getElem?_getD, List.getElem?_take_of_lt ht, ← List.getD_eq_getElem?_getD]
  rfl
theorem loR_row {i j : Nat} (hi : i < n) : Et (loR n Q l m i j 0 (Eg (Q : Int) m (i : Int) (j : Int))) (Eg (n : Int) l (i : Int) (i : Int)) = loF n Q l m i j := by
  unfold loR loF
  rw [List.drop_zero, loL_row hi]; rfl
theorem lo_round (N : Nat) (n6 : n ≤ 6) (q6 : Q ≤ 6) (hl : l.length = n * n) (al : An l = true) {i j : Nat} (hi : i < n) (hj : j < Q) (M0 M1 : Nat) (p29 p33 : Int) :
    ∀ (cnt t F : Nat) (s : Int), t + cnt = n → cnt < F → Ah s = true → (i < t → t ≤ n) →
    solve.Au.Lo.L2 N M0 M1 F (n : Int) (n : Int) l (n : Int) (Q : Int) m (n : Int) s (t : Int) (j : Int) (i : Int) p29 p33 (Qm n Q l m j i) =
    solve.Au.Lo.L1 N M0 M1 (n : Int) (n : Int) l (n : Int) (Q : Int) m (n : Int) (Ab (p33 + (1 : Int))) (List.set (Qm n Q l m j i) (Int.toNat ((i : Int) * (Q : Int) + (j : Int))) (Et (if t < i then loR n Q l m i j t s else s) (Eg (n : Int) l (i : Int) (i : Int)))) (j : Int) p29 := by
  intro cnt
  induction cnt with
  | zero =>
    intro t F s ht hF hs _
    obtain ⟨F, rfl⟩ : ∃ G, F = G + 1 := ⟨F - 1, by omega⟩
    obtain ⟨e1, g1, g2⟩ := Gc (R := (n : Int)) (Dl n6 n6 hl hi hi)
    obtain ⟨e2, g3, g4⟩ := Gc (R := (n : Int)) (Dl n6 q6 (Qa (l := l) (m := m) j i) hi hj)
    rw [if_neg (by omega)]
    rw [solve.Au.Lo.Fq, Aw, decide_eq_false (show ¬ (t : Int) < (n : Int) by omega), cond_false, e1, decide_eq_true g1, decide_eq_true g2, Bool.and_self, cond_true, hs, show Ah (List.getD l (Int.toNat ((i : Int) * (n : Int) + (i : Int))) 0) = true from Hf (c := (n : Int)) al, Bool.and_self, cond_true,
      e2, decide_eq_true g3, decide_eq_true g4, Bool.and_self, cond_true, decide_eq_true (show Int.toNat ((i : Int) * (Q : Int) + (j : Int)) < (Qm n Q l m j i).length by omega), cond_true]
    rfl
  | succ cnt ih =>
    intro t F s ht hF hs _
    obtain ⟨F, rfl⟩ : ∃ G, F = G + 1 := ⟨F - 1, by omega⟩
    by_cases hti : t < i
    · obtain ⟨e1, g1, g2⟩ := Gc (R := (n : Int)) (Dl n6 n6 hl hi (show t < n by omega))
      obtain ⟨e2, g3, g4⟩ := Gc (R := (n : Int)) (Dl n6 q6 (Qa (l := l) (m := m) j i) (show t < n by omega) hj)
      have hx : List.getD (Qm n Q l m j i) (Int.toNat ((t : Int) * (Q : Int) + (j : Int))) 0 = loF n Q l m t j := loS_get (by omega) hj hti
      have := ih (t + 1) F (Ep s (Ed (Eg (n : Int) l (i : Int) (t : Int)) (loF n Q l m t j))) (by omega) (by omega) (Oo hs (Ke _ _)) (by omega)
      rw [if_pos hti, loR_step hi hti]
      rw [solve.Au.Lo.Fq, Aw, decide_eq_true (show (t : Int) < (n : Int) by omega), cond_true, decide_eq_true (show (t : Int) < (i : Int) by omega), cond_true, e1, decide_eq_true g1, decide_eq_true g2, Bool.and_self, cond_true,
        e2, decide_eq_true g3, decide_eq_true g4, Bool.and_self, cond_true, decide_eq_true (show Int.toNat ((t : Int) * (Q : Int) + (j : Int)) < (Qm n Q l m j i).length by omega), cond_true, hx,
        show Ah (List.getD l (Int.toNat ((i : Int) * (n : Int) + (t : Int))) 0) = true from Hf (c := (n : Int)) al, loF_in, Bool.and_self, cond_true, hs, Ke, Bool.and_self, cond_true, Ap (x := (t : Int) + 1) (by omega) (by omega)]
      have e : (if t + 1 < i then loR n Q l m i j (t + 1) (Ep s (Ed (Eg (n : Int) l (i : Int) (t : Int)) (loF n Q l m t j))) else Ep s (Ed (Eg (n : Int) l (i : Int) (t : Int)) (loF n Q l m t j))) = loR n Q l m i j (t + 1) (Ep s (Ed (Eg (n : Int) l (i : Int) (t : Int)) (loF n Q l m t j))) := by
        by_cases h2 : t + 1 < i
        · rw [if_pos h2]
        · rw [if_neg h2, show t + 1 = i by omega, Zt hi]
      rw [e] at this
      exact this
    · have := ih (t + 1) F s (by omega) (by omega) hs (by omega)
      rw [if_neg hti, solve.Au.Lo.Fq, Aw, decide_eq_true (show (t : Int) < (n : Int) by omega), cond_true, decide_eq_false (show ¬ (t : Int) < (i : Int) by omega), cond_false, Ap (by omega) (by omega)]
      rw [if_neg (by omega)] at this
      exact this
theorem lo_rows (N : Nat) (n6 : n ≤ 6) (q6 : Q ≤ 6) (hN : 7 < N) (hl : l.length = n * n) (hm : m.length = n * Q) (al : An l = true) (am : An m = true) {j : Nat} (hj : j < Q) (M0 : Nat) : ∀ (cnt k F : Nat), k + cnt = n → cnt < F →
    solve.Au.Lo.L1 N M0 F (n : Int) (n : Int) l (n : Int) (Q : Int) m (n : Int) (k : Int) (Qm n Q l m j k) (j : Int) (j : Int) =
    solve.Au.Lo.L0 N M0 (n : Int) (n : Int) l (n : Int) (Q : Int) m (n : Int) ((j + 1 : Nat) : Int) (Qm n Q l m j n) := by
  intro cnt
  induction cnt with
  | zero =>
    intro k F hk hF
    obtain ⟨F, rfl⟩ : ∃ G, F = G + 1 := ⟨F - 1, by omega⟩
    obtain rfl : k = n := by omega
    rw [solve.Au.Lo.Ch, Aw, decide_eq_false (by omega), cond_false, Ap (by omega) (by omega)]
    rfl
  | succ cnt ih =>
    intro k F hk hF
    obtain ⟨F, rfl⟩ : ∃ G, F = G + 1 := ⟨F - 1, by omega⟩
    obtain ⟨e2, g3, g4⟩ := Gc (R := (n : Int)) (Dl n6 q6 hm (show k < n by omega) hj)
    have hr := lo_round (n := n) (Q := Q) (l := l) (m := m) N n6 q6 hl al (show k < n by omega) hj M0 F (j : Int) (k : Int) n 0 N (Eg (Q : Int) m (k : Int) (j : Int)) (by omega) (by omega) (Hf (c := (Q : Int)) am) (by omega)
    have e : (if 0 < k then loR n Q l m k j 0 (Eg (Q : Int) m (k : Int) (j : Int)) else Eg (Q : Int) m (k : Int) (j : Int)) = loR n Q l m k j 0 (Eg (Q : Int) m (k : Int) (j : Int)) := by
      by_cases h : 0 < k
      · rw [if_pos h]
      · obtain rfl : k = 0 := by omega
        rw [if_neg h, Zt (by omega)]
    rw [e, loS_set hj (loR_row (by omega)), Ap (by omega) (by omega)] at hr
    rw [solve.Au.Lo.Ch, Aw, decide_eq_true (show (k : Int) < (n : Int) by omega), cond_true, e2, decide_eq_true g3, decide_eq_true g4, Bool.and_self, cond_true]
    exact hr.trans (ih (k + 1) F (by omega) (by omega))
theorem lo_cols (N : Nat) (n6 : n ≤ 6) (q6 : Q ≤ 6) (hN : 7 < N) (hl : l.length = n * n) (hm : m.length = n * Q) (al : An l = true) (am : An m = true) : ∀ (cnt j F : Nat), j + cnt = Q → cnt < F →
    solve.Au.Lo.L0 N F (n : Int) (n : Int) l (n : Int) (Q : Int) m (n : Int) (j : Int) (Qm n Q l m j 0) =
    bif Ev (Qm n Q l m Q 0) then some (.tup [.agg [.int .i64 (n : Int), .int .i64 (Q : Int), .ints (.own 112002 tB) .u64 (Qm n Q l m Q 0)], .int .i64 (0 : Int)]) else some (nilX 2) := by
  intro cnt
  induction cnt with
  | zero =>
    intro j F hj hF
    obtain ⟨F, rfl⟩ : ∃ G, F = G + 1 := ⟨F - 1, by omega⟩
    obtain rfl : j = Q := by omega
    have h36 := Nat.mul_le_mul n6 q6
    rw [solve.Au.Lo.Az, Aw, decide_eq_false (by omega), cond_false, Jg (loS_in _ _) (by rw [Qa]; omega), cond_true]
    cases Ev (Qm n j l m j 0) <;> rfl
  | succ cnt ih =>
    intro j F hj hF
    obtain ⟨F, rfl⟩ : ∃ G, F = G + 1 := ⟨F - 1, by omega⟩
    have hr := lo_rows N n6 q6 hN hl hm al am (show j < Q by omega) F n 0 N (by omega) (by omega)
    rw [loS_next] at hr
    rw [solve.Au.Lo.Az, Aw, decide_eq_true (show (j : Int) < (Q : Int) by omega), cond_true]
    exact hr.trans (ih (j + 1) F (by omega) (by omega))
end
theorem solve.Au.Lo.known : solve.Au.Lo.Kn := solve.Au.Lo.Ac (.cons order_down.known (.cons Aa.Bt.own.known (.cons solve.D2.known (.cons Ae.Div.known (.cons Ae.Finite.known (.cons Ae.Mul.known (.cons Ae.Sub.known .nil))))))) fun r c l p q m n hp => by
  show ∃ N dv drops, _ = some dv ∧ Wk drops dv (Tl (Gj r q (loG c l q m (Int.toNat r) (Int.toNat q))))
  obtain ⟨h1, hn⟩ := Ag.1 (show (On r c l p q m && decide (n = r)) = true from hp)
  obtain ⟨h2, h3⟩ := Ag.1 h1
  obtain ⟨hr, hm⟩ := Ag.1 h2
  obtain ⟨h4, h5⟩ := Ag.1 h3
  obtain ⟨al, am⟩ := Ag.1 h4
  obtain ⟨rfl, rfl⟩ := Ar.1 h5
  obtain rfl := of_decide_eq_true hn
  have s1 := (F1 hr).1
  have s2 := (F1 hm).2
  obtain ⟨R, C, rfl, hC, r6, c6, hl⟩ := Da hr
  obtain ⟨P, Q, hP, rfl, p6, q6, hl2⟩ := Da hm
  obtain rfl : R = C := by omega
  obtain rfl : R = P := by omega
  have h := lo_cols (n := R) (Q := Q) (l := l) (m := m) 8 r6 q6 (by omega) hl hl2 al am Q 0 8 (by omega) (by omega)
  rw [loS_zero, loS_all, show ((0 : Nat) : Int) = 0 from rfl] at h
  rw [Int.toNat_natCast, Int.toNat_natCast]
  unfold Gj
  cases hf : Ev (loG (R : Int) l (Q : Int) m R Q) with
  | true =>
    rw [hf, cond_true] at h
    rw [if_pos rfl]
    refine ⟨8, .tup [.agg [.int .i64 (R : Int), .int .i64 (Q : Int), .ints (.own 112002 tB) .u64 (loG (R : Int) l (Q : Int) m R Q)], .int .i64 0], [112002], ?_, Wk.Gg (.cons (Yw (List.mem_singleton.2 rfl)) (.cons .int .nil))⟩
    rw [solve.Au.Lo.ev, s1, s2, Bool.and_self, cond_true, Int.toNat_natCast, Int.toNat_natCast]
    exact h
  | false =>
    rw [hf, cond_false] at h
    rw [if_neg (by decide)]
    refine ⟨8, nilX 2, [], ?_, Js⟩
    rw [solve.Au.Lo.ev, s1, s2, Bool.and_self, cond_true, Int.toNat_natCast, Int.toNat_natCast]
    exact h
theorem solve.B8.known : solve.B8.Kn := solve.B8.Ac (.cons solve.check.known (.cons solve.Au.Lo.known .nil)) fun r c l p q m hp => by
  have hp : (An l && An m) = true := hp
  show ∃ N dv drops, _ = some dv ∧ Wk drops dv (Tl (Mr r c l p q m))
  unfold Mr
  by_cases h : Lw r c l p q m = 0
  · obtain ⟨h1, h2, h3, h4⟩ := Qf h
    have ht : On r c l p q m = true := Ag.2 ⟨Ag.2 ⟨h1, h2⟩, Ag.2 ⟨hp, Ar.2 ⟨h3, h4⟩⟩⟩
    rw [if_neg (by rw [h]; decide)]
    exact ⟨0, _, [], by rw [solve.B8.ev, hp, cond_true, Il h, cond_false, ht, decide_eq_true rfl]; rfl, Ol⟩
  · rw [if_pos h]
    exact ⟨0, _, [], by rw [solve.B8.ev, hp, cond_true, neI h, cond_true]; rfl, Js⟩
end Go.Proofs.S1
namespace Go.Proofs.S1
open Go Go.Den Go.Rnd Go.Proofs
open EqRef14 EqLow
section
variable {n Q : Nat} {l m : List Int}
theorem Ze (N : Nat) (n6 : n ≤ 6) (q6 : Q ≤ 6) (hl : l.length = n * n) (al : An l = true) {i j : Nat} (hi : i < n) (hj : j < Q) (M0 M1 : Nat) :
    ∀ (cnt t F : Nat) (s : Int), t + cnt = i → cnt < F → Ah s = true →
    A6.B8.L2 N M0 M1 F (n : Int) (n : Int) l (n : Int) (Q : Int) m (j : Int) (i : Int) s (Qm n Q l m j i) (t : Int) =
    A6.B8.L1 N M0 M1 (n : Int) (n : Int) l (n : Int) (Q : Int) m (Ab ((i : Int) + (1 : Int))) (List.set (Qm n Q l m j i) (Int.toNat ((i : Int) * (Q : Int) + (j : Int))) (Et (loR n Q l m i j t s) (Eg (n : Int) l (i : Int) (i : Int)))) (j : Int) := by
  intro cnt
  induction cnt with
  | zero =>
    intro t F s ht hF hs
    obtain ⟨F, rfl⟩ : ∃ G, F = G + 1 := ⟨F - 1, by omega⟩
    obtain rfl : t = i := by omega
    rw [A6.B8.Fq, Aw, decide_eq_false (by omega), cond_false, Dl n6 n6 hl hi hi, cond_true, hs, Hf al, Bool.and_self, cond_true, Dl n6 q6 (Qa (l := l) (m := m) j t) hi hj, cond_true, Zt hi]
  | succ cnt ih =>
    intro t F s ht hF hs
    obtain ⟨F, rfl⟩ : ∃ G, F = G + 1 := ⟨F - 1, by omega⟩
    have := ih (t + 1) F (Ep s (Ed (Eg (n : Int) l (i : Int) (t : Int)) (loF n Q l m t j))) (by omega) (by omega) (Oo hs (Ke _ _))
    rw [A6.B8.Fq, Aw, decide_eq_true (show (t : Int) < (i : Int) by omega), cond_true, Dl n6 n6 hl hi (show t < n by omega), cond_true, Dl n6 q6 (Qa (l := l) (m := m) j i) (show t < n by omega) hj, cond_true,
      loS_get (show t < n by omega) hj (show t < i by omega), Hf al, loF_in, Bool.and_self, cond_true, hs, Ke, Bool.and_self, cond_true, Ap (by omega) (by omega), loR_step hi (show t < i by omega)]
    exact this
theorem ref_lo_rows (N : Nat) (n6 : n ≤ 6) (q6 : Q ≤ 6) (hN : 7 < N) (hl : l.length = n * n) (hm : m.length = n * Q) (al : An l = true) (am : An m = true) {j : Nat} (hj : j < Q) (M0 : Nat) : ∀ (cnt k F : Nat), k + cnt = n → cnt < F →
    A6.B8.L1 N M0 F (n : Int) (n : Int) l (n : Int) (Q : Int) m (k : Int) (Qm n Q l m j k) (j : Int) =
    A6.B8.L0 N M0 (n : Int) (n : Int) l (n : Int) (Q : Int) m ((j + 1 : Nat) : Int) (Qm n Q l m j n) := by
  intro cnt
  induction cnt with
  | zero =>
    intro k F hk hF
    obtain ⟨F, rfl⟩ : ∃ G, F = G + 1 := ⟨F - 1, by omega⟩
    obtain rfl : k = n := by omega
    rw [A6.B8.Ch, Aw, decide_eq_false (by omega), cond_false, Ap (by omega) (by omega)]
    rfl
  | succ cnt ih =>
    intro k F hk hF
    obtain ⟨F, rfl⟩ : ∃ G, F = G + 1 := ⟨F - 1, by omega⟩
    have hr := Ze (n := n) (Q := Q) (l := l) (m := m) N n6 q6 hl al (show k < n by omega) hj M0 F k 0 N (Eg (Q : Int) m (k : Int) (j : Int)) (by omega) (by omega) (Hf (c := (Q : Int)) am)
    rw [loS_set hj (loR_row (by omega)), Ap (by omega) (by omega)] at hr
    rw [A6.B8.Ch, Aw, decide_eq_true (show (k : Int) < (n : Int) by omega), cond_true, Dl n6 q6 hm (show k < n by omega) hj, cond_true]
    exact hr.trans (ih (k + 1) F (by omega) (by omega))
theorem ref_lo_cols (N : Nat) (n6 : n ≤ 6) (q6 : Q ≤ 6) (hN : 7 < N) (hl : l.length = n * n) (hm : m.length = n * Q) (al : An l = true) (am : An m = true) : ∀ (cnt j F : Nat), j + cnt = Q → cnt < F →
    A6.B8.L0 N F (n : Int) (n : Int) l (n : Int) (Q : Int) m (j : Int) (Qm n Q l m j 0) =
    some (.tup [.agg [.int .i64 (Gj (n : Int) (Q : Int) (Qm n Q l m Q 0)).1, .int .i64 (Gj (n : Int) (Q : Int) (Qm n Q l m Q 0)).2.1, .ints .arg .u64 (Gj (n : Int) (Q : Int) (Qm n Q l m Q 0)).2.2.1], .int .i64 (Gj (n : Int) (Q : Int) (Qm n Q l m Q 0)).2.2.2]) := by
  intro cnt
  induction cnt with
  | zero =>
    intro j F hj hF
    obtain ⟨F, rfl⟩ : ∃ G, F = G + 1 := ⟨F - 1, by omega⟩
    obtain rfl : j = Q := by omega
    rw [A6.B8.Az, Aw, decide_eq_false (by omega), cond_false, loS_in, Ow n6 q6 (Qa _ _), Bool.and_self, cond_true]
  | succ cnt ih =>
    intro j F hj hF
    obtain ⟨F, rfl⟩ : ∃ G, F = G + 1 := ⟨F - 1, by omega⟩
    have hr := ref_lo_rows N n6 q6 hN hl hm al am (show j < Q by omega) F n 0 N (by omega) (by omega)
    rw [loS_next] at hr
    rw [A6.B8.Az, Aw, decide_eq_true (show (j : Int) < (Q : Int) by omega), cond_true]
    exact hr.trans (ih (j + 1) F (by omega) (by omega))
end
theorem A6.B8.known : A6.B8.Kn := A6.B8.Ac (.cons Av.Div.known (.cons Av.Mul.known (.cons Av.Sub.known (.cons Bh.At.known (.cons Bh.Lr.known (.cons Bh.Bt.known (.cons A6.Check.known (.cons A6.finite.known .nil)))))))) fun r c l p q m hp => by
  have hp : (An l && An m) = true := hp
  obtain ⟨al, am⟩ := Ag.1 hp
  show ∃ N dv drops, _ = some dv ∧ Wk drops dv (DV.tup [.agg [.int .i64 (Mr r c l p q m).1, .int .i64 (Mr r c l p q m).2.1, .ints .arg .u64 (Mr r c l p q m).2.2.1], .int .i64 (Mr r c l p q m).2.2.2])
  have hrun := A6.B8.ev 8 r c l p q m
  rw [hp, cond_true] at hrun
  unfold Mr
  by_cases h : Lw r c l p q m = 0
  · rw [Il h, cond_false] at hrun
    rw [if_neg (by rw [h]; decide)]
    obtain ⟨h1, h2, h3, h4⟩ := Qf h
    have s := F1 h2
    obtain ⟨R, C, rfl, rfl, r6, c6, hl⟩ := Da h1
    obtain ⟨P, Q, rfl, rfl, p6, q6, hl2⟩ := Da h2
    obtain rfl : R = C := by omega
    obtain rfl : R = P := by omega
    have hc := ref_lo_cols (n := R) (Q := Q) (l := l) (m := m) 8 r6 q6 (by omega) hl hl2 al am Q 0 8 (by omega) (by omega)
    rw [loS_zero, loS_all] at hc
    rw [s.1, s.2, Bool.and_self, cond_true, Int.toNat_natCast, Int.toNat_natCast] at hrun
    rw [Int.toNat_natCast, Int.toNat_natCast]
    exact ⟨8, _, [], hrun.trans hc, wk_matA⟩
  · rw [neI h, cond_true, cond_true] at hrun
    rw [if_pos h]
    exact ⟨8, _, [], hrun, wk_noA⟩
theorem Yi : ∀ (d : List Int) (m : Int), (∀ x ∈ d, ∃ n : Nat, x = ((Fz n : Nat) : Int)) → d.foldl (fun m x => Og m x) m = d.foldl (fun m x => Og m (Ix x)) m
  | [], _, _ => rfl
  | x :: d, m, h => by
    obtain ⟨n, rfl⟩ := h x List.mem_cons_self
    have e : Ix ((Fz n : Nat) : Int) = ((Fz n : Nat) : Int) := by
      unfold Ix
      rw [Int.toNat_natCast]
      congr 1
      unfold Fz
      omega
    rw [List.foldl_cons, List.foldl_cons, e]
    exact Yi d _ fun y hy => h y (List.mem_cons_of_mem _ hy)
theorem Yj {c : Int} {l : List Int} {n i : Nat} (h : i < n) : (Jb c l n).drop i = Ix (Eg c l (i : Int) (i : Int)) :: (Jb c l n).drop (i + 1) := by
  have hl : (Jb c l n).length = n := Hd c l n
  rw [List.drop_eq_getElem_cons (by rw [hl]; exact h)]
  congr 1
  simp [Jb]
theorem Zf (N : Nat) {R C : Nat} {l : List Int} (r6 : R ≤ 6) (c6 : C ≤ 6) (hl : l.length = R * C) (al : An l = true) : ∀ (cnt i F : Nat) (g : Int), i + cnt = min R C → cnt < F → Ah g = true →
    A6.Flat.L0 N F (R : Int) (C : Int) l g (i : Int) = A6.Flat.L1 N N (R : Int) (C : Int) l 0 (((Jb (C : Int) l (min R C)).drop i).foldl (fun m x => Og m x) g) := by
  intro cnt
  induction cnt with
  | zero =>
    intro i F g hi hF hg
    obtain ⟨F, rfl⟩ : ∃ G, F = G + 1 := ⟨F - 1, by omega⟩
    have hlt : (A5 (i : Int) (R : Int) && A5 (i : Int) (C : Int)) = false := by
      rw [Aw, Aw, Bool.and_eq_false_iff, decide_eq_false_iff_not, decide_eq_false_iff_not]; omega
    rw [A6.Flat.Az, hlt, cond_false, List.drop_of_length_le (by rw [Hd]; omega)]
    rfl
  | succ cnt ih =>
    intro i F g hi hF hg
    obtain ⟨F, rfl⟩ : ∃ G, F = G + 1 := ⟨F - 1, by omega⟩
    have hlt : (A5 (i : Int) (R : Int) && A5 (i : Int) (C : Int)) = true := by
      rw [Aw, Aw, decide_eq_true (by omega), decide_eq_true (by omega)]; rfl
    rw [A6.Flat.Az, hlt, cond_true, Dl r6 c6 hl (by omega) (by omega), cond_true, Hf al, cond_true, hg, V5, Bool.and_self, cond_true, Ap (by omega) (by omega), Yj (by omega), List.foldl_cons]
    exact ih (i + 1) F _ (by omega) (by omega) (max_in hg (V5 _))
theorem Zg (N : Nat) {R C : Nat} {l : List Int} {g : Int} (r6 : R ≤ 6) (c6 : C ≤ 6) (hl : l.length = R * C) (al : An l = true) (hg : Ah g = true) : ∀ (cnt i F : Nat), i + cnt = min R C → cnt < F →
    A6.Flat.L1 N F (R : Int) (C : Int) l (i : Int) g = some (.bool (((Jb (C : Int) l (min R C)).drop i).any fun x => !(decide (Q9 (B3 g (-40)) x < 0)))) := by
  intro cnt
  induction cnt with
  | zero =>
    intro i F hi hF
    obtain ⟨F, rfl⟩ : ∃ G, F = G + 1 := ⟨F - 1, by omega⟩
    have hlt : (A5 (i : Int) (R : Int) && A5 (i : Int) (C : Int)) = false := by
      rw [Aw, Aw, Bool.and_eq_false_iff, decide_eq_false_iff_not, decide_eq_false_iff_not]; omega
    rw [A6.Flat.Ch, hlt, cond_false, List.drop_of_length_le (by rw [Hd]; omega)]
    rfl
  | succ cnt ih =>
    intro i F hi hF
    obtain ⟨F, rfl⟩ : ∃ G, F = G + 1 := ⟨F - 1, by omega⟩
    have hlt : (A5 (i : Int) (R : Int) && A5 (i : Int) (C : Int)) = true := by
      rw [Aw, Aw, decide_eq_true (by omega), decide_eq_true (by omega)]; rfl
    have sp : Dp g (-40 : Int) = true := Ag.2 ⟨hg, Ar.2 (by omega)⟩
    rw [A6.Flat.Ch, hlt, cond_true, sp, cond_true, Dl r6 c6 hl (by omega) (by omega), cond_true, Hf al, cond_true, It hg, V5, Bool.and_self, cond_true, Ef, Yj (by omega), List.any_cons, Ap (by omega) (by omega)]
    by_cases h : Q9 (B3 g (-40)) (Ix (Eg (C : Int) l (i : Int) (i : Int))) < 0
    · rw [decide_eq_false (by omega), cond_false, decide_eq_true h, Bool.not_true, Bool.false_or]
      exact ih (i + 1) F (by omega) (by omega)
    · rw [decide_eq_true (by omega), cond_true, decide_eq_false h]; rfl
theorem A6.Flat.known : A6.Flat.Kn := A6.Flat.Ac (.cons Bw.Gm.known (.cons Bw.Max.known (.cons Bw.Order.known (.cons Av.Bj.known (.cons Bh.At.known .nil))))) fun r c l hp => by
  obtain ⟨h1, hf⟩ := Ag.1 (show ((Bn r c l && An l) && Ev l) = true from hp)
  obtain ⟨hr, al⟩ := Ag.1 h1
  obtain ⟨R, C, rfl, rfl, r6, c6, hl⟩ := Da hr
  refine ⟨8, .bool (Pc (R : Int) (C : Int) l), [], ?_, .bool⟩
  rw [A6.Flat.ev]
  have h1 := Zf 8 r6 c6 hl al (min R C) 0 8 0 (by omega) (by omega) Ik
  rw [List.drop_zero, Yi _ _ (fun x hx => by obtain ⟨j, _, rfl⟩ := List.mem_map.1 hx; exact ⟨_, rfl⟩)] at h1
  have h2 := fold_big (Jb (C : Int) l (min R C)) 0 (by decide) (by decide +kernel)
  have h2 : (Jb (C : Int) l (min R C)).foldl (fun m x => Og m (Ix x)) 0 = Br (Jb (C : Int) l (min R C)) := h2
  rw [h2] at h1
  have h3 := Zg 8 (g := Br (Jb (C : Int) l (min R C))) r6 c6 hl al (Pl _) (min R C) 0 8 (by omega) (by omega)
  rw [List.drop_zero] at h3
  unfold Pc flatL
  rw [Int.toNat_natCast, Int.toNat_natCast]
  exact h1.trans h3
end Go.Proofs.S1
namespace Go.Proofs.S1
open Go Go.Den Go.Rnd Go.Proofs
set_option linter.unusedVariables false
set_option maxRecDepth 100000
namespace EqLaw17
theorem Eu : ∀ a : Bool, (((!a) || (a == true)) && true) = true := by decide
theorem I7 : ∀ a b : Bool, ((!(a == true)) || ((((!(a == true)) || (a == true)) && (((!(a == true)) || (a == true)) && true)) && b)) = ((!a) || b) := by decide
theorem H8 : ∀ a : Bool, ((!(a == true)) || true) = true := by decide
theorem Hr : ∀ a b : Bool, (((!(bif a then b else false)) || ((bif a then b else false) == true)) && true) = true := by decide
theorem Ge : ∀ a b : Bool, ((!((bif a then b else false) == true)) || ((((!((bif a then b else false) == true)) || ((bif a then b else false) == true)) && true) && true)) = true := by decide
theorem Kb : ∀ a b c : Bool, ((!((bif a then b else false) == true)) || ((((!((bif a then b else false) == true)) || ((bif a then b else false) == true)) && true) && c)) = ((!(a && b)) || c) := by decide
theorem Lu : ∀ a b : Bool, ((!((bif a then b else false) == true)) || true) = true := by decide
theorem Ld : ∀ a : Bool, ((!(a == true)) || ((((!(a == true)) || (a == true)) && true) && true)) = true := by decide
def Cc.same.A9 : List (Nat × Entry) := [(31, Bh.D4.spec)]
def Cc.same.E : Env := Bb (A8 Cc.same.A9) (fun _ => false) (fun _ => none) (fun _ => none)
theorem Cc.same.ev (N : Nat) (r c : Int) (l : List Int) (e p q : Int) (m : List Int) (f : Int) : A1 Cc.same.E N Tryz.f27 (Ad Tryz.f27) [.agg [.int .i64 r, .int .i64 c, .ints .arg .u64 l], .int .i64 e, .agg [.int .i64 p, .int .i64 q, .ints .arg .u64 m], .int .i64 f] =
  bif ((!(e == f)) || (Ob l)) then
  some (.bool (bif (e == f) then (Ot r c l p q m) else false))
  else none :=
  Eq.trans (by kernel_rfl)
  (Ax (H8 (e == f)) (Ax (H8 (e == f)) (C1 (I7 (e == f) (Ob l)) (Ax (Eu (e == f)) rfl) rfl)))
theorem Cc.same.Ac (hk : A0 Tryz.prog Cc.same.A9) (h : ∀ (r c : Int) (l : List Int) (e p q : Int) (m : List Int) (f : Int), Cc.same.pre [.i r, .i c, .l l, .i e, .i p, .i q, .l m, .i f] = true → ∃ N dv drops, A1 Cc.same.E N Tryz.f27 (Ad Tryz.f27) [.agg [.int .i64 r, .int .i64 c, .ints .arg .u64 l], .int .i64 e, .agg [.int .i64 p, .int .i64 q, .ints .arg .u64 m], .int .i64 f] = some dv ∧ Wk drops dv (Cc.same.out [.i r, .i c, .l l, .i e, .i p, .i q, .l m, .i f])) : Am Tryz.prog 27 Cc.same.spec :=
  Aj (A2 hk _ _ _) Tryz.func27 (by kernel_rfl) (by kernel_rfl) h
abbrev _root_.Go.Proofs.S1.Cc.same.Kn : Prop := Am Tryz.prog 27 Cc.same.spec
def Cc.Gz.A9 : List (Nat × Entry) := [(30, solve.Gl.spec)]
def Cc.Gz.E : Env := Bb (A8 Cc.Gz.A9) (fun _ => false) (fun _ => none) (fun _ => none)
theorem Cc.Gz.ev (N : Nat) : A1 Cc.Gz.E N Tryz.f28 (Ad Tryz.f28) [] =
  bif (An [(4611686018427387904 : Int)] && An [(4616189618054758400 : Int)]) then
  bif ((!((((Dr (1 : Int) (1 : Int) [(4611686018427387904 : Int)] (1 : Int) (1 : Int) [(4616189618054758400 : Int)]).2.2.2) == (0 : Int)) && ((List.length ((Dr (1 : Int) (1 : Int) [(4611686018427387904 : Int)] (1 : Int) (1 : Int) [(4616189618054758400 : Int)]).2.2.1) : Int) == (1 : Int)))) || (decide ((0 : Int) < (List.length ((Dr (1 : Int) (1 : Int) [(4611686018427387904 : Int)] (1 : Int) (1 : Int) [(4616189618054758400 : Int)]).2.2.1) : Int)))) then
  some (.bool (bif (bif (((Dr (1 : Int) (1 : Int) [(4611686018427387904 : Int)] (1 : Int) (1 : Int) [(4616189618054758400 : Int)]).2.2.2) == (0 : Int)) then ((List.length ((Dr (1 : Int) (1 : Int) [(4611686018427387904 : Int)] (1 : Int) (1 : Int) [(4616189618054758400 : Int)]).2.2.1) : Int) == (1 : Int)) else false) then ((List.getD ((Dr (1 : Int) (1 : Int) [(4611686018427387904 : Int)] (1 : Int) (1 : Int) [(4616189618054758400 : Int)]).2.2.1) 0 0) == (4611686018427387904 : Int)) else false))
  else none
  else none :=
  Eq.trans (by kernel_rfl)
  (Fb (Ax (H8 (((Dr (1 : Int) (1 : Int) [(4611686018427387904 : Int)] (1 : Int) (1 : Int) [(4616189618054758400 : Int)]).2.2.2) == (0 : Int))) (Ax (Ld (((Dr (1 : Int) (1 : Int) [(4611686018427387904 : Int)] (1 : Int) (1 : Int) [(4616189618054758400 : Int)]).2.2.2) == (0 : Int))) (Ax (Ld (((Dr (1 : Int) (1 : Int) [(4611686018427387904 : Int)] (1 : Int) (1 : Int) [(4616189618054758400 : Int)]).2.2.2) == (0 : Int))) (Ax (Ld (((Dr (1 : Int) (1 : Int) [(4611686018427387904 : Int)] (1 : Int) (1 : Int) [(4616189618054758400 : Int)]).2.2.2) == (0 : Int))) (Ax (Eu (((Dr (1 : Int) (1 : Int) [(4611686018427387904 : Int)] (1 : Int) (1 : Int) [(4616189618054758400 : Int)]).2.2.2) == (0 : Int))) (Ax (Lu (((Dr (1 : Int) (1 : Int) [(4611686018427387904 : Int)] (1 : Int) (1 : Int) [(4616189618054758400 : Int)]).2.2.2) == (0 : Int)) ((List.length ((Dr (1 : Int) (1 : Int) [(4611686018427387904 : Int)] (1 : Int) (1 : Int) [(4616189618054758400 : Int)]).2.2.1) : Int) == (1 : Int))) (Ax (Ge (((Dr (1 : Int) (1 : Int) [(4611686018427387904 : Int)] (1 : Int) (1 : Int) [(4616189618054758400 : Int)]).2.2.2) == (0 : Int)) ((List.length ((Dr (1 : Int) (1 : Int) [(4611686018427387904 : Int)] (1 : Int) (1 : Int) [(4616189618054758400 : Int)]).2.2.1) : Int) == (1 : Int))) (C1 (Kb (((Dr (1 : Int) (1 : Int) [(4611686018427387904 : Int)] (1 : Int) (1 : Int) [(4616189618054758400 : Int)]).2.2.2) == (0 : Int)) ((List.length ((Dr (1 : Int) (1 : Int) [(4611686018427387904 : Int)] (1 : Int) (1 : Int) [(4616189618054758400 : Int)]).2.2.1) : Int) == (1 : Int)) (decide ((0 : Int) < (List.length ((Dr (1 : Int) (1 : Int) [(4611686018427387904 : Int)] (1 : Int) (1 : Int) [(4616189618054758400 : Int)]).2.2.1) : Int)))) (Ax (Ge (((Dr (1 : Int) (1 : Int) [(4611686018427387904 : Int)] (1 : Int) (1 : Int) [(4616189618054758400 : Int)]).2.2.2) == (0 : Int)) ((List.length ((Dr (1 : Int) (1 : Int) [(4611686018427387904 : Int)] (1 : Int) (1 : Int) [(4616189618054758400 : Int)]).2.2.1) : Int) == (1 : Int))) (Ax (Ge (((Dr (1 : Int) (1 : Int) [(4611686018427387904 : Int)] (1 : Int) (1 : Int) [(4616189618054758400 : Int)]).2.2.2) == (0 : Int)) ((List.length ((Dr (1 : Int) (1 : Int) [(4611686018427387904 : Int)] (1 : Int) (1 : Int) [(4616189618054758400 : Int)]).2.2.1) : Int) == (1 : Int))) (Ax (Hr (((Dr (1 : Int) (1 : Int) [(4611686018427387904 : Int)] (1 : Int) (1 : Int) [(4616189618054758400 : Int)]).2.2.2) == (0 : Int)) ((List.length ((Dr (1 : Int) (1 : Int) [(4611686018427387904 : Int)] (1 : Int) (1 : Int) [(4616189618054758400 : Int)]).2.2.1) : Int) == (1 : Int))) rfl))) rfl)))))))) rfl)
theorem Cc.Gz.Ac (hk : A0 Tryz.prog Cc.Gz.A9) (h : ∀ (_ : Unit), Cc.Gz.pre [] = true → ∃ N dv drops, A1 Cc.Gz.E N Tryz.f28 (Ad Tryz.f28) [] = some dv ∧ Wk drops dv (Cc.Gz.out [])) : Am Tryz.prog 28 Cc.Gz.spec :=
  Aj (A2 hk _ _ _) Tryz.func28 (by kernel_rfl) (by kernel_rfl) (h ())
abbrev _root_.Go.Proofs.S1.Cc.Gz.Kn : Prop := Am Tryz.prog 28 Cc.Gz.spec
end EqLaw17
end Go.Proofs.S1
namespace Go.Proofs.S1
open Go Go.Den Go.Rnd Go.Proofs
open EqLaw17
theorem Cc.same.known : Cc.same.Kn := Cc.same.Ac (.cons Bh.D4.known .nil) fun r c l e p q m f hp => by
  have hp : Ob l = true := hp
  refine ⟨0, Cc.same.out [.i r, .i c, .l l, .i e, .i p, .i q, .l m, .i f], [], ?_, .bool⟩
  show _ = some (DV.bool (decide (e = f) && Ot r c l p q m))
  have he : (e == f) = decide (e = f) := by rw [Bool.eq_iff_iff]; simp
  rw [Cc.same.ev, hp, Bool.or_true, cond_true, he]
  cases decide (e = f) <;> rfl
def two1 : List Int := [4611686018427387904]
def four1 : List Int := [4616189618054758400]
theorem least_two : Dr 1 1 two1 1 1 four1 = (1, 1, two1, 0) := by decide +kernel
theorem all_two : An two1 = true := Ar.2 fun x hx => by
  rw [List.mem_singleton.1 hx]; exact By (n := 4611686018427387904) (by decide)
theorem all_four : An four1 = true := Ar.2 fun x hx => by
  rw [List.mem_singleton.1 hx]; exact By (n := 4616189618054758400) (by decide)
theorem Cc.Gz.known : Cc.Gz.Kn := Cc.Gz.Ac (.cons solve.Gl.known .nil) fun _ _ => by
  refine ⟨0, Cc.Gz.out [], [], ?_, .bool⟩
  have h2 : An [(4611686018427387904 : Int)] = true := all_two
  have h3 : An [(4616189618054758400 : Int)] = true := all_four
  have h4 : Dr (1 : Int) (1 : Int) [(4611686018427387904 : Int)] (1 : Int) (1 : Int) [(4616189618054758400 : Int)] = (1, 1, two1, 0) := least_two
  rw [Cc.Gz.ev, h2, h3, h4]
  rfl
theorem finX_len {r c : Nat} {l : List Int} (h : l.length ≤ 36) : (Gj r c l).2.2.1.length ≤ 36 := by
  unfold Gj
  split
  · exact h
  · exact Nat.zero_le _
theorem same_refl (r c : Int) (l : List Int) : Ot r c l r c l = true := by unfold Ot; simp
end Go.Proofs.S1
namespace Go.Proofs.S1
open Go Go.Den Go.Rnd Go.Proofs
set_option linter.unusedVariables false
set_option maxRecDepth 100000
namespace EqLaw17L
theorem Eu : ∀ a : Bool, (((!a) || (a == true)) && true) = true := by decide
theorem I7 : ∀ a : Bool, ((!(a == true)) || true) = true := by decide
theorem H8 : ∀ a b c d e : Bool, (bif (bif a then true else (bif b then c else false)) then true else (bif d then (!(c == e)) else false)) = ((a || (b && c)) || (d && (!(c == e)))) := by decide
theorem Hr : ∀ a b c : Bool, ((!(!(bif a then true else (bif b then c else false)))) || ((bif a then true else (bif b then c else false)) == false)) = true := by decide
theorem Ge : ∀ a b c d : Bool, ((!((bif a then true else (bif b then c else false)) == false)) || (((!((bif a then true else (bif b then c else false)) == false)) || ((bif a then true else (bif b then c else false)) == false)) && (((!d) || (((bif a then true else (bif b then c else false)) == false) && (d == true))) && true))) = true := by decide
theorem Kb : ∀ a b c d : Bool, ((!(((bif a then true else (bif b then c else false)) == false) && (d == true))) || ((((!(((bif a then true else (bif b then c else false)) == false) && (d == true))) || (((bif a then true else (bif b then c else false)) == false) && (d == true))) && (((!(((bif a then true else (bif b then c else false)) == false) && (d == true))) || (((bif a then true else (bif b then c else false)) == false) && (d == true))) && true)) && true)) = true := by decide
theorem Lu : ∀ a b c d e : Bool, ((!(((bif a then true else (bif b then c else false)) == false) && (d == true))) || ((((!(((bif a then true else (bif b then c else false)) == false) && (d == true))) || (((bif a then true else (bif b then c else false)) == false) && (d == true))) && true) && e)) = ((!((!(a || (b && c))) && d)) || e) := by decide
theorem Ld : ∀ a b c d : Bool, ((!(((bif a then true else (bif b then c else false)) == false) && (d == true))) || true) = true := by decide
theorem Qk : ∀ a b c : Bool, ((!((bif a then true else (bif b then c else false)) == false)) || ((((!((bif a then true else (bif b then c else false)) == false)) || ((bif a then true else (bif b then c else false)) == false)) && true) && true)) = true := by decide
theorem Ru : ∀ a b c : Bool, ((!((bif a then true else (bif b then c else false)) == false)) || true) = true := by decide
theorem Ho : ∀ a : Bool, ((!(!a)) || (a == false)) = true := by decide
theorem Ip : ∀ a b : Bool, ((!(a == false)) || (((!(a == false)) || (a == false)) && (((!b) || ((a == false) && (b == true))) && true))) = true := by decide
theorem I8 : ∀ a b : Bool, ((!((a == false) && (b == true))) || true) = true := by decide
theorem Kl : ∀ a : Bool, ((!(a == false)) || ((((!(a == false)) || (a == false)) && true) && true)) = true := by decide
theorem Mv : ∀ a : Bool, ((!(a == false)) || true) = true := by decide
def Cc.Cj.A9 : List (Nat × Entry) := [(28, Cc.Gz.spec), (27, Cc.same.spec), (25, F2.Check.spec), (26, A6.Flat.spec), (23, A6.B8.spec), (24, solve.Flat.spec), (22, solve.B8.spec)]
def Cc.Cj.E : Env := Bb (A8 Cc.Cj.A9) (fun _ => false) (fun _ => none) (fun _ => none)
theorem Cc.Cj.ev (N : Nat) (r c : Int) (l : List Int) (p q : Int) (m : List Int) : A1 Cc.Cj.E N Tryz.f3 (Ad Tryz.f3) [.agg [.int .i64 r, .int .i64 c, .ints .arg .u64 l], .agg [.int .i64 p, .int .i64 q, .ints .arg .u64 m]] =
  bif (An l && An m) then
  bif (An l && An m) then
  bif (An l) then
  bif (An l) then
  bif ((!((!((((Dh r c l).2) != (Bu r c l)) || (((Bu r c l) != (0 : Int)) && ((Dh r c l).1)))) && ((Bu r c l) == (0 : Int)))) || ((Bn r c l && An l) && Ev l)) then
  bif (((((Dh r c l).2) != (Bu r c l)) || (((Bu r c l) != (0 : Int)) && ((Dh r c l).1))) || (((Bu r c l) == (0 : Int)) && (!(((Dh r c l).1) == (Pc r c l))))) then
  some (.bool false)
  else bif (Ob ((Mr r c l p q m).2.2.1)) then
  some (.bool (bif (decide (((Mr r c l p q m).2.2.2) = ((Mr r c l p q m).2.2.2)) && Ot ((Mr r c l p q m).1) ((Mr r c l p q m).2.1) ((Mr r c l p q m).2.2.1) ((Mr r c l p q m).1) ((Mr r c l p q m).2.1) ((Mr r c l p q m).2.2.1)) then true else false))
  else none
  else none
  else none
  else none
  else none
  else none :=
  Eq.trans (by kernel_rfl)
  (Fb (Fb (Fb (Fb (Ax (Mv (((Dh r c l).2) != (Bu r c l))) (Ax (Kl (((Dh r c l).2) != (Bu r c l))) (Ax (Kl (((Dh r c l).2) != (Bu r c l))) (Ax (I8 (((Dh r c l).2) != (Bu r c l)) ((Bu r c l) != (0 : Int))) (Ax (Ip (((Dh r c l).2) != (Bu r c l)) ((Bu r c l) != (0 : Int))) (Ax (Ho (((Dh r c l).2) != (Bu r c l))) (Ax (Ru (((Dh r c l).2) != (Bu r c l)) ((Bu r c l) != (0 : Int)) ((Dh r c l).1)) (Ax (Qk (((Dh r c l).2) != (Bu r c l)) ((Bu r c l) != (0 : Int)) ((Dh r c l).1)) (Ax (Qk (((Dh r c l).2) != (Bu r c l)) ((Bu r c l) != (0 : Int)) ((Dh r c l).1)) (Ax (Ld (((Dh r c l).2) != (Bu r c l)) ((Bu r c l) != (0 : Int)) ((Dh r c l).1) ((Bu r c l) == (0 : Int))) (Ax (Ld (((Dh r c l).2) != (Bu r c l)) ((Bu r c l) != (0 : Int)) ((Dh r c l).1) ((Bu r c l) == (0 : Int))) (C1 (Lu (((Dh r c l).2) != (Bu r c l)) ((Bu r c l) != (0 : Int)) ((Dh r c l).1) ((Bu r c l) == (0 : Int)) ((Bn r c l && An l) && Ev l)) (Ax (Kb (((Dh r c l).2) != (Bu r c l)) ((Bu r c l) != (0 : Int)) ((Dh r c l).1) ((Bu r c l) == (0 : Int))) (Ax (Ge (((Dh r c l).2) != (Bu r c l)) ((Bu r c l) != (0 : Int)) ((Dh r c l).1) ((Bu r c l) == (0 : Int))) (Ax (Hr (((Dh r c l).2) != (Bu r c l)) ((Bu r c l) != (0 : Int)) ((Dh r c l).1)) (C1 (H8 (((Dh r c l).2) != (Bu r c l)) ((Bu r c l) != (0 : Int)) ((Dh r c l).1) ((Bu r c l) == (0 : Int)) (Pc r c l)) rfl (Fb (Ax (I7 (decide (((Mr r c l p q m).2.2.2) = ((Mr r c l p q m).2.2.2)) && Ot ((Mr r c l p q m).1) ((Mr r c l p q m).2.1) ((Mr r c l p q m).2.2.1) ((Mr r c l p q m).1) ((Mr r c l p q m).2.1) ((Mr r c l p q m).2.2.1))) (Ax (Eu (decide (((Mr r c l p q m).2.2.2) = ((Mr r c l p q m).2.2.2)) && Ot ((Mr r c l p q m).1) ((Mr r c l p q m).2.1) ((Mr r c l p q m).2.2.1) ((Mr r c l p q m).1) ((Mr r c l p q m).2.1) ((Mr r c l p q m).2.2.1))) rfl)) rfl))))) rfl)))))))))))) rfl) rfl) rfl) rfl)
theorem Cc.Cj.Ac (hk : A0 Tryz.prog Cc.Cj.A9) (h : ∀ (r c : Int) (l : List Int) (p q : Int) (m : List Int), Cc.Cj.pre [.i r, .i c, .l l, .i p, .i q, .l m] = true → ∃ N dv drops, A1 Cc.Cj.E N Tryz.f3 (Ad Tryz.f3) [.agg [.int .i64 r, .int .i64 c, .ints .arg .u64 l], .agg [.int .i64 p, .int .i64 q, .ints .arg .u64 m]] = some dv ∧ Wk drops dv (Cc.Cj.out [.i r, .i c, .l l, .i p, .i q, .l m])) : Am Tryz.prog 3 Cc.Cj.spec :=
  Aj (A2 hk _ _ _) Tryz.func3 (by kernel_rfl) (by kernel_rfl) h
abbrev _root_.Go.Proofs.S1.Cc.Cj.Kn : Prop := Am Tryz.prog 3 Cc.Cj.spec
end EqLaw17L
end Go.Proofs.S1
namespace Go.Proofs.S1
open Go Go.Den Go.Rnd Go.Proofs
open EqLaw17L
theorem loX_len (r c : Int) (l : List Int) (p q : Int) (m : List Int) : Ob (Mr r c l p q m).2.2.1 = true := Ar.2 (by
  unfold Mr
  by_cases h : Lw r c l p q m = 0
  · rw [if_neg (by rw [h]; decide)]
    obtain ⟨h1, h2, rfl, rfl⟩ := Qf h
    obtain ⟨R, C, rfl, hC, r6, c6, hl⟩ := Da h1
    obtain ⟨P, Q, hP, rfl, p6, q6, hl2⟩ := Da h2
    have := Nat.mul_le_mul r6 q6
    have h3 := finX_len (r := R) (c := Q) (l := loG (R : Int) l (Q : Int) m (R : Int).toNat (Q : Int).toNat) (by unfold loG; rw [Cd, Int.toNat_natCast, Int.toNat_natCast]; omega)
    omega
  · rw [if_pos h]; exact Nat.zero_le _)
theorem Cc.Cj.known : Cc.Cj.Kn := Cc.Cj.Ac (.cons Cc.Gz.known (.cons Cc.same.known (.cons F2.Check.known (.cons A6.Flat.known (.cons A6.B8.known (.cons solve.Flat.known (.cons solve.B8.known .nil))))))) fun r c l p q m hp => by
  have hp : (An l && An m) = true := hp
  obtain ⟨al, am⟩ := Ag.1 hp
  refine ⟨0, Cc.Cj.out [.i r, .i c, .l l, .i p, .i q, .l m], [], ?_, .bool⟩
  show _ = some (DV.bool true)
  have e2 : (Dh r c l).2 = Bu r c l := by
    unfold Dh
    by_cases h : Bu r c l = 0
    · rw [if_neg (by rw [h]; decide), h]
    · rw [if_pos h]
  have b1 : ((Dh r c l).2 != Bu r c l) = false := by rw [e2]; simp
  have b2 : (((Bu r c l) != (0 : Int)) && ((Dh r c l).1)) = false := by
    by_cases h : Bu r c l = 0
    · rw [Il h]; rfl
    · unfold Dh
      rw [if_pos h, Bool.and_false]
  have b3 : (((Bu r c l) == (0 : Int)) && (!(((Dh r c l).1) == (Pc r c l)))) = false := by
    by_cases h : Bu r c l = 0
    · unfold Dh
      rw [if_neg (by rw [h]; decide)]
      simp
    · have : (Bu r c l == (0 : Int)) = false := by rw [beq_eq_false_iff_ne]; exact h
      rw [this, Bool.false_and]
  have b4 : ((!((!(false || false)) && ((Bu r c l) == (0 : Int)))) || ((Bn r c l && true) && Ev l)) = true := by
    by_cases h : Bu r c l = 0
    · obtain ⟨h1, h2⟩ := J6 h
      rw [h1, h2, Bool.and_self, Bool.and_self, Bool.or_true]
    · have : (Bu r c l == (0 : Int)) = false := by rw [beq_eq_false_iff_ne]; exact h
      rw [this, Bool.and_false]; rfl
  rw [Cc.Cj.ev, hp, cond_true, cond_true, al, cond_true, cond_true, b1, b2, b4, cond_true, b3, Bool.or_self, Bool.or_self, cond_false, loX_len, cond_true, same_refl, decide_eq_true rfl]
  rfl
end Go.Proofs.S1
end
