/- A verified evaluator of the program's form and its use for this seat: S1EqSol, S1PTri, S1EqFew, S1PSol, S1EqQr, S1PQr, S1PQrA, S1EqRef17, S1PRef17, S1EqRef14, S1PRef13, S1PRef14. -/
import Derived.Test.YtjbokjpbiobjpaaGreatTE
import Derived.Test.YtjbokjpbiobjpaaGreatTF
import Derived.Test.YtjbokjpbiobjpaaGreatTI
import Derived.Test.YtjbokjpbiobjpaaGreatTK
import Derived.Test.YtjbokjpbiobjpaaGreatTJ
set_option linter.unusedVariables false
set_option linter.unusedSimpArgs false
noncomputable section
namespace Go.Proofs.S1
open Go Go.Den Go.Rnd Go.Proofs
set_option linter.unusedVariables false
set_option maxRecDepth 100000
namespace EqSol
theorem Eu : ∀ a b : Bool, (bif a then true else b) = (a || b) := by decide
theorem I7 : ∀ a : Bool, ((!(!a)) || (a == false)) = true := by decide
theorem H8 : ∀ a : Bool, ((!(a == false)) || ((((!(a == false)) || (a == false)) && (((!(a == false)) || (a == false)) && true)) && true)) = true := by decide
theorem Hr : ∀ a : Bool, ((!(a == false)) || ((((!(a == false)) || (a == false)) && true) && true)) = true := by decide
theorem Ge : ∀ a : Bool, ((!(a == false)) || true) = true := by decide
theorem Kb : ∀ a : Bool, (a && true) = a := by decide
theorem Lu : ∀ a b : Bool, (bif (!a) then true else (!b)) = ((!a) || (!b)) := by decide
theorem Ld : ∀ a : Bool, ((!(!(!a))) || ((!a) == false)) = true := by decide
theorem Qk : ∀ a : Bool, ((!((!a) == false)) || ((((!((!a) == false)) || ((!a) == false)) && true) && true)) = true := by decide
theorem Ru : ∀ a : Bool, ((!((!a) == false)) || true) = true := by decide
theorem Ho : ∀ a b : Bool, ((a && b) && true) = (a && b) := by decide
theorem Ip : ∀ a b : Bool, (bif a then b else false) = (a && b) := by decide
theorem I8 : ∀ a : Bool, (((!a) || (a == true)) && true) = true := by decide
theorem Kl : ∀ a : Bool, ((!(a == true)) || ((((!(a == true)) || (a == true)) && (((!(a == true)) || (a == true)) && true)) && true)) = true := by decide
theorem Mv : ∀ a : Bool, ((!(a == true)) || ((((!(a == true)) || (a == true)) && true) && true)) = true := by decide
theorem Mu : ∀ a : Bool, ((!(a == true)) || true) = true := by decide
def solve.check.hint : Nat → Option Bf
  | 0 => some { keep := [2, 3, 11, 12], objs := [], boxes := [2, 3] }
  | 2 => some { keep := [2, 34, 35], objs := [], boxes := [2] }
  | _ => none
def solve.check.A9 : List (Nat × Entry) := [(86, Cg.Check.spec), (155, soft.Kind.spec)]
def solve.check.E : Env := Bb (A8 solve.check.A9) (fun _ => false) solve.check.hint (fun _ => none)
def solve.check.L0 (N M : Nat) (r c : Int) (l : List Int) (p35 : Int) : Option DV := B6 solve.check.E N Tryz.f75 (Ad Tryz.f75) [1, 1, 1, 0, 1, 0] [] M ⟨Hq 51 [(2, .ptr 2 0 0), (34, .int .i64 r), (35, .int .i64 p35)], [(2, false, .box [.int .i64 r, .int .i64 c, .ints .arg .u64 l])]⟩
theorem solve.check.Az (N M : Nat) (r c : Int) (l : List Int) (p35 : Int) : solve.check.L0 (N + 4) (M + 1) r c l p35 =
  bif (A5 p35 r) then
  bif ((decide (0 ≤ (Ab ((Ab (p35 * c)) + p35)))) && (decide ((Ab ((Ab (p35 * c)) + p35)) < (List.length l : Int)))) then
  bif (Ah (List.getD l (Int.toNat (Ab ((Ab (p35 * c)) + p35))) 0)) then
  bif ((A7 (List.getD l (Int.toNat (Ab ((Ab (p35 * c)) + p35))) 0)) == (0 : Int)) then
  some (.int .i64 5)
  else solve.check.L0 (N + 4) M r c l (Ab (p35 + (1 : Int)))
  else none
  else none
  else some (.int .i64 0) := by kernel_rfl
theorem solve.check.ev (N : Nat) (r c : Int) (l : List Int) (p q : Int) (m : List Int) : A1 solve.check.E (N + 4) Tryz.f75 (Ad Tryz.f75) [.agg [.int .i64 r, .int .i64 c, .ints .arg .u64 l], .agg [.int .i64 p, .int .i64 q, .ints .arg .u64 m]] =
  bif (An l) then
  bif ((Bu r c l) != (0 : Int)) then
  some (.int .i64 (Bu r c l))
  else bif (An m) then
  bif ((Bu p q m) != (0 : Int)) then
  some (.int .i64 (Bu p q m))
  else bif ((r != c) || (r != p)) then
  some (.int .i64 3)
  else solve.check.L0 (N + 4) (N + 4) r c l (0 : Int)
  else none
  else none :=
  Eq.trans (by kernel_rfl)
  (Fb (Fb rfl (Fb (Fb rfl (Ax (Ge (r != c)) (Ax (Hr (r != c)) (Ax (Ge (r != c)) (Ax (Hr (r != c)) (Ax (H8 (r != c)) (Ax (I7 (r != c)) (C1 (Eu (r != c) (r != p)) rfl rfl)))))))) rfl)) rfl)
theorem solve.check.Ac (hk : A0 Tryz.prog solve.check.A9) (h : ∀ (r c : Int) (l : List Int) (p q : Int) (m : List Int), solve.check.pre [.i r, .i c, .l l, .i p, .i q, .l m] = true → ∃ N dv drops, A1 solve.check.E N Tryz.f75 (Ad Tryz.f75) [.agg [.int .i64 r, .int .i64 c, .ints .arg .u64 l], .agg [.int .i64 p, .int .i64 q, .ints .arg .u64 m]] = some dv ∧ Wk drops dv (solve.check.out [.i r, .i c, .l l, .i p, .i q, .l m])) : Am Tryz.prog 75 solve.check.spec :=
  Aj (A2 hk _ _ _) Tryz.func75 (by kernel_rfl) (by kernel_rfl) h
abbrev _root_.Go.Proofs.S1.solve.check.Kn : Prop := Am Tryz.prog 75 solve.check.spec
def Cq.Cp.up.A9 : List (Nat × Entry) := []
def Cq.Cp.up.E : Env := Bb (A8 Cq.Cp.up.A9) (fun _ => false) (fun _ => none) (fun _ => none)
theorem Cq.Cp.up.ev (N : Nat) (n k : Int) : A1 Cq.Cp.up.E N Tryz.f103 (Ad Tryz.f103) [.int .i64 n, .int .i64 k] =
  some (.int .i64 (Ab ((Ab (n - (1 : Int))) - k))) := by kernel_rfl
theorem Cq.Cp.up.Ac (hk : A0 Tryz.prog Cq.Cp.up.A9) (h : ∀ (n k : Int), Cq.Cp.up.pre [.i n, .i k] = true → ∃ N dv drops, A1 Cq.Cp.up.E N Tryz.f103 (Ad Tryz.f103) [.int .i64 n, .int .i64 k] = some dv ∧ Wk drops dv (Cq.Cp.up.out [.i n, .i k])) : Am Tryz.prog 103 Cq.Cp.up.spec :=
  Aj (A2 hk _ _ _) Tryz.func103 (by kernel_rfl) (by kernel_rfl) h
abbrev _root_.Go.Proofs.S1.Cq.Cp.up.Kn : Prop := Am Tryz.prog 103 Cq.Cp.up.spec
def solve.D1.A9 : List (Nat × Entry) := []
def solve.D1.E : Env := Bb (A8 solve.D1.A9) (fun _ => false) (fun _ => none) (fun _ => none)
theorem solve.D1.ev (N : Nat) (i k : Int) : A1 solve.D1.E N Tryz.f104 (Ad Tryz.f104) [.int .i64 i, .int .i64 k] =
  some (.bool (A5 i k)) := by kernel_rfl
theorem solve.D1.Ac (hk : A0 Tryz.prog solve.D1.A9) (h : ∀ (i k : Int), solve.D1.pre [.i i, .i k] = true → ∃ N dv drops, A1 solve.D1.E N Tryz.f104 (Ad Tryz.f104) [.int .i64 i, .int .i64 k] = some dv ∧ Wk drops dv (solve.D1.out [.i i, .i k])) : Am Tryz.prog 104 solve.D1.spec :=
  Aj (A2 hk _ _ _) Tryz.func104 (by kernel_rfl) (by kernel_rfl) h
abbrev _root_.Go.Proofs.S1.solve.D1.Kn : Prop := Am Tryz.prog 104 solve.D1.spec
def Aa.of.Bt.own.hint : Nat → Option Bf
  | 0 => some { keep := [1, 2, 6, 7, 13, 14], objs := [(8, 2, 108002, .ints 37 .u64 [])], boxes := [6, 7] }
  | 2 => some { keep := [1, 2, 6, 7, 8, 13, 14, 17, 18], objs := [(8, 2, 108002, .ints 37 .u64 [])], boxes := [6, 7] }
  | _ => none
def Aa.of.Bt.own.A9 : List (Nat × Entry) := [(205, Aa.Du.spec)]
def Aa.of.Bt.own.E : Env := Bb (A8 Aa.of.Bt.own.A9) (fun _ => false) Aa.of.Bt.own.hint (fun _ => none)
theorem Aa.of.Bt.own.Ac (hk : A0 Tryz.prog Aa.of.Bt.own.A9) (h : ∀ (a b : Int), Aa.of.Bt.own.pre [.i a, .i b] = true → ∃ N dv drops, A1 Aa.of.Bt.own.E N Tryz.f187 (Ad Tryz.f187) [.int .i64 a, .int .i64 b, .fn 205 [] []] = some dv ∧ Wk drops dv (Aa.of.Bt.own.out [.i a, .i b])) : Am Tryz.prog 187 Aa.of.Bt.own.spec :=
  Aj (A2 hk _ _ _) Tryz.func187 (by kernel_rfl) (by kernel_rfl) h
abbrev _root_.Go.Proofs.S1.Aa.of.Bt.own.Kn : Prop := Am Tryz.prog 187 Aa.of.Bt.own.spec
def Aa.Bt.own.A9 : List (Nat × Entry) := [(187, Aa.of.Bt.own.spec), (204, Aa.size.spec)]
def Aa.Bt.own.E : Env := Bb (A8 Aa.Bt.own.A9) (fun n => Nat.beq n 17) (fun _ => none) (fun _ => none)
theorem Aa.Bt.own.ev (N : Nat) (a b : Int) : A1 Aa.Bt.own.E N Tryz.f151 (Ad Tryz.f151) [.int .i64 a, .int .i64 b] =
  bif ((!(Bs a)) || (!(Bs b))) then
  some (.tup [.agg [.int .i64 0, .int .i64 0, .nil], .int .i64 3])
  else bif (Bs a && Bs b) then
  some (.tup [.agg [.int .i64 a, .int .i64 b, .ints (.own 1136 37) .u64 (Cx (Int.toNat a) (Int.toNat b) (fun _ _ => 0))], .int .i64 0])
  else none :=
  Eq.trans (by kernel_rfl)
  (Ax (Ru (Bs a)) (Ax (Qk (Bs a)) (Ax (Qk (Bs a)) (Ax (Ld (Bs a)) (C1 (Lu (Bs a) (Bs b)) rfl rfl)))))
theorem Aa.Bt.own.Ac (hk : A0 Tryz.prog Aa.Bt.own.A9) (h : ∀ (a b : Int), Aa.Bt.own.pre [.i a, .i b] = true → ∃ N dv drops, A1 Aa.Bt.own.E N Tryz.f151 (Ad Tryz.f151) [.int .i64 a, .int .i64 b] = some dv ∧ Wk drops dv (Aa.Bt.own.out [.i a, .i b])) : Am Tryz.prog 151 Aa.Bt.own.spec :=
  Aj (A2 hk _ _ _) Tryz.func151 (by kernel_rfl) (by kernel_rfl) h
abbrev _root_.Go.Proofs.S1.Aa.Bt.own.Kn : Prop := Am Tryz.prog 151 Aa.Bt.own.spec
def solve.Au.Up.hint : Nat → Option Bf
  | 0 => some { keep := [2, 3, 4, 5, 8, 10, 11, 28, 29], objs := [(12, 2, 112002, .ints 37 .u64 [])], boxes := [4, 5, 8, 11] }
  | 2 => some { keep := [2, 3, 4, 5, 8, 10, 11, 13, 28, 29, 32, 33], objs := [(12, 2, 112002, .ints 37 .u64 [])], boxes := [4, 5, 8, 11] }
  | 4 => some { keep := [2, 3, 4, 5, 8, 10, 11, 13, 15, 16, 28, 29, 32, 33, 49, 50], objs := [(12, 2, 112002, .ints 37 .u64 [])], boxes := [4, 5, 8, 11] }
  | _ => none
def solve.Au.Up.A9 : List (Nat × Entry) := [(103, Cq.Cp.up.spec), (151, Aa.Bt.own.spec), (104, solve.D1.spec), (158, Ae.Div.spec), (150, Ae.Finite.spec), (157, Ae.Mul.spec), (156, Ae.Sub.spec)]
def solve.Au.Up.E : Env := Bb (A8 solve.Au.Up.A9) (fun n => Nat.beq n 24) solve.Au.Up.hint (fun _ => none)
def solve.Au.Up.L0 (N M : Nat) (r c : Int) (l : List Int) (p q : Int) (m : List Int) (n p29 : Int) (p2_2 : List Int) : Option DV := B6 solve.Au.Up.E N Tryz.f76 (Ad Tryz.f76) [1, 1, 1, 0, 1, 0] [] M ⟨Hq 108 [(2, .fn 103 [.int .i64 n] []), (3, .fn 104 [] []), (4, .ptr 4 0 0), (5, .ptr 5 0 0), (8, .ptr 8 0 0), (10, .int .i64 r), (11, .ptr 11 0 0), (28, .int .i64 q), (29, .int .i64 p29)], [(4, false, .box [.int .i64 r, .int .i64 c, .ints .arg .u64 l]), (5, false, .box [.int .i64 p, .int .i64 q, .ints .arg .u64 m]), (8, false, .box [.int .i64 0, .int .i64 0, .nil]), (11, false, .box [.int .i64 r, .int .i64 q, .oref 112002]), (112002, false, .ints 37 .u64 p2_2)]⟩
def solve.Au.Up.L1 (N M0 M : Nat) (r c : Int) (l : List Int) (p q : Int) (m : List Int) (n p33 : Int) (p2 : List Int) (p13 p29_1 : Int) : Option DV := B6 solve.Au.Up.E N Tryz.f76 (Ad Tryz.f76) [1, 1, 1, 0, 1, 0, 0, 1, 1, 0, 0, 1, 0, 1, 1, 0] [M0] M ⟨Hq 108 [(2, .fn 103 [.int .i64 n] []), (3, .fn 104 [] []), (4, .ptr 4 0 0), (5, .ptr 5 0 0), (8, .ptr 8 0 0), (10, .int .i64 r), (11, .ptr 11 0 0), (13, .int .i64 p13), (28, .int .i64 q), (29, .int .i64 p29_1), (32, .int .i64 r), (33, .int .i64 p33)], [(4, false, .box [.int .i64 r, .int .i64 c, .ints .arg .u64 l]), (5, false, .box [.int .i64 p, .int .i64 q, .ints .arg .u64 m]), (8, false, .box [.int .i64 0, .int .i64 0, .nil]), (11, false, .box [.int .i64 r, .int .i64 q, .oref 112002]), (112002, false, .ints 37 .u64 p2)]⟩
def solve.Au.Up.L2 (N M0 M1 M : Nat) (r c : Int) (l : List Int) (p q : Int) (m : List Int) (n p16 : Int) (p50 p13_1 : Int) (p15 p29_2 p33_1 : Int) (p2_1 : List Int) : Option DV := B6 solve.Au.Up.E N Tryz.f76 (Ad Tryz.f76) [1, 1, 1, 0, 1, 0, 0, 1, 1, 0, 0, 1, 0, 1, 1, 0, 0, 1, 1, 0, 0, 1, 1, 1, 0, 1, 0] [M0, M1] M ⟨Hq 108 [(2, .fn 103 [.int .i64 n] []), (3, .fn 104 [] []), (4, .ptr 4 0 0), (5, .ptr 5 0 0), (8, .ptr 8 0 0), (10, .int .i64 r), (11, .ptr 11 0 0), (13, .int .i64 p13_1), (15, .int .i64 p15), (16, .int .u64 p16), (28, .int .i64 q), (29, .int .i64 p29_2), (32, .int .i64 r), (33, .int .i64 p33_1), (49, .int .i64 r), (50, .int .i64 p50)], [(4, false, .box [.int .i64 r, .int .i64 c, .ints .arg .u64 l]), (5, false, .box [.int .i64 p, .int .i64 q, .ints .arg .u64 m]), (8, false, .box [.int .i64 0, .int .i64 0, .nil]), (11, false, .box [.int .i64 r, .int .i64 q, .oref 112002]), (112002, false, .ints 37 .u64 p2_1)]⟩
theorem solve.Au.Up.Az (N M : Nat) (r c : Int) (l : List Int) (p q : Int) (m : List Int) (n p29 : Int) (p2_2 : List Int) : solve.Au.Up.L0 N (M + 1) r c l p q m n p29 p2_2 =
  bif (A5 p29 q) then
  solve.Au.Up.L1 N M N r c l p q m n (0 : Int) p2_2 p29 p29
  else bif (Di p2_2) then
  bif (!(Ev p2_2)) then
  some (.tup [.agg [.int .i64 0, .int .i64 0, .nil], .int .i64 2])
  else some (.tup [.agg [.int .i64 r, .int .i64 q, .ints (.own 112002 37) .u64 p2_2], .int .i64 0])
  else none := by kernel_rfl
theorem solve.Au.Up.Ch (N M0 M : Nat) (r c : Int) (l : List Int) (p q : Int) (m : List Int) (n p33 : Int) (p2 : List Int) (p13 p29_1 : Int) : solve.Au.Up.L1 N M0 (M + 1) r c l p q m n p33 p2 p13 p29_1 =
  bif (A5 p33 r) then
  bif (C2 (0 ≤ p33 ∧ p33 < n ∧ n ≤ 10)) then
  bif ((decide (0 ≤ (Ab ((Ab ((n - 1 - p33) * q)) + p13)))) && (decide ((Ab ((Ab ((n - 1 - p33) * q)) + p13)) < (List.length m : Int)))) then
  solve.Au.Up.L2 N M0 M N r c l p q m n (List.getD m (Int.toNat (Ab ((Ab ((n - 1 - p33) * q)) + p13))) 0) (0 : Int) p13 (n - 1 - p33) p29_1 p33 p2
  else none
  else none
  else solve.Au.Up.L0 N M0 r c l p q m n (Ab (p29_1 + (1 : Int))) p2 := by kernel_rfl
theorem solve.Au.Up.Fq (N M0 M1 M : Nat) (r c : Int) (l : List Int) (p q : Int) (m : List Int) (n p16 : Int) (p50 p13_1 : Int) (p15 p29_2 p33_1 : Int) (p2_1 : List Int) : solve.Au.Up.L2 N M0 M1 (M + 1) r c l p q m n p16 p50 p13_1 p15 p29_2 p33_1 p2_1 =
  bif (A5 p50 r) then
  bif (decide (p15 < p50)) then
  bif ((decide (0 ≤ (Ab ((Ab (p15 * r)) + p50)))) && (decide ((Ab ((Ab (p15 * r)) + p50)) < (List.length l : Int)))) then
  bif ((decide (0 ≤ (Ab ((Ab (p50 * q)) + p13_1)))) && (decide ((Ab ((Ab (p50 * q)) + p13_1)) < (List.length p2_1 : Int)))) then
  bif (decide ((Int.toNat (Ab ((Ab (p50 * q)) + p13_1))) < (List.length p2_1))) then
  bif (Ah (List.getD l (Int.toNat (Ab ((Ab (p15 * r)) + p50))) 0) && Ah (List.getD p2_1 (Int.toNat (Ab ((Ab (p50 * q)) + p13_1))) 0)) then
  bif (Ah p16 && Ah (Ed (List.getD l (Int.toNat (Ab ((Ab (p15 * r)) + p50))) 0) (List.getD p2_1 (Int.toNat (Ab ((Ab (p50 * q)) + p13_1))) 0))) then
  solve.Au.Up.L2 N M0 M1 M r c l p q m n (Ep p16 (Ed (List.getD l (Int.toNat (Ab ((Ab (p15 * r)) + p50))) 0) (List.getD p2_1 (Int.toNat (Ab ((Ab (p50 * q)) + p13_1))) 0))) (Ab (p50 + (1 : Int))) p13_1 p15 p29_2 p33_1 p2_1
  else none
  else none
  else none
  else none
  else none
  else solve.Au.Up.L2 N M0 M1 M r c l p q m n p16 (Ab (p50 + (1 : Int))) p13_1 p15 p29_2 p33_1 p2_1
  else bif ((decide (0 ≤ (Ab ((Ab (p15 * r)) + p15)))) && (decide ((Ab ((Ab (p15 * r)) + p15)) < (List.length l : Int)))) then
  bif (Ah p16 && Ah (List.getD l (Int.toNat (Ab ((Ab (p15 * r)) + p15))) 0)) then
  bif ((decide (0 ≤ (Ab ((Ab (p15 * q)) + p13_1)))) && (decide ((Ab ((Ab (p15 * q)) + p13_1)) < (List.length p2_1 : Int)))) then
  bif (decide ((Int.toNat (Ab ((Ab (p15 * q)) + p13_1))) < (List.length p2_1))) then
  solve.Au.Up.L1 N M0 M1 r c l p q m n (Ab (p33_1 + (1 : Int))) (List.set p2_1 (Int.toNat (Ab ((Ab (p15 * q)) + p13_1))) (Et p16 (List.getD l (Int.toNat (Ab ((Ab (p15 * r)) + p15))) 0))) p13_1 p29_2
  else none
  else none
  else none
  else none :=
  Eq.trans (by kernel_rfl)
  (Fb (Fb (C1 (Ho (decide (0 ≤ (Ab ((Ab (p15 * r)) + p50)))) (decide ((Ab ((Ab (p15 * r)) + p50)) < (List.length l : Int)))) (C1 (Ho (decide (0 ≤ (Ab ((Ab (p50 * q)) + p13_1)))) (decide ((Ab ((Ab (p50 * q)) + p13_1)) < (List.length p2_1 : Int)))) (C1 (Kb (decide ((Int.toNat (Ab ((Ab (p50 * q)) + p13_1))) < (List.length p2_1)))) (C1 (Kb (Ah (List.getD l (Int.toNat (Ab ((Ab (p15 * r)) + p50))) 0) && Ah (List.getD p2_1 (Int.toNat (Ab ((Ab (p50 * q)) + p13_1))) 0))) (C1 (Kb (Ah p16 && Ah (Ed (List.getD l (Int.toNat (Ab ((Ab (p15 * r)) + p50))) 0) (List.getD p2_1 (Int.toNat (Ab ((Ab (p50 * q)) + p13_1))) 0)))) rfl rfl) rfl) rfl) rfl) rfl) rfl) (C1 (Ho (decide (0 ≤ (Ab ((Ab (p15 * r)) + p15)))) (decide ((Ab ((Ab (p15 * r)) + p15)) < (List.length l : Int)))) (C1 (Kb (Ah p16 && Ah (List.getD l (Int.toNat (Ab ((Ab (p15 * r)) + p15))) 0))) (C1 (Ho (decide (0 ≤ (Ab ((Ab (p15 * q)) + p13_1)))) (decide ((Ab ((Ab (p15 * q)) + p13_1)) < (List.length p2_1 : Int)))) (C1 (Kb (decide ((Int.toNat (Ab ((Ab (p15 * q)) + p13_1))) < (List.length p2_1)))) rfl rfl) rfl) rfl) rfl))
theorem solve.Au.Up.ev (N : Nat) (r c : Int) (l : List Int) (p q : Int) (m : List Int) (n : Int) : A1 solve.Au.Up.E N Tryz.f76 (Ad Tryz.f76) [.agg [.int .i64 r, .int .i64 c, .ints .arg .u64 l], .agg [.int .i64 p, .int .i64 q, .ints .arg .u64 m], .fn 103 [.int .i64 n] [], .fn 104 [] []] =
  bif (Bs r && Bs q) then
  solve.Au.Up.L0 N N r c l p q m n (0 : Int) (Cx (Int.toNat r) (Int.toNat q) (fun _ _ => 0))
  else none := by kernel_rfl
theorem solve.Au.Up.Ac (hk : A0 Tryz.prog solve.Au.Up.A9) (h : ∀ (r c : Int) (l : List Int) (p q : Int) (m : List Int) (n : Int), solve.Au.Up.pre [.i r, .i c, .l l, .i p, .i q, .l m, .i n] = true → ∃ N dv drops, A1 solve.Au.Up.E N Tryz.f76 (Ad Tryz.f76) [.agg [.int .i64 r, .int .i64 c, .ints .arg .u64 l], .agg [.int .i64 p, .int .i64 q, .ints .arg .u64 m], .fn 103 [.int .i64 n] [], .fn 104 [] []] = some dv ∧ Wk drops dv (solve.Au.Up.out [.i r, .i c, .l l, .i p, .i q, .l m, .i n])) : Am Tryz.prog 76 solve.Au.Up.spec :=
  Aj (A2 hk _ _ _) Tryz.func76 (by kernel_rfl) (by kernel_rfl) h
abbrev _root_.Go.Proofs.S1.solve.Au.Up.Kn : Prop := Am Tryz.prog 76 solve.Au.Up.spec
def solve.G0.A9 : List (Nat × Entry) := [(75, solve.check.spec), (76, solve.Au.Up.spec)]
def solve.G0.E : Env := Bb (A8 solve.G0.A9) (fun _ => false) (fun _ => none) (fun _ => none)
theorem solve.G0.ev (N : Nat) (r c : Int) (l : List Int) (p q : Int) (m : List Int) : A1 solve.G0.E N Tryz.f36 (Ad Tryz.f36) [.agg [.int .i64 r, .int .i64 c, .ints .arg .u64 l], .agg [.int .i64 p, .int .i64 q, .ints .arg .u64 m]] =
  bif (An l && An m) then
  bif ((Lw r c l p q m) != (0 : Int)) then
  some (.tup [.agg [.int .i64 0, .int .i64 0, .nil], .int .i64 (Lw r c l p q m)])
  else bif (On r c l p q m && decide (r = r)) then
  some (.tup [.agg [.int .i64 ((Gj r q (upG c l q m (Int.toNat r) (Int.toNat q))).1), .int .i64 ((Gj r q (upG c l q m (Int.toNat r) (Int.toNat q))).2.1), .ints .fresh .u64 ((Gj r q (upG c l q m (Int.toNat r) (Int.toNat q))).2.2.1)], .int .i64 ((Gj r q (upG c l q m (Int.toNat r) (Int.toNat q))).2.2.2)])
  else none
  else none := by kernel_rfl
theorem solve.G0.Ac (hk : A0 Tryz.prog solve.G0.A9) (h : ∀ (r c : Int) (l : List Int) (p q : Int) (m : List Int), solve.G0.pre [.i r, .i c, .l l, .i p, .i q, .l m] = true → ∃ N dv drops, A1 solve.G0.E N Tryz.f36 (Ad Tryz.f36) [.agg [.int .i64 r, .int .i64 c, .ints .arg .u64 l], .agg [.int .i64 p, .int .i64 q, .ints .arg .u64 m]] = some dv ∧ Wk drops dv (solve.G0.out [.i r, .i c, .l l, .i p, .i q, .l m])) : Am Tryz.prog 36 solve.G0.spec :=
  Aj (A2 hk _ _ _) Tryz.func36 (by kernel_rfl) (by kernel_rfl) h
abbrev _root_.Go.Proofs.S1.solve.G0.Kn : Prop := Am Tryz.prog 36 solve.G0.spec
def solve.Flat.hint : Nat → Option Bf
  | 0 => some { keep := [1, 5, 6], objs := [(0, 5, 100005, .ints 37 .u64 [])], boxes := [1] }
  | 2 => some { keep := [7, 44, 45, 46], objs := [(0, 44, 100044, .ints 37 .u64 [])], boxes := [] }
  | _ => none
def solve.Flat.A9 : List (Nat × Entry) := [(86, Cg.Check.spec), (87, compare.Gm.spec), (90, compare.K1.spec), (89, Ae.Cm.spec), (88, Ae.Bj.spec)]
def solve.Flat.E : Env := Bb (A8 solve.Flat.A9) (fun _ => false) solve.Flat.hint (fun _ => none)
def solve.Flat.L0 (N M : Nat) (r c : Int) (l : List Int) (p6 : Int) (p5 : List Int) : Option DV := B6 solve.Flat.E N Tryz.f24 (Ad Tryz.f24) [1, 1, 1, 0, 1, 0] [] M ⟨Hq 55 [(1, .ptr 1 0 0), (5, .oref 100005), (6, .int .i64 p6)], [(1, false, .box [.int .i64 r, .int .i64 c, .ints .arg .u64 l]), (100005, false, .ints 37 .u64 p5)]⟩
def solve.Flat.L1 (N M : Nat) (p5 : List Int) (p46 : Int) : Option DV := B6 solve.Flat.E N Tryz.f24 (Ad Tryz.f24) [1, 1, 1, 1, 1, 0, 1, 0] [] M ⟨Hq 55 [(7, .int .u64 (B3 (Br p5) (-40 : Int))), (44, .oref 100044), (45, .int .i64 (List.length p5 : Int)), (46, .int .i64 p46)], [(100044, false, .ints 37 .u64 p5)]⟩
theorem solve.Flat.Az (N M : Nat) (r c : Int) (l : List Int) (p6 : Int) (p5 : List Int) : solve.Flat.L0 N (M + 1) r c l p6 p5 =
  bif ((A5 p6 r) && (A5 p6 c)) then
  bif ((decide (0 ≤ (Ab ((Ab (p6 * c)) + p6)))) && (decide ((Ab ((Ab (p6 * c)) + p6)) < (List.length l : Int)))) then
  bif (Ah (List.getD l (Int.toNat (Ab ((Ab (p6 * c)) + p6))) 0)) then
  bif (decide ((List.length p5) + 1 ≤ H0)) then
  solve.Flat.L0 N M r c l (Ab (p6 + (1 : Int))) (p5 ++ [(Ix (List.getD l (Int.toNat (Ab ((Ab (p6 * c)) + p6))) 0))])
  else none
  else none
  else none
  else bif (Di p5) then
  bif (Dp (Br p5) (-40 : Int)) then
  solve.Flat.L1 N N p5 (0 : Int)
  else none
  else none :=
  Eq.trans (by kernel_rfl)
  (Ax (Mu (A5 p6 r)) (Ax (Mu (A5 p6 r)) (Ax (Mv (A5 p6 r)) (Ax (Kl (A5 p6 r)) (Ax (I8 (A5 p6 r)) (C1 (Ip (A5 p6 r) (A5 p6 c)) rfl rfl))))))
theorem solve.Flat.Ch (N M : Nat) (p5 : List Int) (p46 : Int) : solve.Flat.L1 N (M + 1) p5 p46 =
  bif (A5 p46 (List.length p5 : Int)) then
  bif ((decide (0 ≤ p46)) && (decide (p46 < (List.length p5 : Int)))) then
  bif (decide ((Int.toNat p46) < (List.length p5))) then
  bif (Ah (B3 (Br p5) (-40 : Int)) && Ah (List.getD p5 (Int.toNat p46) 0)) then
  bif (!(decide (Q9 (B3 (Br p5) (-40 : Int)) (List.getD p5 (Int.toNat p46) 0) < 0))) then
  some (.tup [.bool true, .int .i64 0])
  else solve.Flat.L1 N M p5 (Ab (p46 + (1 : Int)))
  else none
  else none
  else none
  else some (.tup [.bool false, .int .i64 0]) := by kernel_rfl
theorem solve.Flat.ev (N : Nat) (r c : Int) (l : List Int) : A1 solve.Flat.E N Tryz.f24 (Ad Tryz.f24) [.agg [.int .i64 r, .int .i64 c, .ints .arg .u64 l]] =
  bif (An l) then
  bif ((Bu r c l) != (0 : Int)) then
  some (.tup [.bool false, .int .i64 (Bu r c l)])
  else solve.Flat.L0 N N r c l (0 : Int) []
  else none := by kernel_rfl
theorem solve.Flat.Ac (hk : A0 Tryz.prog solve.Flat.A9) (h : ∀ (r c : Int) (l : List Int), solve.Flat.pre [.i r, .i c, .l l] = true → ∃ N dv drops, A1 solve.Flat.E N Tryz.f24 (Ad Tryz.f24) [.agg [.int .i64 r, .int .i64 c, .ints .arg .u64 l]] = some dv ∧ Wk drops dv (solve.Flat.out [.i r, .i c, .l l])) : Am Tryz.prog 24 solve.Flat.spec :=
  Aj (A2 hk _ _ _) Tryz.func24 (by kernel_rfl) (by kernel_rfl) h
abbrev _root_.Go.Proofs.S1.solve.Flat.Kn : Prop := Am Tryz.prog 24 solve.Flat.spec
end EqSol
end Go.Proofs.S1
namespace Go.Proofs.S1
open Go Go.Den Go.Rnd Go.Proofs
open EqSol
theorem solve.D1.known : solve.D1.Kn := solve.D1.Ac .nil fun i k _ => by
  refine ⟨0, solve.D1.out [.i i, .i k], [], ?_, .bool⟩
  rw [solve.D1.ev, Aw]; rfl
theorem order_up.known : Cq.Cp.up.Kn := Cq.Cp.up.Ac .nil fun n k hp => by
  have hp := Ar.1 (show C2 (0 ≤ k ∧ k < n ∧ n ≤ 10) = true from hp)
  refine ⟨0, Cq.Cp.up.out [.i n, .i k], [], ?_, .int⟩
  rw [Cq.Cp.up.ev, Ap (x := n - 1) (by omega) (by omega), Ap (by omega) (by omega)]; rfl
theorem Aa.of.Bt.own.known : Aa.of.Bt.own.Kn := Aa.of.Bt.own.Ac (.cons Aa.Du.known .nil) fun a b hp => by
  have h1 : (Bs a && Bs b) = true := hp
  obtain ⟨ha, hb⟩ := Ag.1 h1
  obtain ⟨A, rfl, hA⟩ := Gh ha
  obtain ⟨B, rfl, hB⟩ := Gh hb
  refine ⟨8, .agg [.int .i64 (A : Int), .int .i64 (B : Int), .ints (.own 108002 tB) .u64 (Cx A B fun (i j : Nat) => (0 : Int))], [], ?_, Wk.J7 (.cons .int (.cons .int (.cons (.keep _ _ _ _ List.not_mem_nil) .nil)))⟩
  have n := of.Bt.outer 8 hA hB (by omega) (F := fun (i j : Nat) => (0 : Int)) (fun _ _ => rfl) A 0 8 (by omega) (by omega)
  rw [Ng] at n
  exact (EqOf.Aa.of.Bt.ev 8 (A : Int) (B : Int)).trans n
theorem Aa.Bt.own.known : Aa.Bt.own.Kn := Aa.Bt.own.Ac (.cons Aa.of.Bt.own.known (.cons Aa.size.known .nil)) fun a b hp => by
  have hp : (Bs a && Bs b) = true := hp
  obtain ⟨ha, hb⟩ := Ag.1 hp
  refine ⟨0, Aa.Bt.own.out [.i a, .i b], [], ?_, ?_⟩
  · rw [Aa.Bt.own.ev, ha, hb]; rfl
  · exact Wk.Gg (.cons (Wk.J7 (.cons .int (.cons .int (.cons (.keep _ _ _ _ List.not_mem_nil) .nil)))) (.cons .int .nil))
section
variable {n Q : Nat} {l m : List Int}
def upF (n Q : Nat) (l m : List Int) (i j : Nat) : Int := (Y0 (n : Int) l (fun i => Eg (Q : Int) m (i : Int) (j : Int)) n n).getD i 0
def upD (n j k a b : Nat) : Bool := decide (b < j ∨ (b = j ∧ n - k ≤ a))
def T2 (n Q : Nat) (l m : List Int) (j k : Nat) : List Int := Cx n Q fun a b => if upD n j k a b = true then upF n Q l m a b else 0
theorem upF_in (i j : Nat) : Ah (upF n Q l m i j) = true := Z0 (upL_in _ _ _ _ _) i
theorem upS_in (j k : Nat) : An (T2 n Q l m j k) = true := L8 fun a b => by
  split
  · exact upF_in _ _
  · exact By (n := 0) (by decide)
theorem upS_get {j k t : Nat} (ht : t < n) (hj : j < Q) (hk : n - k ≤ t) : Eg (Q : Int) (T2 n Q l m j k) (t : Int) (j : Int) = upF n Q l m t j := by
  unfold T2
  have hd : upD n j k t j = true := decide_eq_true (.inr ⟨rfl, hk⟩)
  rw [grid_at ht hj, hd, if_pos rfl]
theorem Yz (j k : Nat) : (T2 n Q l m j k).length = n * Q := Cd _ _ _
theorem up_round (N : Nat) (n6 : n ≤ 6) (q6 : Q ≤ 6) (hl : l.length = n * n) (al : An l = true) {i j k : Nat} (hi : i + k + 1 = n) (hj : j < Q) (M0 M1 : Nat) (p29 p33 : Int) :
    ∀ (cnt t F : Nat) (s : Int), t + cnt = n → cnt < F → i + 1 ≤ t → Ah s = true →
    solve.Au.Up.L2 N M0 M1 F (n : Int) (n : Int) l (n : Int) (Q : Int) m (n : Int) s (t : Int) (j : Int) (i : Int) p29 p33 (T2 n Q l m j k) =
    solve.Au.Up.L1 N M0 M1 (n : Int) (n : Int) l (n : Int) (Q : Int) m (n : Int) (Ab (p33 + (1 : Int))) (List.set (T2 n Q l m j k) (Int.toNat ((i : Int) * (Q : Int) + (j : Int))) (Et (Oc (n : Int) l (i : Int) s (t : Int) ((Y0 (n : Int) l (fun i => Eg (Q : Int) m (i : Int) (j : Int)) n n).drop t)) (Eg (n : Int) l (i : Int) (i : Int)))) (j : Int) p29 := by
  intro cnt
  induction cnt with
  | zero =>
    intro t F s ht hF hit hs
    obtain ⟨F, rfl⟩ : ∃ G, F = G + 1 := ⟨F - 1, by omega⟩
    obtain ⟨e1, g1, g2⟩ := Gc (R := (n : Int)) (Dl n6 n6 hl (show i < n by omega) (show i < n by omega))
    obtain ⟨e2, g3, g4⟩ := Gc (R := (n : Int)) (Dl n6 q6 (Yz (l := l) (m := m) j k) (show i < n by omega) hj)
    rw [List.drop_of_length_le (by rw [Q4]; omega), Oc]
    rw [solve.Au.Up.Fq, Aw, decide_eq_false (show ¬ (t : Int) < (n : Int) by omega), cond_false, e1, decide_eq_true g1, decide_eq_true g2, Bool.and_self, cond_true, hs, show Ah (List.getD l (Int.toNat ((i : Int) * (n : Int) + (i : Int))) 0) = true from Hf (c := (n : Int)) al, Bool.and_self, cond_true,
      e2, decide_eq_true g3, decide_eq_true g4, Bool.and_self, cond_true, decide_eq_true (show Int.toNat ((i : Int) * (Q : Int) + (j : Int)) < (T2 n Q l m j k).length by omega), cond_true]
    rfl
  | succ cnt ih =>
    intro t F s ht hF hit hs
    obtain ⟨F, rfl⟩ : ∃ G, F = G + 1 := ⟨F - 1, by omega⟩
    obtain ⟨e1, g1, g2⟩ := Gc (R := (n : Int)) (Dl n6 n6 hl (show i < n by omega) (show t < n by omega))
    obtain ⟨e2, g3, g4⟩ := Gc (R := (n : Int)) (Dl n6 q6 (Yz (l := l) (m := m) j k) (show t < n by omega) hj)
    have hx : List.getD (T2 n Q l m j k) (Int.toNat ((t : Int) * (Q : Int) + (j : Int))) 0 = upF n Q l m t j := upS_get (by omega) hj (by omega)
    rw [solve.Au.Up.Fq, Aw, decide_eq_true (show (t : Int) < (n : Int) by omega), cond_true, decide_eq_true (show (i : Int) < (t : Int) by omega), cond_true, e1, decide_eq_true g1, decide_eq_true g2, Bool.and_self, cond_true,
      e2, decide_eq_true g3, decide_eq_true g4, Bool.and_self, cond_true, decide_eq_true (show Int.toNat ((t : Int) * (Q : Int) + (j : Int)) < (T2 n Q l m j k).length by omega), cond_true, hx,
      show Ah (List.getD l (Int.toNat ((i : Int) * (n : Int) + (t : Int))) 0) = true from Hf (c := (n : Int)) al, upF_in, Bool.and_self, cond_true, hs, Ke, Bool.and_self, cond_true, Ap (x := (t : Int) + 1) (by omega) (by omega)]
    have := ih (t + 1) F (Ep s (Ed (Eg (n : Int) l (i : Int) (t : Int)) (upF n Q l m t j))) (by omega) (by omega) (by omega) (Oo hs (Ke _ _))
    rw [X8 (by rw [Q4]; omega)]
    exact this
theorem up_skip (N : Nat) (n6 : n ≤ 6) {i j k : Nat} (hi : i < n) (M0 M1 : Nat) (p29 p33 s : Int) : ∀ (cnt t F : Nat), t + cnt = i + 1 →
    solve.Au.Up.L2 N M0 M1 (F + cnt) (n : Int) (n : Int) l (n : Int) (Q : Int) m (n : Int) s (t : Int) (j : Int) (i : Int) p29 p33 (T2 n Q l m j k) =
    solve.Au.Up.L2 N M0 M1 F (n : Int) (n : Int) l (n : Int) (Q : Int) m (n : Int) s ((i + 1 : Nat) : Int) (j : Int) (i : Int) p29 p33 (T2 n Q l m j k) := by
  intro cnt
  induction cnt with
  | zero =>
    intro t F ht
    obtain rfl : t = i + 1 := by omega
    rfl
  | succ cnt ih =>
    intro t F ht
    rw [← Nat.add_assoc, solve.Au.Up.Fq, Aw, decide_eq_true (show (t : Int) < (n : Int) by omega), cond_true, decide_eq_false (show ¬ (i : Int) < (t : Int) by omega), cond_false, Ap (by omega) (by omega)]
    exact ih (t + 1) F (by omega)
theorem upS_set {i j k : Nat} (hi : i + k + 1 = n) (hj : j < Q) {x : Int} (hx : x = upF n Q l m i j) : List.set (T2 n Q l m j k) (Int.toNat ((i : Int) * (Q : Int) + (j : Int))) x = T2 n Q l m j (k + 1) := by
  refine done_set hj hx fun a b ha hb => ?_
  unfold upD
  rw [decide_eq_true_eq, decide_eq_true_eq]
  omega
theorem up_rows (N : Nat) (n6 : n ≤ 6) (q6 : Q ≤ 6) (hN : 7 < N) (hl : l.length = n * n) (hm : m.length = n * Q) (al : An l = true) (am : An m = true) {j : Nat} (hj : j < Q) (M0 : Nat) : ∀ (cnt k F : Nat), k + cnt = n → cnt < F →
    solve.Au.Up.L1 N M0 F (n : Int) (n : Int) l (n : Int) (Q : Int) m (n : Int) (k : Int) (T2 n Q l m j k) (j : Int) (j : Int) =
    solve.Au.Up.L0 N M0 (n : Int) (n : Int) l (n : Int) (Q : Int) m (n : Int) ((j + 1 : Nat) : Int) (T2 n Q l m j n) := by
  intro cnt
  induction cnt with
  | zero =>
    intro k F hk hF
    obtain ⟨F, rfl⟩ : ∃ G, F = G + 1 := ⟨F - 1, by omega⟩
    obtain rfl : k = n := by omega
    rw [solve.Au.Up.Ch, Aw, decide_eq_false (by omega), cond_false, Ap (by omega) (by omega)]
    rfl
  | succ cnt ih =>
    intro k F hk hF
    obtain ⟨F, rfl⟩ : ∃ G, F = G + 1 := ⟨F - 1, by omega⟩
    obtain ⟨i, hi⟩ : ∃ i : Nat, i + k + 1 = n := ⟨n - k - 1, by omega⟩
    have ei : (n : Int) - 1 - (k : Int) = (i : Int) := by omega
    obtain ⟨e2, g3, g4⟩ := Gc (R := (n : Int)) (Dl n6 q6 hm (show i < n by omega) hj)
    rw [solve.Au.Up.Ch, Aw, decide_eq_true (show (k : Int) < (n : Int) by omega), cond_true, Ar.2 (show 0 ≤ (k : Int) ∧ (k : Int) < (n : Int) ∧ (n : Int) ≤ 10 by omega), cond_true, ei, e2, decide_eq_true g3, decide_eq_true g4, Bool.and_self, cond_true]
    obtain ⟨G, rfl⟩ : ∃ G, N = G + (i + 1) := ⟨N - (i + 1), by omega⟩
    have hs := up_skip (n := n) (Q := Q) (l := l) (m := m) (G + (i + 1)) n6 (i := i) (j := j) (k := k) (by omega) M0 F (j : Int) (k : Int) (Eg (Q : Int) m (i : Int) (j : Int)) (i + 1) 0 G (by omega)
    have hr := up_round (n := n) (Q := Q) (l := l) (m := m) (G + (i + 1)) n6 q6 hl al hi hj M0 F (j : Int) (k : Int) (n - (i + 1)) (i + 1) G (Eg (Q : Int) m (i : Int) (j : Int)) (by omega) (by omega) (by omega) (Hf (c := (Q : Int)) am)
    rw [upS_set hi hj (upL_row (show i < n by omega)).symm, Ap (by omega) (by omega)] at hr
    exact (hs.trans hr).trans (ih (k + 1) F (by omega) (by omega))
theorem upS_next (j : Nat) : T2 n Q l m j n = T2 n Q l m (j + 1) 0 := by
  unfold T2
  refine Dv fun a b ha hb => ?_
  have : upD n j n a b = upD n (j + 1) 0 a b := by
    unfold upD
    rw [decide_eq_decide]
    omega
  rw [this]
theorem upS_zero : T2 n Q l m 0 0 = Cx n Q fun _ _ => 0 := by
  unfold T2
  refine Dv fun a b ha hb => ?_
  have : upD n 0 0 a b = false := decide_eq_false (by omega)
  rw [this]; rfl
theorem upS_all : T2 n Q l m Q 0 = upG (n : Int) l (Q : Int) m n Q := by
  unfold T2 upG
  refine Dv fun a b ha hb => ?_
  have : upD n Q 0 a b = true := decide_eq_true (.inl hb)
  rw [this]; rfl
theorem up_cols (N : Nat) (n6 : n ≤ 6) (q6 : Q ≤ 6) (hN : 7 < N) (hl : l.length = n * n) (hm : m.length = n * Q) (al : An l = true) (am : An m = true) : ∀ (cnt j F : Nat), j + cnt = Q → cnt < F →
    solve.Au.Up.L0 N F (n : Int) (n : Int) l (n : Int) (Q : Int) m (n : Int) (j : Int) (T2 n Q l m j 0) =
    bif Ev (T2 n Q l m Q 0) then some (.tup [.agg [.int .i64 (n : Int), .int .i64 (Q : Int), .ints (.own 112002 tB) .u64 (T2 n Q l m Q 0)], .int .i64 (0 : Int)]) else some (nilX 2) := by
  intro cnt
  induction cnt with
  | zero =>
    intro j F hj hF
    obtain ⟨F, rfl⟩ : ∃ G, F = G + 1 := ⟨F - 1, by omega⟩
    obtain rfl : j = Q := by omega
    have h36 := Nat.mul_le_mul n6 q6
    rw [solve.Au.Up.Az, Aw, decide_eq_false (by omega), cond_false, Jg (upS_in _ _) (by rw [Yz]; omega), cond_true]
    cases Ev (T2 n j l m j 0) <;> rfl
  | succ cnt ih =>
    intro j F hj hF
    obtain ⟨F, rfl⟩ : ∃ G, F = G + 1 := ⟨F - 1, by omega⟩
    have hr := up_rows N n6 q6 hN hl hm al am (show j < Q by omega) F n 0 N (by omega) (by omega)
    rw [upS_next] at hr
    rw [solve.Au.Up.Az, Aw, decide_eq_true (show (j : Int) < (Q : Int) by omega), cond_true]
    exact hr.trans (ih (j + 1) F (by omega) (by omega))
end
theorem solve.Au.Up.known : solve.Au.Up.Kn := solve.Au.Up.Ac (.cons order_up.known (.cons Aa.Bt.own.known (.cons solve.D1.known (.cons Ae.Div.known (.cons Ae.Finite.known (.cons Ae.Mul.known (.cons Ae.Sub.known .nil))))))) fun r c l p q m n hp => by
  show ∃ N dv drops, _ = some dv ∧ Wk drops dv (Tl (Gj r q (upG c l q m (Int.toNat r) (Int.toNat q))))
  obtain ⟨h1, hn⟩ := Ag.1 (show (On r c l p q m && decide (n = r)) = true from hp)
  obtain ⟨h2, h3⟩ := Ag.1 h1
  obtain ⟨hr, hm⟩ := Ag.1 h2
  obtain ⟨h4, h5⟩ := Ag.1 h3
  obtain ⟨al, am⟩ := Ag.1 h4
  obtain ⟨rfl, rfl⟩ := Ar.1 h5
  obtain rfl := of_decide_eq_true hn
  have s1 := (F1 hr).1
  have s2 := (F1 hm).2
  obtain ⟨R, C, rfl, hC, r6, c6, hl⟩ := Da hr
  obtain ⟨P, Q, hP, rfl, p6, q6, hl2⟩ := Da hm
  obtain rfl : R = C := by omega
  obtain rfl : R = P := by omega
  have h := up_cols (n := R) (Q := Q) (l := l) (m := m) 8 r6 q6 (by omega) hl hl2 al am Q 0 8 (by omega) (by omega)
  rw [upS_zero, upS_all, show ((0 : Nat) : Int) = 0 from rfl] at h
  rw [Int.toNat_natCast, Int.toNat_natCast]
  unfold Gj
  cases hf : Ev (upG (R : Int) l (Q : Int) m R Q) with
  | true =>
    rw [hf, cond_true] at h
    rw [if_pos rfl]
    refine ⟨8, .tup [.agg [.int .i64 (R : Int), .int .i64 (Q : Int), .ints (.own 112002 tB) .u64 (upG (R : Int) l (Q : Int) m R Q)], .int .i64 0], [112002], ?_, Wk.Gg (.cons (Yw (List.mem_singleton.2 rfl)) (.cons .int .nil))⟩
    rw [solve.Au.Up.ev, s1, s2, Bool.and_self, cond_true, Int.toNat_natCast, Int.toNat_natCast]
    exact h
  | false =>
    rw [hf, cond_false] at h
    rw [if_neg (by decide)]
    refine ⟨8, nilX 2, [], ?_, Js⟩
    rw [solve.Au.Up.ev, s1, s2, Bool.and_self, cond_true, Int.toNat_natCast, Int.toNat_natCast]
    exact h
end Go.Proofs.S1
namespace Go.Proofs.S1
open Go Go.Den Go.Rnd Go.Proofs
set_option linter.unusedVariables false
set_option maxRecDepth 100000
namespace EqFew
theorem Eu : ∀ a b : Bool, (bif a then b else false) = (a && b) := by decide
theorem I7 : ∀ a : Bool, (((!a) || (a == true)) && true) = true := by decide
theorem H8 : ∀ a : Bool, ((!(a == true)) || ((((!(a == true)) || (a == true)) && (((!(a == true)) || (a == true)) && true)) && true)) = true := by decide
theorem Hr : ∀ a : Bool, ((!(a == true)) || ((((!(a == true)) || (a == true)) && true) && true)) = true := by decide
theorem Ge : ∀ a : Bool, ((!(a == true)) || true) = true := by decide
theorem Kb : ∀ a b : Bool, (bif (!a) then true else (!b)) = ((!a) || (!b)) := by decide
theorem Lu : ∀ a : Bool, ((!(!(!a))) || ((!a) == false)) = true := by decide
theorem Ld : ∀ a : Bool, ((!((!a) == false)) || ((((!((!a) == false)) || ((!a) == false)) && true) && true)) = true := by decide
theorem Qk : ∀ a b : Bool, ((!((!a) == false)) || ((((!((!a) == false)) || ((!a) == false)) && true) && b)) = ((!a) || b) := by decide
theorem Ru : ∀ a : Bool, ((!((!a) == false)) || true) = true := by decide
theorem Ho : ∀ a : Bool, (a && true) = a := by decide
theorem Ip : ∀ a b : Bool, (bif a then true else b) = (a || b) := by decide
theorem I8 : ∀ a : Bool, ((!(!a)) || (a == false)) = true := by decide
theorem Kl : ∀ a : Bool, ((!(a == false)) || ((((!(a == false)) || (a == false)) && (((!(a == false)) || (a == false)) && true)) && true)) = true := by decide
theorem Mv : ∀ a : Bool, ((!(a == false)) || ((((!(a == false)) || (a == false)) && true) && true)) = true := by decide
theorem Mu : ∀ a : Bool, ((!(a == false)) || true) = true := by decide
def qr.Ez.A9 : List (Nat × Entry) := [(123, Aa.Mul.spec), (167, Aa.Df.spec)]
def qr.Ez.E : Env := Bb (A8 qr.Ez.A9) (fun _ => false) (fun _ => none) (fun _ => none)
theorem qr.Ez.ev (N : Nat) (r c : Int) (l : List Int) (p q : Int) (m : List Int) : A1 qr.Ez.E N Tryz.f98 (Ad Tryz.f98) [.agg [.int .i64 r, .int .i64 c, .ints .arg .u64 l], .agg [.int .i64 p, .int .i64 q, .ints .arg .u64 m]] =
  bif (((Fi r c l).2.2.2) != (0 : Int)) then
  some (.tup [.agg [.int .i64 0, .int .i64 0, .nil], .int .i64 ((Fi r c l).2.2.2)])
  else bif (An ((Fi r c l).2.2.1) && An m) then
  some (.tup [.agg [.int .i64 ((To ((Fi r c l).1) ((Fi r c l).2.1) ((Fi r c l).2.2.1) p q m).1), .int .i64 ((To ((Fi r c l).1) ((Fi r c l).2.1) ((Fi r c l).2.2.1) p q m).2.1), .ints .fresh .u64 ((To ((Fi r c l).1) ((Fi r c l).2.1) ((Fi r c l).2.2.1) p q m).2.2.1)], .int .i64 ((To ((Fi r c l).1) ((Fi r c l).2.1) ((Fi r c l).2.2.1) p q m).2.2.2)])
  else none := by kernel_rfl
theorem qr.Ez.Ac (hk : A0 Tryz.prog qr.Ez.A9) (h : ∀ (r c : Int) (l : List Int) (p q : Int) (m : List Int), qr.Ez.pre [.i r, .i c, .l l, .i p, .i q, .l m] = true → ∃ N dv drops, A1 qr.Ez.E N Tryz.f98 (Ad Tryz.f98) [.agg [.int .i64 r, .int .i64 c, .ints .arg .u64 l], .agg [.int .i64 p, .int .i64 q, .ints .arg .u64 m]] = some dv ∧ Wk drops dv (qr.Ez.out [.i r, .i c, .l l, .i p, .i q, .l m])) : Am Tryz.prog 98 qr.Ez.spec :=
  Aj (A2 hk _ _ _) Tryz.func98 (by kernel_rfl) (by kernel_rfl) h
abbrev _root_.Go.Proofs.S1.qr.Ez.Kn : Prop := Am Tryz.prog 98 qr.Ez.spec
end EqFew
end Go.Proofs.S1
namespace Go.Proofs.S1
open Go Go.Den Go.Rnd Go.Proofs
open EqSol EqFew
theorem Vs {n i : Nat} (h : i < n) : (List.range n).drop i = i :: (List.range n).drop (i + 1) := by
  rw [List.drop_eq_getElem_cons (by rw [List.length_range]; exact h), List.getElem_range]
theorem J6 {r c : Int} {l : List Int} (h : Bu r c l = 0) : Bn r c l = true ∧ Ev l = true := by
  unfold Bu at h
  by_cases h1 : Bn r c l = true
  · rw [if_pos h1] at h
    by_cases h2 : Ev l = true
    · exact ⟨h1, h2⟩
    · rw [if_neg h2] at h; exact absurd h (by decide)
  · rw [if_neg h1] at h; exact absurd h (by decide)
theorem neI {x : Int} (h : x ≠ 0) : (x != (0 : Int)) = true := by simpa using h
theorem Il {x : Int} (h : x = 0) : (x != (0 : Int)) = false := by rw [h]; rfl
theorem check_loop (N : Nat) {n : Nat} {l : List Int} (n6 : n ≤ 6) (hl : l.length = n * n) (al : An l = true) : ∀ (cnt i F : Nat), i + cnt = n → cnt < F →
    solve.check.L0 (N + 4) F (n : Int) (n : Int) l (i : Int) = some (.int .i64 (if ((List.range n).drop i).any (fun i : Nat => decide (A7 (Eg (n : Int) l (i : Int) (i : Int)) = 0)) = true then 5 else 0)) := by
  intro cnt
  induction cnt with
  | zero =>
    intro i F hi hF
    obtain ⟨F, rfl⟩ : ∃ G, F = G + 1 := ⟨F - 1, by omega⟩
    rw [solve.check.Az, Aw, decide_eq_false (by omega), cond_false, List.drop_of_length_le (by rw [List.length_range]; omega)]; rfl
  | succ cnt ih =>
    intro i F hi hF
    obtain ⟨F, rfl⟩ : ∃ G, F = G + 1 := ⟨F - 1, by omega⟩
    obtain ⟨e1, g1, g2⟩ := Gc (R := (n : Int)) (Dl n6 n6 hl (show i < n by omega) (show i < n by omega))
    have hx : List.getD l (Int.toNat ((i : Int) * (n : Int) + (i : Int))) 0 = Eg (n : Int) l (i : Int) (i : Int) := rfl
    rw [solve.check.Az, Aw, decide_eq_true (show (i : Int) < (n : Int) by omega), cond_true, e1, decide_eq_true g1, decide_eq_true g2, Bool.and_self, cond_true, hx, Hf al, cond_true, Vs (by omega), List.any_cons]
    by_cases hk : A7 (Eg (n : Int) l (i : Int) (i : Int)) = 0
    · have e : (A7 (Eg (n : Int) l (i : Int) (i : Int)) == (0 : Int)) = true := by rw [hk]; rfl
      rw [e, cond_true, decide_eq_true hk]; rfl
    · have e : (A7 (Eg (n : Int) l (i : Int) (i : Int)) == (0 : Int)) = false := by simpa using hk
      rw [e, cond_false, decide_eq_false hk, Bool.false_or, Ap (by omega) (by omega)]
      exact ih (i + 1) F (by omega) (by omega)
theorem ne_or {r c p : Int} : ((r != c) || (r != p)) = decide (r ≠ c ∨ r ≠ p) := by
  rw [Bool.eq_iff_iff]; simp
theorem solve.check.known : solve.check.Kn := solve.check.Ac (.cons Cg.Check.known (.cons soft.Kind.known .nil)) fun r c l p q m hp => by
  obtain ⟨al, am⟩ := Ag.1 (show (An l && An m) = true from hp)
  refine ⟨14, solve.check.out [.i r, .i c, .l l, .i p, .i q, .l m], [], ?_, .int⟩
  show _ = some (DV.int .i64 (Lw r c l p q m))
  rw [show (14 : Nat) = 10 + 4 from rfl, solve.check.ev, al, cond_true, am, cond_true, ne_or]
  unfold Lw
  by_cases h1 : Bu r c l = 0
  · rw [Il h1, cond_false, if_neg (by rw [h1]; decide)]
    by_cases h2 : Bu p q m = 0
    · rw [Il h2, cond_false, if_neg (by rw [h2]; decide)]
      by_cases h3 : r ≠ c ∨ r ≠ p
      · rw [decide_eq_true h3, cond_true, if_pos h3]
      · rw [decide_eq_false h3, cond_false, if_neg h3]
        obtain rfl : r = c := Decidable.byContradiction fun h => h3 (.inl h)
        obtain ⟨R, C, rfl, hC, r6, c6, hl⟩ := Da (J6 h1).1
        obtain rfl : R = C := by omega
        rw [Int.toNat_natCast]
        exact check_loop 10 r6 hl al R 0 14 (by omega) (by omega)
    · rw [neI h2, cond_true, if_pos h2]
  · rw [neI h1, cond_true, if_pos h1]
theorem Qf {r c : Int} {l : List Int} {p q : Int} {m : List Int} (h : Lw r c l p q m = 0) : Bn r c l = true ∧ Bn p q m = true ∧ r = c ∧ r = p := by
  unfold Lw at h
  by_cases h1 : Bu r c l = 0
  · rw [if_neg (by rw [h1]; decide)] at h
    by_cases h2 : Bu p q m = 0
    · rw [if_neg (by rw [h2]; decide)] at h
      by_cases h3 : r ≠ c ∨ r ≠ p
      · rw [if_pos h3] at h; exact absurd h (by decide)
      · exact ⟨(J6 h1).1, (J6 h2).1, Decidable.byContradiction fun h => h3 (.inl h), Decidable.byContradiction fun h => h3 (.inr h)⟩
    · rw [if_pos h2] at h; exact absurd h h2
  · rw [if_pos h1] at h; exact absurd h h1
theorem solve.G0.known : solve.G0.Kn := solve.G0.Ac (.cons solve.check.known (.cons solve.Au.Up.known .nil)) fun r c l p q m hp => by
  have hp : (An l && An m) = true := hp
  show ∃ N dv drops, _ = some dv ∧ Wk drops dv (Tl (upX r c l p q m))
  unfold upX
  by_cases h : Lw r c l p q m = 0
  · obtain ⟨h1, h2, h3, h4⟩ := Qf h
    have ht : On r c l p q m = true := Ag.2 ⟨Ag.2 ⟨h1, h2⟩, Ag.2 ⟨hp, Ar.2 ⟨h3, h4⟩⟩⟩
    rw [if_neg (by rw [h]; decide)]
    exact ⟨0, _, [], by rw [solve.G0.ev, hp, cond_true, Il h, cond_false, ht, decide_eq_true rfl]; rfl, Ol⟩
  · rw [if_pos h]
    exact ⟨0, _, [], by rw [solve.G0.ev, hp, cond_true, neI h, cond_true]; rfl, Js⟩
theorem scale_lt {b : Nat} {n : Int} (h : b < 2 ^ 64) : (Fh b n).1 < 2 ^ 64 := by
  unfold Fh
  by_cases h4 : Ai b = 4
  · rw [if_pos h4]; exact (by decide : Pu < 2 ^ 64)
  rw [if_neg h4]
  by_cases h3 : Ai b = 3 ∨ Ai b = 0
  · rw [if_pos h3]; exact h
  rw [if_neg h3]
  exact Ry _ _ _
theorem It {b n : Int} (h : Ah b = true) : Ah (B3 b n) = true := by
  obtain ⟨x, rfl, hx⟩ := Bg h
  exact By (scale_lt (by rw [Int.toNat_natCast]; exact hx))
theorem W0 : ∀ (l : List Int) (m : Nat), m < 2 ^ 64 → W1 l m < 2 ^ 64
  | [], m, h => h
  | x :: l, m, h => by
    unfold W1
    split
    · exact (by decide : Pu < 2 ^ 64)
    · have h2 : Fz x.toNat < 2 ^ 63 := Yv x.toNat
      exact W0 l _ (by omega)
theorem Pl (l : List Int) : Ah (Br l) = true := By (W0 l 0 (by decide))
theorem V5 (x : Int) : Ah (Ix x) = true := By (Nat.lt_trans (Yv x.toNat) (by decide))
theorem flat_test (N : Nat) {d : List Int} (hd : Di d = true) (h7 : d.length ≤ 1000) : ∀ (cnt i F : Nat), i + cnt = d.length → cnt < F →
    solve.Flat.L1 N F d (i : Int) = some (.tup [.bool ((d.drop i).any fun x => !(decide (Q9 (B3 (Br d) (-40)) x < 0))), .int .i64 0]) := by
  obtain ⟨_, hu⟩ := Ks hd
  intro cnt
  induction cnt with
  | zero =>
    intro i F hi hF
    obtain ⟨F, rfl⟩ : ∃ G, F = G + 1 := ⟨F - 1, by omega⟩
    rw [solve.Flat.Ch, Aw, decide_eq_false (by omega), cond_false, List.drop_of_length_le (by omega)]; rfl
  | succ cnt ih =>
    intro i F hi hF
    obtain ⟨F, rfl⟩ : ∃ G, F = G + 1 := ⟨F - 1, by omega⟩
    rw [solve.Flat.Ch, Aw, decide_eq_true (show (i : Int) < (d.length : Int) by omega), cond_true, decide_eq_true (show (0 : Int) ≤ (i : Int) by omega), Bool.and_self, cond_true, Int.toNat_natCast, decide_eq_true (show i < d.length by omega), cond_true,
      It (Pl d), hu i (by omega), Bool.and_self, cond_true, Ih (by omega), List.any_cons]
    cases decide (Q9 (B3 (Br d) (-40)) (d.getD i 0) < 0) with
    | false => rfl
    | true =>
      rw [Bool.not_true, cond_false, Bool.false_or, Ap (by omega) (by omega)]
      exact ih (i + 1) F (by omega) (by omega)
theorem diag_in (c : Int) (l : List Int) (n : Nat) : An (Jb c l n) = true := Ar.2 fun x hx => by
  obtain ⟨j, _, rfl⟩ := List.mem_map.1 hx
  exact V5 _
theorem Hd (c : Int) (l : List Int) (n : Nat) : (Jb c l n).length = n := by unfold Jb; rw [List.length_map, List.length_range]
theorem flat_loop (N : Nat) {R C : Nat} {l : List Int} (r6 : R ≤ 6) (c6 : C ≤ 6) (hN : 7 < N) (hl : l.length = R * C) (al : An l = true) : ∀ (cnt i F : Nat), i + cnt = min R C → cnt < F →
    solve.Flat.L0 N F (R : Int) (C : Int) l (i : Int) (Jb (C : Int) l i) = some (.tup [.bool (flatL (Jb (C : Int) l (min R C))), .int .i64 0]) := by
  intro cnt
  induction cnt with
  | zero =>
    intro i F hi hF
    obtain ⟨F, rfl⟩ : ∃ G, F = G + 1 := ⟨F - 1, by omega⟩
    obtain rfl : i = min R C := by omega
    have hlt : (A5 (((min R C : Nat)) : Int) (R : Int) && A5 (((min R C : Nat)) : Int) (C : Int)) = false := by
      rw [Aw, Aw, Bool.and_eq_false_iff, decide_eq_false_iff_not, decide_eq_false_iff_not]; omega
    have ok := Jg (diag_in (C : Int) l (min R C)) (by rw [Hd]; omega)
    have sp : Dp (Br (Jb (C : Int) l (min R C))) (-40 : Int) = true := Ag.2 ⟨Pl _, Ar.2 (by omega)⟩
    rw [solve.Flat.Az, hlt, cond_false, ok, cond_true, sp, cond_true]
    exact flat_test N ok (by rw [Hd]; omega) (min R C) 0 N (by rw [Hd]; omega) (by omega)
  | succ cnt ih =>
    intro i F hi hF
    obtain ⟨F, rfl⟩ : ∃ G, F = G + 1 := ⟨F - 1, by omega⟩
    obtain ⟨e1, g1, g2⟩ := Gc (R := (R : Int)) (Dl r6 c6 hl (show i < R by omega) (show i < C by omega))
    have hx : List.getD l (Int.toNat ((i : Int) * (C : Int) + (i : Int))) 0 = Eg (C : Int) l (i : Int) (i : Int) := rfl
    rw [solve.Flat.Az, Aw, Aw, decide_eq_true (show (i : Int) < (R : Int) by omega), decide_eq_true (show (i : Int) < (C : Int) by omega), Bool.and_self, cond_true, e1, decide_eq_true g1, decide_eq_true g2, Bool.and_self, cond_true, hx, Hf al, cond_true,
      Hd, decide_eq_true (show i + 1 ≤ H0 by unfold H0; omega), cond_true, Ap (by omega) (by omega)]
    have := ih (i + 1) F (by omega) (by omega)
    unfold Jb at this ⊢
    rw [Jx] at this
    exact this
theorem solve.Flat.known : solve.Flat.Kn := solve.Flat.Ac (.cons Cg.Check.known (.cons compare.Gm.known (.cons compare.K1.known (.cons Ae.Cm.known (.cons Ae.Bj.known .nil))))) fun r c l hp => by
  have hp : An l = true := hp
  refine ⟨8, solve.Flat.out [.i r, .i c, .l l], [], ?_, Wk.Gg (.cons .bool (.cons .int .nil))⟩
  show _ = some (DV.tup [.bool (Dh r c l).1, .int .i64 (Dh r c l).2])
  rw [solve.Flat.ev, hp, cond_true]
  unfold Dh Pc
  by_cases h1 : Bu r c l = 0
  · obtain ⟨R, C, rfl, rfl, r6, c6, hl⟩ := Da (J6 h1).1
    rw [Il h1, cond_false, if_neg (by rw [h1]; decide), Int.toNat_natCast, Int.toNat_natCast]
    exact flat_loop 8 r6 c6 (by omega) hl hp (min R C) 0 8 (by omega) (by omega)
  · rw [neI h1, cond_true, if_pos h1]
theorem part_in {r c : Int} {l : List Int} (al : An l = true) (x y a b : Int) : An (Ia r c l x y a b).2.2.1 = true := by
  unfold Ia
  split
  · split
    · dsimp only
      exact L8 fun i k => Hf al
    · exact Ar.2 fun x h => by cases h
  · exact Ar.2 fun x h => by cases h
theorem turn_in {r c : Int} {l : List Int} (al : An l = true) : An (Fi r c l).2.2.1 = true := by
  unfold Fi
  split
  · dsimp only
    exact L8 fun i k => Hf al
  · exact Ar.2 fun x h => by cases h
theorem Z8 (x y : List Int) : Ah (Qn x y) = true := By (Z7 x y 0 (by decide))
theorem mulX_in (r c : Int) (l : List Int) (p q : Int) (m : List Int) : An (To r c l p q m).2.2.1 = true := by
  unfold To
  split
  · split
    · dsimp only
      exact L8 fun i k => Z8 _ _
    · exact Ar.2 fun x h => by cases h
  · exact Ar.2 fun x h => by cases h
theorem turned_in (r c : Int) (l : List Int) (p q : Int) (m : List Int) : An (Dd r c l p q m).2.2.1 = true := by
  unfold Dd
  split
  · exact Ar.2 fun x h => by cases h
  · exact mulX_in _ _ _ _ _ _
theorem qr.Ez.known : qr.Ez.Kn := qr.Ez.Ac (.cons Aa.Mul.known (.cons Aa.Df.known .nil)) fun r c l p q m hp => by
  obtain ⟨al, am⟩ := Ag.1 (show (An l && An m) = true from hp)
  show ∃ N dv drops, _ = some dv ∧ Wk drops dv (Tl (Dd r c l p q m))
  unfold Dd
  by_cases h : (Fi r c l).2.2.2 = 0
  · rw [if_neg (by rw [h]; decide)]
    exact ⟨0, _, [], by rw [qr.Ez.ev, Il h, cond_false, turn_in al, am]; rfl, Ol⟩
  · rw [if_pos h]
    exact ⟨0, _, [], by rw [qr.Ez.ev, neI h, cond_true]; rfl, Js⟩
end Go.Proofs.S1
namespace Go.Proofs.S1
open Go Go.Den Go.Rnd Go.Proofs
set_option linter.unusedVariables false
set_option maxRecDepth 100000
namespace EqQr
theorem Eu : ∀ a b : Bool, (bif a then b else false) = (a && b) := by decide
theorem I7 : ∀ a : Bool, (((!a) || (a == true)) && true) = true := by decide
theorem H8 : ∀ a : Bool, ((!(a == true)) || ((((!(a == true)) || (a == true)) && (((!(a == true)) || (a == true)) && true)) && true)) = true := by decide
theorem Hr : ∀ a : Bool, ((!(a == true)) || ((((!(a == true)) || (a == true)) && true) && true)) = true := by decide
theorem Ge : ∀ a : Bool, ((!(a == true)) || true) = true := by decide
theorem Kb : ∀ a b : Bool, (bif (!a) then true else (!b)) = ((!a) || (!b)) := by decide
theorem Lu : ∀ a : Bool, ((!(!(!a))) || ((!a) == false)) = true := by decide
theorem Ld : ∀ a : Bool, ((!((!a) == false)) || ((((!((!a) == false)) || ((!a) == false)) && true) && true)) = true := by decide
theorem Qk : ∀ a b : Bool, ((!((!a) == false)) || ((((!((!a) == false)) || ((!a) == false)) && true) && b)) = ((!a) || b) := by decide
theorem Ru : ∀ a : Bool, ((!((!a) == false)) || true) = true := by decide
theorem Ho : ∀ a : Bool, (a && true) = a := by decide
theorem Ip : ∀ a b : Bool, ((a && b) && true) = (a && b) := by decide
theorem I8 : ∀ a b : Bool, (bif a then true else b) = (a || b) := by decide
theorem Kl : ∀ a : Bool, ((!(!a)) || (a == false)) = true := by decide
theorem Mv : ∀ a : Bool, ((!(a == false)) || ((((!(a == false)) || (a == false)) && (((!(a == false)) || (a == false)) && true)) && true)) = true := by decide
theorem Mu : ∀ a : Bool, ((!(a == false)) || ((((!(a == false)) || (a == false)) && true) && true)) = true := by decide
theorem Rv : ∀ a : Bool, ((!(a == false)) || true) = true := by decide
def qr.down.hint : Nat → Option Bf
  | 0 => some { keep := [1, 2, 5, 6, 7], objs := [(0, 6, 100006, .recs 214 2 []), (6, 2, 106002, .ints 37 .u64 [])], boxes := [1, 2, 5] }
  | 2 => some { keep := [1, 2, 5, 6, 7, 8, 9, 12], objs := [(6, 2, 106002, .ints 37 .u64 []), (0, 6, 100006, .recs 214 2 [])], boxes := [1, 2, 5] }
  | _ => none
def qr.down.A9 : List (Nat × Entry) := [(219, Ao.Apply.spec), (245, Ao.Jn.spec), (191, Aa.C9.spec)]
def qr.down.E : Env := Bb (A8 qr.down.A9) (fun n => Nat.beq n 46) qr.down.hint (fun _ => none)
def qr.down.L0 (N M0 M : Nat) (r c : Int) (l : List Int) (p12_1 : Int) (p2_1 : List Int) (p7_1 : Int) (p8 : List Int) (p9 : Int) (p6_1 : List (List DV)) : Option DV := B6 qr.down.E N Tryz.f217 (Ad Tryz.f217) [1, 1, 1, 0, 1, 0, 0, 1, 0, 0, 1, 1, 1, 1, 0, 1, 0] [M0] M ⟨Hq 88 [(1, .ptr 1 0 0), (2, .ptr 2 0 0), (5, .ptr 5 0 0), (6, .oref 100006), (7, .int .i64 p7_1), (8, .ints .fresh .u64 p8), (9, .int .u64 p9), (12, .int .i64 p12_1)], [(1, false, .box [.int .i64 r, .int .i64 c, .ints .arg .u64 l]), (2, false, .box [.int .i64 0, .int .i64 0, .nil]), (5, false, .box [.int .i64 r, .int .i64 c, .oref 106002]), (106002, false, .ints 37 .u64 p2_1), (100006, false, .recs 214 2 p6_1)]⟩
def qr.down.L1 (N M : Nat) (r c : Int) (l : List Int) (p7 : Int) (p6 : List (List DV)) (p2_2 : List Int) : Option DV := B6 qr.down.E N Tryz.f217 (Ad Tryz.f217) [1, 1, 1, 0, 1, 0] [] M ⟨Hq 88 [(1, .ptr 1 0 0), (2, .ptr 2 0 0), (5, .ptr 5 0 0), (6, .oref 100006), (7, .int .i64 p7)], [(1, false, .box [.int .i64 r, .int .i64 c, .ints .arg .u64 l]), (2, false, .box [.int .i64 0, .int .i64 0, .nil]), (5, false, .box [.int .i64 r, .int .i64 c, .oref 106002]), (100006, false, .recs 214 2 p6), (106002, false, .ints 37 .u64 p2_2)]⟩
def qr.down.L2 (N M : Nat) (r c : Int) (l : List Int) : Option DV := B6 qr.down.E N Tryz.f217 (Ad Tryz.f217) [1, 1, 1, 0, 1, 0] [] M ⟨Hq 88 [(1, .ptr 1 0 0), (2, .ptr 2 0 0), (5, .ptr 5 0 0), (6, .oref 100006), (7, .int .i64 0)], [(1, false, .box [.int .i64 r, .int .i64 c, .ints .arg .u64 l]), (2, false, .box [.int .i64 0, .int .i64 0, .nil]), (5, false, .box [.int .i64 r, .int .i64 c, .ints .arg .u64 l]), (100006, false, .recs 214 2 [])]⟩
theorem qr.down.Az (N M0 M : Nat) (r c : Int) (l : List Int) (p12_1 : Int) (p2_1 : List Int) (p7_1 : Int) (p8 : List Int) (p9 : Int) (p6_1 : List (List DV)) : qr.down.L0 N M0 (M + 1) r c l p12_1 p2_1 p7_1 p8 p9 p6_1 =
  bif (A5 p12_1 r) then
  bif ((decide (0 ≤ (Ab ((Ab (p12_1 * c)) + p7_1)))) && (decide ((Ab ((Ab (p12_1 * c)) + p7_1)) < (List.length p2_1 : Int)))) then
  bif (decide ((Int.toNat (Ab ((Ab (p12_1 * c)) + p7_1))) < (List.length p2_1))) then
  qr.down.L0 N M0 M r c l (Ab (p12_1 + (1 : Int))) (List.set p2_1 (Int.toNat (Ab ((Ab (p12_1 * c)) + p7_1))) (0 : Int)) p7_1 p8 p9 p6_1
  else none
  else none
  else bif (decide ((List.length p6_1) + 1 ≤ limR)) then
  qr.down.L1 N M0 r c l (Ab (p7_1 + (1 : Int))) (p6_1 ++ [[.ints .arg .u64 p8, .int .u64 p9]]) p2_1
  else none := by kernel_rfl
theorem qr.down.Ch (N M : Nat) (r c : Int) (l : List Int) (p7 : Int) (p6 : List (List DV)) (p2_2 : List Int) : qr.down.L1 N (M + 1) r c l p7 p6 p2_2 =
  bif ((A5 p7 c) && (A5 p7 (Ab (r - (1 : Int))))) then
  bif (Lm r c p2_2 p7 && C2 (0 ≤ p7 ∧ p7 ≤ r)) then
  bif (Di (Dm c p2_2 p7 p7 (Int.toNat (r - p7)))) then
  bif (((Cb (Dm c p2_2 p7 p7 (Int.toNat (r - p7)))).2.2.2) != (0 : Int)) then
  some (.tup [.agg [.int .i64 0, .int .i64 0, .nil], .nil, .int .i64 2])
  else bif (((Bn r c p2_2 && Mn r c p7 p7 ((Cb (Dm c p2_2 p7 p7 (Int.toNat (r - p7)))).1)) && (An p2_2 && An ((Cb (Dm c p2_2 p7 p7 (Int.toNat (r - p7)))).1))) && Ah ((Cb (Dm c p2_2 p7 p7 (Int.toNat (r - p7)))).2.1)) then
  bif ((decide (0 ≤ (Ab ((Ab (p7 * c)) + p7)))) && (decide ((Ab ((Ab (p7 * c)) + p7)) < (List.length (Fy (Int.toNat r) (Int.toNat c) p2_2 p7 p7 ((Cb (Dm c p2_2 p7 p7 (Int.toNat (r - p7)))).1) ((Cb (Dm c p2_2 p7 p7 (Int.toNat (r - p7)))).2.1)) : Int)))) then
  bif (decide ((Int.toNat (Ab ((Ab (p7 * c)) + p7))) < (List.length (Fy (Int.toNat r) (Int.toNat c) p2_2 p7 p7 ((Cb (Dm c p2_2 p7 p7 (Int.toNat (r - p7)))).1) ((Cb (Dm c p2_2 p7 p7 (Int.toNat (r - p7)))).2.1))))) then
  qr.down.L0 N M N r c l (Ab (p7 + (1 : Int))) (List.set (Fy (Int.toNat r) (Int.toNat c) p2_2 p7 p7 ((Cb (Dm c p2_2 p7 p7 (Int.toNat (r - p7)))).1) ((Cb (Dm c p2_2 p7 p7 (Int.toNat (r - p7)))).2.1)) (Int.toNat (Ab ((Ab (p7 * c)) + p7))) ((Cb (Dm c p2_2 p7 p7 (Int.toNat (r - p7)))).2.2.1)) p7 ((Cb (Dm c p2_2 p7 p7 (Int.toNat (r - p7)))).1) ((Cb (Dm c p2_2 p7 p7 (Int.toNat (r - p7)))).2.1) p6
  else none
  else none
  else none
  else none
  else none
  else some (.tup [.agg [.int .i64 r, .int .i64 c, .ints (.own 106002 37) .u64 p2_2], .recs (.own 100006 214) 2 p6, .int .i64 0]) :=
  Eq.trans (by kernel_rfl)
  (Ax (Ge (A5 p7 c)) (Ax (Ge (A5 p7 c)) (Ax (Hr (A5 p7 c)) (Ax (Hr (A5 p7 c)) (Ax (H8 (A5 p7 c)) (Ax (I7 (A5 p7 c)) (C1 (Eu (A5 p7 c) (A5 p7 (Ab (r - (1 : Int))))) rfl rfl)))))))
theorem qr.down.Fq (N M : Nat) (r c : Int) (l : List Int) : qr.down.L2 N (M + 1) r c l =
  bif ((A5 (0 : Int) c) && (A5 (0 : Int) (Ab (r - (1 : Int))))) then
  bif (Lm r c l (0 : Int) && C2 (0 ≤ (0 : Int) ∧ (0 : Int) ≤ r)) then
  bif (Di (Dm c l (0 : Int) (0 : Int) (Int.toNat (r - (0 : Int))))) then
  bif (((Cb (Dm c l (0 : Int) (0 : Int) (Int.toNat (r - (0 : Int))))).2.2.2) != (0 : Int)) then
  some (.tup [.agg [.int .i64 0, .int .i64 0, .nil], .nil, .int .i64 2])
  else bif (((Bn r c l && Mn r c (0 : Int) (0 : Int) ((Cb (Dm c l (0 : Int) (0 : Int) (Int.toNat (r - (0 : Int))))).1)) && (An l && An ((Cb (Dm c l (0 : Int) (0 : Int) (Int.toNat (r - (0 : Int))))).1))) && Ah ((Cb (Dm c l (0 : Int) (0 : Int) (Int.toNat (r - (0 : Int))))).2.1)) then
  bif ((decide (0 ≤ (Ab ((Ab ((0 : Int) * c)) + (0 : Int))))) && (decide ((Ab ((Ab ((0 : Int) * c)) + (0 : Int))) < (List.length (Fy (Int.toNat r) (Int.toNat c) l (0 : Int) (0 : Int) ((Cb (Dm c l (0 : Int) (0 : Int) (Int.toNat (r - (0 : Int))))).1) ((Cb (Dm c l (0 : Int) (0 : Int) (Int.toNat (r - (0 : Int))))).2.1)) : Int)))) then
  bif (decide ((Int.toNat (Ab ((Ab ((0 : Int) * c)) + (0 : Int)))) < (List.length (Fy (Int.toNat r) (Int.toNat c) l (0 : Int) (0 : Int) ((Cb (Dm c l (0 : Int) (0 : Int) (Int.toNat (r - (0 : Int))))).1) ((Cb (Dm c l (0 : Int) (0 : Int) (Int.toNat (r - (0 : Int))))).2.1))))) then
  qr.down.L0 N M N r c l (1 : Int) (List.set (Fy (Int.toNat r) (Int.toNat c) l (0 : Int) (0 : Int) ((Cb (Dm c l (0 : Int) (0 : Int) (Int.toNat (r - (0 : Int))))).1) ((Cb (Dm c l (0 : Int) (0 : Int) (Int.toNat (r - (0 : Int))))).2.1)) (Int.toNat (Ab ((Ab ((0 : Int) * c)) + (0 : Int)))) ((Cb (Dm c l (0 : Int) (0 : Int) (Int.toNat (r - (0 : Int))))).2.2.1)) (0 : Int) ((Cb (Dm c l (0 : Int) (0 : Int) (Int.toNat (r - (0 : Int))))).1) ((Cb (Dm c l (0 : Int) (0 : Int) (Int.toNat (r - (0 : Int))))).2.1) []
  else none
  else none
  else none
  else none
  else none
  else some (.tup [.agg [.int .i64 r, .int .i64 c, .ints .arg .u64 l], .recs (.own 100006 214) 2 [], .int .i64 0]) :=
  Eq.trans (by kernel_rfl)
  (Ax (Ge (A5 (0 : Int) c)) (Ax (Ge (A5 (0 : Int) c)) (Ax (Hr (A5 (0 : Int) c)) (Ax (Hr (A5 (0 : Int) c)) (Ax (H8 (A5 (0 : Int) c)) (Ax (I7 (A5 (0 : Int) c)) (C1 (Eu (A5 (0 : Int) c) (A5 (0 : Int) (Ab (r - (1 : Int))))) rfl rfl)))))))
theorem qr.down.ev (N : Nat) (r c : Int) (l : List Int) : A1 qr.down.E N Tryz.f217 (Ad Tryz.f217) [.agg [.int .i64 r, .int .i64 c, .ints .arg .u64 l]] =
  qr.down.L2 N N r c l := by kernel_rfl
theorem qr.down.Ac (hk : A0 Tryz.prog qr.down.A9) (h : ∀ (r c : Int) (l : List Int), qr.down.pre [.i r, .i c, .l l] = true → ∃ N dv drops, A1 qr.down.E N Tryz.f217 (Ad Tryz.f217) [.agg [.int .i64 r, .int .i64 c, .ints .arg .u64 l]] = some dv ∧ Wk drops dv (qr.down.out [.i r, .i c, .l l])) : Am Tryz.prog 217 qr.down.spec :=
  Aj (A2 hk _ _ _) Tryz.func217 (by kernel_rfl) (by kernel_rfl) h
abbrev _root_.Go.Proofs.S1.qr.down.Kn : Prop := Am Tryz.prog 217 qr.down.spec
def qr.Dc.hint : Nat → Option Bf
  | 0 => some { keep := [2, 3, 5, 6], objs := [], boxes := [2, 3] }
  | _ => none
def qr.Dc.A9 : List (Nat × Entry) := [(86, Cg.Check.spec), (219, Ao.Apply.spec), (218, Aa.G7.spec), (217, qr.down.spec), (150, Ae.Finite.spec)]
def qr.Dc.E : Env := Ws (A8 qr.Dc.A9) (fun _ => false) qr.Dc.hint (fun _ => none) (advOf [(22, [.s .u64]), (37, [.i .u64])])
def qr.Dc.L0 (N M : Nat) (r c : Int) (l : List Int) (p6 : Int) (p2 : List Int) : Option DV := B6 qr.Dc.E N Tryz.f166 (Ad Tryz.f166) [1, 0, 1, 1, 1, 1, 1, 1, 0, 0] [] M ⟨Hq 81 [(2, .ptr 2 0 0), (3, .ptr 3 0 0), (5, .recs .fresh 2 (Jj r c ([] ++ l))), (6, .int .i64 p6)], [(2, false, .box [.int .i64 ((Ll r).1), .int .i64 ((Ll r).2.1), .ints .fresh .u64 p2]), (3, false, .box [.int .i64 ((E9 r c ([] ++ l)).1), .int .i64 ((E9 r c ([] ++ l)).2.1), .ints .arg .u64 ((E9 r c ([] ++ l)).2.2.1)])]⟩
theorem qr.Dc.Az (N M : Nat) (r c : Int) (l : List Int) (p6 : Int) (p2 : List Int) : qr.Dc.L0 N (M + 1) r c l p6 p2 =
  bif (A5 p6 (0 : Int)) then
  bif (Di p2) then
  bif ((!(Ev p2)) || (Di ((E9 r c ([] ++ l)).2.2.1))) then
  bif ((!(Ev p2)) || (!(Ev ((E9 r c ([] ++ l)).2.2.1)))) then
  some (.tup [.agg [.int .i64 0, .int .i64 0, .nil], .agg [.int .i64 0, .int .i64 0, .nil], .int .i64 2])
  else some (.tup [.agg [.int .i64 ((Ll r).1), .int .i64 ((Ll r).2.1), .ints .fresh .u64 p2], .agg [.int .i64 ((E9 r c ([] ++ l)).1), .int .i64 ((E9 r c ([] ++ l)).2.1), .ints .arg .u64 ((E9 r c ([] ++ l)).2.2.1)], .int .i64 0])
  else none
  else none
  else bif ((decide (0 ≤ p6)) && (decide (p6 < (List.length (Jj r c ([] ++ l)) : Int)))) then
  bif (isC (.s .u64) (List.getD (List.getD (Jj r c ([] ++ l)) (Int.toNat p6) []) 0 .undef)) then
  bif ((decide (0 ≤ p6)) && (decide (p6 < (List.length (Jj r c ([] ++ l)) : Int)))) then
  bif (isC (.i .u64) (List.getD (List.getD (Jj r c ([] ++ l)) (Int.toNat p6) []) 1 .undef)) then
  bif (((Bn ((Ll r).1) ((Ll r).2.1) p2 && Mn ((Ll r).1) ((Ll r).2.1) p6 (0 : Int) (Ri (List.getD (List.getD (Jj r c ([] ++ l)) (Int.toNat p6) []) 0 .undef))) && (An p2 && An (Ri (List.getD (List.getD (Jj r c ([] ++ l)) (Int.toNat p6) []) 0 .undef)))) && Ah (dvInt (List.getD (List.getD (Jj r c ([] ++ l)) (Int.toNat p6) []) 1 .undef))) then
  qr.Dc.L0 N M r c l (Ab (p6 - (1 : Int))) (Fy (Int.toNat ((Ll r).1)) (Int.toNat ((Ll r).2.1)) p2 p6 (0 : Int) (Ri (List.getD (List.getD (Jj r c ([] ++ l)) (Int.toNat p6) []) 0 .undef)) (dvInt (List.getD (List.getD (Jj r c ([] ++ l)) (Int.toNat p6) []) 1 .undef)))
  else none
  else none
  else none
  else none
  else none :=
  Eq.trans (by kernel_rfl)
  (Fb (Fb (Ax (Ru (Ev p2)) (Ax (Ld (Ev p2)) (C1 (Qk (Ev p2) (Di ((E9 r c ([] ++ l)).2.2.1))) (Ax (Ld (Ev p2)) (Ax (Lu (Ev p2)) (C1 (Kb (Ev p2) (Ev ((E9 r c ([] ++ l)).2.2.1))) rfl rfl))) rfl))) rfl) (C1 (Ip (decide (0 ≤ p6)) (decide (p6 < (List.length (Jj r c ([] ++ l)) : Int)))) (C1 (Ho (isC (.s .u64) (List.getD (List.getD (Jj r c ([] ++ l)) (Int.toNat p6) []) 0 .undef))) (C1 (Ip (decide (0 ≤ p6)) (decide (p6 < (List.length (Jj r c ([] ++ l)) : Int)))) (C1 (Ho (isC (.i .u64) (List.getD (List.getD (Jj r c ([] ++ l)) (Int.toNat p6) []) 1 .undef))) (C1 (Ho (((Bn ((Ll r).1) ((Ll r).2.1) p2 && Mn ((Ll r).1) ((Ll r).2.1) p6 (0 : Int) (Ri (List.getD (List.getD (Jj r c ([] ++ l)) (Int.toNat p6) []) 0 .undef))) && (An p2 && An (Ri (List.getD (List.getD (Jj r c ([] ++ l)) (Int.toNat p6) []) 0 .undef)))) && Ah (dvInt (List.getD (List.getD (Jj r c ([] ++ l)) (Int.toNat p6) []) 1 .undef)))) rfl rfl) rfl) rfl) rfl) rfl))
theorem qr.Dc.ev (N : Nat) (r c : Int) (l : List Int) : A1 qr.Dc.E N Tryz.f166 (Ad Tryz.f166) [.agg [.int .i64 r, .int .i64 c, .ints .arg .u64 l]] =
  bif (An l) then
  bif ((Bu r c l) != (0 : Int)) then
  some (.tup [.agg [.int .i64 0, .int .i64 0, .nil], .agg [.int .i64 0, .int .i64 0, .nil], .int .i64 (Bu r c l)])
  else bif (decide (0 + (List.length l) ≤ H0)) then
  bif ((Bn r c ([] ++ l) && Ev ([] ++ l)) && An ([] ++ l)) then
  bif (((E9 r c ([] ++ l)).2.2.2) != (0 : Int)) then
  some (.tup [.agg [.int .i64 0, .int .i64 0, .nil], .agg [.int .i64 0, .int .i64 0, .nil], .int .i64 ((E9 r c ([] ++ l)).2.2.2)])
  else qr.Dc.L0 N N r c l (Ab ((List.length (Jj r c ([] ++ l)) : Int) - (1 : Int))) ((Ll r).2.2.1)
  else none
  else none
  else none :=
  Eq.trans (by kernel_rfl)
  (Fb (Fb rfl (C1 (Ho (decide (0 + (List.length l) ≤ H0))) (C1 (Ho ((Bn r c ([] ++ l) && Ev ([] ++ l)) && An ([] ++ l))) rfl rfl) rfl)) rfl)
theorem qr.Dc.Ac (hk : A0 Tryz.prog qr.Dc.A9) (h : ∀ (r c : Int) (l : List Int), qr.Dc.pre [.i r, .i c, .l l] = true → ∃ N dv drops, A1 qr.Dc.E N Tryz.f166 (Ad Tryz.f166) [.agg [.int .i64 r, .int .i64 c, .ints .arg .u64 l]] = some dv ∧ Wk drops dv (qr.Dc.out [.i r, .i c, .l l])) : Am Tryz.prog 166 qr.Dc.spec :=
  Aj (Z5 hk _ _ _ _) Tryz.func166 (by kernel_rfl) (by kernel_rfl) h
abbrev _root_.Go.Proofs.S1.qr.Dc.Kn : Prop := Am Tryz.prog 166 qr.Dc.spec
def qr.K0.A9 : List (Nat × Entry) := [(124, Aa.Part.spec), (166, qr.Dc.spec)]
def qr.K0.E : Env := Bb (A8 qr.K0.A9) (fun _ => false) (fun _ => none) (fun _ => none)
theorem qr.K0.ev (N : Nat) (r c : Int) (l : List Int) : A1 qr.K0.E N Tryz.f97 (Ad Tryz.f97) [.agg [.int .i64 r, .int .i64 c, .ints .arg .u64 l]] =
  bif (An l) then
  bif ((Gr r c l) != (0 : Int)) then
  some (.tup [.agg [.int .i64 0, .int .i64 0, .nil], .agg [.int .i64 0, .int .i64 0, .nil], .int .i64 (Gr r c l)])
  else some (.tup [.agg [.int .i64 ((Ia ((qX r c l).1) ((qX r c l).2.1) ((qX r c l).2.2.1) (0 : Int) (0 : Int) r (min r c)).1), .int .i64 ((Ia ((qX r c l).1) ((qX r c l).2.1) ((qX r c l).2.2.1) (0 : Int) (0 : Int) r (min r c)).2.1), .ints .fresh .u64 ((Ia ((qX r c l).1) ((qX r c l).2.1) ((qX r c l).2.2.1) (0 : Int) (0 : Int) r (min r c)).2.2.1)], .agg [.int .i64 ((Ia ((rX r c l).1) ((rX r c l).2.1) ((rX r c l).2.2.1) (0 : Int) (0 : Int) (min r c) c).1), .int .i64 ((Ia ((rX r c l).1) ((rX r c l).2.1) ((rX r c l).2.2.1) (0 : Int) (0 : Int) (min r c) c).2.1), .ints .fresh .u64 ((Ia ((rX r c l).1) ((rX r c l).2.1) ((rX r c l).2.2.1) (0 : Int) (0 : Int) (min r c) c).2.2.1)], .int .i64 0])
  else none := by kernel_rfl
theorem qr.K0.Ac (hk : A0 Tryz.prog qr.K0.A9) (h : ∀ (r c : Int) (l : List Int), qr.K0.pre [.i r, .i c, .l l] = true → ∃ N dv drops, A1 qr.K0.E N Tryz.f97 (Ad Tryz.f97) [.agg [.int .i64 r, .int .i64 c, .ints .arg .u64 l]] = some dv ∧ Wk drops dv (qr.K0.out [.i r, .i c, .l l])) : Am Tryz.prog 97 qr.K0.spec :=
  Aj (A2 hk _ _ _) Tryz.func97 (by kernel_rfl) (by kernel_rfl) h
abbrev _root_.Go.Proofs.S1.qr.K0.Kn : Prop := Am Tryz.prog 97 qr.K0.spec
def solve.Gl.hint : Nat → Option Bf
  | 0 => some { keep := [2, 3, 4, 17, 18], objs := [], boxes := [2, 3, 4] }
  | _ => none
def solve.Gl.A9 : List (Nat × Entry) := [(86, Cg.Check.spec), (97, qr.K0.spec), (98, qr.Ez.spec), (24, solve.Flat.spec), (36, solve.G0.spec)]
def solve.Gl.E : Env := Bb (A8 solve.Gl.A9) (fun _ => false) solve.Gl.hint (fun _ => none)
theorem solve.Gl.ev (N : Nat) (r c : Int) (l : List Int) (p q : Int) (m : List Int) : A1 solve.Gl.E (N + 4) Tryz.f30 (Ad Tryz.f30) [.agg [.int .i64 r, .int .i64 c, .ints .arg .u64 l], .agg [.int .i64 p, .int .i64 q, .ints .arg .u64 m]] =
  bif (An l) then
  bif ((Bu r c l) != (0 : Int)) then
  some (.tup [.agg [.int .i64 0, .int .i64 0, .nil], .int .i64 (Bu r c l)])
  else bif (An m) then
  bif ((Bu p q m) != (0 : Int)) then
  some (.tup [.agg [.int .i64 0, .int .i64 0, .nil], .int .i64 (Bu p q m)])
  else bif ((A5 r c) || (r != p)) then
  some (.tup [.agg [.int .i64 0, .int .i64 0, .nil], .int .i64 3])
  else bif (An l) then
  bif ((Gr r c l) != (0 : Int)) then
  some (.tup [.agg [.int .i64 0, .int .i64 0, .nil], .int .i64 (Gr r c l)])
  else bif (An ((Mw r c l).2.2.1)) then
  bif ((Dh ((Mw r c l).1) ((Mw r c l).2.1) ((Mw r c l).2.2.1)).1) then
  some (.tup [.agg [.int .i64 0, .int .i64 0, .nil], .int .i64 5])
  else bif (An ((Hx r c l).2.2.1) && An m) then
  bif (((Dd ((Hx r c l).1) ((Hx r c l).2.1) ((Hx r c l).2.2.1) p q m).2.2.2) != (0 : Int)) then
  some (.tup [.agg [.int .i64 0, .int .i64 0, .nil], .int .i64 ((Dd ((Hx r c l).1) ((Hx r c l).2.1) ((Hx r c l).2.2.1) p q m).2.2.2)])
  else bif (An ((Mw r c l).2.2.1) && An ((Dd ((Hx r c l).1) ((Hx r c l).2.1) ((Hx r c l).2.2.1) p q m).2.2.1)) then
  some (.tup [.agg [.int .i64 ((upX ((Mw r c l).1) ((Mw r c l).2.1) ((Mw r c l).2.2.1) ((Dd ((Hx r c l).1) ((Hx r c l).2.1) ((Hx r c l).2.2.1) p q m).1) ((Dd ((Hx r c l).1) ((Hx r c l).2.1) ((Hx r c l).2.2.1) p q m).2.1) ((Dd ((Hx r c l).1) ((Hx r c l).2.1) ((Hx r c l).2.2.1) p q m).2.2.1)).1), .int .i64 ((upX ((Mw r c l).1) ((Mw r c l).2.1) ((Mw r c l).2.2.1) ((Dd ((Hx r c l).1) ((Hx r c l).2.1) ((Hx r c l).2.2.1) p q m).1) ((Dd ((Hx r c l).1) ((Hx r c l).2.1) ((Hx r c l).2.2.1) p q m).2.1) ((Dd ((Hx r c l).1) ((Hx r c l).2.1) ((Hx r c l).2.2.1) p q m).2.2.1)).2.1), .ints .fresh .u64 ((upX ((Mw r c l).1) ((Mw r c l).2.1) ((Mw r c l).2.2.1) ((Dd ((Hx r c l).1) ((Hx r c l).2.1) ((Hx r c l).2.2.1) p q m).1) ((Dd ((Hx r c l).1) ((Hx r c l).2.1) ((Hx r c l).2.2.1) p q m).2.1) ((Dd ((Hx r c l).1) ((Hx r c l).2.1) ((Hx r c l).2.2.1) p q m).2.2.1)).2.2.1)], .int .i64 ((upX ((Mw r c l).1) ((Mw r c l).2.1) ((Mw r c l).2.2.1) ((Dd ((Hx r c l).1) ((Hx r c l).2.1) ((Hx r c l).2.2.1) p q m).1) ((Dd ((Hx r c l).1) ((Hx r c l).2.1) ((Hx r c l).2.2.1) p q m).2.1) ((Dd ((Hx r c l).1) ((Hx r c l).2.1) ((Hx r c l).2.2.1) p q m).2.2.1)).2.2.2)])
  else none
  else none
  else none
  else none
  else none
  else none :=
  Eq.trans (by kernel_rfl)
  (Fb (Fb rfl (Fb (Fb rfl (Ax (Rv (A5 r c)) (Ax (Mu (A5 r c)) (Ax (Rv (A5 r c)) (Ax (Mu (A5 r c)) (Ax (Mv (A5 r c)) (Ax (Kl (A5 r c)) (C1 (I8 (A5 r c) (r != p)) rfl rfl)))))))) rfl)) rfl)
theorem solve.Gl.Ac (hk : A0 Tryz.prog solve.Gl.A9) (h : ∀ (r c : Int) (l : List Int) (p q : Int) (m : List Int), solve.Gl.pre [.i r, .i c, .l l, .i p, .i q, .l m] = true → ∃ N dv drops, A1 solve.Gl.E N Tryz.f30 (Ad Tryz.f30) [.agg [.int .i64 r, .int .i64 c, .ints .arg .u64 l], .agg [.int .i64 p, .int .i64 q, .ints .arg .u64 m]] = some dv ∧ Wk drops dv (solve.Gl.out [.i r, .i c, .l l, .i p, .i q, .l m])) : Am Tryz.prog 30 solve.Gl.spec :=
  Aj (A2 hk _ _ _) Tryz.func30 (by kernel_rfl) (by kernel_rfl) h
abbrev _root_.Go.Proofs.S1.solve.Gl.Kn : Prop := Am Tryz.prog 30 solve.Gl.spec
end EqQr
end Go.Proofs.S1
namespace Go.Proofs.S1
open Go Go.Den Go.Rnd Go.Proofs
open EqQr
def clS (R C : Nat) (l : List Int) (j : Nat) (x : Int) (i : Nat) : List Int := Cx R C fun a b => if b = j ∧ j ≤ a ∧ a < i then (if a = j then x else 0) else Eg (C : Int) l (a : Int) (b : Int)
section
variable {R C j : Nat} {l : List Int} {x : Int}
theorem clS_len (i : Nat) : (clS R C l j x i).length = R * C := Cd _ _ _
theorem Yl (hl : l.length = R * C) (hj : j < C) : List.set l (j * C + j) x = clS R C l j x (j + 1) := by
  unfold clS
  conv => lhs; rw [← Yb hl]
  rw [Sw hj]
  refine Dv fun a b ha hb => ?_
  by_cases h : a = j ∧ b = j
  · rw [if_pos h, if_pos (by omega), if_pos h.1]
  · rw [if_neg h, if_neg (by omega)]
theorem clS_set {i : Nat} (hj : j < C) (hi : j < i) : List.set (clS R C l j x i) (i * C + j) 0 = clS R C l j x (i + 1) := by
  unfold clS
  rw [Sw hj]
  refine Dv fun a b ha hb => ?_
  by_cases h : a = i ∧ b = j
  · rw [if_pos h, if_pos (by omega), if_neg (by omega)]
  · rw [if_neg h]
    by_cases h2 : b = j ∧ j ≤ a ∧ a < i
    · rw [if_pos h2, if_pos (show b = j ∧ j ≤ a ∧ a < i + 1 by omega)]
    · rw [if_neg h2, if_neg (by omega)]
theorem clS_all : clS R C l j x R = Ty R C l j x := by
  unfold clS Ty
  refine Dv fun a b ha hb => ?_
  by_cases h : b = j ∧ j ≤ a
  · rw [if_pos h, if_pos (by omega)]
  · rw [if_neg h, if_neg (by omega)]
end
theorem V1 {C i j : Nat} (hi : i ≤ 6) (hC : C ≤ 6) (hj : j ≤ 6) : Ab (Ab ((i : Int) * (C : Int)) + (j : Int)) = ((i * C + j : Nat) : Int) := by
  have h36 := Nat.mul_le_mul hi hC
  rw [Ap (x := (i : Int) * (C : Int)) (by rw [← Int.natCast_mul]; omega) (by rw [← Int.natCast_mul]; omega), ← Int.natCast_mul, Ap (by omega) (by omega)]
  omega
section
variable {R C : Nat}
theorem Wt (N M0 : Nat) (l0 : List Int) (r6 : R ≤ 6) (c6 : C ≤ 6) {j : Nat} (hj : j < C) (l : List Int) (x : Int) (v : List Int) (t : Int) (ms : List (List DV)) (hms : ms.length ≤ 100) : ∀ (cnt i F : Nat), i + cnt = R → j < i → cnt < F →
    qr.down.L0 N M0 F (R : Int) (C : Int) l0 (i : Int) (clS R C l j x i) (j : Int) v t ms = qr.down.L1 N M0 (R : Int) (C : Int) l0 ((j + 1 : Nat) : Int) (ms ++ [[.ints .arg .u64 v, .int .u64 t]]) (Ty R C l j x) := by
  intro cnt
  induction cnt with
  | zero =>
    intro i F hi hji hF
    obtain ⟨F, rfl⟩ : ∃ G, F = G + 1 := ⟨F - 1, by omega⟩
    obtain rfl : i = R := by omega
    rw [qr.down.Az, Aw, decide_eq_false (by omega), cond_false, decide_eq_true (by unfold limR; omega), cond_true, Ap (by omega) (by omega), clS_all]
    rfl
  | succ cnt ih =>
    intro i F hi hji hF
    obtain ⟨F, rfl⟩ : ∃ G, F = G + 1 := ⟨F - 1, by omega⟩
    have hlen := clS_len (R := R) (C := C) (l := l) (j := j) (x := x) i
    have hp := K8 (show i < R by omega) hj
    rw [qr.down.Az, Aw, decide_eq_true (by omega), cond_true, V1 (by omega) c6 (by omega), decide_eq_true (by omega), decide_eq_true (by omega), Bool.and_self, cond_true, Int.toNat_natCast, decide_eq_true (by omega), cond_true, clS_set hj hji, Ap (by omega) (by omega)]
    exact ih (i + 1) F (by omega) (by omega) (by omega)
def Q2 (r c : Nat) (ms : List (List DV)) : Option (List Int × List (List Int × Int)) → DV
  | none => .tup [.agg [.int .i64 0, .int .i64 0, .nil], .nil, .int .i64 2]
  | some x => .tup [.agg [.int .i64 (r : Int), .int .i64 (c : Int), .ints (.own 106002 tB) .u64 x.1], .recs (.own 100006 tMR) 2 (ms ++ V2 x.2), .int .i64 0]
theorem down_loop (N : Nat) (hN : 7 < N) (l0 : List Int) (r6 : R ≤ 6) (c6 : C ≤ 6) : ∀ (cnt j F : Nat) (l : List Int) (ms : List (List DV)), j + cnt = Ja R C → cnt < F → l.length = R * C → An l = true → ms.length = j →
    qr.down.L1 N F (R : Int) (C : Int) l0 (j : Int) ms l = some (Q2 R C ms (Oe R C cnt j l)) := by
  intro cnt
  induction cnt with
  | zero =>
    intro j F l ms hj hF hl al hms
    obtain ⟨F, rfl⟩ : ∃ G, F = G + 1 := ⟨F - 1, by omega⟩
    unfold Ja at hj
    have hlt : (A5 (j : Int) (C : Int) && A5 (j : Int) (Ab ((R : Int) - 1))) = false := by
      rw [Aw, Aw, Ap (by omega) (by omega), Bool.and_eq_false_iff, decide_eq_false_iff_not, decide_eq_false_iff_not]; omega
    rw [qr.down.Ch, hlt, cond_false]
    simp [Oe, Q2, V2]
  | succ cnt ih =>
    intro j F l ms hj hF hl al hms
    obtain ⟨F, rfl⟩ : ∃ G, F = G + 1 := ⟨F - 1, by omega⟩
    have hj0 := hj
    unfold Ja at hj
    have hr := Ow r6 c6 hl
    have hlt : (A5 (j : Int) (C : Int) && A5 (j : Int) (Ab ((R : Int) - 1))) = true := by
      rw [Aw, Aw, Ap (by omega) (by omega), decide_eq_true (by omega), decide_eq_true (by omega)]; rfl
    have cp : Lm (R : Int) (C : Int) l (j : Int) = true := Ag.2 ⟨hr, Ar.2 (by omega)⟩
    have ec : Dm (C : Int) l (j : Int) (j : Int) (Int.toNat ((R : Int) - (j : Int))) = F0 R C l j := by unfold F0; rw [show Int.toNat ((R : Int) - (j : Int)) = R - j by omega]
    have ca : An (F0 R C l j) = true := Td al
    have cl : (F0 R C l j).length = R - j := Jc _ _ _ _ _
    rw [qr.down.Ch, hlt, cond_true, cp, Ar.2 (show 0 ≤ (j : Int) ∧ (j : Int) ≤ (R : Int) by omega), Bool.and_self, cond_true, ec, Jg ca (by omega), cond_true]
    unfold Oe
    by_cases he : (Cb (F0 R C l j)).2.2.2 = 0
    · have hml := V4 he
      have hma := U1 ca
      have hap : Mn (R : Int) (C : Int) (j : Int) (j : Int) (Cb (F0 R C l j)).1 = true := decide_eq_true (by omega)
      have hp := K8 (show j < R by omega) (show j < C by omega)
      have hlen := Mm R C l (j : Int) (j : Int) (Cb (F0 R C l j)).1 (Cb (F0 R C l j)).2.1
      have hg := Wt N F l0 r6 c6 (show j < C by omega) (Fy R C l (j : Int) (j : Int) (Cb (F0 R C l j)).1 (Cb (F0 R C l j)).2.1) (Cb (F0 R C l j)).2.2.1 (Cb (F0 R C l j)).1 (Cb (F0 R C l j)).2.1 ms (by omega) (R - (j + 1)) (j + 1) N (by omega) (by omega) (by omega)
      have hn := ih (j + 1) F (Xb R C l j) (ms ++ [[.ints .arg .u64 (Cb (F0 R C l j)).1, .int .u64 (Cb (F0 R C l j)).2.1]]) (by omega) (by omega) (O1 _ _ _ _) (Zp al j) (by rw [List.length_append, hms]; rfl)
      rw [Il he, cond_false, hr, hap, al, hma.1, hma.2.1, Bool.and_self, Bool.and_self, Bool.and_self, cond_true, V1 (by omega) c6 (by omega), Int.toNat_natCast, Int.toNat_natCast, Int.toNat_natCast, decide_eq_true (by omega), decide_eq_true (by omega), Bool.and_self, cond_true, decide_eq_true (by omega), cond_true,
        Yl hlen (by omega), Ap (by omega) (by omega), if_pos he]
      refine (hg.trans hn).trans ?_
      show some (Q2 R C _ (Oe R C cnt (j + 1) (Xb R C l j))) = some (Q2 R C ms _)
      cases Oe R C cnt (j + 1) (Xb R C l j) with
      | none => rfl
      | some x => simp [Q2, V2]
    · rw [neI he, cond_true, if_neg he]; rfl
theorem down_first (N : Nat) (hN : 7 < N) {l : List Int} (r6 : R ≤ 6) (c6 : C ≤ 6) (hl : l.length = R * C) (al : An l = true) (h0 : Ja R C ≠ 0) :
    qr.down.L2 N N (R : Int) (C : Int) l = some (Q2 R C [] (I9 R C l)) := by
  obtain ⟨cnt, hc⟩ : ∃ cnt, Ja R C = cnt + 1 := ⟨Ja R C - 1, by omega⟩
  obtain ⟨F, rfl⟩ : ∃ G, N = G + 1 := ⟨N - 1, by omega⟩
  have hj := hc
  unfold Ja at hj
  have hr := Ow r6 c6 hl
  have hlt : (A5 (0 : Int) (C : Int) && A5 (0 : Int) (Ab ((R : Int) - 1))) = true := by
    rw [Aw, Aw, Ap (by omega) (by omega), decide_eq_true (by omega), decide_eq_true (by omega)]; rfl
  have cp : Lm (R : Int) (C : Int) l (0 : Int) = true := Ag.2 ⟨hr, Ar.2 (by omega)⟩
  have ec : Dm (C : Int) l (0 : Int) (0 : Int) (Int.toNat ((R : Int) - (0 : Int))) = F0 R C l 0 := by unfold F0; rw [show Int.toNat ((R : Int) - (0 : Int)) = R - 0 by omega]; rfl
  have ca : An (F0 R C l 0) = true := Td al
  have cl : (F0 R C l 0).length = R - 0 := Jc _ _ _ _ _
  unfold I9
  rw [hc, qr.down.Fq, hlt, cond_true, cp, Ar.2 (show 0 ≤ (0 : Int) ∧ (0 : Int) ≤ (R : Int) by omega), Bool.and_self, cond_true, ec, Jg ca (by omega), cond_true]
  unfold Oe
  by_cases he : (Cb (F0 R C l 0)).2.2.2 = 0
  · have hml := V4 he
    have hma := U1 ca
    have hap : Mn (R : Int) (C : Int) (0 : Int) (0 : Int) (Cb (F0 R C l 0)).1 = true := decide_eq_true (by omega)
    have hp := K8 (show 0 < R by omega) (show 0 < C by omega)
    have hlen := Mm R C l (0 : Int) (0 : Int) (Cb (F0 R C l 0)).1 (Cb (F0 R C l 0)).2.1
    have hg := Wt (F + 1) F l r6 c6 (show 0 < C by omega) (Fy R C l (0 : Int) (0 : Int) (Cb (F0 R C l 0)).1 (Cb (F0 R C l 0)).2.1) (Cb (F0 R C l 0)).2.2.1 (Cb (F0 R C l 0)).1 (Cb (F0 R C l 0)).2.1 [] (Nat.zero_le _) (R - 1) 1 (F + 1) (by omega) (by omega) (by omega)
    have hn := down_loop (R := R) (C := C) (F + 1) hN l r6 c6 cnt 1 F (Xb R C l 0) [[.ints .arg .u64 (Cb (F0 R C l 0)).1, .int .u64 (Cb (F0 R C l 0)).2.1]] (by omega) (by unfold Ja at hc; omega) (O1 _ _ _ _) (Zp al 0) rfl
    have mc := V1 (i := 0) (C := C) (j := 0) (by omega) c6 (by omega)
    have mc : Ab (Ab ((0 : Int) * (C : Int)) + (0 : Int)) = ((0 * C + 0 : Nat) : Int) := mc
    rw [Il he, cond_false, hr, hap, al, hma.1, hma.2.1, Bool.and_self, Bool.and_self, Bool.and_self, cond_true, mc, Int.toNat_natCast, Int.toNat_natCast, Int.toNat_natCast, decide_eq_true (by omega), decide_eq_true (by omega), Bool.and_self, cond_true, decide_eq_true (by omega), cond_true,
      Yl hlen (by omega), if_pos he]
    refine (hg.trans hn).trans ?_
    show some (Q2 R C _ (Oe R C cnt 1 (Xb R C l 0))) = some (Q2 R C [] _)
    cases Oe R C cnt (0 + 1) (Xb R C l 0) with
    | none => rfl
    | some x => simp [Q2, V2]
  · rw [neI he, cond_true, if_neg he]; rfl
end
theorem qr.down.known : qr.down.Kn := qr.down.Ac (.cons Ao.Apply.known (.cons Ao.Jn.known (.cons Aa.C9.known .nil))) fun r c l hp => by
  obtain ⟨h1, al⟩ := Ag.1 (show ((Bn r c l && Ev l) && An l) = true from hp)
  obtain ⟨hr, hf⟩ := Ag.1 h1
  obtain ⟨R, C, rfl, rfl, r6, c6, hl⟩ := Da hr
  by_cases h0 : Ja R C = 0
  · have hx : I9 R C l = some (l, []) := by unfold I9; rw [h0]; rfl
    refine ⟨8, .tup [.agg [.int .i64 (R : Int), .int .i64 (C : Int), .ints .arg .u64 l], .recs (.own 100006 tMR) 2 [], .int .i64 0], [100006], ?_, ?_⟩
    · unfold Ja at h0
      have hlt : (A5 (0 : Int) (C : Int) && A5 (0 : Int) (Ab ((R : Int) - 1))) = false := by
        rw [Aw, Aw, Ap (by omega) (by omega), Bool.and_eq_false_iff, decide_eq_false_iff_not, decide_eq_false_iff_not]; omega
      rw [qr.down.ev, show (8 : Nat) = 7 + 1 from rfl, qr.down.Fq, hlt, cond_false]
    · show Wk _ _ (DV.tup [.agg [.int .i64 (E9 (R : Int) (C : Int) l).1, .int .i64 (E9 (R : Int) (C : Int) l).2.1, .ints .arg .u64 (E9 (R : Int) (C : Int) l).2.2.1], .recs .fresh 2 (Jj (R : Int) (C : Int) l), .int .i64 (E9 (R : Int) (C : Int) l).2.2.2])
      unfold E9 Jj N1
      rw [Int.toNat_natCast, Int.toNat_natCast, hx]
      exact Wk.Gg (.cons (Wk.J7 (.cons .int (.cons .int (.cons .argL .nil)))) (.cons (.dropR _ _ _ _ (List.mem_singleton.2 rfl)) (.cons .int .nil)))
  · refine ⟨8, Q2 R C [] (I9 R C l), [106002, 100006], ?_, ?_⟩
    · rw [qr.down.ev]
      exact down_first 8 (by omega) r6 c6 hl al h0
    · show Wk _ _ (DV.tup [.agg [.int .i64 (E9 (R : Int) (C : Int) l).1, .int .i64 (E9 (R : Int) (C : Int) l).2.1, .ints .arg .u64 (E9 (R : Int) (C : Int) l).2.2.1], .recs .fresh 2 (Jj (R : Int) (C : Int) l), .int .i64 (E9 (R : Int) (C : Int) l).2.2.2])
      unfold E9 Jj N1
      rw [Int.toNat_natCast, Int.toNat_natCast]
      cases I9 R C l with
      | none => exact Wk.Gg (.cons (Wk.J7 (.cons .int (.cons .int (.cons Pz .nil)))) (.cons (.nilR _ _) (.cons .int .nil)))
      | some x => exact Wk.Gg (.cons (Wk.J7 (.cons .int (.cons .int (.cons (.dropA _ _ _ _ List.mem_cons_self) .nil)))) (.cons (.dropR _ _ _ _ (List.mem_cons_of_mem _ List.mem_cons_self)) (.cons .int .nil)))
end Go.Proofs.S1
namespace Go.Proofs.S1
open Go Go.Den Go.Rnd Go.Proofs
open EqQr
def X1 (e : Int) : DV := .tup [.agg [.int .i64 0, .int .i64 0, .nil], .agg [.int .i64 0, .int .i64 0, .nil], .int .i64 e]
theorem X3 {r : Nat} : ∀ {j : Nat} {ms : List (List Int × Int)}, mirOk r j ms → ∀ i : Nat, i < ms.length → An (ms.getD i ([], 0)).1 = true ∧ Ah (ms.getD i ([], 0)).2 = true ∧ (ms.getD i ([], 0)).1.length + (j + i) = r
  | _, [], _, i, h => absurd h (Nat.not_lt_zero _)
  | j, m :: ms, hm, 0, _ => hm.1
  | j, m :: ms, hm, i + 1, h => by
    have := X3 hm.2 i (by simpa using h)
    rw [show j + (i + 1) = j + 1 + i by omega]
    exact this
theorem mirR_get {ms : List (List Int × Int)} {i : Nat} (h : i < ms.length) : List.getD (V2 ms) i [] = [.ints .arg .u64 (ms.getD i ([], 0)).1, .int .u64 (ms.getD i ([], 0)).2] := by
  unfold V2
  rw [List.getD_eq_getElem?_getD, List.getElem?_map, List.getElem?_eq_getElem h, List.getD_eq_getElem?_getD, List.getElem?_eq_getElem h]; rfl
theorem mirR_len (ms : List (List Int × Int)) : (V2 ms).length = ms.length := by unfold V2; rw [List.length_map]
theorem back_drop {n i : Nat} {ms : List (List Int × Int)} (h : i < ms.length) (q : List Int) : Kj n i (ms.drop i) q = Fy n n (Kj n (i + 1) (ms.drop (i + 1)) q) (i : Int) 0 (ms.getD i ([], 0)).1 (ms.getD i ([], 0)).2 := by
  rw [List.drop_eq_getElem_cons h, Kj, List.getD_eq_getElem?_getD, List.getElem?_eq_getElem h]; rfl
theorem eye_of {R : Nat} (h : R ≤ 6) : Ll (R : Int) = ((R : Int), (R : Int), Pd R, 0) := by
  unfold Ll Pd
  rw [if_pos (size_of h), Int.toNat_natCast]
theorem sq_len {n : Nat} (h : n ≤ 6) : n * n ≤ 36 := Nat.mul_le_mul h h
theorem factor_loop (N : Nat) {R C : Nat} {l : List Int} (r6 : R ≤ 6) {x : List Int × List (List Int × Int)} (hx : I9 R C l = some x) (hm : mirOk R 0 x.2) (hxr : An x.1 = true) (hxl : x.1.length ≤ 36) : ∀ (j F : Nat), j ≤ x.2.length → j < F →
    qr.Dc.L0 N F (R : Int) (C : Int) l ((j : Int) - 1) (Kj R j (x.2.drop j) (Pd R)) =
    bif Q1 R C l then some (.tup [.agg [.int .i64 (R : Int), .int .i64 (R : Int), .ints .fresh .u64 (Rg R C l)], .agg [.int .i64 (R : Int), .int .i64 (C : Int), .ints .arg .u64 (N1 R C l)], .int .i64 0])
    else some (X1 2) := by
  have hq : Rg R C l = Kj R 0 x.2 (Pd R) := by unfold Rg; rw [hx]
  have hr : N1 R C l = x.1 := by unfold N1; rw [hx]
  have hd : E9 (R : Int) (C : Int) ([] ++ l) = ((R : Int), (C : Int), x.1, 0) := by
    unfold E9
    rw [List.nil_append, Int.toNat_natCast, Int.toNat_natCast, hx, hr]; rfl
  have hmd : Jj (R : Int) (C : Int) ([] ++ l) = V2 x.2 := by
    unfold Jj
    rw [List.nil_append, Int.toNat_natCast, Int.toNat_natCast, hx]
  have h36 := sq_len r6
  intro j
  induction j with
  | zero =>
    intro F _ hF
    obtain ⟨F, rfl⟩ : ∃ G, F = G + 1 := ⟨F - 1, by omega⟩
    have hb := U4 R x.2 0 (Pd R) (Z4 R) (by unfold Pd; exact Cd _ _ _)
    have ok1 : Di (Kj R 0 x.2 (Pd R)) = true := Jg hb.1 (by omega)
    have ok2 : Di x.1 = true := Jg hxr (by omega)
    have hfo : Q1 R C l = (Ev (Kj R 0 x.2 (Pd R)) && Ev x.1) := by unfold Q1; rw [hx, hq, hr]; rfl
    rw [qr.Dc.Az, Aw, decide_eq_true (by omega), cond_true, List.drop_zero, ok1, cond_true, hd, eye_of r6, ok2, Bool.or_true, cond_true, hfo, hq, hr]
    cases Ev (Kj R 0 x.2 (Pd R)) with
    | false => rfl
    | true => cases Ev x.1 <;> rfl
  | succ j ih =>
    intro F hj hF
    obtain ⟨F, rfl⟩ : ∃ G, F = G + 1 := ⟨F - 1, by omega⟩
    have ej : (((j + 1 : Nat) : Int)) - 1 = (j : Int) := by omega
    have hg := X3 hm j (by omega)
    have hb := U4 R (x.2.drop (j + 1)) (j + 1) (Pd R) (Z4 R) (by unfold Pd; exact Cd _ _ _)
    have hr1 := Ow r6 r6 hb.2
    have hap : Mn (R : Int) (R : Int) (j : Int) 0 (x.2.getD j ([], 0)).1 = true := decide_eq_true (by omega)
    have hmg := mirR_get (ms := x.2) (i := j) (by omega)
    rw [qr.Dc.Az, ej, Aw, decide_eq_false (show ¬ (j : Int) < 0 by omega), cond_false, hmd, mirR_len, decide_eq_true (show (0 : Int) ≤ (j : Int) by omega), decide_eq_true (show (j : Int) < (x.2.length : Int) by omega), Bool.and_self, cond_true, Int.toNat_natCast, hmg, eye_of r6]
    show (bif true then bif true then bif true then (bif (((Bn (R : Int) (R : Int) (Kj R (j + 1) (x.2.drop (j + 1)) (Pd R)) && Mn (R : Int) (R : Int) (j : Int) (0 : Int) (x.2.getD j ([], 0)).1) && (An (Kj R (j + 1) (x.2.drop (j + 1)) (Pd R)) && An (x.2.getD j ([], 0)).1)) && Ah (x.2.getD j ([], 0)).2) then
      qr.Dc.L0 N F (R : Int) (C : Int) l (Ab ((j : Int) - (1 : Int))) (Fy (Int.toNat (R : Int)) (Int.toNat (R : Int)) (Kj R (j + 1) (x.2.drop (j + 1)) (Pd R)) (j : Int) (0 : Int) (x.2.getD j ([], 0)).1 (x.2.getD j ([], 0)).2) else none) else none else none else none) = _
    rw [cond_true, cond_true, cond_true, hr1, hap, hb.1, hg.1, hg.2.1, Bool.and_self, Bool.and_self, Bool.and_self, cond_true, Int.toNat_natCast, Ap (by omega) (by omega), ← back_drop (by omega)]
    exact ih F (by omega) (by omega)
theorem downX_ok {R C : Nat} {l : List Int} (hl : l.length = R * C) (al : An l = true) {x : List Int × List (List Int × Int)} (hx : I9 R C l = some x) : An x.1 = true ∧ x.1.length = R * C ∧ x.2.length = Ja R C ∧ mirOk R 0 x.2 :=
  Wu R C (Ja R C) 0 l x al hl (by unfold Ja; omega) hx
theorem U3 {r c : Int} {l : List Int} (h : Bu r c l = 0) : Gr r c l = if Q1 r.toNat c.toNat l = true then 0 else 2 := by
  unfold Gr; rw [if_neg (by rw [h]; decide)]
theorem facE_bad {r c : Int} {l : List Int} (h : Bu r c l ≠ 0) : Gr r c l = Bu r c l := by unfold Gr; rw [if_pos h]
theorem qX_bad {r c : Int} {l : List Int} {e : Int} (h : Gr r c l = e) (he : e ≠ 0) : qX r c l = O0 e ∧ rX r c l = O0 e := by unfold qX rX; rw [h, if_pos he, if_pos he]; exact ⟨rfl, rfl⟩
theorem qX_good {r c : Int} {l : List Int} (h : Gr r c l = 0) : qX r c l = (r, r, Rg r.toNat c.toNat l, 0) ∧ rX r c l = (r, c, N1 r.toNat c.toNat l, 0) := by unfold qX rX; rw [h]; exact ⟨rfl, rfl⟩
theorem Yx {drops : List Nat} {e : Int} {g h : Flag} : Wk drops (X1 e) (DV.tup [.agg [.int .i64 (O0 e).1, .int .i64 (O0 e).2.1, .ints g .u64 (O0 e).2.2.1], .agg [.int .i64 (O0 e).1, .int .i64 (O0 e).2.1, .ints h .u64 (O0 e).2.2.1], .int .i64 e]) :=
  Wk.Gg (.cons (Wk.J7 (.cons .int (.cons .int (.cons Pz .nil)))) (.cons (Wk.J7 (.cons .int (.cons .int (.cons Pz .nil)))) (.cons .int .nil)))
theorem qr.Dc.known : qr.Dc.Kn := qr.Dc.Ac (.cons Cg.Check.known (.cons Ao.Apply.known (.cons Aa.G7.known (.cons qr.down.known (.cons Ae.Finite.known .nil))))) fun r c l hp => by
  have al : An l = true := hp
  show ∃ N dv drops, _ = some dv ∧ Wk drops dv (DV.tup [.agg [.int .i64 (qX r c l).1, .int .i64 (qX r c l).2.1, .ints .arg .u64 (qX r c l).2.2.1], .agg [.int .i64 (rX r c l).1, .int .i64 (rX r c l).2.1, .ints .arg .u64 (rX r c l).2.2.1], .int .i64 (Gr r c l)])
  by_cases h1 : Bu r c l = 0
  · obtain ⟨hr, hf⟩ := J6 h1
    have h36 := Mz hr
    obtain ⟨R, C, rfl, rfl, r6, c6, hl⟩ := Da hr
    have d0 : decide (0 + l.length ≤ H0) = true := decide_eq_true (by unfold H0; omega)
    cases hx : I9 R C l with
    | none =>
      have hfo : Q1 R C l = false := by unfold Q1; rw [hx]; rfl
      have he : Gr (R : Int) (C : Int) l = 2 := by rw [U3 h1, Int.toNat_natCast, Int.toNat_natCast, hfo]; rfl
      obtain ⟨e1, e2⟩ := qX_bad he (by decide)
      have hd : E9 (R : Int) (C : Int) ([] ++ l) = O0 2 := by
        unfold E9
        rw [List.nil_append, Int.toNat_natCast, Int.toNat_natCast, hx]; rfl
      rw [e1, e2, he]
      exact ⟨0, X1 2, [], by rw [qr.Dc.ev, al, cond_true, Il h1, cond_false, d0, cond_true, hd, List.nil_append, hr, hf, al, Bool.and_self, Bool.and_self, cond_true, show ((O0 2).2.2.2 != (0 : Int)) = true from rfl, cond_true]; rfl, Yx⟩
    | some x =>
      obtain ⟨x1, x2, x3, x4⟩ := downX_ok hl al hx
      have hd : E9 (R : Int) (C : Int) ([] ++ l) = ((R : Int), (C : Int), x.1, 0) := by
        unfold E9 N1
        rw [List.nil_append, Int.toNat_natCast, Int.toNat_natCast, hx]; rfl
      have hmd : Jj (R : Int) (C : Int) ([] ++ l) = V2 x.2 := by
        unfold Jj
        rw [List.nil_append, Int.toNat_natCast, Int.toNat_natCast, hx]
      have hn : x.2.length ≤ 6 := by rw [x3]; unfold Ja; omega
      have hloop := factor_loop 8 r6 hx x4 x1 (by rw [x2]; exact Nat.mul_le_mul r6 c6) x.2.length 8 (Nat.le_refl _) (by omega)
      rw [List.drop_of_length_le (Nat.le_refl _)] at hloop
      have hrun := qr.Dc.ev 8 (R : Int) (C : Int) l
      rw [al, cond_true, Il h1, cond_false, d0, cond_true, hd, hmd, mirR_len, List.nil_append, hr, hf, al, Bool.and_self, Bool.and_self, cond_true, show (((R : Int), (C : Int), x.1, (0 : Int)).2.2.2 != (0 : Int)) = false from rfl, cond_false, eye_of r6, Ap (by omega) (by omega)] at hrun
      have hrun := hrun.trans hloop
      cases hfo : Q1 R C l with
      | false =>
        have he : Gr (R : Int) (C : Int) l = 2 := by rw [U3 h1, Int.toNat_natCast, Int.toNat_natCast, hfo]; rfl
        obtain ⟨e1, e2⟩ := qX_bad he (by decide)
        rw [hfo, cond_false] at hrun
        rw [e1, e2, he]
        exact ⟨8, X1 2, [], hrun, Yx⟩
      | true =>
        have he : Gr (R : Int) (C : Int) l = 0 := by rw [U3 h1, Int.toNat_natCast, Int.toNat_natCast, hfo]; rfl
        obtain ⟨e1, e2⟩ := qX_good he
        rw [hfo, cond_true] at hrun
        rw [e1, e2, he, Int.toNat_natCast, Int.toNat_natCast]
        exact ⟨8, _, [], hrun, Wk.Gg (.cons (Wk.J7 (.cons .int (.cons .int (.cons (.fresh _ _) .nil)))) (.cons (Wk.J7 (.cons .int (.cons .int (.cons .argL .nil)))) (.cons .int .nil)))⟩
  · have he := facE_bad h1
    obtain ⟨e1, e2⟩ := qX_bad he h1
    rw [e1, e2, he]
    exact ⟨0, X1 (Bu r c l), [], by rw [qr.Dc.ev, al, cond_true, neI h1, cond_true]; rfl, Yx⟩
theorem chk_of_fac {r c : Int} {l : List Int} (h : Gr r c l = 0) : Bu r c l = 0 := by
  by_cases h1 : Bu r c l = 0
  · exact h1
  · rw [facE_bad h1] at h; exact absurd h h1
theorem fac_good {r c : Int} {l : List Int} (al : An l = true) (h : Gr r c l = 0) : ∃ R C : Nat, r = R ∧ c = C ∧ R ≤ 6 ∧ C ≤ 6 ∧ l.length = R * C ∧ An (Rg R C l) = true ∧ (Rg R C l).length = R * R ∧ An (N1 R C l) = true ∧ (N1 R C l).length = R * C ∧ Ev (Rg R C l) = true ∧ Ev (N1 R C l) = true := by
  have h1 := chk_of_fac h
  rw [U3 h1] at h
  obtain ⟨R, C, rfl, rfl, r6, c6, hl⟩ := Da (J6 h1).1
  rw [Int.toNat_natCast, Int.toNat_natCast] at h
  by_cases ho : Q1 R C l = true
  · unfold Q1 at ho
    obtain ⟨o1, o2⟩ := Ag.1 ho
    obtain ⟨o3, o4⟩ := Ag.1 o2
    obtain ⟨q1, q2⟩ := facQ_ok o1
    obtain ⟨g1, g2⟩ := facR_ok al hl o1
    exact ⟨R, C, rfl, rfl, r6, c6, hl, q1, q2, g1, g2, o3, o4⟩
  · rw [if_neg ho] at h; exact absurd h (by decide)
theorem part_of {R C : Nat} {l : List Int} (r6 : R ≤ 6) (c6 : C ≤ 6) (hl : l.length = R * C) {x y a b : Int} (hp : Oa (R : Int) (C : Int) x y a b = true) :
    Ia (R : Int) (C : Int) l x y a b = (a, b, Cx a.toNat b.toNat fun i k => Eg (C : Int) l (x + (i : Int)) (y + (k : Int)), 0) := by
  unfold Ia; rw [if_pos (Ow r6 c6 hl), if_pos hp]
theorem Xo {r c : Int} {l : List Int} (al : An l = true) (h : Gr r c l = 0) :
    Ia r r (Rg r.toNat c.toNat l) 0 0 r (min r c) = Hx r c l ∧ Ia r c (N1 r.toNat c.toNat l) 0 0 (min r c) c = Mw r c l := by
  obtain ⟨R, C, rfl, rfl, r6, c6, hl, q1, q2, g1, g2, _, _⟩ := fac_good al h
  unfold Hx Mw
  rw [h, if_neg (by decide), if_neg (by decide), Int.toNat_natCast, Int.toNat_natCast]
  have p1 : Oa (R : Int) (R : Int) 0 0 (R : Int) (min (R : Int) (C : Int)) = true := decide_eq_true (by omega)
  have p2 : Oa (R : Int) (C : Int) 0 0 (min (R : Int) (C : Int)) (C : Int) = true := decide_eq_true (by omega)
  rw [part_of r6 r6 q2 p1, part_of r6 c6 g2 p2]
  exact ⟨rfl, rfl⟩
theorem fac_in {r c : Int} {l : List Int} (al : An l = true) (h : Gr r c l = 0) : An (Rg r.toNat c.toNat l) = true ∧ An (N1 r.toNat c.toNat l) = true := by
  obtain ⟨R, C, rfl, rfl, _, _, _, q1, _, g1, _, _, _⟩ := fac_good al h
  rw [Int.toNat_natCast, Int.toNat_natCast]
  exact ⟨q1, g1⟩
theorem thin_in {r c : Int} {l : List Int} (al : An l = true) (h : Gr r c l = 0) : An (Hx r c l).2.2.1 = true ∧ An (Mw r c l).2.2.1 = true := by
  obtain ⟨a, b⟩ := Xo al h
  obtain ⟨q1, g1⟩ := fac_in al h
  rw [← a, ← b]
  exact ⟨part_in q1 _ _ _ _, part_in g1 _ _ _ _⟩
theorem qr.K0.known : qr.K0.Kn := qr.K0.Ac (.cons Aa.Part.known (.cons qr.Dc.known .nil)) fun r c l hp => by
  have al : An l = true := hp
  show ∃ N dv drops, _ = some dv ∧ Wk drops dv (DV.tup [.agg [.int .i64 (Hx r c l).1, .int .i64 (Hx r c l).2.1, .ints .fresh .u64 (Hx r c l).2.2.1], .agg [.int .i64 (Mw r c l).1, .int .i64 (Mw r c l).2.1, .ints .fresh .u64 (Mw r c l).2.2.1], .int .i64 (Gr r c l)])
  by_cases h : Gr r c l = 0
  · obtain ⟨e1, e2⟩ := qX_good h
    obtain ⟨t1, t2⟩ := Xo al h
    refine ⟨0, DV.tup [.agg [.int .i64 (Hx r c l).1, .int .i64 (Hx r c l).2.1, .ints .fresh .u64 (Hx r c l).2.2.1], .agg [.int .i64 (Mw r c l).1, .int .i64 (Mw r c l).2.1, .ints .fresh .u64 (Mw r c l).2.2.1], .int .i64 0], [], by rw [qr.K0.ev, al, cond_true, Il h, cond_false, e1, e2, t1, t2], by rw [h]; exact Wk.Gg (.cons (Wk.J7 (.cons .int (.cons .int (.cons .Rf .nil)))) (.cons (Wk.J7 (.cons .int (.cons .int (.cons .Rf .nil)))) (.cons .int .nil)))⟩
  · have e1 : Hx r c l = O0 (Gr r c l) := by unfold Hx; rw [if_pos h]
    have e2 : Mw r c l = O0 (Gr r c l) := by unfold Mw; rw [if_pos h]
    rw [e1, e2]
    exact ⟨0, X1 (Gr r c l), [], by rw [qr.K0.ev, al, cond_true, neI h, cond_true]; rfl, Yx⟩
theorem lt_or {r c p : Int} : ((A5 r c) || (r != p)) = decide (r < c ∨ r ≠ p) := by
  rw [Aw, Bool.eq_iff_iff]; simp
theorem solve.Gl.known : solve.Gl.Kn := solve.Gl.Ac (.cons Cg.Check.known (.cons qr.K0.known (.cons qr.Ez.known (.cons solve.Flat.known (.cons solve.G0.known .nil))))) fun r c l p q m hp => by
  obtain ⟨al, am⟩ := Ag.1 (show (An l && An m) = true from hp)
  show ∃ N dv drops, _ = some dv ∧ Wk drops dv (Tl (Dr r c l p q m))
  have hrun := solve.Gl.ev 0 r c l p q m
  rw [al, cond_true] at hrun
  unfold Dr
  by_cases c1 : Bu r c l = 0
  · rw [Il c1, cond_false, am, cond_true] at hrun
    rw [if_neg (by rw [c1]; decide)]
    by_cases c2 : Bu p q m = 0
    · rw [Il c2, cond_false, lt_or] at hrun
      rw [if_neg (by rw [c2]; decide)]
      by_cases c3 : r < c ∨ r ≠ p
      · rw [decide_eq_true c3, cond_true] at hrun
        rw [if_pos c3]
        exact ⟨0 + 4, _, [], hrun, Js⟩
      · rw [decide_eq_false c3, cond_false, cond_true] at hrun
        rw [if_neg c3]
        by_cases c4 : Gr r c l = 0
        · obtain ⟨i1, i2⟩ := thin_in al c4
          rw [Il c4, cond_false, i2, cond_true] at hrun
          rw [if_neg (by rw [c4]; decide)]
          by_cases c5 : (Dh (Mw r c l).1 (Mw r c l).2.1 (Mw r c l).2.2.1).1 = true
          · rw [c5, cond_true] at hrun
            rw [if_pos c5]
            exact ⟨0 + 4, _, [], hrun, Js⟩
          · have c5' : (Dh (Mw r c l).1 (Mw r c l).2.1 (Mw r c l).2.2.1).1 = false := by simpa using c5
            rw [c5', cond_false, i1, Bool.and_self, cond_true] at hrun
            rw [if_neg c5]
            unfold upTX
            by_cases c6 : (Dd (Hx r c l).1 (Hx r c l).2.1 (Hx r c l).2.2.1 p q m).2.2.2 = 0
            · rw [Il c6, cond_false, turned_in, Bool.and_self, cond_true] at hrun
              rw [if_neg (by rw [c6]; decide)]
              exact ⟨0 + 4, _, [], hrun, Ol⟩
            · rw [neI c6, cond_true] at hrun
              rw [if_pos c6]
              exact ⟨0 + 4, _, [], hrun, Js⟩
        · rw [neI c4, cond_true] at hrun
          rw [if_pos c4]
          exact ⟨0 + 4, _, [], hrun, Js⟩
    · rw [neI c2, cond_true] at hrun
      rw [if_pos c2]
      exact ⟨0 + 4, _, [], hrun, Js⟩
  · rw [neI c1, cond_true] at hrun
    rw [if_pos c1]
    exact ⟨0 + 4, _, [], hrun, Js⟩
end Go.Proofs.S1
namespace Go.Proofs.S1
open Go Go.Den Go.Rnd Go.Proofs
set_option linter.unusedVariables false
set_option maxRecDepth 100000
namespace EqRef17
theorem Eu : ∀ a b : Bool, (bif a then true else b) = (a || b) := by decide
theorem I7 : ∀ a : Bool, ((!(!a)) || (a == false)) = true := by decide
theorem H8 : ∀ a : Bool, ((!(a == false)) || ((((!(a == false)) || (a == false)) && (((!(a == false)) || (a == false)) && true)) && true)) = true := by decide
theorem Hr : ∀ a : Bool, ((!(a == false)) || ((((!(a == false)) || (a == false)) && true) && true)) = true := by decide
theorem Ge : ∀ a : Bool, ((!(a == false)) || true) = true := by decide
theorem Kb : ∀ a : Bool, (a && true) = a := by decide
def Av.Div.A9 : List (Nat × Entry) := [(102, Av.B.spec), (159, Av.F.spec)]
def Av.Div.E : Env := Bb (A8 Av.Div.A9) (fun _ => false) (fun _ => none) (fun _ => none)
theorem Av.Div.ev (N : Nat) (a b : Int) : A1 Av.Div.E N Tryz.f84 (Ad Tryz.f84) [.int .u64 a, .int .u64 b] =
  bif (Ah a) then
  bif (Ah b) then
  some (.int .u64 (Gx ((Ieee.double.div (Int.toNat a) (Int.toNat b)).getD nanBits)))
  else none
  else none := by kernel_rfl
theorem Av.Div.Ac (hk : A0 Tryz.prog Av.Div.A9) (h : ∀ (a b : Int), Av.Div.pre [.i a, .i b] = true → ∃ N dv drops, A1 Av.Div.E N Tryz.f84 (Ad Tryz.f84) [.int .u64 a, .int .u64 b] = some dv ∧ Wk drops dv (Av.Div.out [.i a, .i b])) : Am Tryz.prog 84 Av.Div.spec :=
  Aj (A2 hk _ _ _) Tryz.func84 (by kernel_rfl) (by kernel_rfl) h
abbrev _root_.Go.Proofs.S1.Av.Div.Kn : Prop := Am Tryz.prog 84 Av.Div.spec
def Av.Finite.hint : Nat → Option Bf
  | 0 => some { keep := [0, 3], objs := [], boxes := [] }
  | _ => none
def Av.Finite.A9 : List (Nat × Entry) := [(131, A3.Finite.spec)]
def Av.Finite.E : Env := Bb (A8 Av.Finite.A9) (fun _ => false) Av.Finite.hint (fun _ => none)
def Av.Finite.L0 (N M : Nat) (x : List Int) (p3 : Int) : Option DV := B6 Av.Finite.E N Tryz.f92 (Ad Tryz.f92) [1, 0, 1, 0] [] M ⟨Hq 16 [(0, .ints .arg .u64 x), (3, .int .i64 p3)], []⟩
theorem Av.Finite.Az (N M : Nat) (x : List Int) (p3 : Int) : Av.Finite.L0 N (M + 1) x p3 =
  bif (A5 p3 (List.length x : Int)) then
  bif ((decide (0 ≤ p3)) && (decide (p3 < (List.length x : Int)))) then
  bif (Ah (List.getD x (Int.toNat p3) 0)) then
  bif (!(C8 (List.getD x (Int.toNat p3) 0))) then
  some (.bool false)
  else Av.Finite.L0 N M x (Ab (p3 + (1 : Int)))
  else none
  else none
  else some (.bool true) := by kernel_rfl
theorem Av.Finite.ev (N : Nat) (x : List Int) : A1 Av.Finite.E N Tryz.f92 (Ad Tryz.f92) [.ints .arg .u64 x] =
  Av.Finite.L0 N N x (0 : Int) := by kernel_rfl
theorem Av.Finite.Ac (hk : A0 Tryz.prog Av.Finite.A9) (h : ∀ (x : List Int), Av.Finite.pre [.l x] = true → ∃ N dv drops, A1 Av.Finite.E N Tryz.f92 (Ad Tryz.f92) [.ints .arg .u64 x] = some dv ∧ Wk drops dv (Av.Finite.out [.l x])) : Am Tryz.prog 92 Av.Finite.spec :=
  Aj (A2 hk _ _ _) Tryz.func92 (by kernel_rfl) (by kernel_rfl) h
abbrev _root_.Go.Proofs.S1.Av.Finite.Kn : Prop := Am Tryz.prog 92 Av.Finite.spec
def F2.Check.A9 : List (Nat × Entry) := [(92, Av.Finite.spec), (91, Bh.G1.spec)]
def F2.Check.E : Env := Bb (A8 F2.Check.A9) (fun _ => false) (fun _ => none) (fun _ => none)
theorem F2.Check.ev (N : Nat) (r c : Int) (l : List Int) : A1 F2.Check.E N Tryz.f25 (Ad Tryz.f25) [.agg [.int .i64 r, .int .i64 c, .ints .arg .u64 l]] =
  bif (!(Bn r c l)) then
  some (.int .i64 1)
  else bif (Di l) then
  bif (!(Ev l)) then
  some (.int .i64 4)
  else some (.int .i64 0)
  else none := by kernel_rfl
theorem F2.Check.Ac (hk : A0 Tryz.prog F2.Check.A9) (h : ∀ (r c : Int) (l : List Int), F2.Check.pre [.i r, .i c, .l l] = true → ∃ N dv drops, A1 F2.Check.E N Tryz.f25 (Ad Tryz.f25) [.agg [.int .i64 r, .int .i64 c, .ints .arg .u64 l]] = some dv ∧ Wk drops dv (F2.Check.out [.i r, .i c, .l l])) : Am Tryz.prog 25 F2.Check.spec :=
  Aj (A2 hk _ _ _) Tryz.func25 (by kernel_rfl) (by kernel_rfl) h
abbrev _root_.Go.Proofs.S1.F2.Check.Kn : Prop := Am Tryz.prog 25 F2.Check.spec
def A6.Check.hint : Nat → Option Bf
  | 0 => some { keep := [2, 5], objs := [], boxes := [2] }
  | _ => none
def A6.Check.A9 : List (Nat × Entry) := [(62, A3.Kind.spec), (80, Bh.At.spec), (25, F2.Check.spec)]
def A6.Check.E : Env := Bb (A8 A6.Check.A9) (fun _ => false) A6.Check.hint (fun _ => none)
def A6.Check.L0 (N M : Nat) (r c : Int) (l : List Int) (p5 : Int) : Option DV := B6 A6.Check.E N Tryz.f79 (Ad Tryz.f79) [1, 1, 1, 1, 0, 1, 0] [] M ⟨Hq 40 [(2, .ptr 2 0 0), (5, .int .i64 p5)], [(2, false, .box [.int .i64 r, .int .i64 c, .ints .arg .u64 l])]⟩
theorem A6.Check.Az (N M : Nat) (r c : Int) (l : List Int) (p5 : Int) : A6.Check.L0 N (M + 1) r c l p5 =
  bif (A5 p5 r) then
  bif (Ec r c l p5 p5) then
  bif (Mh (Eg c l p5 p5)) then
  bif ((A7 (Eg c l p5 p5)) == (0 : Int)) then
  some (.int .i64 5)
  else A6.Check.L0 N M r c l (Ab (p5 + (1 : Int)))
  else none
  else none
  else some (.int .i64 0) := by kernel_rfl
theorem A6.Check.ev (N : Nat) (r c : Int) (l : List Int) (p q : Int) (m : List Int) : A1 A6.Check.E N Tryz.f79 (Ad Tryz.f79) [.agg [.int .i64 r, .int .i64 c, .ints .arg .u64 l], .agg [.int .i64 p, .int .i64 q, .ints .arg .u64 m]] =
  bif (An l) then
  bif ((Bu r c l) != (0 : Int)) then
  bif (An l) then
  some (.int .i64 (Bu r c l))
  else none
  else bif (An m) then
  bif ((Bu p q m) != (0 : Int)) then
  bif (An m) then
  some (.int .i64 (Bu p q m))
  else none
  else bif ((r != c) || (r != p)) then
  some (.int .i64 3)
  else A6.Check.L0 N N r c l (0 : Int)
  else none
  else none :=
  Eq.trans (by kernel_rfl)
  (Fb (Fb rfl (Fb (Fb rfl (Ax (Ge (r != c)) (Ax (Hr (r != c)) (Ax (Ge (r != c)) (Ax (Hr (r != c)) (Ax (H8 (r != c)) (Ax (I7 (r != c)) (C1 (Eu (r != c) (r != p)) rfl rfl)))))))) rfl)) rfl)
theorem A6.Check.Ac (hk : A0 Tryz.prog A6.Check.A9) (h : ∀ (r c : Int) (l : List Int) (p q : Int) (m : List Int), A6.Check.pre [.i r, .i c, .l l, .i p, .i q, .l m] = true → ∃ N dv drops, A1 A6.Check.E N Tryz.f79 (Ad Tryz.f79) [.agg [.int .i64 r, .int .i64 c, .ints .arg .u64 l], .agg [.int .i64 p, .int .i64 q, .ints .arg .u64 m]] = some dv ∧ Wk drops dv (A6.Check.out [.i r, .i c, .l l, .i p, .i q, .l m])) : Am Tryz.prog 79 A6.Check.spec :=
  Aj (A2 hk _ _ _) Tryz.func79 (by kernel_rfl) (by kernel_rfl) h
abbrev _root_.Go.Proofs.S1.A6.Check.Kn : Prop := Am Tryz.prog 79 A6.Check.spec
def A6.finite.A9 : List (Nat × Entry) := [(92, Av.Finite.spec)]
def A6.finite.E : Env := Bb (A8 A6.finite.A9) (fun _ => false) (fun _ => none) (fun _ => none)
theorem A6.finite.ev (N : Nat) (r c : Int) (l : List Int) : A1 A6.finite.E N Tryz.f85 (Ad Tryz.f85) [.agg [.int .i64 r, .int .i64 c, .ints .arg .u64 l]] =
  bif (Di l) then
  bif (!(Ev l)) then
  some (.tup [.agg [.int .i64 0, .int .i64 0, .nil], .int .i64 2])
  else some (.tup [.agg [.int .i64 r, .int .i64 c, .ints .arg .u64 l], .int .i64 0])
  else none := by kernel_rfl
theorem A6.finite.Ac (hk : A0 Tryz.prog A6.finite.A9) (h : ∀ (r c : Int) (l : List Int), A6.finite.pre [.i r, .i c, .l l] = true → ∃ N dv drops, A1 A6.finite.E N Tryz.f85 (Ad Tryz.f85) [.agg [.int .i64 r, .int .i64 c, .ints .arg .u64 l]] = some dv ∧ Wk drops dv (A6.finite.out [.i r, .i c, .l l])) : Am Tryz.prog 85 A6.finite.spec :=
  Aj (A2 hk _ _ _) Tryz.func85 (by kernel_rfl) (by kernel_rfl) h
abbrev _root_.Go.Proofs.S1.A6.finite.Kn : Prop := Am Tryz.prog 85 A6.finite.spec
end EqRef17
end Go.Proofs.S1
namespace Go.Proofs.S1
open Go Go.Den Go.Rnd Go.Proofs
open EqRef17
theorem Av.Div.known : Av.Div.Kn := Av.Div.Ac (.cons Av.B.known (.cons Av.F.known .nil)) fun a b hp => by
  obtain ⟨ha, hb⟩ := Ag.1 hp
  obtain ⟨a, rfl, hn⟩ := Bg ha
  obtain ⟨b, rfl, hm⟩ := Bg hb
  refine ⟨0, Av.Div.out [.i a, .i b], [], ?_, .int⟩
  rw [Av.Div.ev, ha, hb, Int.toNat_natCast, Int.toNat_natCast]
  unfold Gx
  rw [div_ieee hn hm Hl]; rfl
theorem Un (N : Nat) {x : List Int} (hx : Di x = true) : ∀ (k i F : Nat), i + k = x.length → k < F → Av.Finite.L0 N F x (i : Int) = some (.bool ((x.drop i).all C8)) := by
  obtain ⟨hl, hu⟩ := Ks hx
  intro k
  induction k with
  | zero =>
    intro i F hi hF
    obtain ⟨F, rfl⟩ : ∃ G, F = G + 1 := ⟨F - 1, by omega⟩
    rw [Av.Finite.Az, Aw, decide_eq_false (by omega), cond_false, List.drop_of_length_le (by omega)]; rfl
  | succ k ih =>
    intro i F hi hF
    obtain ⟨F, rfl⟩ : ∃ G, F = G + 1 := ⟨F - 1, by omega⟩
    rw [Av.Finite.Az, Aw, decide_eq_true (show (i : Int) < (x.length : Int) by omega), cond_true, decide_eq_true (show (0 : Int) ≤ (i : Int) by omega), Bool.and_self, cond_true, Int.toNat_natCast, hu i (by omega), cond_true, Ih (by omega), List.all_cons]
    cases C8 (x.getD i 0) with
    | false => rfl
    | true =>
      rw [Bool.not_true, cond_false, Ap (by omega) (by omega), Bool.true_and]
      exact ih (i + 1) F (by omega) (by omega)
theorem Av.Finite.known : Av.Finite.Kn := Av.Finite.Ac (.cons A3.Finite.known .nil) fun x hp => by
  have hp : Di x = true := hp
  refine ⟨x.length + 1, Av.Finite.out [.l x], [], ?_, .bool⟩
  show _ = some (DV.bool (x.all C8))
  rw [Av.Finite.ev]
  exact Un _ hp x.length 0 (x.length + 1) (by omega) (by omega)
theorem F2.Check.known : F2.Check.Kn := F2.Check.Ac (.cons Av.Finite.known (.cons Bh.G1.known .nil)) fun r c l hp => by
  have hp : An l = true := hp
  refine ⟨0, F2.Check.out [.i r, .i c, .l l], [], ?_, .int⟩
  show _ = some (DV.int .i64 (Bu r c l))
  rw [F2.Check.ev]
  unfold Bu
  by_cases h : Bn r c l = true
  · have := Mz h
    rw [h, Bool.not_true, cond_false, Jg hp (by omega), cond_true, if_pos rfl]
    cases Ev l <;> rfl
  · have h' : Bn r c l = false := by simpa using h
    rw [h']; rfl
theorem Vr (N : Nat) {n : Nat} {l : List Int} (n6 : n ≤ 6) (hl : l.length = n * n) (al : An l = true) : ∀ (cnt i F : Nat), i + cnt = n → cnt < F →
    A6.Check.L0 N F (n : Int) (n : Int) l (i : Int) = some (.int .i64 (if ((List.range n).drop i).any (fun i : Nat => decide (A7 (Eg (n : Int) l (i : Int) (i : Int)) = 0)) = true then 5 else 0)) := by
  intro cnt
  induction cnt with
  | zero =>
    intro i F hi hF
    obtain ⟨F, rfl⟩ : ∃ G, F = G + 1 := ⟨F - 1, by omega⟩
    rw [A6.Check.Az, Aw, decide_eq_false (by omega), cond_false, List.drop_of_length_le (by rw [List.length_range]; omega)]; rfl
  | succ cnt ih =>
    intro i F hi hF
    obtain ⟨F, rfl⟩ : ∃ G, F = G + 1 := ⟨F - 1, by omega⟩
    have hn : Mh (Eg (n : Int) l (i : Int) (i : Int)) = true := by
      obtain ⟨k, hk, _⟩ := Bg (Hf (c := (n : Int)) (i := (i : Int)) (k := (i : Int)) al)
      rw [hk]; exact J0 k
    rw [A6.Check.Az, Aw, decide_eq_true (show (i : Int) < (n : Int) by omega), cond_true, Dl n6 n6 hl (show i < n by omega) (show i < n by omega), cond_true, hn, cond_true, Vs (by omega), List.any_cons]
    by_cases hk : A7 (Eg (n : Int) l (i : Int) (i : Int)) = 0
    · have e : (A7 (Eg (n : Int) l (i : Int) (i : Int)) == (0 : Int)) = true := by rw [hk]; rfl
      rw [e, cond_true, decide_eq_true hk]; rfl
    · have e : (A7 (Eg (n : Int) l (i : Int) (i : Int)) == (0 : Int)) = false := by simpa using hk
      rw [e, cond_false, decide_eq_false hk, Bool.false_or, Ap (by omega) (by omega)]
      exact ih (i + 1) F (by omega) (by omega)
theorem A6.Check.known : A6.Check.Kn := A6.Check.Ac (.cons A3.Kind.known (.cons Bh.At.known (.cons F2.Check.known .nil))) fun r c l p q m hp => by
  obtain ⟨al, am⟩ := Ag.1 (show (An l && An m) = true from hp)
  refine ⟨8, A6.Check.out [.i r, .i c, .l l, .i p, .i q, .l m], [], ?_, .int⟩
  show _ = some (DV.int .i64 (Lw r c l p q m))
  rw [A6.Check.ev, al, cond_true, cond_true, am, cond_true, cond_true, ne_or]
  unfold Lw
  by_cases h1 : Bu r c l = 0
  · rw [Il h1, cond_false, if_neg (by rw [h1]; decide)]
    by_cases h2 : Bu p q m = 0
    · rw [Il h2, cond_false, if_neg (by rw [h2]; decide)]
      by_cases h3 : r ≠ c ∨ r ≠ p
      · rw [decide_eq_true h3, cond_true, if_pos h3]
      · rw [decide_eq_false h3, cond_false, if_neg h3]
        obtain rfl : r = c := Decidable.byContradiction fun h => h3 (.inl h)
        obtain ⟨R, C, rfl, hC, r6, c6, hl⟩ := Da (J6 h1).1
        obtain rfl : R = C := by omega
        rw [Int.toNat_natCast]
        exact Vr 8 r6 hl al R 0 8 (by omega) (by omega)
    · rw [neI h2, cond_true, if_pos h2]
  · rw [neI h1, cond_true, if_pos h1]
def outA (x : MX) : DV := .tup [.agg [.int .i64 x.1, .int .i64 x.2.1, .ints .arg .u64 x.2.2.1], .int .i64 x.2.2.2]
theorem wk_matA {drops : List Nat} {x : MX} : Wk drops (outA x) (outA x) :=
  Wk.Gg (.cons (Wk.J7 (.cons .int (.cons .int (.cons .argL .nil)))) (.cons .int .nil))
theorem wk_noA {drops : List Nat} {e : Int} : Wk drops (nilX e) (outA (O0 e)) :=
  Wk.Gg (.cons (Wk.J7 (.cons .int (.cons .int (.cons (.nil _ _) .nil)))) (.cons .int .nil))
theorem A6.finite.known : A6.finite.Kn := A6.finite.Ac (.cons Av.Finite.known .nil) fun r c l hp => by
  obtain ⟨al, hr⟩ := Ag.1 (show (An l && Bn r c l) = true from hp)
  have := Mz hr
  show ∃ N dv drops, _ = some dv ∧ Wk drops dv (outA (Gj r c l))
  unfold Gj
  cases hf : Ev l with
  | true =>
    rw [if_pos rfl]
    exact ⟨0, _, [], by rw [A6.finite.ev, Jg al (by omega), hf]; rfl, wk_matA⟩
  | false =>
    rw [if_neg (by decide)]
    exact ⟨0, _, [], by rw [A6.finite.ev, Jg al (by omega), hf]; rfl, wk_noA⟩
section
variable {n Q : Nat} {l m : List Int}
end
end Go.Proofs.S1
namespace Go.Proofs.S1
open Go Go.Den Go.Rnd Go.Proofs
set_option linter.unusedVariables false
set_option maxRecDepth 100000
namespace EqRef14
theorem Eu : ∀ a : Bool, (a && true) = a := by decide
theorem I7 : ∀ a b : Bool, (bif a then b else false) = (a && b) := by decide
theorem H8 : ∀ a : Bool, (((!a) || (a == true)) && true) = true := by decide
theorem Hr : ∀ a : Bool, ((!(a == true)) || ((((!(a == true)) || (a == true)) && (((!(a == true)) || (a == true)) && true)) && true)) = true := by decide
theorem Ge : ∀ a : Bool, ((!(a == true)) || ((((!(a == true)) || (a == true)) && true) && true)) = true := by decide
theorem Kb : ∀ a : Bool, ((!(a == true)) || true) = true := by decide
theorem Lu : ∀ a b : Bool, ((a && b) && true) = (a && b) := by decide
theorem Ld : ∀ a b : Bool, (bif (!a) then true else (!b)) = ((!a) || (!b)) := by decide
theorem Qk : ∀ a : Bool, ((!(!(!a))) || ((!a) == false)) = true := by decide
theorem Ru : ∀ a : Bool, ((!((!a) == false)) || ((((!((!a) == false)) || ((!a) == false)) && true) && true)) = true := by decide
theorem Ho : ∀ a b : Bool, ((!((!a) == false)) || ((((!((!a) == false)) || ((!a) == false)) && true) && b)) = ((!a) || b) := by decide
theorem Ip : ∀ a : Bool, ((!((!a) == false)) || true) = true := by decide
theorem I8 : ∀ a b : Bool, (bif a then true else b) = (a || b) := by decide
theorem Kl : ∀ a : Bool, ((!(!a)) || (a == false)) = true := by decide
theorem Mv : ∀ a : Bool, ((!(a == false)) || ((((!(a == false)) || (a == false)) && (((!(a == false)) || (a == false)) && true)) && true)) = true := by decide
theorem Mu : ∀ a : Bool, ((!(a == false)) || ((((!(a == false)) || (a == false)) && true) && true)) = true := by decide
theorem Rv : ∀ a : Bool, ((!(a == false)) || true) = true := by decide
end EqRef14
end Go.Proofs.S1
namespace Go.Proofs.S1
open Go Go.Den Go.Rnd Go.Proofs
open EqRef13 EqRef14
end Go.Proofs.S1
namespace Go.Proofs.S1
open Go Go.Den Go.Rnd Go.Proofs
open EqRef13 EqRef14
section
variable {R C i k : Nat} {l v : List Int} {t : Int}
end
end Go.Proofs.S1
end
