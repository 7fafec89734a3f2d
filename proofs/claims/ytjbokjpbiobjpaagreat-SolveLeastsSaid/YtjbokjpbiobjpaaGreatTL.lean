/- A verified evaluator of the program's form and its use for this seat: S1EqOf, S1POf, S1PMatA, S1EqRef10, S1PRef10, S1PFill, S1EqHouse. -/
import Derived.Test.YtjbokjpbiobjpaaGreatTE
import Derived.Test.YtjbokjpbiobjpaaGreatTF
import Derived.Test.YtjbokjpbiobjpaaGreatTJ
set_option linter.unusedVariables false
set_option linter.unusedSimpArgs false
noncomputable section
namespace Go.Proofs.S1
open Go Go.Den Go.Rnd Go.Proofs
set_option maxRecDepth 100000
namespace EqOf
theorem E3 : ∀ a : Bool, (a && true) = a := by decide
theorem Jn : ∀ a b : Bool, (bif (!a) then true else (!b)) = ((!a) || (!b)) := by decide
theorem Iw : ∀ a : Bool, ((!(!(!a))) || ((!a) == false)) = true := by decide
theorem Ia : ∀ a : Bool, ((!((!a) == false)) || ((((!((!a) == false)) || ((!a) == false)) && true) && true)) = true := by decide
theorem Gd : ∀ a : Bool, ((!((!a) == false)) || true) = true := by decide
theorem Jg : ∀ a b c d e f g h : Bool, (bif (bif (bif (bif (bif (bif (bif a then true else b) then true else c) then true else d) then true else e) then true else f) then true else g) then true else h) = (((((((a || b) || c) || d) || e) || f) || g) || h) := by decide
theorem Ld : ∀ a b c d e f g : Bool, ((!(!(bif (bif (bif (bif (bif (bif a then true else b) then true else c) then true else d) then true else e) then true else f) then true else g))) || ((bif (bif (bif (bif (bif (bif a then true else b) then true else c) then true else d) then true else e) then true else f) then true else g) == false)) = true := by decide
theorem Lx : ∀ a b c d e f g : Bool, ((!((bif (bif (bif (bif (bif (bif a then true else b) then true else c) then true else d) then true else e) then true else f) then true else g) == false)) || ((((!((bif (bif (bif (bif (bif (bif a then true else b) then true else c) then true else d) then true else e) then true else f) then true else g) == false)) || ((bif (bif (bif (bif (bif (bif a then true else b) then true else c) then true else d) then true else e) then true else f) then true else g) == false)) && (((!((bif (bif (bif (bif (bif (bif a then true else b) then true else c) then true else d) then true else e) then true else f) then true else g) == false)) || ((bif (bif (bif (bif (bif (bif a then true else b) then true else c) then true else d) then true else e) then true else f) then true else g) == false)) && true)) && true)) = true := by decide
theorem Pm : ∀ a b c d e f g : Bool, ((!((bif (bif (bif (bif (bif (bif a then true else b) then true else c) then true else d) then true else e) then true else f) then true else g) == false)) || true) = true := by decide
theorem Sp : ∀ a b c d e f g : Bool, ((!((bif (bif (bif (bif (bif (bif a then true else b) then true else c) then true else d) then true else e) then true else f) then true else g) == false)) || ((((!((bif (bif (bif (bif (bif (bif a then true else b) then true else c) then true else d) then true else e) then true else f) then true else g) == false)) || ((bif (bif (bif (bif (bif (bif a then true else b) then true else c) then true else d) then true else e) then true else f) then true else g) == false)) && true) && true)) = true := by decide
theorem Hx : ∀ a b c d e f : Bool, ((!(!(bif (bif (bif (bif (bif a then true else b) then true else c) then true else d) then true else e) then true else f))) || ((bif (bif (bif (bif (bif a then true else b) then true else c) then true else d) then true else e) then true else f) == false)) = true := by decide
theorem I1 : ∀ a b c d e f : Bool, ((!((bif (bif (bif (bif (bif a then true else b) then true else c) then true else d) then true else e) then true else f) == false)) || ((((!((bif (bif (bif (bif (bif a then true else b) then true else c) then true else d) then true else e) then true else f) == false)) || ((bif (bif (bif (bif (bif a then true else b) then true else c) then true else d) then true else e) then true else f) == false)) && (((!((bif (bif (bif (bif (bif a then true else b) then true else c) then true else d) then true else e) then true else f) == false)) || ((bif (bif (bif (bif (bif a then true else b) then true else c) then true else d) then true else e) then true else f) == false)) && true)) && true)) = true := by decide
theorem J9 : ∀ a b c d e f : Bool, ((!((bif (bif (bif (bif (bif a then true else b) then true else c) then true else d) then true else e) then true else f) == false)) || true) = true := by decide
theorem Mr : ∀ a b c d e f : Bool, ((!((bif (bif (bif (bif (bif a then true else b) then true else c) then true else d) then true else e) then true else f) == false)) || ((((!((bif (bif (bif (bif (bif a then true else b) then true else c) then true else d) then true else e) then true else f) == false)) || ((bif (bif (bif (bif (bif a then true else b) then true else c) then true else d) then true else e) then true else f) == false)) && true) && true)) = true := by decide
theorem Oi : ∀ a b c d e : Bool, ((!(!(bif (bif (bif (bif a then true else b) then true else c) then true else d) then true else e))) || ((bif (bif (bif (bif a then true else b) then true else c) then true else d) then true else e) == false)) = true := by decide
theorem Jh : ∀ a b c d e : Bool, ((!((bif (bif (bif (bif a then true else b) then true else c) then true else d) then true else e) == false)) || ((((!((bif (bif (bif (bif a then true else b) then true else c) then true else d) then true else e) == false)) || ((bif (bif (bif (bif a then true else b) then true else c) then true else d) then true else e) == false)) && (((!((bif (bif (bif (bif a then true else b) then true else c) then true else d) then true else e) == false)) || ((bif (bif (bif (bif a then true else b) then true else c) then true else d) then true else e) == false)) && true)) && true)) = true := by decide
theorem Pn : ∀ a b c d e : Bool, ((!((bif (bif (bif (bif a then true else b) then true else c) then true else d) then true else e) == false)) || ((((!((bif (bif (bif (bif a then true else b) then true else c) then true else d) then true else e) == false)) || ((bif (bif (bif (bif a then true else b) then true else c) then true else d) then true else e) == false)) && true) && true)) = true := by decide
theorem Afa : ∀ a b c d e : Bool, ((!((bif (bif (bif (bif a then true else b) then true else c) then true else d) then true else e) == false)) || true) = true := by decide
theorem Ah8 : ∀ a b c d : Bool, ((!(!(bif (bif (bif a then true else b) then true else c) then true else d))) || ((bif (bif (bif a then true else b) then true else c) then true else d) == false)) = true := by decide
theorem Ae9 : ∀ a b c d : Bool, ((!((bif (bif (bif a then true else b) then true else c) then true else d) == false)) || ((((!((bif (bif (bif a then true else b) then true else c) then true else d) == false)) || ((bif (bif (bif a then true else b) then true else c) then true else d) == false)) && (((!((bif (bif (bif a then true else b) then true else c) then true else d) == false)) || ((bif (bif (bif a then true else b) then true else c) then true else d) == false)) && true)) && true)) = true := by decide
theorem Akt : ∀ a b c d : Bool, ((!((bif (bif (bif a then true else b) then true else c) then true else d) == false)) || ((((!((bif (bif (bif a then true else b) then true else c) then true else d) == false)) || ((bif (bif (bif a then true else b) then true else c) then true else d) == false)) && true) && true)) = true := by decide
theorem Aks : ∀ a b c d : Bool, ((!((bif (bif (bif a then true else b) then true else c) then true else d) == false)) || true) = true := by decide
theorem Aqq : ∀ a b c : Bool, ((!(!(bif (bif a then true else b) then true else c))) || ((bif (bif a then true else b) then true else c) == false)) = true := by decide
theorem Aqp : ∀ a b c : Bool, ((!((bif (bif a then true else b) then true else c) == false)) || ((((!((bif (bif a then true else b) then true else c) == false)) || ((bif (bif a then true else b) then true else c) == false)) && true) && true)) = true := by decide
theorem Aqo : ∀ a b c : Bool, ((!((bif (bif a then true else b) then true else c) == false)) || true) = true := by decide
theorem An6 : ∀ a b : Bool, ((!(!(bif a then true else b))) || ((bif a then true else b) == false)) = true := by decide
theorem Aqn : ∀ a b : Bool, ((!((bif a then true else b) == false)) || ((((!((bif a then true else b) == false)) || ((bif a then true else b) == false)) && true) && true)) = true := by decide
theorem Aqm : ∀ a b : Bool, ((!((bif a then true else b) == false)) || true) = true := by decide
theorem tt28 : ∀ a : Bool, ((!(!a)) || (a == false)) = true := by decide
theorem tt29 : ∀ a : Bool, ((!(a == false)) || ((((!(a == false)) || (a == false)) && true) && true)) = true := by decide
theorem tt30 : ∀ a : Bool, ((!(a == false)) || true) = true := by decide
def Aa.of.Bz.hint : Nat → Option Ba
  | 0 => some { keep := [1, 2, 6, 7, 13, 14], objs := [(8, 2, 108002, .ints 37 .u64 [])], boxes := [6, 7] }
  | 2 => some { keep := [1, 2, 6, 7, 8, 13, 14, 17, 18], objs := [(8, 2, 108002, .ints 37 .u64 [])], boxes := [6, 7] }
  | _ => none
def Aa.of.Bz.A7 : List (Nat × Entry) := [(205, Aa.D7.spec)]
def Aa.of.Bz.E : Env := Bb (A5 Aa.of.Bz.A7) (fun _ => false) Aa.of.Bz.hint (fun _ => none)
def Aa.of.Bz.L0 (N M : Nat) (a b p14 : Int) (p2_1 : List Int) : Option DV := B0 Aa.of.Bz.E N Tryz.f187 (An Tryz.f187) [1, 1, 0, 1, 0] [] M ⟨F7 33 [(1, .int .i64 b), (2, .fn 205 [] []), (6, .ptr 6 0 0), (7, .ptr 7 0 0), (13, .int .i64 a), (14, .int .i64 p14)], [(6, false, .box [.int .i64 0, .int .i64 0, .nil]), (7, false, .box [.int .i64 a, .int .i64 b, .oref 108002]), (108002, false, .ints 37 .u64 p2_1)]⟩
def Aa.of.Bz.L1 (N M0 M : Nat) (a b : Int) (p8 p14_1 p18 : Int) (p2 : List Int) : Option DV := B0 Aa.of.Bz.E N Tryz.f187 (An Tryz.f187) [1, 1, 0, 1, 0, 0, 1, 1, 0, 0, 1, 1, 0] [M0] M ⟨F7 33 [(1, .int .i64 b), (2, .fn 205 [] []), (6, .ptr 6 0 0), (7, .ptr 7 0 0), (8, .int .i64 p8), (13, .int .i64 a), (14, .int .i64 p14_1), (17, .int .i64 b), (18, .int .i64 p18)], [(6, false, .box [.int .i64 0, .int .i64 0, .nil]), (7, false, .box [.int .i64 a, .int .i64 b, .oref 108002]), (108002, false, .ints 37 .u64 p2)]⟩
theorem Aa.of.Bz.As (N M : Nat) (a b p14 : Int) (p2_1 : List Int) : Aa.of.Bz.L0 N (M + 1) a b p14 p2_1 = bif (A4 p14 a) then Aa.of.Bz.L1 N M N a b p14 p14 (0 : Int) p2_1 else some (.agg [.int .i64 a, .int .i64 b, .ints (.own 108002 37) .u64 p2_1]) := by kernel_rfl
theorem Aa.of.Bz.B5 (N M0 M : Nat) (a b : Int) (p8 p14_1 p18 : Int) (p2 : List Int) : Aa.of.Bz.L1 N M0 (M + 1) a b p8 p14_1 p18 p2 = bif (A4 p18 b) then bif (decide ((List.length p2) + 1 ≤ Hc)) then Aa.of.Bz.L1 N M0 M a b p8 p14_1 (Ab (p18 + (1 : Int))) (p2 ++ [(0 : Int)]) else none else Aa.of.Bz.L0 N M0 a b (Ab (p14_1 + (1 : Int))) p2 :=
  Eq.trans (by kernel_rfl)
  (Ee (Cx (E3 (decide ((List.length p2) + 1 ≤ Hc))) rfl rfl) rfl)
theorem Aa.of.Bz.ev (N : Nat) (a b : Int) : Bx Aa.of.Bz.E N Tryz.f187 (An Tryz.f187) [.int .i64 a, .int .i64 b, .fn 205 [] []] =
  Aa.of.Bz.L0 N N a b (0 : Int) [] := by kernel_rfl
def Aa.of.Eh.hint : Nat → Option Ba
  | 0 => some { keep := [1, 2, 6, 7, 13, 14], objs := [(8, 2, 108002, .ints 37 .u64 [])], boxes := [6, 7] }
  | 2 => some { keep := [1, 2, 6, 7, 8, 13, 14, 17, 18], objs := [(8, 2, 108002, .ints 37 .u64 [])], boxes := [6, 7] }
  | _ => none
def Aa.of.Eh.A7 : List (Nat × Entry) := [(246, Aa.Hu.spec)]
def Aa.of.Eh.E : Env := Bb (A5 Aa.of.Eh.A7) (fun _ => false) Aa.of.Eh.hint (fun _ => none)
def Aa.of.Eh.L0 (N M : Nat) (a b p14 : Int) (p2_1 : List Int) : Option DV := B0 Aa.of.Eh.E N Tryz.f187 (An Tryz.f187) [1, 1, 0, 1, 0] [] M ⟨F7 33 [(1, .int .i64 b), (2, .fn 246 [] []), (6, .ptr 6 0 0), (7, .ptr 7 0 0), (13, .int .i64 a), (14, .int .i64 p14)], [(6, false, .box [.int .i64 0, .int .i64 0, .nil]), (7, false, .box [.int .i64 a, .int .i64 b, .oref 108002]), (108002, false, .ints 37 .u64 p2_1)]⟩
def Aa.of.Eh.L1 (N M0 M : Nat) (a b : Int) (p8 p14_1 p18 : Int) (p2 : List Int) : Option DV := B0 Aa.of.Eh.E N Tryz.f187 (An Tryz.f187) [1, 1, 0, 1, 0, 0, 1, 1, 0, 0, 1, 1, 0] [M0] M ⟨F7 33 [(1, .int .i64 b), (2, .fn 246 [] []), (6, .ptr 6 0 0), (7, .ptr 7 0 0), (8, .int .i64 p8), (13, .int .i64 a), (14, .int .i64 p14_1), (17, .int .i64 b), (18, .int .i64 p18)], [(6, false, .box [.int .i64 0, .int .i64 0, .nil]), (7, false, .box [.int .i64 a, .int .i64 b, .oref 108002]), (108002, false, .ints 37 .u64 p2)]⟩
theorem Aa.of.Eh.As (N M : Nat) (a b p14 : Int) (p2_1 : List Int) : Aa.of.Eh.L0 N (M + 1) a b p14 p2_1 = bif (A4 p14 a) then Aa.of.Eh.L1 N M N a b p14 p14 (0 : Int) p2_1 else some (.agg [.int .i64 a, .int .i64 b, .ints (.own 108002 37) .u64 p2_1]) := by kernel_rfl
theorem Aa.of.Eh.B5 (N M0 M : Nat) (a b : Int) (p8 p14_1 p18 : Int) (p2 : List Int) : Aa.of.Eh.L1 N M0 (M + 1) a b p8 p14_1 p18 p2 = bif (A4 p18 b) then bif (decide ((List.length p2) + 1 ≤ Hc)) then Aa.of.Eh.L1 N M0 M a b p8 p14_1 (Ab (p18 + (1 : Int))) (p2 ++ [(Mt p8 p18)]) else none else Aa.of.Eh.L0 N M0 a b (Ab (p14_1 + (1 : Int))) p2 :=
  Eq.trans (by kernel_rfl)
  (Ee (Cx (E3 (decide ((List.length p2) + 1 ≤ Hc))) rfl rfl) rfl)
theorem Aa.of.Eh.ev (N : Nat) (a b : Int) : Bx Aa.of.Eh.E N Tryz.f187 (An Tryz.f187) [.int .i64 a, .int .i64 b, .fn 246 [] []] =
  Aa.of.Eh.L0 N N a b (0 : Int) [] := by kernel_rfl
abbrev _root_.Go.Proofs.S1.Aa.of.Eh.Kn := A3 Tryz.prog 187 Aa.of.Eh.spec
theorem Aa.of.Eh.Ac (hk : Ay Tryz.prog Aa.of.Eh.A7) (h : ∀ (a b : Int), Aa.of.Eh.pre [.i a, .i b] = true → Bc Aa.of.Eh.E Tryz.f187 [.int .i64 a, .int .i64 b, .fn 246 [] []] (Aa.of.Eh.out [.i a, .i b])) : Aa.of.Eh.Kn :=
  Ak (Az hk _ _ _) Tryz.func187 (by kernel_rfl) (by kernel_rfl) h
def Aa.of.Cl.hint : Nat → Option Ba
  | 0 => some { keep := [1, 2, 6, 7, 13, 14], objs := [(8, 2, 108002, .ints 37 .u64 [])], boxes := [6, 7] }
  | 2 => some { keep := [1, 2, 6, 7, 8, 13, 14, 17, 18], objs := [(8, 2, 108002, .ints 37 .u64 [])], boxes := [6, 7] }
  | _ => none
def Aa.of.Cl.A7 : List (Nat × Entry) := [(220, Aa.Fe.spec)]
def Aa.of.Cl.E : Env := Bb (A5 Aa.of.Cl.A7) (fun _ => false) Aa.of.Cl.hint (fun _ => none)
def Aa.of.Cl.L0 (N M : Nat) (a b : Int) (r c : Int) (l : List Int) (p14 : Int) (p2_1 : List Int) : Option DV := B0 Aa.of.Cl.E N Tryz.f187 (An Tryz.f187) [1, 1, 0, 1, 0] [] M ⟨F7 33 [(1, .int .i64 b), (2, .fn 220 [] [.cellp [.int .i64 r, .int .i64 c, .ints .arg .u64 l]]), (6, .ptr 6 0 0), (7, .ptr 7 0 0), (13, .int .i64 a), (14, .int .i64 p14)], [(6, false, .box [.int .i64 0, .int .i64 0, .nil]), (7, false, .box [.int .i64 a, .int .i64 b, .oref 108002]), (108002, false, .ints 37 .u64 p2_1)]⟩
def Aa.of.Cl.L1 (N M0 M : Nat) (a b : Int) (r c : Int) (l : List Int) (p8 p14_1 p18 : Int) (p2 : List Int) : Option DV := B0 Aa.of.Cl.E N Tryz.f187 (An Tryz.f187) [1, 1, 0, 1, 0, 0, 1, 1, 0, 0, 1, 1, 0] [M0] M ⟨F7 33 [(1, .int .i64 b), (2, .fn 220 [] [.cellp [.int .i64 r, .int .i64 c, .ints .arg .u64 l]]), (6, .ptr 6 0 0), (7, .ptr 7 0 0), (8, .int .i64 p8), (13, .int .i64 a), (14, .int .i64 p14_1), (17, .int .i64 b), (18, .int .i64 p18)], [(6, false, .box [.int .i64 0, .int .i64 0, .nil]), (7, false, .box [.int .i64 a, .int .i64 b, .oref 108002]), (108002, false, .ints 37 .u64 p2)]⟩
theorem Aa.of.Cl.As (N M : Nat) (a b : Int) (r c : Int) (l : List Int) (p14 : Int) (p2_1 : List Int) : Aa.of.Cl.L0 N (M + 1) a b r c l p14 p2_1 = bif (A4 p14 a) then Aa.of.Cl.L1 N M N a b r c l p14 p14 (0 : Int) p2_1 else some (.agg [.int .i64 a, .int .i64 b, .ints (.own 108002 37) .u64 p2_1]) := by kernel_rfl
theorem Aa.of.Cl.B5 (N M0 M : Nat) (a b : Int) (r c : Int) (l : List Int) (p8 p14_1 p18 : Int) (p2 : List Int) : Aa.of.Cl.L1 N M0 (M + 1) a b r c l p8 p14_1 p18 p2 = bif (A4 p18 b) then bif (Cy r c l p18 p8) then bif (decide ((List.length p2) + 1 ≤ Hc)) then Aa.of.Cl.L1 N M0 M a b r c l p8 p14_1 (Ab (p18 + (1 : Int))) (p2 ++ [(D0 c l p18 p8)]) else none else none else Aa.of.Cl.L0 N M0 a b r c l (Ab (p14_1 + (1 : Int))) p2 :=
  Eq.trans (by kernel_rfl)
  (Ee (Cx (E3 (Cy r c l p18 p8)) (Cx (E3 (decide ((List.length p2) + 1 ≤ Hc))) rfl rfl) rfl) rfl)
theorem Aa.of.Cl.ev (N : Nat) (a b : Int) (r c : Int) (l : List Int) : Bx Aa.of.Cl.E N Tryz.f187 (An Tryz.f187) [.int .i64 a, .int .i64 b, .fn 220 [] [.cellp [.int .i64 r, .int .i64 c, .ints .arg .u64 l]]] =
  Aa.of.Cl.L0 N N a b r c l (0 : Int) [] := by kernel_rfl
abbrev _root_.Go.Proofs.S1.Aa.of.Cl.Kn := A3 Tryz.prog 187 Aa.of.Cl.spec
theorem Aa.of.Cl.Ac (hk : Ay Tryz.prog Aa.of.Cl.A7) (h : ∀ (a b : Int) (r c : Int) (l : List Int), Aa.of.Cl.pre [.i a, .i b, .i r, .i c, .l l] = true → Bc Aa.of.Cl.E Tryz.f187 [.int .i64 a, .int .i64 b, .fn 220 [] [.cellp [.int .i64 r, .int .i64 c, .ints .arg .u64 l]]] (Aa.of.Cl.out [.i a, .i b, .i r, .i c, .l l])) : Aa.of.Cl.Kn :=
  Ak (Az hk _ _ _) Tryz.func187 (by kernel_rfl) (by kernel_rfl) h
def Aa.of.Part.hint : Nat → Option Ba
  | 0 => some { keep := [1, 2, 6, 7, 13, 14], objs := [(8, 2, 108002, .ints 37 .u64 [])], boxes := [6, 7] }
  | 2 => some { keep := [1, 2, 6, 7, 8, 13, 14, 17, 18], objs := [(8, 2, 108002, .ints 37 .u64 [])], boxes := [6, 7] }
  | _ => none
def Aa.of.Part.A7 : List (Nat × Entry) := [(192, Aa.Fg.spec)]
def Aa.of.Part.E : Env := Bb (A5 Aa.of.Part.A7) (fun _ => false) Aa.of.Part.hint (fun _ => none)
def Aa.of.Part.L0 (N M : Nat) (a b : Int) (r c : Int) (l : List Int) (x y p14 : Int) (p2_1 : List Int) : Option DV := B0 Aa.of.Part.E N Tryz.f187 (An Tryz.f187) [1, 1, 0, 1, 0] [] M ⟨F7 33 [(1, .int .i64 b), (2, .fn 192 [] [.cellp [.int .i64 r, .int .i64 c, .ints .arg .u64 l], .cellp [.int .i64 x], .cellp [.int .i64 y]]), (6, .ptr 6 0 0), (7, .ptr 7 0 0), (13, .int .i64 a), (14, .int .i64 p14)], [(6, false, .box [.int .i64 0, .int .i64 0, .nil]), (7, false, .box [.int .i64 a, .int .i64 b, .oref 108002]), (108002, false, .ints 37 .u64 p2_1)]⟩
def Aa.of.Part.L1 (N M0 M : Nat) (a b : Int) (r c : Int) (l : List Int) (x y : Int) (p8 p14_1 p18 : Int) (p2 : List Int) : Option DV := B0 Aa.of.Part.E N Tryz.f187 (An Tryz.f187) [1, 1, 0, 1, 0, 0, 1, 1, 0, 0, 1, 1, 0] [M0] M ⟨F7 33 [(1, .int .i64 b), (2, .fn 192 [] [.cellp [.int .i64 r, .int .i64 c, .ints .arg .u64 l], .cellp [.int .i64 x], .cellp [.int .i64 y]]), (6, .ptr 6 0 0), (7, .ptr 7 0 0), (8, .int .i64 p8), (13, .int .i64 a), (14, .int .i64 p14_1), (17, .int .i64 b), (18, .int .i64 p18)], [(6, false, .box [.int .i64 0, .int .i64 0, .nil]), (7, false, .box [.int .i64 a, .int .i64 b, .oref 108002]), (108002, false, .ints 37 .u64 p2)]⟩
theorem Aa.of.Part.As (N M : Nat) (a b : Int) (r c : Int) (l : List Int) (x y p14 : Int) (p2_1 : List Int) : Aa.of.Part.L0 N (M + 1) a b r c l x y p14 p2_1 = bif (A4 p14 a) then Aa.of.Part.L1 N M N a b r c l x y p14 p14 (0 : Int) p2_1 else some (.agg [.int .i64 a, .int .i64 b, .ints (.own 108002 37) .u64 p2_1]) := by kernel_rfl
theorem Aa.of.Part.B5 (N M0 M : Nat) (a b : Int) (r c : Int) (l : List Int) (x y : Int) (p8 p14_1 p18 : Int) (p2 : List Int) : Aa.of.Part.L1 N M0 (M + 1) a b r c l x y p8 p14_1 p18 p2 = bif (A4 p18 b) then bif (Cy r c l (x + p8) (y + p18) && Ug x y p8 p18) then bif (decide ((List.length p2) + 1 ≤ Hc)) then Aa.of.Part.L1 N M0 M a b r c l x y p8 p14_1 (Ab (p18 + (1 : Int))) (p2 ++ [(D0 c l (x + p8) (y + p18))]) else none else none else Aa.of.Part.L0 N M0 a b r c l x y (Ab (p14_1 + (1 : Int))) p2 :=
  Eq.trans (by kernel_rfl)
  (Ee (Cx (E3 (Cy r c l (x + p8) (y + p18) && Ug x y p8 p18)) (Cx (E3 (decide ((List.length p2) + 1 ≤ Hc))) rfl rfl) rfl) rfl)
theorem Aa.of.Part.ev (N : Nat) (a b : Int) (r c : Int) (l : List Int) (x y : Int) : Bx Aa.of.Part.E N Tryz.f187 (An Tryz.f187) [.int .i64 a, .int .i64 b, .fn 192 [] [.cellp [.int .i64 r, .int .i64 c, .ints .arg .u64 l], .cellp [.int .i64 x], .cellp [.int .i64 y]]] =
  Aa.of.Part.L0 N N a b r c l x y (0 : Int) [] := by kernel_rfl
abbrev _root_.Go.Proofs.S1.Aa.of.Part.Kn := A3 Tryz.prog 187 Aa.of.Part.spec
theorem Aa.of.Part.Ac (hk : Ay Tryz.prog Aa.of.Part.A7) (h : ∀ (a b : Int) (r c : Int) (l : List Int) (x y : Int), Aa.of.Part.pre [.i a, .i b, .i r, .i c, .l l, .i x, .i y] = true → Bc Aa.of.Part.E Tryz.f187 [.int .i64 a, .int .i64 b, .fn 192 [] [.cellp [.int .i64 r, .int .i64 c, .ints .arg .u64 l], .cellp [.int .i64 x], .cellp [.int .i64 y]]] (Aa.of.Part.out [.i a, .i b, .i r, .i c, .l l, .i x, .i y])) : Aa.of.Part.Kn :=
  Ak (Az hk _ _ _) Tryz.func187 (by kernel_rfl) (by kernel_rfl) h
def Aa.of.Mul.hint : Nat → Option Ba
  | 0 => some { keep := [1, 2, 6, 7, 13, 14], objs := [(8, 2, 108002, .ints 37 .u64 [])], boxes := [6, 7] }
  | 2 => some { keep := [1, 2, 6, 7, 8, 13, 14, 17, 18], objs := [(8, 2, 108002, .ints 37 .u64 [])], boxes := [6, 7] }
  | _ => none
def Aa.of.Mul.A7 : List (Nat × Entry) := [(188, Aa.Hq.spec)]
def Aa.of.Mul.E : Env := Bb (A5 Aa.of.Mul.A7) (fun _ => false) Aa.of.Mul.hint (fun _ => none)
def Aa.of.Mul.L0 (N M : Nat) (a b : Int) (r c : Int) (l : List Int) (p q : Int) (m : List Int) (p14 : Int) (p2_1 : List Int) : Option DV := B0 Aa.of.Mul.E N Tryz.f187 (An Tryz.f187) [1, 1, 0, 1, 0] [] M ⟨F7 33 [(1, .int .i64 b), (2, .fn 188 [] [.cellp [.int .i64 r, .int .i64 c, .ints .arg .u64 l], .cellp [.int .i64 p, .int .i64 q, .ints .arg .u64 m]]), (6, .ptr 6 0 0), (7, .ptr 7 0 0), (13, .int .i64 a), (14, .int .i64 p14)], [(6, false, .box [.int .i64 0, .int .i64 0, .nil]), (7, false, .box [.int .i64 a, .int .i64 b, .oref 108002]), (108002, false, .ints 37 .u64 p2_1)]⟩
def Aa.of.Mul.L1 (N M0 M : Nat) (a b : Int) (r c : Int) (l : List Int) (p q : Int) (m : List Int) (p8 p14_1 p18 : Int) (p2 : List Int) : Option DV := B0 Aa.of.Mul.E N Tryz.f187 (An Tryz.f187) [1, 1, 0, 1, 0, 0, 1, 1, 0, 0, 1, 1, 0] [M0] M ⟨F7 33 [(1, .int .i64 b), (2, .fn 188 [] [.cellp [.int .i64 r, .int .i64 c, .ints .arg .u64 l], .cellp [.int .i64 p, .int .i64 q, .ints .arg .u64 m]]), (6, .ptr 6 0 0), (7, .ptr 7 0 0), (8, .int .i64 p8), (13, .int .i64 a), (14, .int .i64 p14_1), (17, .int .i64 b), (18, .int .i64 p18)], [(6, false, .box [.int .i64 0, .int .i64 0, .nil]), (7, false, .box [.int .i64 a, .int .i64 b, .oref 108002]), (108002, false, .ints 37 .u64 p2)]⟩
theorem Aa.of.Mul.As (N M : Nat) (a b : Int) (r c : Int) (l : List Int) (p q : Int) (m : List Int) (p14 : Int) (p2_1 : List Int) : Aa.of.Mul.L0 N (M + 1) a b r c l p q m p14 p2_1 = bif (A4 p14 a) then Aa.of.Mul.L1 N M N a b r c l p q m p14 p14 (0 : Int) p2_1 else some (.agg [.int .i64 a, .int .i64 b, .ints (.own 108002 37) .u64 p2_1]) := by kernel_rfl
theorem Aa.of.Mul.B5 (N M0 M : Nat) (a b : Int) (r c : Int) (l : List Int) (p q : Int) (m : List Int) (p8 p14_1 p18 : Int) (p2 : List Int) : Aa.of.Mul.L1 N M0 (M + 1) a b r c l p q m p8 p14_1 p18 p2 = bif (A4 p18 b) then bif (R6 r c l p q m p8 p18) then bif (decide ((List.length p2) + 1 ≤ Hc)) then Aa.of.Mul.L1 N M0 M a b r c l p q m p8 p14_1 (Ab (p18 + (1 : Int))) (p2 ++ [(It (Gn c l p8) (J7 p q m p18))]) else none else none else Aa.of.Mul.L0 N M0 a b r c l p q m (Ab (p14_1 + (1 : Int))) p2 :=
  Eq.trans (by kernel_rfl)
  (Ee (Cx (E3 (R6 r c l p q m p8 p18)) (Cx (E3 (decide ((List.length p2) + 1 ≤ Hc))) rfl rfl) rfl) rfl)
theorem Aa.of.Mul.ev (N : Nat) (a b : Int) (r c : Int) (l : List Int) (p q : Int) (m : List Int) : Bx Aa.of.Mul.E N Tryz.f187 (An Tryz.f187) [.int .i64 a, .int .i64 b, .fn 188 [] [.cellp [.int .i64 r, .int .i64 c, .ints .arg .u64 l], .cellp [.int .i64 p, .int .i64 q, .ints .arg .u64 m]]] =
  Aa.of.Mul.L0 N N a b r c l p q m (0 : Int) [] := by kernel_rfl
abbrev _root_.Go.Proofs.S1.Aa.of.Mul.Kn := A3 Tryz.prog 187 Aa.of.Mul.spec
theorem Aa.of.Mul.Ac (hk : Ay Tryz.prog Aa.of.Mul.A7) (h : ∀ (a b : Int) (r c : Int) (l : List Int) (p q : Int) (m : List Int), Aa.of.Mul.pre [.i a, .i b, .i r, .i c, .l l, .i p, .i q, .l m] = true → Bc Aa.of.Mul.E Tryz.f187 [.int .i64 a, .int .i64 b, .fn 188 [] [.cellp [.int .i64 r, .int .i64 c, .ints .arg .u64 l], .cellp [.int .i64 p, .int .i64 q, .ints .arg .u64 m]]] (Aa.of.Mul.out [.i a, .i b, .i r, .i c, .l l, .i p, .i q, .l m])) : Aa.of.Mul.Kn :=
  Ak (Az hk _ _ _) Tryz.func187 (by kernel_rfl) (by kernel_rfl) h
def Aa.Eh.A7 : List (Nat × Entry) := [(187, Aa.of.Eh.spec), (204, Aa.size.spec)]
def Aa.Eh.E : Env := Bb (A5 Aa.Eh.A7) (fun _ => false) (fun _ => none) (fun _ => none)
theorem Aa.Eh.ev (N : Nat) (n : Int) : Bx Aa.Eh.E N Tryz.f218 (An Tryz.f218) [.int .i64 n] = bif (!(Bw n)) then some (.tup [.agg [.int .i64 0, .int .i64 0, .nil], .int .i64 3]) else bif ((Bw n && Bw n)) then some (.tup [.agg [.int .i64 n, .int .i64 n, .ints .fresh .u64 (Cd (Int.toNat n) (Int.toNat n) (fun j1 j2 => Mt j1 j2))], .int .i64 0]) else none := by kernel_rfl
abbrev _root_.Go.Proofs.S1.Aa.Eh.Kn := A3 Tryz.prog 218 Aa.Eh.spec
theorem Aa.Eh.Ac (hk : Ay Tryz.prog Aa.Eh.A7) (h : ∀ (n : Int), Aa.Eh.pre [.i n] = true → Bc Aa.Eh.E Tryz.f218 [.int .i64 n] (Aa.Eh.out [.i n])) : Aa.Eh.Kn :=
  Ak (Az hk _ _ _) Tryz.func218 (by kernel_rfl) (by kernel_rfl) h
def Aa.Cl.A7 : List (Nat × Entry) := [(160, Aa.Check.spec), (187, Aa.of.Cl.spec)]
def Aa.Cl.E : Env := Bb (A5 Aa.Cl.A7) (fun _ => false) (fun _ => none) (fun _ => none)
theorem Aa.Cl.ev (N : Nat) (r c : Int) (l : List Int) : Bx Aa.Cl.E N Tryz.f167 (An Tryz.f167) [.agg [.int .i64 r, .int .i64 c, .ints .arg .u64 l]] = bif ((Kh r c l) != (0 : Int)) then some (.tup [.agg [.int .i64 0, .int .i64 0, .nil], .int .i64 (Kh r c l)]) else bif ((Bw c && Bw r) && A9 r c l && decide (c = c ∧ r = r)) then some (.tup [.agg [.int .i64 c, .int .i64 r, .ints .fresh .u64 (Cd (Int.toNat c) (Int.toNat r) (fun j1 j2 => D0 c l j2 j1))], .int .i64 0]) else none := by kernel_rfl
abbrev _root_.Go.Proofs.S1.Aa.Cl.Kn := A3 Tryz.prog 167 Aa.Cl.spec
theorem Aa.Cl.Ac (hk : Ay Tryz.prog Aa.Cl.A7) (h : ∀ (r c : Int) (l : List Int), Aa.Cl.pre [.i r, .i c, .l l] = true → Bc Aa.Cl.E Tryz.f167 [.agg [.int .i64 r, .int .i64 c, .ints .arg .u64 l]] (Aa.Cl.out [.i r, .i c, .l l])) : Aa.Cl.Kn :=
  Ak (Az hk _ _ _) Tryz.func167 (by kernel_rfl) (by kernel_rfl) h
def Aa.Part.A7 : List (Nat × Entry) := [(160, Aa.Check.spec), (187, Aa.of.Part.spec)]
def Aa.Part.E : Env := Bb (A5 Aa.Part.A7) (fun _ => false) (fun _ => none) (fun _ => none)
theorem Aa.Part.ev (N : Nat) (r c : Int) (l : List Int) (x y : Int) (a b : Int) : Bx Aa.Part.E N Tryz.f124 (An Tryz.f124) [.agg [.int .i64 r, .int .i64 c, .ints .arg .u64 l], .int .i64 x, .int .i64 y, .int .i64 a, .int .i64 b] = bif ((Kh r c l) != (0 : Int)) then some (.tup [.agg [.int .i64 0, .int .i64 0, .nil], .int .i64 (Kh r c l)]) else bif ((((((((A4 x (0 : Int)) || (A4 y (0 : Int))) || (A4 a (0 : Int))) || (A4 b (0 : Int))) || (A4 r x)) || (A4 c y)) || (A4 (Ab (r - x)) a)) || (A4 (Ab (c - y)) b)) then some (.tup [.agg [.int .i64 0, .int .i64 0, .nil], .int .i64 3]) else bif ((Bw a && Bw b) && A9 r c l && Hi r c x y a b) then some (.tup [.agg [.int .i64 a, .int .i64 b, .ints .fresh .u64 (Cd (Int.toNat a) (Int.toNat b) (fun j1 j2 => D0 c l (x + j1) (y + j2)))], .int .i64 0]) else none :=
  Eq.trans (by kernel_rfl)
  (Ee rfl (Ax (tt30 (A4 x (0 : Int))) (Ax (tt29 (A4 x (0 : Int))) (Ax (tt28 (A4 x (0 : Int))) (Ax (Aqm (A4 x (0 : Int)) (A4 y (0 : Int))) (Ax (Aqn (A4 x (0 : Int)) (A4 y (0 : Int))) (Ax (An6 (A4 x (0 : Int)) (A4 y (0 : Int))) (Ax (Aqo (A4 x (0 : Int)) (A4 y (0 : Int)) (A4 a (0 : Int))) (Ax (Aqp (A4 x (0 : Int)) (A4 y (0 : Int)) (A4 a (0 : Int))) (Ax (Aqq (A4 x (0 : Int)) (A4 y (0 : Int)) (A4 a (0 : Int))) (Ax (Aks (A4 x (0 : Int)) (A4 y (0 : Int)) (A4 a (0 : Int)) (A4 b (0 : Int))) (Ax (Aks (A4 x (0 : Int)) (A4 y (0 : Int)) (A4 a (0 : Int)) (A4 b (0 : Int))) (Ax (Akt (A4 x (0 : Int)) (A4 y (0 : Int)) (A4 a (0 : Int)) (A4 b (0 : Int))) (Ax (Ae9 (A4 x (0 : Int)) (A4 y (0 : Int)) (A4 a (0 : Int)) (A4 b (0 : Int))) (Ax (Ah8 (A4 x (0 : Int)) (A4 y (0 : Int)) (A4 a (0 : Int)) (A4 b (0 : Int))) (Ax (Afa (A4 x (0 : Int)) (A4 y (0 : Int)) (A4 a (0 : Int)) (A4 b (0 : Int)) (A4 r x)) (Ax (Afa (A4 x (0 : Int)) (A4 y (0 : Int)) (A4 a (0 : Int)) (A4 b (0 : Int)) (A4 r x)) (Ax (Pn (A4 x (0 : Int)) (A4 y (0 : Int)) (A4 a (0 : Int)) (A4 b (0 : Int)) (A4 r x)) (Ax (Jh (A4 x (0 : Int)) (A4 y (0 : Int)) (A4 a (0 : Int)) (A4 b (0 : Int)) (A4 r x)) (Ax (Oi (A4 x (0 : Int)) (A4 y (0 : Int)) (A4 a (0 : Int)) (A4 b (0 : Int)) (A4 r x)) (Ax (J9 (A4 x (0 : Int)) (A4 y (0 : Int)) (A4 a (0 : Int)) (A4 b (0 : Int)) (A4 r x) (A4 c y)) (Ax (J9 (A4 x (0 : Int)) (A4 y (0 : Int)) (A4 a (0 : Int)) (A4 b (0 : Int)) (A4 r x) (A4 c y)) (Ax (Mr (A4 x (0 : Int)) (A4 y (0 : Int)) (A4 a (0 : Int)) (A4 b (0 : Int)) (A4 r x) (A4 c y)) (Ax (J9 (A4 x (0 : Int)) (A4 y (0 : Int)) (A4 a (0 : Int)) (A4 b (0 : Int)) (A4 r x) (A4 c y)) (Ax (I1 (A4 x (0 : Int)) (A4 y (0 : Int)) (A4 a (0 : Int)) (A4 b (0 : Int)) (A4 r x) (A4 c y)) (Ax (I1 (A4 x (0 : Int)) (A4 y (0 : Int)) (A4 a (0 : Int)) (A4 b (0 : Int)) (A4 r x) (A4 c y)) (Ax (Hx (A4 x (0 : Int)) (A4 y (0 : Int)) (A4 a (0 : Int)) (A4 b (0 : Int)) (A4 r x) (A4 c y)) (Ax (Pm (A4 x (0 : Int)) (A4 y (0 : Int)) (A4 a (0 : Int)) (A4 b (0 : Int)) (A4 r x) (A4 c y) (A4 (Ab (r - x)) a)) (Ax (Pm (A4 x (0 : Int)) (A4 y (0 : Int)) (A4 a (0 : Int)) (A4 b (0 : Int)) (A4 r x) (A4 c y) (A4 (Ab (r - x)) a)) (Ax (Sp (A4 x (0 : Int)) (A4 y (0 : Int)) (A4 a (0 : Int)) (A4 b (0 : Int)) (A4 r x) (A4 c y) (A4 (Ab (r - x)) a)) (Ax (Pm (A4 x (0 : Int)) (A4 y (0 : Int)) (A4 a (0 : Int)) (A4 b (0 : Int)) (A4 r x) (A4 c y) (A4 (Ab (r - x)) a)) (Ax (Lx (A4 x (0 : Int)) (A4 y (0 : Int)) (A4 a (0 : Int)) (A4 b (0 : Int)) (A4 r x) (A4 c y) (A4 (Ab (r - x)) a)) (Ax (Lx (A4 x (0 : Int)) (A4 y (0 : Int)) (A4 a (0 : Int)) (A4 b (0 : Int)) (A4 r x) (A4 c y) (A4 (Ab (r - x)) a)) (Ax (Ld (A4 x (0 : Int)) (A4 y (0 : Int)) (A4 a (0 : Int)) (A4 b (0 : Int)) (A4 r x) (A4 c y) (A4 (Ab (r - x)) a)) (Cx (Jg (A4 x (0 : Int)) (A4 y (0 : Int)) (A4 a (0 : Int)) (A4 b (0 : Int)) (A4 r x) (A4 c y) (A4 (Ab (r - x)) a) (A4 (Ab (c - y)) b)) rfl rfl)))))))))))))))))))))))))))))))))))
abbrev _root_.Go.Proofs.S1.Aa.Part.Kn := A3 Tryz.prog 124 Aa.Part.spec
theorem Aa.Part.Ac (hk : Ay Tryz.prog Aa.Part.A7) (h : ∀ (r c : Int) (l : List Int) (x y : Int) (a b : Int), Aa.Part.pre [.i r, .i c, .l l, .i x, .i y, .i a, .i b] = true → Bc Aa.Part.E Tryz.f124 [.agg [.int .i64 r, .int .i64 c, .ints .arg .u64 l], .int .i64 x, .int .i64 y, .int .i64 a, .int .i64 b] (Aa.Part.out [.i r, .i c, .l l, .i x, .i y, .i a, .i b])) : Aa.Part.Kn :=
  Ak (Az hk _ _ _) Tryz.func124 (by kernel_rfl) (by kernel_rfl) h
def Aa.Mul.A7 : List (Nat × Entry) := [(187, Aa.of.Mul.spec), (186, Aa.two.spec)]
def Aa.Mul.E : Env := Bb (A5 Aa.Mul.A7) (fun _ => false) (fun _ => none) (fun _ => none)
theorem Aa.Mul.ev (N : Nat) (r c : Int) (l : List Int) (p q : Int) (m : List Int) : Bx Aa.Mul.E N Tryz.f123 (An Tryz.f123) [.agg [.int .i64 r, .int .i64 c, .ints .arg .u64 l], .agg [.int .i64 p, .int .i64 q, .ints .arg .u64 m]] = bif ((Aas r c l p q m) != (0 : Int)) then some (.tup [.agg [.int .i64 0, .int .i64 0, .nil], .int .i64 (Aas r c l p q m)]) else bif (c != p) then some (.tup [.agg [.int .i64 0, .int .i64 0, .nil], .int .i64 3]) else bif ((Bw r && Bw q) && ((A9 r c l && A9 p q m) && (Al l && Al m)) && decide (r = r ∧ q = q ∧ c = p)) then some (.tup [.agg [.int .i64 r, .int .i64 q, .ints .fresh .u64 (Cd (Int.toNat r) (Int.toNat q) (fun j1 j2 => It (Gn c l j1) (J7 p q m j2)))], .int .i64 0]) else none := by kernel_rfl
abbrev _root_.Go.Proofs.S1.Aa.Mul.Kn := A3 Tryz.prog 123 Aa.Mul.spec
theorem Aa.Mul.Ac (hk : Ay Tryz.prog Aa.Mul.A7) (h : ∀ (r c : Int) (l : List Int) (p q : Int) (m : List Int), Aa.Mul.pre [.i r, .i c, .l l, .i p, .i q, .l m] = true → Bc Aa.Mul.E Tryz.f123 [.agg [.int .i64 r, .int .i64 c, .ints .arg .u64 l], .agg [.int .i64 p, .int .i64 q, .ints .arg .u64 m]] (Aa.Mul.out [.i r, .i c, .l l, .i p, .i q, .l m])) : Aa.Mul.Kn :=
  Ak (Az hk _ _ _) Tryz.func123 (by kernel_rfl) (by kernel_rfl) h
end EqOf
open EqOf
theorem of.Bz.inner (N : Nat)  {A B : Nat} (hA : A ≤ 6) (hB : B ≤ 6) {F : Nat → Nat → Int} (hF : ∀ i j : Nat, F i j = (0 : Int)) {i : Nat} (hi : i < A) : ∀ (k j M0 M : Nat), j + k = B → k < M →
    Aa.of.Bz.L1 N M0 M (A : Int) (B : Int) (i : Int) (i : Int) (j : Int) (Cd i B F ++ (List.range j).map (F i)) = Aa.of.Bz.L0 N M0 (A : Int) (B : Int) ((i + 1 : Nat) : Int) (Cd (i + 1) B F) := by
  intro k
  induction k with
  | zero =>
    intro j M0 M hj hM
    obtain ⟨M, rfl⟩ : ∃ G, M = G + 1 := ⟨M - 1, by omega⟩
    obtain rfl : j = B := by omega
    rw [Aa.of.Bz.B5, Ar, As7 (by omega), As6, Am (by omega) (by omega), ← Oa]
    rfl
  | succ k ih =>
    intro j M0 M hj hM
    obtain ⟨M, rfl⟩ : ∃ G, M = G + 1 := ⟨M - 1, by omega⟩
    have d : decide ((Cd i B F ++ (List.range j).map (F i)).length + 1 ≤ Hc) = true := by
      refine As3 ?_
      have := Nat.mul_le_mul (show i ≤ 6 by omega) hB
      rw [List.length_append, Ci, List.length_map, List.length_range]; unfold Hc; omega
    rw [Aa.of.Bz.B5, Ar, As3 (by omega), As2, d, As2, Am (by omega) (by omega), ← hF i j]
    have := ih (j + 1) M0 M (by omega) (by omega)
    rw [Io, ← List.append_assoc] at this
    exact this
theorem of.Bz.outer (N : Nat)  {A B : Nat} (hA : A ≤ 6) (hB : B ≤ 6) (hN : 6 < N) {F : Nat → Nat → Int} (hF : ∀ i j : Nat, F i j = (0 : Int)) : ∀ (k i M : Nat), i + k = A → k < M →
    Aa.of.Bz.L0 N M (A : Int) (B : Int) (i : Int) (Cd i B F) = some (.agg [.int .i64 (A : Int), .int .i64 (B : Int), .ints (.own 108002 tB) .u64 (Cd A B F)]) := by
  intro k
  induction k with
  | zero =>
    intro i M hi hM
    obtain ⟨M, rfl⟩ : ∃ G, M = G + 1 := ⟨M - 1, by omega⟩
    obtain rfl : i = A := by omega
    rw [Aa.of.Bz.As, Ar, As7 (by omega), As6]
  | succ k ih =>
    intro i M hi hM
    obtain ⟨M, rfl⟩ : ∃ G, M = G + 1 := ⟨M - 1, by omega⟩
    have n := of.Bz.inner N hA hB hF (show i < A by omega) B 0 M N (by omega) (by omega)
    rw [List.range_zero, List.map_nil, List.append_nil] at n
    rw [Aa.of.Bz.As, Ar, As3 (by omega), As2]
    exact n.trans (ih (i + 1) M (by omega) (by omega))
theorem of.Eh.inner (N : Nat)  {A B : Nat} (hA : A ≤ 6) (hB : B ≤ 6) {F : Nat → Nat → Int} (hF : ∀ i j : Nat, F i j = Mt (i : Int) (j : Int)) {i : Nat} (hi : i < A) : ∀ (k j M0 M : Nat), j + k = B → k < M →
    Aa.of.Eh.L1 N M0 M (A : Int) (B : Int) (i : Int) (i : Int) (j : Int) (Cd i B F ++ (List.range j).map (F i)) = Aa.of.Eh.L0 N M0 (A : Int) (B : Int) ((i + 1 : Nat) : Int) (Cd (i + 1) B F) := by
  intro k
  induction k with
  | zero =>
    intro j M0 M hj hM
    obtain ⟨M, rfl⟩ : ∃ G, M = G + 1 := ⟨M - 1, by omega⟩
    obtain rfl : j = B := by omega
    rw [Aa.of.Eh.B5, Ar, As7 (by omega), As6, Am (by omega) (by omega), ← Oa]
    rfl
  | succ k ih =>
    intro j M0 M hj hM
    obtain ⟨M, rfl⟩ : ∃ G, M = G + 1 := ⟨M - 1, by omega⟩
    have d : decide ((Cd i B F ++ (List.range j).map (F i)).length + 1 ≤ Hc) = true := by
      refine As3 ?_
      have := Nat.mul_le_mul (show i ≤ 6 by omega) hB
      rw [List.length_append, Ci, List.length_map, List.length_range]; unfold Hc; omega
    rw [Aa.of.Eh.B5, Ar, As3 (by omega), As2, d, As2, Am (by omega) (by omega), ← hF i j]
    have := ih (j + 1) M0 M (by omega) (by omega)
    rw [Io, ← List.append_assoc] at this
    exact this
theorem of.Eh.outer (N : Nat)  {A B : Nat} (hA : A ≤ 6) (hB : B ≤ 6) (hN : 6 < N) {F : Nat → Nat → Int} (hF : ∀ i j : Nat, F i j = Mt (i : Int) (j : Int)) : ∀ (k i M : Nat), i + k = A → k < M →
    Aa.of.Eh.L0 N M (A : Int) (B : Int) (i : Int) (Cd i B F) = some (.agg [.int .i64 (A : Int), .int .i64 (B : Int), .ints (.own 108002 tB) .u64 (Cd A B F)]) := by
  intro k
  induction k with
  | zero =>
    intro i M hi hM
    obtain ⟨M, rfl⟩ : ∃ G, M = G + 1 := ⟨M - 1, by omega⟩
    obtain rfl : i = A := by omega
    rw [Aa.of.Eh.As, Ar, As7 (by omega), As6]
  | succ k ih =>
    intro i M hi hM
    obtain ⟨M, rfl⟩ : ∃ G, M = G + 1 := ⟨M - 1, by omega⟩
    have n := of.Eh.inner N hA hB hF (show i < A by omega) B 0 M N (by omega) (by omega)
    rw [List.range_zero, List.map_nil, List.append_nil] at n
    rw [Aa.of.Eh.As, Ar, As3 (by omega), As2]
    exact n.trans (ih (i + 1) M (by omega) (by omega))
theorem Aa.of.Eh.known : Aa.of.Eh.Kn := Aa.of.Eh.Ac (.cons Aa.Hu.known .nil) fun a b hp => by
  have h1 : (Bw a && Bw b) = true := hp
  obtain ⟨ha, hb⟩ := Ad.1 h1
  obtain ⟨A, rfl, hA⟩ := Fu ha
  obtain ⟨B, rfl, hB⟩ := Fu hb
  refine ⟨8, .agg [.int .i64 (A : Int), .int .i64 (B : Int), .ints (.own 108002 tB) .u64 (Cd A B fun (i j : Nat) => Mt (i : Int) (j : Int))], [108002], ?_, Wk.G3 (.cons .int (.cons .int (.cons (.drop _ _ _ _ (List.mem_singleton.2 rfl)) .nil)))⟩
  rw [Aa.of.Eh.ev]
  have n := of.Eh.outer 8 hA hB (by omega) (F := fun (i j : Nat) => Mt (i : Int) (j : Int)) (fun _ _ => rfl) A 0 8 (by omega) (by omega)
  rw [N9] at n
  exact n
theorem of.Cl.inner (N : Nat) (r c : Int) (l : List Int) {A B : Nat} (hA : A ≤ 6) (hB : B ≤ 6) {F : Nat → Nat → Int} (hF : ∀ i j : Nat, F i j = D0 c l (j : Int) (i : Int)) {i : Nat} (hi : i < A) (hp : ∀ j : Nat, j < B → Cy r c l (j : Int) (i : Int) = true) : ∀ (k j M0 M : Nat), j + k = B → k < M →
    Aa.of.Cl.L1 N M0 M (A : Int) (B : Int) r c l (i : Int) (i : Int) (j : Int) (Cd i B F ++ (List.range j).map (F i)) = Aa.of.Cl.L0 N M0 (A : Int) (B : Int) r c l ((i + 1 : Nat) : Int) (Cd (i + 1) B F) := by
  intro k
  induction k with
  | zero =>
    intro j M0 M hj hM
    obtain ⟨M, rfl⟩ : ∃ G, M = G + 1 := ⟨M - 1, by omega⟩
    obtain rfl : j = B := by omega
    rw [Aa.of.Cl.B5, Ar, As7 (by omega), As6, Am (by omega) (by omega), ← Oa]
    rfl
  | succ k ih =>
    intro j M0 M hj hM
    obtain ⟨M, rfl⟩ : ∃ G, M = G + 1 := ⟨M - 1, by omega⟩
    have d : decide ((Cd i B F ++ (List.range j).map (F i)).length + 1 ≤ Hc) = true := by
      refine As3 ?_
      have := Nat.mul_le_mul (show i ≤ 6 by omega) hB
      rw [List.length_append, Ci, List.length_map, List.length_range]; unfold Hc; omega
    rw [Aa.of.Cl.B5, Ar, As3 (by omega), As2, hp j (by omega), As2, d, As2, Am (by omega) (by omega), ← hF i j]
    have := ih (j + 1) M0 M (by omega) (by omega)
    rw [Io, ← List.append_assoc] at this
    exact this
theorem of.Cl.outer (N : Nat) (r c : Int) (l : List Int) {A B : Nat} (hA : A ≤ 6) (hB : B ≤ 6) (hN : 6 < N) {F : Nat → Nat → Int} (hF : ∀ i j : Nat, F i j = D0 c l (j : Int) (i : Int)) (hp : ∀ i j : Nat, i < A → j < B → Cy r c l (j : Int) (i : Int) = true) : ∀ (k i M : Nat), i + k = A → k < M →
    Aa.of.Cl.L0 N M (A : Int) (B : Int) r c l (i : Int) (Cd i B F) = some (.agg [.int .i64 (A : Int), .int .i64 (B : Int), .ints (.own 108002 tB) .u64 (Cd A B F)]) := by
  intro k
  induction k with
  | zero =>
    intro i M hi hM
    obtain ⟨M, rfl⟩ : ∃ G, M = G + 1 := ⟨M - 1, by omega⟩
    obtain rfl : i = A := by omega
    rw [Aa.of.Cl.As, Ar, As7 (by omega), As6]
  | succ k ih =>
    intro i M hi hM
    obtain ⟨M, rfl⟩ : ∃ G, M = G + 1 := ⟨M - 1, by omega⟩
    have n := of.Cl.inner N r c l hA hB hF (show i < A by omega) (fun j hj => hp i j (by omega) hj) B 0 M N (by omega) (by omega)
    rw [List.range_zero, List.map_nil, List.append_nil] at n
    rw [Aa.of.Cl.As, Ar, As3 (by omega), As2]
    exact n.trans (ih (i + 1) M (by omega) (by omega))
theorem Aa.of.Cl.known : Aa.of.Cl.Kn := Aa.of.Cl.Ac (.cons Aa.Fe.known .nil) fun a b r c l hp => by
  obtain ⟨h12, hy⟩ := Ad.1 (show (((Bw a && Bw b) && A9 r c l) && decide (a = c ∧ b = r)) = true from hp)
  obtain ⟨h1, hx⟩ := Ad.1 h12
  have h2 := Ad.2 ⟨hx, hy⟩
  obtain ⟨ha, hb⟩ := Ad.1 h1
  obtain ⟨A, rfl, hA⟩ := Fu ha
  obtain ⟨B, rfl, hB⟩ := Fu hb
  obtain ⟨hr, he⟩ := Ad.1 h2
  obtain ⟨e1, e2⟩ := of_decide_eq_true he
  have hp : ∀ i j : Nat, i < A → j < B → Cy r c l (j : Int) (i : Int) = true := fun i j hi hj => Qi hr (by omega) (by omega) (by omega) (by omega) r
  refine ⟨8, .agg [.int .i64 (A : Int), .int .i64 (B : Int), .ints (.own 108002 tB) .u64 (Cd A B fun (i j : Nat) => D0 c l (j : Int) (i : Int))], [108002], ?_, Wk.G3 (.cons .int (.cons .int (.cons (.drop _ _ _ _ (List.mem_singleton.2 rfl)) .nil)))⟩
  rw [Aa.of.Cl.ev]
  have n := of.Cl.outer 8 r c l hA hB (by omega) (F := fun (i j : Nat) => D0 c l (j : Int) (i : Int)) (fun _ _ => rfl) hp A 0 8 (by omega) (by omega)
  rw [N9] at n
  exact n
theorem of.Part.inner (N : Nat) (r c : Int) (l : List Int) (x y : Int) {A B : Nat} (hA : A ≤ 6) (hB : B ≤ 6) {F : Nat → Nat → Int} (hF : ∀ i j : Nat, F i j = D0 c l (x + (i : Int)) (y + (j : Int))) {i : Nat} (hi : i < A) (hp : ∀ j : Nat, j < B → (Cy r c l (x + (i : Int)) (y + (j : Int)) && Ug x y (i : Int) (j : Int)) = true) : ∀ (k j M0 M : Nat), j + k = B → k < M →
    Aa.of.Part.L1 N M0 M (A : Int) (B : Int) r c l x y (i : Int) (i : Int) (j : Int) (Cd i B F ++ (List.range j).map (F i)) = Aa.of.Part.L0 N M0 (A : Int) (B : Int) r c l x y ((i + 1 : Nat) : Int) (Cd (i + 1) B F) := by
  intro k
  induction k with
  | zero =>
    intro j M0 M hj hM
    obtain ⟨M, rfl⟩ : ∃ G, M = G + 1 := ⟨M - 1, by omega⟩
    obtain rfl : j = B := by omega
    rw [Aa.of.Part.B5, Ar, As7 (by omega), As6, Am (by omega) (by omega), ← Oa]
    rfl
  | succ k ih =>
    intro j M0 M hj hM
    obtain ⟨M, rfl⟩ : ∃ G, M = G + 1 := ⟨M - 1, by omega⟩
    have d : decide ((Cd i B F ++ (List.range j).map (F i)).length + 1 ≤ Hc) = true := by
      refine As3 ?_
      have := Nat.mul_le_mul (show i ≤ 6 by omega) hB
      rw [List.length_append, Ci, List.length_map, List.length_range]; unfold Hc; omega
    rw [Aa.of.Part.B5, Ar, As3 (by omega), As2, hp j (by omega), As2, d, As2, Am (by omega) (by omega), ← hF i j]
    have := ih (j + 1) M0 M (by omega) (by omega)
    rw [Io, ← List.append_assoc] at this
    exact this
theorem of.Part.outer (N : Nat) (r c : Int) (l : List Int) (x y : Int) {A B : Nat} (hA : A ≤ 6) (hB : B ≤ 6) (hN : 6 < N) {F : Nat → Nat → Int} (hF : ∀ i j : Nat, F i j = D0 c l (x + (i : Int)) (y + (j : Int))) (hp : ∀ i j : Nat, i < A → j < B → (Cy r c l (x + (i : Int)) (y + (j : Int)) && Ug x y (i : Int) (j : Int)) = true) : ∀ (k i M : Nat), i + k = A → k < M →
    Aa.of.Part.L0 N M (A : Int) (B : Int) r c l x y (i : Int) (Cd i B F) = some (.agg [.int .i64 (A : Int), .int .i64 (B : Int), .ints (.own 108002 tB) .u64 (Cd A B F)]) := by
  intro k
  induction k with
  | zero =>
    intro i M hi hM
    obtain ⟨M, rfl⟩ : ∃ G, M = G + 1 := ⟨M - 1, by omega⟩
    obtain rfl : i = A := by omega
    rw [Aa.of.Part.As, Ar, As7 (by omega), As6]
  | succ k ih =>
    intro i M hi hM
    obtain ⟨M, rfl⟩ : ∃ G, M = G + 1 := ⟨M - 1, by omega⟩
    have n := of.Part.inner N r c l x y hA hB hF (show i < A by omega) (fun j hj => hp i j (by omega) hj) B 0 M N (by omega) (by omega)
    rw [List.range_zero, List.map_nil, List.append_nil] at n
    rw [Aa.of.Part.As, Ar, As3 (by omega), As2]
    exact n.trans (ih (i + 1) M (by omega) (by omega))
theorem Aa.of.Part.known : Aa.of.Part.Kn := Aa.of.Part.Ac (.cons Aa.Fg.known .nil) fun a b r c l x y hp => by
  obtain ⟨h12, hy⟩ := Ad.1 (show (((Bw a && Bw b) && A9 r c l) && Hi r c x y a b) = true from hp)
  obtain ⟨h1, hx⟩ := Ad.1 h12
  have h2 := Ad.2 ⟨hx, hy⟩
  obtain ⟨ha, hb⟩ := Ad.1 h1
  obtain ⟨A, rfl, hA⟩ := Fu ha
  obtain ⟨B, rfl, hB⟩ := Fu hb
  obtain ⟨hr, he⟩ := Ad.1 h2
  have he := of_decide_eq_true he
  have hs := Ka.1 hr
  have hp : ∀ i j : Nat, i < A → j < B → (Cy r c l (x + (i : Int)) (y + (j : Int)) && Ug x y (i : Int) (j : Int)) = true := fun i j hi hj =>
    Ad.2 ⟨Qi hr (by omega) (by omega) (by omega) (by omega) r, Av.2 (by omega)⟩
  refine ⟨8, .agg [.int .i64 (A : Int), .int .i64 (B : Int), .ints (.own 108002 tB) .u64 (Cd A B fun (i j : Nat) => D0 c l (x + (i : Int)) (y + (j : Int)))], [108002], ?_, Wk.G3 (.cons .int (.cons .int (.cons (.drop _ _ _ _ (List.mem_singleton.2 rfl)) .nil)))⟩
  rw [Aa.of.Part.ev]
  have n := of.Part.outer 8 r c l x y hA hB (by omega) (F := fun (i j : Nat) => D0 c l (x + (i : Int)) (y + (j : Int))) (fun _ _ => rfl) hp A 0 8 (by omega) (by omega)
  rw [N9] at n
  exact n
theorem of.Mul.inner (N : Nat) (r c : Int) (l : List Int) (p q : Int) (m : List Int) {A B : Nat} (hA : A ≤ 6) (hB : B ≤ 6) {F : Nat → Nat → Int} (hF : ∀ i j : Nat, F i j = It (Gn c l (i : Int)) (J7 p q m (j : Int))) {i : Nat} (hi : i < A) (hp : ∀ j : Nat, j < B → R6 r c l p q m (i : Int) (j : Int) = true) : ∀ (k j M0 M : Nat), j + k = B → k < M →
    Aa.of.Mul.L1 N M0 M (A : Int) (B : Int) r c l p q m (i : Int) (i : Int) (j : Int) (Cd i B F ++ (List.range j).map (F i)) = Aa.of.Mul.L0 N M0 (A : Int) (B : Int) r c l p q m ((i + 1 : Nat) : Int) (Cd (i + 1) B F) := by
  intro k
  induction k with
  | zero =>
    intro j M0 M hj hM
    obtain ⟨M, rfl⟩ : ∃ G, M = G + 1 := ⟨M - 1, by omega⟩
    obtain rfl : j = B := by omega
    rw [Aa.of.Mul.B5, Ar, As7 (by omega), As6, Am (by omega) (by omega), ← Oa]
    rfl
  | succ k ih =>
    intro j M0 M hj hM
    obtain ⟨M, rfl⟩ : ∃ G, M = G + 1 := ⟨M - 1, by omega⟩
    have d : decide ((Cd i B F ++ (List.range j).map (F i)).length + 1 ≤ Hc) = true := by
      refine As3 ?_
      have := Nat.mul_le_mul (show i ≤ 6 by omega) hB
      rw [List.length_append, Ci, List.length_map, List.length_range]; unfold Hc; omega
    rw [Aa.of.Mul.B5, Ar, As3 (by omega), As2, hp j (by omega), As2, d, As2, Am (by omega) (by omega), ← hF i j]
    have := ih (j + 1) M0 M (by omega) (by omega)
    rw [Io, ← List.append_assoc] at this
    exact this
theorem of.Mul.outer (N : Nat) (r c : Int) (l : List Int) (p q : Int) (m : List Int) {A B : Nat} (hA : A ≤ 6) (hB : B ≤ 6) (hN : 6 < N) {F : Nat → Nat → Int} (hF : ∀ i j : Nat, F i j = It (Gn c l (i : Int)) (J7 p q m (j : Int))) (hp : ∀ i j : Nat, i < A → j < B → R6 r c l p q m (i : Int) (j : Int) = true) : ∀ (k i M : Nat), i + k = A → k < M →
    Aa.of.Mul.L0 N M (A : Int) (B : Int) r c l p q m (i : Int) (Cd i B F) = some (.agg [.int .i64 (A : Int), .int .i64 (B : Int), .ints (.own 108002 tB) .u64 (Cd A B F)]) := by
  intro k
  induction k with
  | zero =>
    intro i M hi hM
    obtain ⟨M, rfl⟩ : ∃ G, M = G + 1 := ⟨M - 1, by omega⟩
    obtain rfl : i = A := by omega
    rw [Aa.of.Mul.As, Ar, As7 (by omega), As6]
  | succ k ih =>
    intro i M hi hM
    obtain ⟨M, rfl⟩ : ∃ G, M = G + 1 := ⟨M - 1, by omega⟩
    have n := of.Mul.inner N r c l p q m hA hB hF (show i < A by omega) (fun j hj => hp i j (by omega) hj) B 0 M N (by omega) (by omega)
    rw [List.range_zero, List.map_nil, List.append_nil] at n
    rw [Aa.of.Mul.As, Ar, As3 (by omega), As2]
    exact n.trans (ih (i + 1) M (by omega) (by omega))
theorem Aa.of.Mul.known : Aa.of.Mul.Kn := Aa.of.Mul.Ac (.cons Aa.Hq.known .nil) fun a b r c l p q m hp => by
  obtain ⟨h12, hy⟩ := Ad.1 (show (((Bw a && Bw b) && ((A9 r c l && A9 p q m) && (Al l && Al m))) && decide (a = r ∧ b = q ∧ c = p)) = true from hp)
  obtain ⟨h1, hx⟩ := Ad.1 h12
  have h2 := Ad.2 ⟨hx, hy⟩
  obtain ⟨ha, hb⟩ := Ad.1 h1
  obtain ⟨A, rfl, hA⟩ := Fu ha
  obtain ⟨B, rfl, hB⟩ := Fu hb
  obtain ⟨h3, he⟩ := Ad.1 h2
  obtain ⟨h4, h5⟩ := Ad.1 h3
  obtain ⟨hr, hm⟩ := Ad.1 h4
  obtain ⟨e1, e2, e3⟩ := of_decide_eq_true he
  have hp : ∀ i j : Nat, i < A → j < B → R6 r c l p q m (i : Int) (j : Int) = true := fun i j hi hj =>
    Ad.2 ⟨Ad.2 ⟨Ad.2 ⟨hr, Av.2 (by omega)⟩, Ad.2 ⟨hm, Av.2 (by omega)⟩⟩, Ad.2 ⟨h5, Av.2 e3⟩⟩
  refine ⟨8, .agg [.int .i64 (A : Int), .int .i64 (B : Int), .ints (.own 108002 tB) .u64 (Cd A B fun (i j : Nat) => It (Gn c l (i : Int)) (J7 p q m (j : Int)))], [108002], ?_, Wk.G3 (.cons .int (.cons .int (.cons (.drop _ _ _ _ (List.mem_singleton.2 rfl)) .nil)))⟩
  rw [Aa.of.Mul.ev]
  have n := of.Mul.outer 8 r c l p q m hA hB (by omega) (F := fun (i j : Nat) => It (Gn c l (i : Int)) (J7 p q m (j : Int))) (fun _ _ => rfl) hp A 0 8 (by omega) (by omega)
  rw [N9] at n
  exact n
open EqOf
def W7 (x : MX) : DV := .tup [.agg [.int .i64 x.1, .int .i64 x.2.1, .ints .fresh .u64 x.2.2.1], .int .i64 x.2.2.2]
def Aos (e : Int) : DV := .tup [.agg [.int .i64 0, .int .i64 0, .nil], .int .i64 e]
theorem Ry {drops : List Nat} {x : MX} : Wk drops (W7 x) (W7 x) :=
  Wk.Gm (.cons (Wk.G3 (.cons .int (.cons .int (.cons .P5 .nil)))) (.cons .int .nil))
theorem L8 {drops : List Nat} {e : Int} : Wk drops (Aos e) (W7 (Nh e)) :=
  Wk.Gm (.cons (Wk.G3 (.cons .int (.cons .int (.cons (.nil _ _) .nil)))) (.cons .int .nil))
theorem Aa.Eh.known : Aa.Eh.Kn := Aa.Eh.Ac (.cons Aa.of.Eh.known (.cons Aa.size.known .nil)) fun n _ => by
  show ∃ N dv drops, _ = some dv ∧ Wk drops dv (W7 (Mi n))
  unfold Mi
  by_cases h : Bw n = true
  · rw [if_pos h]
    exact ⟨0, _, [], by rw [Aa.Eh.ev, h]; rfl, Ry⟩
  · have e : Bw n = false := by simpa using h
    rw [if_neg h]
    exact ⟨0, _, [], by rw [Aa.Eh.ev, e]; rfl, L8⟩
theorem Ja {r c : Int} {l : List Int} (h : A9 r c l = true) : Bw r = true ∧ Bw c = true := by
  obtain ⟨h1, h2, _⟩ := Ka.1 h
  exact ⟨Il.2 h1, Il.2 h2⟩
theorem Aa.Cl.known : Aa.Cl.Kn := Aa.Cl.Ac (.cons Aa.Check.known (.cons Aa.of.Cl.known .nil)) fun r c l _ => by
  show ∃ N dv drops, _ = some dv ∧ Wk drops dv (W7 (Ft r c l))
  unfold Ft
  by_cases h : A9 r c l = true
  · obtain ⟨h1, h2⟩ := Ja h
    rw [if_pos h]
    exact ⟨0, _, [], by rw [Aa.Cl.ev, Sg, h, h1, h2, As3 ⟨rfl, rfl⟩]; rfl, Ry⟩
  · have e : A9 r c l = false := by simpa using h
    have ec : Kh r c l = 1 := by unfold Kh; rw [e]; rfl
    rw [if_neg h]
    exact ⟨0, _, [], by rw [Aa.Cl.ev, Sg, e, ec]; rfl, L8⟩
theorem Zo {r c x y a b : Int} (hr : 0 ≤ r ∧ r ≤ 6) (hc : 0 ≤ c ∧ c ≤ 6) :
    ((((((((A4 x (0 : Int)) || (A4 y (0 : Int))) || (A4 a (0 : Int))) || (A4 b (0 : Int))) || (A4 r x)) || (A4 c y)) || (A4 (Ab (r - x)) a)) || (A4 (Ab (c - y)) b)) = !(Hi r c x y a b) := by
  unfold Hi
  simp only [Ar]
  by_cases h : 0 ≤ x ∧ 0 ≤ y ∧ x ≤ r ∧ y ≤ c
  · rw [Am (x := r - x) (by omega) (by omega), Am (x := c - y) (by omega) (by omega), Ati]
    simp only [Bool.or_eq_true, As9, Bool.not_eq_true', Atl]
    omega
  · have e : decide (0 ≤ x ∧ 0 ≤ y ∧ 0 ≤ a ∧ 0 ≤ b ∧ x ≤ r ∧ y ≤ c ∧ a ≤ r - x ∧ b ≤ c - y) = false := As7 (by omega)
    rw [e, Ati]
    simp only [Bool.or_eq_true, As9, Bool.not_false, iff_true]
    omega
theorem W6 {r c x y a b : Int} {l : List Int} (h : A9 r c l = true) (hp : Hi r c x y a b = true) : Bw a = true ∧ Bw b = true := by
  obtain ⟨h1, h2, _⟩ := Ka.1 h
  have := of_decide_eq_true hp
  exact ⟨Il.2 (by omega), Il.2 (by omega)⟩
theorem Aa.Part.known : Aa.Part.Kn := Aa.Part.Ac (.cons Aa.Check.known (.cons Aa.of.Part.known .nil)) fun r c l x y a b _ => by
  show ∃ N dv drops, _ = some dv ∧ Wk drops dv (W7 (Jb r c l x y a b))
  unfold Jb
  by_cases h : A9 r c l = true
  · obtain ⟨h1, h2, _⟩ := Ka.1 h
    by_cases hp : Hi r c x y a b = true
    · obtain ⟨s1, s2⟩ := W6 h hp
      rw [if_pos h, if_pos hp]
      exact ⟨0, _, [], by rw [Aa.Part.ev, Sg, Zo h1 h2, h, hp, s1, s2]; rfl, Ry⟩
    · have e : Hi r c x y a b = false := by simpa using hp
      rw [if_pos h, if_neg hp]
      exact ⟨0, _, [], by rw [Aa.Part.ev, Sg, Zo h1 h2, h, e]; rfl, L8⟩
  · have e : A9 r c l = false := by simpa using h
    have ec : Kh r c l = 1 := by unfold Kh; rw [e]; rfl
    rw [if_neg h]
    exact ⟨0, _, [], by rw [Aa.Part.ev, Sg, e, ec]; rfl, L8⟩
theorem Ae8 (r c : Int) (l : List Int) (p q : Int) (m : List Int) : ((Aas r c l p q m) != (0 : Int)) = !(A9 r c l && A9 p q m) := by
  unfold Aas
  cases A9 r c l && A9 p q m <;> rfl
theorem Aqk {r c : Int} {l : List Int} {p q : Int} {m : List Int} (h : (A9 r c l && A9 p q m) = false) : Aas r c l p q m = 1 := by
  unfold Aas; rw [h]; rfl
theorem Aa.Mul.known : Aa.Mul.Kn := Aa.Mul.Ac (.cons Aa.of.Mul.known (.cons Aa.two.known .nil)) fun r c l p q m hp => by
  show ∃ N dv drops, _ = some dv ∧ Wk drops dv (W7 (Tm r c l p q m))
  unfold Tm
  have hp : (Al l && Al m) = true := hp
  by_cases h : (A9 r c l && A9 p q m) = true
  · obtain ⟨h1, h2⟩ := Ad.1 h
    by_cases hc : c = p
    · have e : (c != p) = false := by rw [hc]; simp
      rw [if_pos h, if_pos hc]
      exact ⟨0, _, [], by rw [Aa.Mul.ev, Ae8, h, e, (Ja h1).1, (Ja h2).2, hp, As3 ⟨rfl, rfl, hc⟩]; rfl, Ry⟩
    · have e : (c != p) = true := by simpa using hc
      rw [if_pos h, if_neg hc]
      exact ⟨0, _, [], by rw [Aa.Mul.ev, Ae8, h, e]; rfl, L8⟩
  · have e : (A9 r c l && A9 p q m) = false := by simpa using h
    rw [if_neg h]
    exact ⟨0, _, [], by rw [Aa.Mul.ev, Ae8, e, Aqk e]; rfl, L8⟩
namespace EqRef10
theorem E3 : ∀ a b c d : Bool, (((!(bif (bif (bif a then b else false) then c else false) then d else false)) || ((bif (bif (bif a then b else false) then c else false) then d else false) == true)) && true) = true := by decide
theorem Jn : ∀ a b c d : Bool, ((!((bif (bif (bif a then b else false) then c else false) then d else false) == true)) || ((((!((bif (bif (bif a then b else false) then c else false) then d else false) == true)) || ((bif (bif (bif a then b else false) then c else false) then d else false) == true)) && (((!((bif (bif (bif a then b else false) then c else false) then d else false) == true)) || ((bif (bif (bif a then b else false) then c else false) then d else false) == true)) && true)) && true)) = true := by decide
theorem Iw : ∀ a b c d : Bool, ((!((bif (bif (bif a then b else false) then c else false) then d else false) == true)) || ((((!((bif (bif (bif a then b else false) then c else false) then d else false) == true)) || ((bif (bif (bif a then b else false) then c else false) then d else false) == true)) && true) && true)) = true := by decide
theorem Ia : ∀ a b c d : Bool, ((!((bif (bif (bif a then b else false) then c else false) then d else false) == true)) || true) = true := by decide
theorem Gd : ∀ a b c : Bool, (((!(bif (bif a then b else false) then c else false)) || ((bif (bif a then b else false) then c else false) == true)) && true) = true := by decide
theorem Jg : ∀ a b c : Bool, ((!((bif (bif a then b else false) then c else false) == true)) || ((((!((bif (bif a then b else false) then c else false) == true)) || ((bif (bif a then b else false) then c else false) == true)) && true) && true)) = true := by decide
theorem Ld : ∀ a b c : Bool, ((!((bif (bif a then b else false) then c else false) == true)) || true) = true := by decide
theorem Lx : ∀ a b : Bool, (((!(bif a then b else false)) || ((bif a then b else false) == true)) && true) = true := by decide
theorem Pm : ∀ a b : Bool, ((!((bif a then b else false) == true)) || ((((!((bif a then b else false) == true)) || ((bif a then b else false) == true)) && true) && true)) = true := by decide
theorem Sp : ∀ a b : Bool, ((!((bif a then b else false) == true)) || true) = true := by decide
theorem Hx : ∀ a : Bool, (((!a) || (a == true)) && true) = true := by decide
theorem I1 : ∀ a : Bool, ((!(a == true)) || ((((!(a == true)) || (a == true)) && true) && true)) = true := by decide
theorem J9 : ∀ a : Bool, ((!(a == true)) || true) = true := by decide
theorem Mr : ∀ a b c : Bool, ((!((bif a then b else false) == true)) || ((((!((bif a then b else false) == true)) || ((bif a then b else false) == true)) && (((!((bif a then b else false) == true)) || ((bif a then b else false) == true)) && true)) && c)) = ((!(a && b)) || c) := by decide
theorem Oi : ∀ a : Bool, ((!(a == true)) || ((((!(a == true)) || (a == true)) && (((!(a == true)) || (a == true)) && true)) && true)) = true := by decide
theorem Jh : ∀ a : Bool, (a && true) = a := by decide
theorem Pn : ∀ a b c d : Bool, (((a && b) && (c && d)) && true) = ((a && b) && (c && d)) := by decide
def Ah.Hp.A7 : List (Nat × Entry) := []
def Ah.Hp.E : Env := Bb (A5 Ah.Hp.A7) (fun _ => false) (fun _ => none) (fun _ => none)
theorem Ah.Hp.ev (N : Nat) (r c : Int) (l : List Int) : Bx Ah.Hp.E N Tryz.f91 (An Tryz.f91) [.agg [.int .i64 r, .int .i64 c, .ints .arg .u64 l]] = some (.bool (bif (bif (bif (bif (D2 (0 : Int) r) then (D2 r (6 : Int)) else false) then (D2 (0 : Int) c) else false) then (D2 c (6 : Int)) else false) then ((List.length l : Int) == (Ab (r * c))) else false)) :=
  Eq.trans (by kernel_rfl)
  (Ax (J9 (D2 (0 : Int) r)) (Ax (I1 (D2 (0 : Int) r)) (Ax (I1 (D2 (0 : Int) r)) (Ax (Hx (D2 (0 : Int) r)) (Ax (Sp (D2 (0 : Int) r) (D2 r (6 : Int))) (Ax (Pm (D2 (0 : Int) r) (D2 r (6 : Int))) (Ax (Pm (D2 (0 : Int) r) (D2 r (6 : Int))) (Ax (Lx (D2 (0 : Int) r) (D2 r (6 : Int))) (Ax (Ld (D2 (0 : Int) r) (D2 r (6 : Int)) (D2 (0 : Int) c)) (Ax (Jg (D2 (0 : Int) r) (D2 r (6 : Int)) (D2 (0 : Int) c)) (Ax (Jg (D2 (0 : Int) r) (D2 r (6 : Int)) (D2 (0 : Int) c)) (Ax (Gd (D2 (0 : Int) r) (D2 r (6 : Int)) (D2 (0 : Int) c)) (Ax (Ia (D2 (0 : Int) r) (D2 r (6 : Int)) (D2 (0 : Int) c) (D2 c (6 : Int))) (Ax (Iw (D2 (0 : Int) r) (D2 r (6 : Int)) (D2 (0 : Int) c) (D2 c (6 : Int))) (Ax (Iw (D2 (0 : Int) r) (D2 r (6 : Int)) (D2 (0 : Int) c) (D2 c (6 : Int))) (Ax (Ia (D2 (0 : Int) r) (D2 r (6 : Int)) (D2 (0 : Int) c) (D2 c (6 : Int))) (Ax (Iw (D2 (0 : Int) r) (D2 r (6 : Int)) (D2 (0 : Int) c) (D2 c (6 : Int))) (Ax (Ia (D2 (0 : Int) r) (D2 r (6 : Int)) (D2 (0 : Int) c) (D2 c (6 : Int))) (Ax (Iw (D2 (0 : Int) r) (D2 r (6 : Int)) (D2 (0 : Int) c) (D2 c (6 : Int))) (Ax (Jn (D2 (0 : Int) r) (D2 r (6 : Int)) (D2 (0 : Int) c) (D2 c (6 : Int))) (Ax (Jn (D2 (0 : Int) r) (D2 r (6 : Int)) (D2 (0 : Int) c) (D2 c (6 : Int))) (Ax (E3 (D2 (0 : Int) r) (D2 r (6 : Int)) (D2 (0 : Int) c) (D2 c (6 : Int))) rfl))))))))))))))))))))))
abbrev _root_.Go.Proofs.S1.Ah.Hp.Kn := A3 Tryz.prog 91 Ah.Hp.spec
theorem Ah.Hp.Ac (hk : Ay Tryz.prog Ah.Hp.A7) (h : ∀ (r c : Int) (l : List Int), Ah.Hp.pre [.i r, .i c, .l l] = true → Bc Ah.Hp.E Tryz.f91 [.agg [.int .i64 r, .int .i64 c, .ints .arg .u64 l]] (Ah.Hp.out [.i r, .i c, .l l])) : Ah.Hp.Kn :=
  Ak (Az hk _ _ _) Tryz.func91 (by kernel_rfl) (by kernel_rfl) h
def Ah.At.A7 : List (Nat × Entry) := []
def Ah.At.E : Env := Bb (A5 Ah.At.A7) (fun _ => false) (fun _ => none) (fun _ => none)
theorem Ah.At.ev (N : Nat) (r c : Int) (l : List Int) (i k : Int) : Bx Ah.At.E N Tryz.f80 (An Tryz.f80) [.agg [.int .i64 r, .int .i64 c, .ints .arg .u64 l], .int .i64 i, .int .i64 k] = bif ((decide (0 ≤ (Ab ((Ab (i * c)) + k)))) && (decide ((Ab ((Ab (i * c)) + k)) < (List.length l : Int)))) then some (.int .u64 (List.getD l (Int.toNat (Ab ((Ab (i * c)) + k))) 0)) else none := by kernel_rfl
abbrev _root_.Go.Proofs.S1.Ah.At.Kn := A3 Tryz.prog 80 Ah.At.spec
theorem Ah.At.Ac (hk : Ay Tryz.prog Ah.At.A7) (h : ∀ (r c : Int) (l : List Int) (i k : Int), Ah.At.pre [.i r, .i c, .l l, .i i, .i k] = true → Bc Ah.At.E Tryz.f80 [.agg [.int .i64 r, .int .i64 c, .ints .arg .u64 l], .int .i64 i, .int .i64 k] (Ah.At.out [.i r, .i c, .l l, .i i, .i k])) : Ah.At.Kn :=
  Ak (Az hk _ _ _) Tryz.func80 (by kernel_rfl) (by kernel_rfl) h
def Ah.Bz.A7 : List (Nat × Entry) := []
def Ah.Bz.E : Env := Bb (A5 Ah.Bz.A7) (fun _ => false) (fun _ => none) (fun _ => none)
theorem Ah.Bz.ev (N : Nat) (a b : Int) : Bx Ah.Bz.E N Tryz.f35 (An Tryz.f35) [.int .i64 a, .int .i64 b] = bif (((decide ((0 : Int) ≤ (Ab (a * b)))) && (decide ((Ab (a * b)) ≤ (Ab (a * b))))) && (decide ((Ab (a * b)) ≤ Hc))) then some (.agg [.int .i64 a, .int .i64 b, .ints (.own 10 37) .u64 (List.replicate (Int.toNat (Ab (a * b))) (0 : Int))]) else none := by kernel_rfl
abbrev _root_.Go.Proofs.S1.Ah.Bz.Kn := A3 Tryz.prog 35 Ah.Bz.spec
theorem Ah.Bz.Ac (hk : Ay Tryz.prog Ah.Bz.A7) (h : ∀ (a b : Int), Ah.Bz.pre [.i a, .i b] = true → Bc Ah.Bz.E Tryz.f35 [.int .i64 a, .int .i64 b] (Ah.Bz.out [.i a, .i b])) : Ah.Bz.Kn :=
  Ak (Az hk _ _ _) Tryz.func35 (by kernel_rfl) (by kernel_rfl) h
def Ah.Fq.A7 : List (Nat × Entry) := []
def Ah.Fq.E : Env := Bb (A5 Ah.Fq.A7) (fun _ => false) (fun _ => none) (fun _ => none)
theorem Ah.Fq.ev (N : Nat) (r c : Int) (l : List Int) (i k b : Int) : Bx Ah.Fq.E N Tryz.f83 (An Tryz.f83) [.agg [.int .i64 r, .int .i64 c, .ints .arg .u64 l], .int .i64 i, .int .i64 k, .int .u64 b] = bif (decide (0 + (List.length l) ≤ Hc)) then bif ((decide (0 ≤ (Ab ((Ab (i * c)) + k)))) && (decide ((Ab ((Ab (i * c)) + k)) < (List.length ([] ++ l) : Int)))) then bif (decide ((Int.toNat (Ab ((Ab (i * c)) + k))) < (List.length ([] ++ l)))) then some (.agg [.int .i64 r, .int .i64 c, .ints (.own 13 37) .u64 (List.set ([] ++ l) (Int.toNat (Ab ((Ab (i * c)) + k))) b)]) else none else none else none := by kernel_rfl
abbrev _root_.Go.Proofs.S1.Ah.Fq.Kn := A3 Tryz.prog 83 Ah.Fq.spec
theorem Ah.Fq.Ac (hk : Ay Tryz.prog Ah.Fq.A7) (h : ∀ (r c : Int) (l : List Int) (i k b : Int), Ah.Fq.pre [.i r, .i c, .l l, .i i, .i k, .i b] = true → Bc Ah.Fq.E Tryz.f83 [.agg [.int .i64 r, .int .i64 c, .ints .arg .u64 l], .int .i64 i, .int .i64 k, .int .u64 b] (Ah.Fq.out [.i r, .i c, .l l, .i i, .i k, .i b])) : Ah.Fq.Kn :=
  Ak (Az hk _ _ _) Tryz.func83 (by kernel_rfl) (by kernel_rfl) h
def Ah.Eh.hint : Nat → Option Ba
  | 0 => some { keep := [0, 2, 3, 4], objs := [], boxes := [2, 3] }
  | _ => none
def Ah.Eh.A7 : List (Nat × Entry) := [(83, Ah.Fq.spec), (35, Ah.Bz.spec)]
def Ah.Eh.E : Env := Bb (A5 Ah.Eh.A7) (fun _ => false) Ah.Eh.hint (fun _ => none)
def Ah.Eh.L0 (N M : Nat) (n p4 : Int) (p3 : List Int) : Option DV := B0 Ah.Eh.E N Tryz.f33 (An Tryz.f33) [1, 1, 0, 1, 0] [] M ⟨F7 18 [(0, .int .i64 n), (2, .ptr 2 0 0), (3, .ptr 3 0 0), (4, .int .i64 p4)], [(2, false, .box [.int .i64 0, .int .i64 0, .nil]), (3, false, .box [.int .i64 n, .int .i64 n, .ints .fresh .u64 p3])]⟩
theorem Ah.Eh.As (N M : Nat) (n p4 : Int) (p3 : List Int) : Ah.Eh.L0 N (M + 1) n p4 p3 = bif (A4 p4 n) then bif (Cy n n p3 p4 p4) then Ah.Eh.L0 N M n (Ab (p4 + (1 : Int))) (List.set p3 (Int.toNat (p4 * n + p4)) (4607182418800017408 : Int)) else none else some (.agg [.int .i64 n, .int .i64 n, .ints .fresh .u64 p3]) := by kernel_rfl
theorem Ah.Eh.ev (N : Nat) (n : Int) : Bx Ah.Eh.E N Tryz.f33 (An Tryz.f33) [.int .i64 n] = bif (Bw n && Bw n) then Ah.Eh.L0 N N n (0 : Int) (Cd (Int.toNat n) (Int.toNat n) (fun _ _ => 0)) else none := by kernel_rfl
abbrev _root_.Go.Proofs.S1.Ah.Eh.Kn := A3 Tryz.prog 33 Ah.Eh.spec
theorem Ah.Eh.Ac (hk : Ay Tryz.prog Ah.Eh.A7) (h : ∀ (n : Int), Ah.Eh.pre [.i n] = true → Bc Ah.Eh.E Tryz.f33 [.int .i64 n] (Ah.Eh.out [.i n])) : Ah.Eh.Kn :=
  Ak (Az hk _ _ _) Tryz.func33 (by kernel_rfl) (by kernel_rfl) h
def Ah.Eb.A7 : List (Nat × Entry) := [(99, Ai.Eb.spec)]
def Ah.Eb.E : Env := Bb (A5 Ah.Eb.A7) (fun _ => false) (fun _ => none) (fun _ => none)
theorem Ah.Eb.ev (N : Nat) (r c : Int) (l : List Int) (p q : Int) (m : List Int) : Bx Ah.Eb.E N Tryz.f31 (An Tryz.f31) [.agg [.int .i64 r, .int .i64 c, .ints .arg .u64 l], .agg [.int .i64 p, .int .i64 q, .ints .arg .u64 m]] = bif ((!((r == p) && (c == q))) || (Gr l)) then some (.bool (bif (bif (r == p) then (c == q) else false) then (S7 l m) else false)) else none :=
  Eq.trans (by kernel_rfl)
  (Ax (J9 (r == p)) (Ax (I1 (r == p)) (Ax (J9 (r == p)) (Ax (I1 (r == p)) (Ax (Oi (r == p)) (Ax (Hx (r == p)) (Ax (Sp (r == p) (c == q)) (Ax (Pm (r == p) (c == q)) (Ax (Sp (r == p) (c == q)) (Ax (Pm (r == p) (c == q)) (Cx (Mr (r == p) (c == q) (Gr l)) (Ax (Lx (r == p) (c == q)) rfl) rfl)))))))))))
abbrev _root_.Go.Proofs.S1.Ah.Eb.Kn := A3 Tryz.prog 31 Ah.Eb.spec
theorem Ah.Eb.Ac (hk : Ay Tryz.prog Ah.Eb.A7) (h : ∀ (r c : Int) (l : List Int) (p q : Int) (m : List Int), Ah.Eb.pre [.i r, .i c, .l l, .i p, .i q, .l m] = true → Bc Ah.Eb.E Tryz.f31 [.agg [.int .i64 r, .int .i64 c, .ints .arg .u64 l], .agg [.int .i64 p, .int .i64 q, .ints .arg .u64 m]] (Ah.Eb.out [.i r, .i c, .l l, .i p, .i q, .l m])) : Ah.Eb.Kn :=
  Ak (Az hk _ _ _) Tryz.func31 (by kernel_rfl) (by kernel_rfl) h
def Ah.Row.A7 : List (Nat × Entry) := []
def Ah.Row.E : Env := Bb (A5 Ah.Row.A7) (fun _ => false) (fun _ => none) (fun _ => none)
theorem Ah.Row.ev (N : Nat) (r c : Int) (l : List Int) (i : Int) : Bx Ah.Row.E N Tryz.f107 (An Tryz.f107) [.agg [.int .i64 r, .int .i64 c, .ints .arg .u64 l], .int .i64 i] = bif (((decide ((0 : Int) ≤ (Ab (i * c)))) && (decide ((Ab (i * c)) ≤ (Ab ((Ab (i + (1 : Int))) * c))))) && ((decide ((0 : Int) ≤ (Ab ((Ab (i + (1 : Int))) * c)))) && (decide ((Ab ((Ab (i + (1 : Int))) * c)) ≤ (List.length l : Int))))) then some (.ints .arg .u64 (List.drop (Int.toNat (Ab (i * c))) (List.take (Int.toNat (Ab ((Ab (i + (1 : Int))) * c))) l))) else none :=
  Eq.trans (by kernel_rfl)
  (Cx (Pn (decide ((0 : Int) ≤ (Ab (i * c)))) (decide ((Ab (i * c)) ≤ (Ab ((Ab (i + (1 : Int))) * c)))) (decide ((0 : Int) ≤ (Ab ((Ab (i + (1 : Int))) * c)))) (decide ((Ab ((Ab (i + (1 : Int))) * c)) ≤ (List.length l : Int)))) rfl rfl)
abbrev _root_.Go.Proofs.S1.Ah.Row.Kn := A3 Tryz.prog 107 Ah.Row.spec
theorem Ah.Row.Ac (hk : Ay Tryz.prog Ah.Row.A7) (h : ∀ (r c : Int) (l : List Int) (i : Int), Ah.Row.pre [.i r, .i c, .l l, .i i] = true → Bc Ah.Row.E Tryz.f107 [.agg [.int .i64 r, .int .i64 c, .ints .arg .u64 l], .int .i64 i] (Ah.Row.out [.i r, .i c, .l l, .i i])) : Ah.Row.Kn :=
  Ak (Az hk _ _ _) Tryz.func107 (by kernel_rfl) (by kernel_rfl) h
def Ah.Pg.hint : Nat → Option Ba
  | 0 => some { keep := [1, 3, 7, 8], objs := [(0, 7, 100007, .ints 37 .u64 [])], boxes := [3] }
  | _ => none
def Ah.Pg.A7 : List (Nat × Entry) := [(80, Ah.At.spec)]
def Ah.Pg.E : Env := Bb (A5 Ah.Pg.A7) (fun _ => false) Ah.Pg.hint (fun _ => none)
def Ah.Pg.L0 (N M : Nat) (r c : Int) (l : List Int) (k p8 : Int) (p7 : List Int) : Option DV := B0 Ah.Pg.E N Tryz.f108 (An Tryz.f108) [1, 1, 0, 1, 0] [] M ⟨F7 25 [(1, .int .i64 k), (3, .ptr 3 0 0), (7, .oref 100007), (8, .int .i64 p8)], [(3, false, .box [.int .i64 r, .int .i64 c, .ints .arg .u64 l]), (100007, false, .ints 37 .u64 p7)]⟩
theorem Ah.Pg.As (N M : Nat) (r c : Int) (l : List Int) (k p8 : Int) (p7 : List Int) : Ah.Pg.L0 N (M + 1) r c l k p8 p7 = bif (A4 p8 r) then bif (Cy r c l p8 k) then bif (decide ((List.length p7) + 1 ≤ Hc)) then Ah.Pg.L0 N M r c l k (Ab (p8 + (1 : Int))) (p7 ++ [(D0 c l p8 k)]) else none else none else some (.ints (.own 100007 37) .u64 p7) := by kernel_rfl
theorem Ah.Pg.ev (N : Nat) (r c : Int) (l : List Int) (k f : Int) : Bx Ah.Pg.E N Tryz.f108 (An Tryz.f108) [.agg [.int .i64 r, .int .i64 c, .ints .arg .u64 l], .int .i64 k, .int .i64 f] =
  Ah.Pg.L0 N N r c l k f [] := by kernel_rfl
abbrev _root_.Go.Proofs.S1.Ah.Pg.Kn := A3 Tryz.prog 108 Ah.Pg.spec
theorem Ah.Pg.Ac (hk : Ay Tryz.prog Ah.Pg.A7) (h : ∀ (r c : Int) (l : List Int) (k f : Int), Ah.Pg.pre [.i r, .i c, .l l, .i k, .i f] = true → Bc Ah.Pg.E Tryz.f108 [.agg [.int .i64 r, .int .i64 c, .ints .arg .u64 l], .int .i64 k, .int .i64 f] (Ah.Pg.out [.i r, .i c, .l l, .i k, .i f])) : Ah.Pg.Kn :=
  Ak (Az hk _ _ _) Tryz.func108 (by kernel_rfl) (by kernel_rfl) h
def Ah.Mul.hint : Nat → Option Ba
  | 0 => some { keep := [2, 3, 4, 5, 6], objs := [], boxes := [2, 3, 4, 5] }
  | 2 => some { keep := [2, 3, 4, 5, 6, 7], objs := [], boxes := [2, 3, 4, 5] }
  | _ => none
def Ah.Mul.A7 : List (Nat × Entry) := [(118, Ai.Hg.spec), (108, Ah.Pg.spec), (107, Ah.Row.spec), (83, Ah.Fq.spec), (35, Ah.Bz.spec)]
def Ah.Mul.E : Env := Bb (A5 Ah.Mul.A7) (fun _ => false) Ah.Mul.hint (fun _ => none)
def Ah.Mul.L0 (N M : Nat) (r c : Int) (l : List Int) (p q : Int) (m : List Int) (p6 : Int) (p5_1 : List Int) : Option DV := B0 Ah.Mul.E N Tryz.f45 (An Tryz.f45) [1, 1, 0, 1, 0] [] M ⟨F7 37 [(2, .ptr 2 0 0), (3, .ptr 3 0 0), (4, .ptr 4 0 0), (5, .ptr 5 0 0), (6, .int .i64 p6)], [(2, false, .box [.int .i64 r, .int .i64 c, .ints .arg .u64 l]), (3, false, .box [.int .i64 p, .int .i64 q, .ints .arg .u64 m]), (4, false, .box [.int .i64 0, .int .i64 0, .nil]), (5, false, .box [.int .i64 r, .int .i64 q, .ints .fresh .u64 p5_1])]⟩
def Ah.Mul.L1 (N M0 M : Nat) (r c : Int) (l : List Int) (p q : Int) (m : List Int) (p7 : Int) (p5 : List Int) (p6_1 : Int) : Option DV := B0 Ah.Mul.E N Tryz.f45 (An Tryz.f45) [1, 1, 0, 1, 0, 0, 1, 0, 0, 1, 0] [M0] M ⟨F7 37 [(2, .ptr 2 0 0), (3, .ptr 3 0 0), (4, .ptr 4 0 0), (5, .ptr 5 0 0), (6, .int .i64 p6_1), (7, .int .i64 p7)], [(2, false, .box [.int .i64 r, .int .i64 c, .ints .arg .u64 l]), (3, false, .box [.int .i64 p, .int .i64 q, .ints .arg .u64 m]), (4, false, .box [.int .i64 0, .int .i64 0, .nil]), (5, false, .box [.int .i64 r, .int .i64 q, .ints .fresh .u64 p5])]⟩
theorem Ah.Mul.As (N M : Nat) (r c : Int) (l : List Int) (p q : Int) (m : List Int) (p6 : Int) (p5_1 : List Int) : Ah.Mul.L0 N (M + 1) r c l p q m p6 p5_1 = bif (A4 p6 r) then Ah.Mul.L1 N M N r c l p q m (0 : Int) p5_1 p6 else some (.agg [.int .i64 r, .int .i64 q, .ints .fresh .u64 p5_1]) := by kernel_rfl
theorem Ah.Mul.B5 (N M0 M : Nat) (r c : Int) (l : List Int) (p q : Int) (m : List Int) (p7 : Int) (p5 : List Int) (p6_1 : Int) : Ah.Mul.L1 N M0 (M + 1) r c l p q m p7 p5 p6_1 = bif (A4 p7 q) then bif (Oq r c l p6_1) then bif (Gk p q m p7 && C3 (0 ≤ (0 : Int) ∧ (0 : Int) ≤ p)) then bif ((Oc (Gn c l p6_1) (Cn q m p7 (0 : Int) (Int.toNat (p - (0 : Int)))) && Al (Gn c l p6_1)) && Al (Cn q m p7 (0 : Int) (Int.toNat (p - (0 : Int))))) then bif (Cy r q p5 p6_1 p7) then Ah.Mul.L1 N M0 M r c l p q m (Ab (p7 + (1 : Int))) (List.set p5 (Int.toNat (p6_1 * q + p7)) (It (Gn c l p6_1) (Cn q m p7 (0 : Int) (Int.toNat (p - (0 : Int)))))) p6_1 else none else none else none else none else Ah.Mul.L0 N M0 r c l p q m (Ab (p6_1 + (1 : Int))) p5 :=
  Eq.trans (by kernel_rfl)
  (Ee (Cx (Jh (Oq r c l p6_1)) (Cx (Jh (Gk p q m p7 && C3 (0 ≤ (0 : Int) ∧ (0 : Int) ≤ p))) (Cx (Jh ((Oc (Gn c l p6_1) (Cn q m p7 (0 : Int) (Int.toNat (p - (0 : Int)))) && Al (Gn c l p6_1)) && Al (Cn q m p7 (0 : Int) (Int.toNat (p - (0 : Int)))))) (Cx (Jh (Cy r q p5 p6_1 p7)) rfl rfl) rfl) rfl) rfl) rfl)
theorem Ah.Mul.ev (N : Nat) (r c : Int) (l : List Int) (p q : Int) (m : List Int) : Bx Ah.Mul.E N Tryz.f45 (An Tryz.f45) [.agg [.int .i64 r, .int .i64 c, .ints .arg .u64 l], .agg [.int .i64 p, .int .i64 q, .ints .arg .u64 m]] = bif (Bw r && Bw q) then Ah.Mul.L0 N N r c l p q m (0 : Int) (Cd (Int.toNat r) (Int.toNat q) (fun _ _ => 0)) else none := by kernel_rfl
abbrev _root_.Go.Proofs.S1.Ah.Mul.Kn := A3 Tryz.prog 45 Ah.Mul.spec
theorem Ah.Mul.Ac (hk : Ay Tryz.prog Ah.Mul.A7) (h : ∀ (r c : Int) (l : List Int) (p q : Int) (m : List Int), Ah.Mul.pre [.i r, .i c, .l l, .i p, .i q, .l m] = true → Bc Ah.Mul.E Tryz.f45 [.agg [.int .i64 r, .int .i64 c, .ints .arg .u64 l], .agg [.int .i64 p, .int .i64 q, .ints .arg .u64 m]] (Ah.Mul.out [.i r, .i c, .l l, .i p, .i q, .l m])) : Ah.Mul.Kn :=
  Ak (Az hk _ _ _) Tryz.func45 (by kernel_rfl) (by kernel_rfl) h
def Ah.Cl.hint : Nat → Option Ba
  | 0 => some { keep := [1, 2, 3, 4], objs := [], boxes := [1, 2, 3] }
  | 2 => some { keep := [1, 2, 3, 4, 5], objs := [], boxes := [1, 2, 3] }
  | _ => none
def Ah.Cl.A7 : List (Nat × Entry) := [(80, Ah.At.spec), (83, Ah.Fq.spec), (35, Ah.Bz.spec)]
def Ah.Cl.E : Env := Bb (A5 Ah.Cl.A7) (fun _ => false) Ah.Cl.hint (fun _ => none)
def Ah.Cl.L0 (N M : Nat) (r c : Int) (l : List Int) (p4 : Int) (p3_1 : List Int) : Option DV := B0 Ah.Cl.E N Tryz.f37 (An Tryz.f37) [1, 1, 0, 1, 0] [] M ⟨F7 32 [(1, .ptr 1 0 0), (2, .ptr 2 0 0), (3, .ptr 3 0 0), (4, .int .i64 p4)], [(1, false, .box [.int .i64 r, .int .i64 c, .ints .arg .u64 l]), (2, false, .box [.int .i64 0, .int .i64 0, .nil]), (3, false, .box [.int .i64 c, .int .i64 r, .ints .fresh .u64 p3_1])]⟩
def Ah.Cl.L1 (N M0 M : Nat) (r c : Int) (l : List Int) (p5 : Int) (p3 : List Int) (p4_1 : Int) : Option DV := B0 Ah.Cl.E N Tryz.f37 (An Tryz.f37) [1, 1, 0, 1, 0, 0, 1, 0, 0, 1, 0] [M0] M ⟨F7 32 [(1, .ptr 1 0 0), (2, .ptr 2 0 0), (3, .ptr 3 0 0), (4, .int .i64 p4_1), (5, .int .i64 p5)], [(1, false, .box [.int .i64 r, .int .i64 c, .ints .arg .u64 l]), (2, false, .box [.int .i64 0, .int .i64 0, .nil]), (3, false, .box [.int .i64 c, .int .i64 r, .ints .fresh .u64 p3])]⟩
theorem Ah.Cl.As (N M : Nat) (r c : Int) (l : List Int) (p4 : Int) (p3_1 : List Int) : Ah.Cl.L0 N (M + 1) r c l p4 p3_1 = bif (A4 p4 r) then Ah.Cl.L1 N M N r c l (0 : Int) p3_1 p4 else some (.agg [.int .i64 c, .int .i64 r, .ints .fresh .u64 p3_1]) := by kernel_rfl
theorem Ah.Cl.B5 (N M0 M : Nat) (r c : Int) (l : List Int) (p5 : Int) (p3 : List Int) (p4_1 : Int) : Ah.Cl.L1 N M0 (M + 1) r c l p5 p3 p4_1 = bif (A4 p5 c) then bif (Cy r c l p4_1 p5) then bif (Cy c r p3 p5 p4_1) then Ah.Cl.L1 N M0 M r c l (Ab (p5 + (1 : Int))) (List.set p3 (Int.toNat (p5 * r + p4_1)) (D0 c l p4_1 p5)) p4_1 else none else none else Ah.Cl.L0 N M0 r c l (Ab (p4_1 + (1 : Int))) p3 :=
  Eq.trans (by kernel_rfl)
  (Ee (Cx (Jh (Cy r c l p4_1 p5)) (Cx (Jh (Cy c r p3 p5 p4_1)) rfl rfl) rfl) rfl)
theorem Ah.Cl.ev (N : Nat) (r c : Int) (l : List Int) : Bx Ah.Cl.E N Tryz.f37 (An Tryz.f37) [.agg [.int .i64 r, .int .i64 c, .ints .arg .u64 l]] = bif (Bw c && Bw r) then Ah.Cl.L0 N N r c l (0 : Int) (Cd (Int.toNat c) (Int.toNat r) (fun _ _ => 0)) else none := by kernel_rfl
abbrev _root_.Go.Proofs.S1.Ah.Cl.Kn := A3 Tryz.prog 37 Ah.Cl.spec
theorem Ah.Cl.Ac (hk : Ay Tryz.prog Ah.Cl.A7) (h : ∀ (r c : Int) (l : List Int), Ah.Cl.pre [.i r, .i c, .l l] = true → Bc Ah.Cl.E Tryz.f37 [.agg [.int .i64 r, .int .i64 c, .ints .arg .u64 l]] (Ah.Cl.out [.i r, .i c, .l l])) : Ah.Cl.Kn :=
  Ak (Az hk _ _ _) Tryz.func37 (by kernel_rfl) (by kernel_rfl) h
def Ah.Part.hint : Nat → Option Ba
  | 0 => some { keep := [1, 2, 3, 4, 5, 10, 11, 12], objs := [], boxes := [5, 10, 11] }
  | 2 => some { keep := [1, 2, 3, 4, 5, 10, 11, 12, 13], objs := [], boxes := [5, 10, 11] }
  | _ => none
def Ah.Part.A7 : List (Nat × Entry) := [(80, Ah.At.spec), (83, Ah.Fq.spec), (35, Ah.Bz.spec)]
def Ah.Part.E : Env := Bb (A5 Ah.Part.A7) (fun _ => false) Ah.Part.hint (fun _ => none)
def Ah.Part.L0 (N M : Nat) (r c : Int) (l : List Int) (x y : Int) (a b p12 : Int) (p11_1 : List Int) : Option DV := B0 Ah.Part.E N Tryz.f128 (An Tryz.f128) [1, 1, 0, 1, 0] [] M ⟨F7 40 [(1, .int .i64 x), (2, .int .i64 y), (3, .int .i64 a), (4, .int .i64 b), (5, .ptr 5 0 0), (10, .ptr 10 0 0), (11, .ptr 11 0 0), (12, .int .i64 p12)], [(5, false, .box [.int .i64 r, .int .i64 c, .ints .arg .u64 l]), (10, false, .box [.int .i64 0, .int .i64 0, .nil]), (11, false, .box [.int .i64 a, .int .i64 b, .ints .fresh .u64 p11_1])]⟩
def Ah.Part.L1 (N M0 M : Nat) (r c : Int) (l : List Int) (x y : Int) (a b p13 : Int) (p11 : List Int) (p12_1 : Int) : Option DV := B0 Ah.Part.E N Tryz.f128 (An Tryz.f128) [1, 1, 0, 1, 0, 0, 1, 0, 0, 1, 0] [M0] M ⟨F7 40 [(1, .int .i64 x), (2, .int .i64 y), (3, .int .i64 a), (4, .int .i64 b), (5, .ptr 5 0 0), (10, .ptr 10 0 0), (11, .ptr 11 0 0), (12, .int .i64 p12_1), (13, .int .i64 p13)], [(5, false, .box [.int .i64 r, .int .i64 c, .ints .arg .u64 l]), (10, false, .box [.int .i64 0, .int .i64 0, .nil]), (11, false, .box [.int .i64 a, .int .i64 b, .ints .fresh .u64 p11])]⟩
theorem Ah.Part.As (N M : Nat) (r c : Int) (l : List Int) (x y : Int) (a b p12 : Int) (p11_1 : List Int) : Ah.Part.L0 N (M + 1) r c l x y a b p12 p11_1 = bif (A4 p12 a) then Ah.Part.L1 N M N r c l x y a b (0 : Int) p11_1 p12 else some (.agg [.int .i64 a, .int .i64 b, .ints .fresh .u64 p11_1]) := by kernel_rfl
theorem Ah.Part.B5 (N M0 M : Nat) (r c : Int) (l : List Int) (x y : Int) (a b p13 : Int) (p11 : List Int) (p12_1 : Int) : Ah.Part.L1 N M0 (M + 1) r c l x y a b p13 p11 p12_1 = bif (A4 p13 b) then bif (Cy r c l (Ab (x + p12_1)) (Ab (y + p13))) then bif (Cy a b p11 p12_1 p13) then Ah.Part.L1 N M0 M r c l x y a b (Ab (p13 + (1 : Int))) (List.set p11 (Int.toNat (p12_1 * b + p13)) (D0 c l (Ab (x + p12_1)) (Ab (y + p13)))) p12_1 else none else none else Ah.Part.L0 N M0 r c l x y a b (Ab (p12_1 + (1 : Int))) p11 :=
  Eq.trans (by kernel_rfl)
  (Ee (Cx (Jh (Cy r c l (Ab (x + p12_1)) (Ab (y + p13)))) (Cx (Jh (Cy a b p11 p12_1 p13)) rfl rfl) rfl) rfl)
theorem Ah.Part.ev (N : Nat) (r c : Int) (l : List Int) (x y : Int) (a b : Int) : Bx Ah.Part.E N Tryz.f128 (An Tryz.f128) [.agg [.int .i64 r, .int .i64 c, .ints .arg .u64 l], .int .i64 x, .int .i64 y, .int .i64 a, .int .i64 b] = bif (Bw a && Bw b) then Ah.Part.L0 N N r c l x y a b (0 : Int) (Cd (Int.toNat a) (Int.toNat b) (fun _ _ => 0)) else none := by kernel_rfl
abbrev _root_.Go.Proofs.S1.Ah.Part.Kn := A3 Tryz.prog 128 Ah.Part.spec
theorem Ah.Part.Ac (hk : Ay Tryz.prog Ah.Part.A7) (h : ∀ (r c : Int) (l : List Int) (x y : Int) (a b : Int), Ah.Part.pre [.i r, .i c, .l l, .i x, .i y, .i a, .i b] = true → Bc Ah.Part.E Tryz.f128 [.agg [.int .i64 r, .int .i64 c, .ints .arg .u64 l], .int .i64 x, .int .i64 y, .int .i64 a, .int .i64 b] (Ah.Part.out [.i r, .i c, .l l, .i x, .i y, .i a, .i b])) : Ah.Part.Kn :=
  Ak (Az hk _ _ _) Tryz.func128 (by kernel_rfl) (by kernel_rfl) h
abbrev _root_.Go.Proofs.S1.Ah.Fq.arg.Kn : Prop := A3 Tryz.prog 83 Ah.Fq.arg.spec
abbrev _root_.Go.Proofs.S1.Ah.Eh.arg.Kn : Prop := A3 Tryz.prog 33 Ah.Eh.arg.spec
end EqRef10
open EqRef10
theorem Ah.Hp.known : Ah.Hp.Kn := Ah.Hp.Ac .nil fun r c l _ => by
  refine ⟨0, Ah.Hp.out [.i r, .i c, .l l], [], ?_, .bool⟩
  have e : (bif (bif (bif (bif (D2 (0 : Int) r) then (D2 r (6 : Int)) else false) then (D2 (0 : Int) c) else false) then (D2 c (6 : Int)) else false) then ((List.length l : Int) == (Ab (r * c))) else false) = A9 r c l := by
    have := Ael r c l
    have h : (bif (bif (bif (bif (D2 (0 : Int) r) then (D2 r (6 : Int)) else false) then (D2 (0 : Int) c) else false) then (D2 c (6 : Int)) else false) then ((List.length l : Int) == (Ab (r * c))) else false) = !(((!(Bw r)) || (!(Bw c))) || ((List.length l : Int) != (Ab (r * c)))) := by
      unfold Bw bne
      rw [D6, D6, D6, D6]
      cases decide (0 ≤ r) <;> cases decide (r ≤ 6) <;> cases decide (0 ≤ c) <;> cases decide (c ≤ 6) <;> cases ((List.length l : Int) == (Ab (r * c))) <;> rfl
    rw [h, this, Bool.not_not]
  rw [Ah.Hp.ev, e]; rfl
theorem Ah.At.known : Ah.At.Kn := Ah.At.Ac .nil fun r c l i k hp => by
  obtain ⟨e, h1, h2⟩ := Kp (R := r) (show Cy r c l i k = true from hp)
  refine ⟨0, Ah.At.out [.i r, .i c, .l l, .i i, .i k], [], ?_, .int⟩
  rw [Ah.At.ev, e, As3 h1, As3 h2]
  rfl
theorem Ae4 {drops : List Nat} {i : Nat} {e : TypeId} {a b : Int} {l : List Int} (h : i ∈ drops) : Wk drops (.agg [.int .i64 a, .int .i64 b, .ints (.own i e) .u64 l]) (.agg [.int .i64 a, .int .i64 b, .ints .fresh .u64 l]) :=
  Wk.G3 (.cons .int (.cons .int (.cons (.drop _ _ _ _ h) .nil)))
theorem Sq {drops : List Nat} {a b : Int} {l : List Int} : Wk drops (.agg [.int .i64 a, .int .i64 b, .ints .fresh .u64 l]) (.agg [.int .i64 a, .int .i64 b, .ints .fresh .u64 l]) :=
  Wk.G3 (.cons .int (.cons .int (.cons .P5 .nil)))
theorem Ah.Bz.known : Ah.Bz.Kn := Ah.Bz.Ac .nil fun a b hp => by
  obtain ⟨ha, hb⟩ := Ad.1 (show (Bw a && Bw b) = true from hp)
  obtain ⟨A, rfl, hA⟩ := Fu ha
  obtain ⟨B, rfl, hB⟩ := Fu hb
  have hm := I7 (a := (A : Int)) (b := (B : Int)) (by omega) (by omega) (by omega) (by omega)
  have e : ((A : Int) * (B : Int)).toNat = A * B := by rw [← Atn, As4]
  refine ⟨0, .agg [.int .i64 (A : Int), .int .i64 (B : Int), .ints (.own 10 tB) .u64 (Cd A B fun _ _ => 0)], [10], ?_, Ae4 (List.mem_singleton.2 rfl)⟩
  rw [Ah.Bz.ev, Am (by omega) (by omega), As3 hm.1, As3 (Int.le_refl _), As3 (show (A : Int) * (B : Int) ≤ (Hc : Int) by unfold Hc; omega), e, Af5]
  rfl
theorem Ah.Fq.known : Ah.Fq.Kn := Ah.Fq.Ac .nil fun r c l i k b hp => by
  obtain ⟨_, _, _, _, _, _, _, h8⟩ := Av.1 (show Cy r c l i k = true from hp)
  obtain ⟨e, g1, g2⟩ := Kp (R := r) (show Cy r c l i k = true from hp)
  refine ⟨0, .agg [.int .i64 r, .int .i64 c, .ints (.own 13 tB) .u64 (List.set l (i * c + k).toNat b)], [13], ?_, Ae4 (List.mem_singleton.2 rfl)⟩
  rw [Ah.Fq.ev, e, List.nil_append, As3 (show 0 + l.length ≤ Hc by unfold Hc; omega), As3 g1, As3 g2, As3 (show (i * c + k).toNat < l.length by omega)]
  rfl
theorem Aej {r c i k : Nat} (hk : k < c) {d d' : Nat → Nat → Bool} {f : Nat → Nat → Int} {x : Int} (hx : x = f i k)
    (h : ∀ a b, a < r → b < c → (d' a b = true ↔ d a b = true ∨ (a = i ∧ b = k))) :
    List.set (Cd r c fun a b => if d a b = true then f a b else 0) (Int.toNat ((i : Int) * (c : Int) + (k : Int))) x = Cd r c fun a b => if d' a b = true then f a b else 0 := by
  have e : ((i : Int) * (c : Int) + (k : Int)).toNat = i * c + k := by rw [← Atn, ← Int.natCast_add, As4]
  rw [e, Ty hk]
  refine Dz fun a b ha hb => ?_
  have h := h a b ha hb
  by_cases hab : a = i ∧ b = k
  · rw [if_pos hab, if_pos (h.2 (.inr hab)), hx, hab.1, hab.2]
  · rw [if_neg hab]
    by_cases hd : d a b = true
    · rw [if_pos hd, if_pos (h.2 (.inl hd))]
    · rw [if_neg hd, if_neg (fun k => (h.1 k).elim hd hab)]
theorem Aig (r c : Int) (l : List Int) (p q : Int) (m : List Int) : (bif (bif (r == p) then (c == q) else false) then (S7 l m) else false) = Im r c l p q m := by
  unfold Im S7
  have e1 : (r == p) = decide (r = p) := by rw [Ati]; simp
  have e2 : (c == q) = decide (c = q) := by rw [Ati]; simp
  rw [e1, e2]
  cases decide (r = p) <;> cases decide (c = q) <;> cases decide (l = m) <;> rfl
theorem Ah.Eb.known : Ah.Eb.Kn := Ah.Eb.Ac (.cons Ai.Eb.known .nil) fun r c l p q m hp => by
  have hp : Gr l = true := hp
  refine ⟨0, Ah.Eb.out [.i r, .i c, .l l, .i p, .i q, .l m], [], ?_, .bool⟩
  rw [Ah.Eb.ev, hp, Bool.or_true, As2, Aig]
  rfl
theorem Aba (N : Nat) {R C K f : Nat} {l : List Int} (r6 : R ≤ 6) (c6 : C ≤ 6) (hl : l.length = R * C) (hk : K < C) : ∀ (k i F : Nat), f + i + k = R → k < F →
    Ah.Pg.L0 N F (R : Int) (C : Int) l (K : Int) ((f + i : Nat) : Int) (Cn (C : Int) l (K : Int) (f : Int) i) = some (.ints (.own 100007 tB) .u64 (Cn (C : Int) l (K : Int) (f : Int) (R - f))) := by
  intro k
  induction k with
  | zero =>
    intro i F hi hF
    obtain ⟨F, rfl⟩ : ∃ G, F = G + 1 := ⟨F - 1, by omega⟩
    rw [Ah.Pg.As, Ar, As7 (by omega), As6, show R - f = i by omega]
  | succ k ih =>
    intro i F hi hF
    obtain ⟨F, rfl⟩ : ∃ G, F = G + 1 := ⟨F - 1, by omega⟩
    have d : decide ((Cn (C : Int) l (K : Int) (f : Int) i).length + 1 ≤ Hc) = true := As3 (by rw [Fv]; unfold Hc; omega)
    rw [Ah.Pg.As, Ar, As3 (by omega), As2, Di r6 c6 hl (show f + i < R by omega) hk, As2, d, As2, Am (by omega) (by omega)]
    have := ih (i + 1) F (by omega) (by omega)
    unfold Cn at this ⊢
    rw [List.range_succ, List.map_append] at this
    exact this
theorem Ah.Pg.known : Ah.Pg.Kn := Ah.Pg.Ac (.cons Ah.At.known .nil) fun r c l k f hp => by
  obtain ⟨h0, hf⟩ := Ad.1 (show (Gk r c l k && C3 (0 ≤ f ∧ f ≤ r)) = true from hp)
  have hf := Av.1 hf
  obtain ⟨hr, hi⟩ := Ad.1 h0
  have hi := Av.1 hi
  obtain ⟨R, C, rfl, rfl, r6, c6, hl⟩ := C0 hr
  obtain ⟨K, rfl⟩ : ∃ j : Nat, k = j := ⟨k.toNat, by omega⟩
  obtain ⟨f, rfl⟩ : ∃ j : Nat, f = j := ⟨f.toNat, by omega⟩
  refine ⟨8, .ints (.own 100007 tB) .u64 (Cn (C : Int) l (K : Int) (f : Int) (R - f)), [100007], ?_, ?_⟩
  · rw [Ah.Pg.ev]
    exact Aba 8 r6 c6 hl (by omega) (R - f) 0 8 (by omega) (by omega)
  · show Wk _ _ (DV.ints .fresh .u64 (Cn (C : Int) l (K : Int) (f : Int) (Int.toNat ((R : Int) - (f : Int)))))
    rw [show Int.toNat ((R : Int) - (f : Int)) = R - f by omega]
    exact .drop _ _ _ _ (List.mem_singleton.2 rfl)
theorem Ah.Row.known : Ah.Row.Kn := Ah.Row.Ac .nil fun r c l i hp => by
  obtain ⟨hr, hi⟩ := Ad.1 (show Oq r c l i = true from hp)
  have hi := Av.1 hi
  obtain ⟨R, C, rfl, rfl, r6, c6, hl⟩ := C0 hr
  obtain ⟨I, rfl⟩ : ∃ k : Nat, i = k := ⟨i.toNat, by omega⟩
  have hm := I7 (a := (I : Int)) (b := (C : Int)) (by omega) (by omega) (by omega) (by omega)
  have hm2 := I7 (a := (I : Int) + 1) (b := (C : Int)) (by omega) (by omega) (by omega) (by omega)
  have hle : (I + 1) * C ≤ R * C := Ate C (by omega)
  have hle2 : I * C ≤ (I + 1) * C := Ate C (by omega)
  have e1 : (I : Int) * (C : Int) = ((I * C : Nat) : Int) := (Atn _ _).symm
  have e2 : ((I : Int) + 1) * (C : Int) = (((I + 1) * C : Nat) : Int) := by rw [Atn]; rfl
  refine ⟨0, Ah.Row.out [.i (R : Int), .i (C : Int), .l l, .i (I : Int)], [], ?_, .Vw⟩
  rw [Ah.Row.ev, Am (x := (I : Int) + 1) (by omega) (by omega), Am (x := (I : Int) * (C : Int)) (by omega) (by omega), Am (x := ((I : Int) + 1) * (C : Int)) (by omega) (by omega)]
  have d1 : decide ((0 : Int) ≤ (I : Int) * (C : Int)) = true := As3 (by omega)
  have d2 : decide ((I : Int) * (C : Int) ≤ ((I : Int) + 1) * (C : Int)) = true := As3 (by rw [e1, e2]; omega)
  have d3 : decide ((0 : Int) ≤ ((I : Int) + 1) * (C : Int)) = true := As3 (by omega)
  have d4 : decide (((I : Int) + 1) * (C : Int) ≤ (l.length : Int)) = true := As3 (by rw [e2]; omega)
  rw [d1, d2, d3, d4]
  rfl
open EqRef10
def dR (i k a b : Nat) : Bool := decide (a < i ∨ (a = i ∧ b < k))
def dC (i k a b : Nat) : Bool := decide (b < i ∨ (b = i ∧ a < k))
def fill (r c : Nat) (f : Nat → Nat → Int) (d : Nat → Nat → Bool) : List Int := Cd r c fun a b => if d a b = true then f a b else 0
theorem M9 (r c : Nat) (f : Nat → Nat → Int) (d : Nat → Nat → Bool) : (fill r c f d).length = r * c := Ci _ _ _
theorem T0 {r c i k : Nat} (hk : k < c) {d d' : Nat → Nat → Bool} {f : Nat → Nat → Int} {x : Int} (hx : x = f i k) (h : ∀ a b, a < r → b < c → (d' a b = true ↔ d a b = true ∨ (a = i ∧ b = k))) :
    List.set (fill r c f d) (Int.toNat ((i : Int) * (c : Int) + (k : Int))) x = fill r c f d' := Aej hk hx h
theorem Sd {r c : Nat} {f : Nat → Nat → Int} {d d' : Nat → Nat → Bool} (h : ∀ a b, a < r → b < c → (d a b = true ↔ d' a b = true)) : fill r c f d = fill r c f d' := by
  refine Dz fun a b ha hb => ?_
  have := h a b ha hb
  by_cases hd : d a b = true
  · rw [if_pos hd, if_pos (this.1 hd)]
  · rw [if_neg hd, if_neg (fun k => hd (this.2 k))]
theorem X5 {r c : Nat} {f : Nat → Nat → Int} {d : Nat → Nat → Bool} (h : ∀ a b, a < r → b < c → d a b = true) : fill r c f d = Cd r c f :=
  Dz fun a b ha hb => by rw [if_pos (h a b ha hb)]
theorem Q8 {r c : Nat} {f : Nat → Nat → Int} {d : Nat → Nat → Bool} (h : ∀ a b, a < r → b < c → ¬ d a b = true) : fill r c f d = Cd r c fun _ _ => 0 :=
  Dz fun a b ha hb => by rw [if_neg (h a b ha hb)]
theorem Abt.inner (N : Nat) {R C Q : Nat} {l : List Int} {p : Int} {m : List Int} (h6 : R ≤ 6 ∧ C ≤ 6 ∧ Q ≤ 6) (hl : l.length = R * C) (hr : A9 (R : Int) (C : Int) l = true) (hm : A9 p (Q : Int) m = true) (ep : p = (C : Int)) (al : Al l = true) (am : Al m = true) {F : Nat → Nat → Int} (hF : F = fun (i j : Nat) => It (Gn (C : Int) l (i : Int)) (J7 p (Q : Int) m (j : Int))) {i : Nat} (hi : i < R) : ∀ (k j M0 M : Nat), j + k = Q → k < M →
    Ah.Mul.L1 N M0 M (R : Int) (C : Int) l p (Q : Int) m (j : Int) (fill R Q F (dR i j)) (i : Int) = Ah.Mul.L0 N M0 (R : Int) (C : Int) l p (Q : Int) m ((i + 1 : Nat) : Int) (fill R Q F (dR (i + 1) 0)) := by
  intro k
  induction k with
  | zero =>
    intro j M0 M hj hM
    obtain ⟨M, rfl⟩ : ∃ G, M = G + 1 := ⟨M - 1, by omega⟩
    have e : fill R Q F (dR i j) = fill R Q F (dR (i + 1) 0) := Sd fun a b ha hb => by simp only [dR, As9]; omega
    rw [Ah.Mul.B5, Ar, As7 (by omega), As6, Am (by omega) (by omega), e]
    rfl
  | succ k ih =>
    intro j M0 M hj hM
    obtain ⟨M, rfl⟩ : ∃ G, M = G + 1 := ⟨M - 1, by omega⟩
    have c1 : Oq (R : Int) (C : Int) l (i : Int) = true := Ad.2 ⟨hr, Av.2 (by omega)⟩
    have c2 : Gk p (Q : Int) m (j : Int) = true := Ad.2 ⟨hm, Av.2 (by omega)⟩
    have c3 : Oc (Gn (C : Int) l (i : Int)) (J7 p (Q : Int) m (j : Int)) = true := Q7.2 ⟨by rw [On hl hi, ep, Yh], by rw [On hl hi]; omega⟩
    have c9 : Cy (R : Int) (Q : Int) (fill R Q F (dR i j)) (i : Int) (j : Int) = true := Di (by omega) (by omega) (M9 _ _ _ _) (by omega) (by omega)
    rw [Ah.Mul.B5, Ar, As3 (by omega), As2, c1, As2, c2, Wf (show 0 ≤ p by omega), As8, As2, Ahs, c3, Ag5 al, Aht am, As8, As8, As2, c9, As2, Am (x := (j : Int) + 1) (by omega) (by omega), T0 (d' := dR i (j + 1)) (by omega) (by rw [hF]) (fun a b ha hb => by simp only [dR, As9]; omega)]
    exact ih (j + 1) M0 M (by omega) (by omega)
theorem Abt.outer (N : Nat) (hN : 6 < N) {R C Q : Nat} {l : List Int} {p : Int} {m : List Int} (h6 : R ≤ 6 ∧ C ≤ 6 ∧ Q ≤ 6) (hl : l.length = R * C) (hr : A9 (R : Int) (C : Int) l = true) (hm : A9 p (Q : Int) m = true) (ep : p = (C : Int)) (al : Al l = true) (am : Al m = true) {F : Nat → Nat → Int} (hF : F = fun (i j : Nat) => It (Gn (C : Int) l (i : Int)) (J7 p (Q : Int) m (j : Int))) : ∀ (k i M : Nat), i + k = R → k < M →
    Ah.Mul.L0 N M (R : Int) (C : Int) l p (Q : Int) m (i : Int) (fill R Q F (dR i 0)) = some (.agg [.int .i64 (R : Int), .int .i64 (Q : Int), .ints .fresh .u64 (Cd R Q F)]) := by
  intro k
  induction k with
  | zero =>
    intro i M hi hM
    obtain ⟨M, rfl⟩ : ∃ G, M = G + 1 := ⟨M - 1, by omega⟩
    rw [Ah.Mul.As, Ar, As7 (by omega), As6, X5 (fun a b ha hb => by simp only [dR, As9]; omega)]
  | succ k ih =>
    intro i M hi hM
    obtain ⟨M, rfl⟩ : ∃ G, M = G + 1 := ⟨M - 1, by omega⟩
    have n := Abt.inner N h6 hl hr hm ep al am hF (show i < R by omega) Q 0 M N (by omega) (by omega)
    rw [Ah.Mul.As, Ar, As3 (by omega), As2]
    exact n.trans (ih (i + 1) M (by omega) (by omega))
theorem X7.inner (N : Nat) {r c x y : Int} {l : List Int} {A B : Nat} (h6 : A ≤ 6 ∧ B ≤ 6) (hr : A9 r c l = true) (hp : Hi r c x y (A : Int) (B : Int) = true) {F : Nat → Nat → Int} (hF : F = fun (i j : Nat) => D0 c l (x + (i : Int)) (y + (j : Int))) {i : Nat} (hi : i < A) : ∀ (k j M0 M : Nat), j + k = B → k < M →
    Ah.Part.L1 N M0 M r c l x y (A : Int) (B : Int) (j : Int) (fill A B F (dR i j)) (i : Int) = Ah.Part.L0 N M0 r c l x y (A : Int) (B : Int) ((i + 1 : Nat) : Int) (fill A B F (dR (i + 1) 0)) := by
  intro k
  induction k with
  | zero =>
    intro j M0 M hj hM
    obtain ⟨M, rfl⟩ : ∃ G, M = G + 1 := ⟨M - 1, by omega⟩
    have e : fill A B F (dR i j) = fill A B F (dR (i + 1) 0) := Sd fun a b ha hb => by simp only [dR, As9]; omega
    rw [Ah.Part.B5, Ar, As7 (by omega), As6, Am (by omega) (by omega), e]
    rfl
  | succ k ih =>
    intro j M0 M hj hM
    obtain ⟨M, rfl⟩ : ∃ G, M = G + 1 := ⟨M - 1, by omega⟩
    have hs := Ka.1 hr
    have hq := of_decide_eq_true hp
    have c1 : Cy r c l (x + (i : Int)) (y + (j : Int)) = true := Qi hr (by omega) (by omega) (by omega) (by omega) r
    have c9 : Cy (A : Int) (B : Int) (fill A B F (dR i j)) (i : Int) (j : Int) = true := Di (by omega) (by omega) (M9 _ _ _ _) (by omega) (by omega)
    rw [Ah.Part.B5, Ar, As3 (by omega), As2, Am (x := x + (i : Int)) (by omega) (by omega), Am (x := y + (j : Int)) (by omega) (by omega), c1, As2, c9, As2, Am (x := (j : Int) + 1) (by omega) (by omega), T0 (d' := dR i (j + 1)) (by omega) (by rw [hF]) (fun a b ha hb => by simp only [dR, As9]; omega)]
    exact ih (j + 1) M0 M (by omega) (by omega)
theorem X7.outer (N : Nat) (hN : 6 < N) {r c x y : Int} {l : List Int} {A B : Nat} (h6 : A ≤ 6 ∧ B ≤ 6) (hr : A9 r c l = true) (hp : Hi r c x y (A : Int) (B : Int) = true) {F : Nat → Nat → Int} (hF : F = fun (i j : Nat) => D0 c l (x + (i : Int)) (y + (j : Int))) : ∀ (k i M : Nat), i + k = A → k < M →
    Ah.Part.L0 N M r c l x y (A : Int) (B : Int) (i : Int) (fill A B F (dR i 0)) = some (.agg [.int .i64 (A : Int), .int .i64 (B : Int), .ints .fresh .u64 (Cd A B F)]) := by
  intro k
  induction k with
  | zero =>
    intro i M hi hM
    obtain ⟨M, rfl⟩ : ∃ G, M = G + 1 := ⟨M - 1, by omega⟩
    rw [Ah.Part.As, Ar, As7 (by omega), As6, X5 (fun a b ha hb => by simp only [dR, As9]; omega)]
  | succ k ih =>
    intro i M hi hM
    obtain ⟨M, rfl⟩ : ∃ G, M = G + 1 := ⟨M - 1, by omega⟩
    have n := X7.inner N h6 hr hp hF (show i < A by omega) B 0 M N (by omega) (by omega)
    rw [Ah.Part.As, Ar, As3 (by omega), As2]
    exact n.trans (ih (i + 1) M (by omega) (by omega))
theorem X6.inner (N : Nat) {R C : Nat} {l : List Int} (h6 : R ≤ 6 ∧ C ≤ 6) (hl : l.length = R * C) {F : Nat → Nat → Int} (hF : F = fun (i j : Nat) => D0 (C : Int) l (j : Int) (i : Int)) {i : Nat} (hi : i < R) : ∀ (k j M0 M : Nat), j + k = C → k < M →
    Ah.Cl.L1 N M0 M (R : Int) (C : Int) l (j : Int) (fill C R F (dC i j)) (i : Int) = Ah.Cl.L0 N M0 (R : Int) (C : Int) l ((i + 1 : Nat) : Int) (fill C R F (dC (i + 1) 0)) := by
  intro k
  induction k with
  | zero =>
    intro j M0 M hj hM
    obtain ⟨M, rfl⟩ : ∃ G, M = G + 1 := ⟨M - 1, by omega⟩
    have e : fill C R F (dC i j) = fill C R F (dC (i + 1) 0) := Sd fun a b ha hb => by simp only [dC, As9]; omega
    rw [Ah.Cl.B5, Ar, As7 (by omega), As6, Am (by omega) (by omega), e]
    rfl
  | succ k ih =>
    intro j M0 M hj hM
    obtain ⟨M, rfl⟩ : ∃ G, M = G + 1 := ⟨M - 1, by omega⟩
    have c1 : Cy (R : Int) (C : Int) l (i : Int) (j : Int) = true := Di h6.1 h6.2 hl hi (by omega)
    have c9 : Cy (C : Int) (R : Int) (fill C R F (dC i j)) (j : Int) (i : Int) = true := Di (by omega) (by omega) (M9 _ _ _ _) (by omega) (by omega)
    rw [Ah.Cl.B5, Ar, As3 (by omega), As2, c1, As2, c9, As2, Am (x := (j : Int) + 1) (by omega) (by omega), T0 (d' := dC i (j + 1)) (by omega) (by rw [hF]) (fun a b ha hb => by simp only [dC, As9]; omega)]
    exact ih (j + 1) M0 M (by omega) (by omega)
theorem X6.outer (N : Nat) (hN : 6 < N) {R C : Nat} {l : List Int} (h6 : R ≤ 6 ∧ C ≤ 6) (hl : l.length = R * C) {F : Nat → Nat → Int} (hF : F = fun (i j : Nat) => D0 (C : Int) l (j : Int) (i : Int)) : ∀ (k i M : Nat), i + k = R → k < M →
    Ah.Cl.L0 N M (R : Int) (C : Int) l (i : Int) (fill C R F (dC i 0)) = some (.agg [.int .i64 (C : Int), .int .i64 (R : Int), .ints .fresh .u64 (Cd C R F)]) := by
  intro k
  induction k with
  | zero =>
    intro i M hi hM
    obtain ⟨M, rfl⟩ : ∃ G, M = G + 1 := ⟨M - 1, by omega⟩
    rw [Ah.Cl.As, Ar, As7 (by omega), As6, X5 (fun a b ha hb => by simp only [dC, As9]; omega)]
  | succ k ih =>
    intro i M hi hM
    obtain ⟨M, rfl⟩ : ∃ G, M = G + 1 := ⟨M - 1, by omega⟩
    have n := X6.inner N h6 hl hF (show i < R by omega) C 0 M N (by omega) (by omega)
    rw [Ah.Cl.As, Ar, As3 (by omega), As2]
    exact n.trans (ih (i + 1) M (by omega) (by omega))
theorem Ah.Cl.known : Ah.Cl.Kn := Ah.Cl.Ac (.cons Ah.At.known (.cons Ah.Fq.known (.cons Ah.Bz.known .nil))) fun r c l hp => by
  have hr : A9 r c l = true := hp
  obtain ⟨R, C, rfl, rfl, r6, c6, hl⟩ := C0 hr
  refine ⟨8, .agg [.int .i64 (C : Int), .int .i64 (R : Int), .ints .fresh .u64 (Cd C R fun (i j : Nat) => D0 (C : Int) l (j : Int) (i : Int))], [], ?_, Sq⟩
  have n := X6.outer 8 (by omega) ⟨r6, c6⟩ hl rfl R 0 8 (by omega) (by omega)
  rw [Q8 (fun a b ha hb => by simp only [dC, As9]; omega)] at n
  rw [Ah.Cl.ev, Qs r6, Qs c6, As8, As2, As4, As4]
  exact n
theorem Ah.Part.known : Ah.Part.Kn := Ah.Part.Ac (.cons Ah.At.known (.cons Ah.Fq.known (.cons Ah.Bz.known .nil))) fun r c l x y a b hp => by
  obtain ⟨hr, hq⟩ := Ad.1 (show (A9 r c l && Hi r c x y a b) = true from hp)
  obtain ⟨s1, s2⟩ := W6 hr hq
  obtain ⟨A, rfl, hA⟩ := Fu s1
  obtain ⟨B, rfl, hB⟩ := Fu s2
  refine ⟨8, .agg [.int .i64 (A : Int), .int .i64 (B : Int), .ints .fresh .u64 (Cd A B fun (i j : Nat) => D0 c l (x + (i : Int)) (y + (j : Int)))], [], ?_, Sq⟩
  have n := X7.outer 8 (by omega) ⟨hA, hB⟩ hr hq rfl A 0 8 (by omega) (by omega)
  rw [Q8 (fun a b ha hb => by simp only [dR, As9]; omega)] at n
  rw [Ah.Part.ev, s1, s2, As8, As2, As4, As4]
  exact n
theorem Ah.Mul.known : Ah.Mul.Kn := Ah.Mul.Ac (.cons Ai.Hg.known (.cons Ah.Pg.known (.cons Ah.Row.known (.cons Ah.Fq.known (.cons Ah.Bz.known .nil))))) fun r c l p q m hp => by
  obtain ⟨h1, h2⟩ := Ad.1 (show ((A9 r c l && A9 p q m) && ((Al l && Al m) && decide (c = p))) = true from hp)
  obtain ⟨hr, hm⟩ := Ad.1 h1
  obtain ⟨h3, h4⟩ := Ad.1 h2
  obtain ⟨al, am⟩ := Ad.1 h3
  have ec := of_decide_eq_true h4
  obtain ⟨R, C, rfl, rfl, r6, c6, hl⟩ := C0 hr
  obtain ⟨P, Q, rfl, rfl, p6, q6, _⟩ := C0 hm
  refine ⟨8, .agg [.int .i64 (R : Int), .int .i64 (Q : Int), .ints .fresh .u64 (Cd R Q fun (i j : Nat) => It (Gn (C : Int) l (i : Int)) (J7 (P : Int) (Q : Int) m (j : Int)))], [], ?_, Sq⟩
  have n := Abt.outer 8 (by omega) ⟨r6, c6, q6⟩ hl hr hm ec.symm al am rfl R 0 8 (by omega) (by omega)
  rw [Q8 (fun a b ha hb => by simp only [dR, As9]; omega)] at n
  rw [Ah.Mul.ev, Qs r6, Qs q6, As8, As2, As4, As4]
  exact n
theorem Apd (N : Nat) {n : Nat} (h6 : n ≤ 6) : ∀ (k i M : Nat), i + k = n → k < M →
    Ah.Eh.L0 N M (n : Int) (i : Int) (fill n n (fun (a b : Nat) => Mt (a : Int) (b : Int)) fun a b => decide (a = b ∧ a < i)) = some (.agg [.int .i64 (n : Int), .int .i64 (n : Int), .ints .fresh .u64 (Cd n n fun (a b : Nat) => Mt (a : Int) (b : Int))]) := by
  intro k
  induction k with
  | zero =>
    intro i M hi hM
    obtain ⟨M, rfl⟩ : ∃ G, M = G + 1 := ⟨M - 1, by omega⟩
    have e : fill n n (fun (a b : Nat) => Mt (a : Int) (b : Int)) (fun a b => decide (a = b ∧ a < i)) = Cd n n fun (a b : Nat) => Mt (a : Int) (b : Int) := by
      refine Dz fun a b ha hb => ?_
      by_cases h : a = b
      · rw [if_pos (As3 ⟨h, by omega⟩)]
      · rw [if_neg (fun k => h (of_decide_eq_true k).1)]
        unfold Mt
        rw [if_neg (by omega)]
    rw [Ah.Eh.As, Ar, As7 (by omega), As6, e]
  | succ k ih =>
    intro i M hi hM
    obtain ⟨M, rfl⟩ : ∃ G, M = G + 1 := ⟨M - 1, by omega⟩
    have c9 : Cy (n : Int) (n : Int) (fill n n (fun (a b : Nat) => Mt (a : Int) (b : Int)) fun a b => decide (a = b ∧ a < i)) (i : Int) (i : Int) = true := Di h6 h6 (M9 _ _ _ _) (by omega) (by omega)
    have one : (4607182418800017408 : Int) = (fun (a b : Nat) => Mt (a : Int) (b : Int)) i i := (if_pos rfl).symm
    rw [Ah.Eh.As, Ar, As3 (by omega), As2, c9, As2, Am (by omega) (by omega), T0 (d' := fun a b => decide (a = b ∧ a < i + 1)) (by omega) one (fun a b ha hb => by simp only [As9]; omega)]
    exact ih (i + 1) M (by omega) (by omega)
theorem Ah.Eh.known : Ah.Eh.Kn := Ah.Eh.Ac (.cons Ah.Fq.known (.cons Ah.Bz.known .nil)) fun n hp => by
  have hp : Bw n = true := hp
  obtain ⟨n, rfl, h6⟩ := Fu hp
  refine ⟨8, .agg [.int .i64 (n : Int), .int .i64 (n : Int), .ints .fresh .u64 (Cd n n fun (a b : Nat) => Mt (a : Int) (b : Int))], [], ?_, Sq⟩
  have e := Apd 8 h6 n 0 8 (by omega) (by omega)
  rw [Q8 (fun a b ha hb => by simp only [As9]; omega)] at e
  rw [Ah.Eh.ev, hp, As8, As2, As4]
  exact e
namespace EqHouse
theorem E3 : ∀ a : Bool, (a && true) = a := by decide
theorem Jn : ∀ a b : Bool, ((a && b) && true) = (a && b) := by decide
theorem Iw : ∀ a b c : Bool, ((a && b) && ((a && c) && true)) = ((a && b) && (a && c)) := by decide
theorem Ia : ∀ a : Bool, ((a && true) && true) = a := by decide
theorem Gd : ∀ a b : Bool, (bif a then true else b) = (a || b) := by decide
theorem Jg : ∀ a : Bool, ((!(!a)) || (a == false)) = true := by decide
theorem Ld : ∀ a : Bool, ((!(a == false)) || ((((!(a == false)) || (a == false)) && true) && true)) = true := by decide
theorem Lx : ∀ a : Bool, ((!(a == false)) || true) = true := by decide
theorem Pm : ∀ a b c d e : Bool, (bif (bif (bif (bif a then true else b) then true else c) then true else d) then true else e) = ((((a || b) || c) || d) || e) := by decide
theorem Sp : ∀ a b c d : Bool, ((!(!(bif (bif (bif a then true else b) then true else c) then true else d))) || ((bif (bif (bif a then true else b) then true else c) then true else d) == false)) = true := by decide
theorem Hx : ∀ a b c d : Bool, ((!((bif (bif (bif a then true else b) then true else c) then true else d) == false)) || ((((!((bif (bif (bif a then true else b) then true else c) then true else d) == false)) || ((bif (bif (bif a then true else b) then true else c) then true else d) == false)) && (((!((bif (bif (bif a then true else b) then true else c) then true else d) == false)) || ((bif (bif (bif a then true else b) then true else c) then true else d) == false)) && true)) && true)) = true := by decide
theorem I1 : ∀ a b c d : Bool, ((!((bif (bif (bif a then true else b) then true else c) then true else d) == false)) || ((((!((bif (bif (bif a then true else b) then true else c) then true else d) == false)) || ((bif (bif (bif a then true else b) then true else c) then true else d) == false)) && true) && true)) = true := by decide
theorem J9 : ∀ a b c d : Bool, ((!((bif (bif (bif a then true else b) then true else c) then true else d) == false)) || true) = true := by decide
theorem Mr : ∀ a b c : Bool, ((!(!(bif (bif a then true else b) then true else c))) || ((bif (bif a then true else b) then true else c) == false)) = true := by decide
theorem Oi : ∀ a b c : Bool, ((!((bif (bif a then true else b) then true else c) == false)) || ((((!((bif (bif a then true else b) then true else c) == false)) || ((bif (bif a then true else b) then true else c) == false)) && true) && true)) = true := by decide
theorem Jh : ∀ a b c : Bool, ((!((bif (bif a then true else b) then true else c) == false)) || true) = true := by decide
theorem Pn : ∀ a b : Bool, ((!(!(bif a then true else b))) || ((bif a then true else b) == false)) = true := by decide
theorem Afa : ∀ a b : Bool, ((!((bif a then true else b) == false)) || ((((!((bif a then true else b) == false)) || ((bif a then true else b) == false)) && (((!((bif a then true else b) == false)) || ((bif a then true else b) == false)) && true)) && true)) = true := by decide
theorem Ah8 : ∀ a b : Bool, ((!((bif a then true else b) == false)) || ((((!((bif a then true else b) == false)) || ((bif a then true else b) == false)) && true) && true)) = true := by decide
theorem Ae9 : ∀ a b : Bool, ((!((bif a then true else b) == false)) || true) = true := by decide
theorem Akt : ∀ a : Bool, ((!(a == false)) || ((((!(a == false)) || (a == false)) && (((!(a == false)) || (a == false)) && true)) && true)) = true := by decide
def Aq.Bv.hint : Nat → Option Ba
  | 0 => some { keep := [5, 6, 7], objs := [], boxes := [] }
  | _ => none
def Aq.Bv.A7 : List (Nat × Entry) := [(155, soft.Kind.spec)]
def Aq.Bv.E : Env := Bb (A5 Aq.Bv.A7) (fun _ => false) Aq.Bv.hint (fun _ => none)
def Aq.Bv.L0 (N M : Nat) (x : List Int) (p7 : Int) : Option DV := B0 Aq.Bv.E N Tryz.f252 (An Tryz.f252) [1, 0, 1, 0] [] M ⟨F7 15 [(5, .ints .arg .u64 x), (6, .int .i64 (List.length x : Int)), (7, .int .i64 p7)], []⟩
theorem Aq.Bv.As (N M : Nat) (x : List Int) (p7 : Int) : Aq.Bv.L0 N (M + 1) x p7 = bif (A4 p7 (List.length x : Int)) then bif ((decide (0 ≤ p7)) && (decide (p7 < (List.length x : Int)))) then bif (Ag (List.getD x (Int.toNat p7) 0)) then bif ((Bd (List.getD x (Int.toNat p7) 0)) != (0 : Int)) then some (.bool false) else Aq.Bv.L0 N M x (Ab (p7 + (1 : Int))) else none else none else some (.bool true) := by kernel_rfl
theorem Aq.Bv.ev (N : Nat) (x : List Int) : Bx Aq.Bv.E N Tryz.f252 (An Tryz.f252) [.ints .arg .u64 x] =
  Aq.Bv.L0 N N x (0 : Int) := by kernel_rfl
abbrev _root_.Go.Proofs.S1.Aq.Bv.Kn := A3 Tryz.prog 252 Aq.Bv.spec
theorem Aq.Bv.Ac (hk : Ay Tryz.prog Aq.Bv.A7) (h : ∀ (x : List Int), Aq.Bv.pre [.l x] = true → Bc Aq.Bv.E Tryz.f252 [.ints .arg .u64 x] (Aq.Bv.out [.l x])) : Aq.Bv.Kn :=
  Ak (Az hk _ _ _) Tryz.func252 (by kernel_rfl) (by kernel_rfl) h
def Aq.lead.hint : Nat → Option Ba
  | 0 => some { keep := [5, 6, 7], objs := [], boxes := [] }
  | _ => none
def Aq.lead.A7 : List (Nat × Entry) := [(155, soft.Kind.spec)]
def Aq.lead.E : Env := Bb (A5 Aq.lead.A7) (fun _ => false) Aq.lead.hint (fun _ => none)
def Aq.lead.L0 (N M : Nat) (x : List Int) (p7 : Int) : Option DV := B0 Aq.lead.E N Tryz.f258 (An Tryz.f258) [1, 0, 1, 0] [] M ⟨F7 16 [(5, .ints .arg .u64 x), (6, .int .i64 (List.length x : Int)), (7, .int .i64 p7)], []⟩
theorem Aq.lead.As (N M : Nat) (x : List Int) (p7 : Int) : Aq.lead.L0 N (M + 1) x p7 = bif (A4 p7 (List.length x : Int)) then bif ((decide (0 ≤ p7)) && (decide (p7 < (List.length x : Int)))) then bif (Ag (List.getD x (Int.toNat p7) 0)) then bif ((Bd (List.getD x (Int.toNat p7) 0)) != (0 : Int)) then some (.int .u64 (List.getD x (Int.toNat p7) 0)) else Aq.lead.L0 N M x (Ab (p7 + (1 : Int))) else none else none else some (.int .u64 0) := by kernel_rfl
theorem Aq.lead.ev (N : Nat) (x : List Int) : Bx Aq.lead.E N Tryz.f258 (An Tryz.f258) [.ints .arg .u64 x] =
  Aq.lead.L0 N N x (0 : Int) := by kernel_rfl
abbrev _root_.Go.Proofs.S1.Aq.lead.Kn := A3 Tryz.prog 258 Aq.lead.spec
theorem Aq.lead.Ac (hk : Ay Tryz.prog Aq.lead.A7) (h : ∀ (x : List Int), Aq.lead.pre [.l x] = true → Bc Aq.lead.E Tryz.f258 [.ints .arg .u64 x] (Aq.lead.out [.l x])) : Aq.lead.Kn :=
  Ak (Az hk _ _ _) Tryz.func258 (by kernel_rfl) (by kernel_rfl) h
def Aq.Da.hint : Nat → Option Ba
  | 0 => some { keep := [1, 5, 8, 9, 10], objs := [(0, 5, 100005, .ints 37 .u64 [])], boxes := [] }
  | _ => none
def Aq.Da.A7 : List (Nat × Entry) := [(88, Ae.Bp.spec)]
def Aq.Da.E : Env := Bb (A5 Aq.Da.A7) (fun _ => false) Aq.Da.hint (fun _ => none)
def Aq.Da.L0 (N M : Nat) (x : List Int) (k p10 : Int) (p5 : List Int) : Option DV := B0 Aq.Da.E N Tryz.f256 (An Tryz.f256) [1, 1, 0, 1, 0] [] M ⟨F7 22 [(1, .int .i64 k), (5, .oref 100005), (8, .ints .arg .u64 x), (9, .int .i64 (List.length x : Int)), (10, .int .i64 p10)], [(100005, false, .ints 37 .u64 p5)]⟩
theorem Aq.Da.As (N M : Nat) (x : List Int) (k p10 : Int) (p5 : List Int) : Aq.Da.L0 N (M + 1) x k p10 p5 = bif (A4 p10 (List.length x : Int)) then bif ((decide (0 ≤ p10)) && (decide (p10 < (List.length x : Int)))) then bif (C4 (List.getD x (Int.toNat p10) 0) k) then bif (decide ((List.length p5) + 1 ≤ Hc)) then Aq.Da.L0 N M x k (Ab (p10 + (1 : Int))) (p5 ++ [(Bu (List.getD x (Int.toNat p10) 0) k)]) else none else none else none else some (.ints (.own 100005 37) .u64 p5) := by kernel_rfl
theorem Aq.Da.ev (N : Nat) (x : List Int) (k : Int) : Bx Aq.Da.E N Tryz.f256 (An Tryz.f256) [.ints .arg .u64 x, .int .i64 k] =
  Aq.Da.L0 N N x k (0 : Int) [] := by kernel_rfl
abbrev _root_.Go.Proofs.S1.Aq.Da.Kn := A3 Tryz.prog 256 Aq.Da.spec
theorem Aq.Da.Ac (hk : Ay Tryz.prog Aq.Da.A7) (h : ∀ (x : List Int) (k : Int), Aq.Da.pre [.l x, .i k] = true → Bc Aq.Da.E Tryz.f256 [.ints .arg .u64 x, .int .i64 k] (Aq.Da.out [.l x, .i k])) : Aq.Da.Kn :=
  Ak (Az hk _ _ _) Tryz.func256 (by kernel_rfl) (by kernel_rfl) h
def Aq.Fi.A7 : List (Nat × Entry) := []
def Aq.Fi.E : Env := Bb (A5 Aq.Fi.A7) (fun _ => false) (fun _ => none) (fun _ => none)
theorem Aq.Fi.ev (N : Nat) (i : Int) : Bx Aq.Fi.E N Tryz.f254 (An Tryz.f254) [.int .i64 i] = some (.int .u64 0) := by kernel_rfl
abbrev _root_.Go.Proofs.S1.Aq.Fi.Kn := A3 Tryz.prog 254 Aq.Fi.spec
theorem Aq.Fi.Ac (hk : Ay Tryz.prog Aq.Fi.A7) (h : ∀ (i : Int), Aq.Fi.pre [.i i] = true → Bc Aq.Fi.E Tryz.f254 [.int .i64 i] (Aq.Fi.out [.i i])) : Aq.Fi.Kn :=
  Ak (Az hk _ _ _) Tryz.func254 (by kernel_rfl) (by kernel_rfl) h
def Aq.Fh.A7 : List (Nat × Entry) := [(158, Ae.Div.spec)]
def Aq.Fh.E : Env := Bb (A5 Aq.Fh.A7) (fun _ => false) (fun _ => none) (fun _ => none)
theorem Aq.Fh.ev (N : Nat) (i : Int) (y : List Int) (d : Int) : Bx Aq.Fh.E N Tryz.f259 (An Tryz.f259) [.int .i64 i, .cellp [.ints .arg .u64 y], .cellp [.int .u64 d]] = bif ((decide (0 ≤ i)) && (decide (i < (List.length y : Int)))) then bif (Ag (List.getD y (Int.toNat i) 0) && Ag d) then some (.int .u64 (Ex (List.getD y (Int.toNat i) 0) d)) else none else none :=
  Eq.trans (by kernel_rfl)
  (Cx (Jn (decide (0 ≤ i)) (decide (i < (List.length y : Int)))) (Cx (E3 (Ag (List.getD y (Int.toNat i) 0) && Ag d)) rfl rfl) rfl)
abbrev _root_.Go.Proofs.S1.Aq.Fh.Kn := A3 Tryz.prog 259 Aq.Fh.spec
theorem Aq.Fh.Ac (hk : Ay Tryz.prog Aq.Fh.A7) (h : ∀ (i : Int) (y : List Int) (d : Int), Aq.Fh.pre [.i i, .l y, .i d] = true → Bc Aq.Fh.E Tryz.f259 [.int .i64 i, .cellp [.ints .arg .u64 y], .cellp [.int .u64 d]] (Aq.Fh.out [.i i, .l y, .i d])) : Aq.Fh.Kn :=
  Ak (Az hk _ _ _) Tryz.func259 (by kernel_rfl) (by kernel_rfl) h
def Aq.row.Zero.hint : Nat → Option Ba
  | 0 => some { keep := [0, 1, 5, 6], objs := [(0, 5, 100005, .ints 37 .u64 [])], boxes := [] }
  | _ => none
def Aq.row.Zero.A7 : List (Nat × Entry) := [(254, Aq.Fi.spec)]
def Aq.row.Zero.E : Env := Bb (A5 Aq.row.Zero.A7) (fun _ => false) Aq.row.Zero.hint (fun _ => none)
def Aq.row.Zero.L0 (N M : Nat) (n p6 : Int) (p5 : List Int) : Option DV := B0 Aq.row.Zero.E N Tryz.f253 (An Tryz.f253) [1, 1, 0, 1, 0] [] M ⟨F7 23 [(0, .int .i64 n), (1, .fn 254 [] []), (5, .oref 100005), (6, .int .i64 p6)], [(100005, false, .ints 37 .u64 p5)]⟩
theorem Aq.row.Zero.As (N M : Nat) (n p6 : Int) (p5 : List Int) : Aq.row.Zero.L0 N (M + 1) n p6 p5 = bif (A4 p6 n) then bif (decide ((List.length p5) + 1 ≤ Hc)) then Aq.row.Zero.L0 N M n (Ab (p6 + (1 : Int))) (p5 ++ [(0 : Int)]) else none else bif (((decide ((0 : Int) ≤ n)) && (decide (n ≤ n))) && ((decide ((0 : Int) ≤ n)) && (decide (n ≤ (List.length p5 : Int))))) then some (.ints .fresh .u64 (List.take (Int.toNat (n - (0 : Int))) (List.drop 0 p5))) else none :=
  Eq.trans (by kernel_rfl)
  (Ee rfl (Cx (Iw (decide ((0 : Int) ≤ n)) (decide (n ≤ n)) (decide (n ≤ (List.length p5 : Int)))) rfl rfl))
theorem Aq.row.Zero.ev (N : Nat) (n : Int) : Bx Aq.row.Zero.E N Tryz.f253 (An Tryz.f253) [.int .i64 n, .fn 254 [] []] =
  Aq.row.Zero.L0 N N n (1 : Int) [(4607182418800017408 : Int)] := by kernel_rfl
abbrev _root_.Go.Proofs.S1.Aq.row.Zero.Kn := A3 Tryz.prog 253 Aq.row.Zero.spec
theorem Aq.row.Zero.Ac (hk : Ay Tryz.prog Aq.row.Zero.A7) (h : ∀ (n : Int), Aq.row.Zero.pre [.i n] = true → Bc Aq.row.Zero.E Tryz.f253 [.int .i64 n, .fn 254 [] []] (Aq.row.Zero.out [.i n])) : Aq.row.Zero.Kn :=
  Ak (Az hk _ _ _) Tryz.func253 (by kernel_rfl) (by kernel_rfl) h
def Aq.row.Div.hint : Nat → Option Ba
  | 0 => some { keep := [0, 1, 5, 6], objs := [(0, 5, 100005, .ints 37 .u64 [])], boxes := [] }
  | _ => none
def Aq.row.Div.A7 : List (Nat × Entry) := [(259, Aq.Fh.spec)]
def Aq.row.Div.E : Env := Bb (A5 Aq.row.Div.A7) (fun _ => false) Aq.row.Div.hint (fun _ => none)
def Aq.row.Div.L0 (N M : Nat) (n : Int) (y : List Int) (d p6 : Int) (p5 : List Int) : Option DV := B0 Aq.row.Div.E N Tryz.f253 (An Tryz.f253) [1, 1, 0, 1, 0] [] M ⟨F7 23 [(0, .int .i64 n), (1, .fn 259 [] [.cellp [.ints .arg .u64 y], .cellp [.int .u64 d]]), (5, .oref 100005), (6, .int .i64 p6)], [(100005, false, .ints 37 .u64 p5)]⟩
theorem Aq.row.Div.As (N M : Nat) (n : Int) (y : List Int) (d p6 : Int) (p5 : List Int) : Aq.row.Div.L0 N (M + 1) n y d p6 p5 = bif (A4 p6 n) then bif ((C3 (0 ≤ p6 ∧ p6 < List.length y) && Al y) && Ag d) then bif (decide ((List.length p5) + 1 ≤ Hc)) then Aq.row.Div.L0 N M n y d (Ab (p6 + (1 : Int))) (p5 ++ [(Ex (List.getD y (Int.toNat p6) 0) d)]) else none else none else bif (((decide ((0 : Int) ≤ n)) && (decide (n ≤ n))) && ((decide ((0 : Int) ≤ n)) && (decide (n ≤ (List.length p5 : Int))))) then some (.ints .fresh .u64 (List.take (Int.toNat (n - (0 : Int))) (List.drop 0 p5))) else none :=
  Eq.trans (by kernel_rfl)
  (Ee rfl (Cx (Iw (decide ((0 : Int) ≤ n)) (decide (n ≤ n)) (decide (n ≤ (List.length p5 : Int)))) rfl rfl))
theorem Aq.row.Div.ev (N : Nat) (n : Int) (y : List Int) (d : Int) : Bx Aq.row.Div.E N Tryz.f253 (An Tryz.f253) [.int .i64 n, .fn 259 [] [.cellp [.ints .arg .u64 y], .cellp [.int .u64 d]]] =
  Aq.row.Div.L0 N N n y d (1 : Int) [(4607182418800017408 : Int)] := by kernel_rfl
abbrev _root_.Go.Proofs.S1.Aq.row.Div.Kn := A3 Tryz.prog 253 Aq.row.Div.spec
theorem Aq.row.Div.Ac (hk : Ay Tryz.prog Aq.row.Div.A7) (h : ∀ (n : Int) (y : List Int) (d : Int), Aq.row.Div.pre [.i n, .l y, .i d] = true → Bc Aq.row.Div.E Tryz.f253 [.int .i64 n, .fn 259 [] [.cellp [.ints .arg .u64 y], .cellp [.int .u64 d]]] (Aq.row.Div.out [.i n, .l y, .i d])) : Aq.row.Div.Kn :=
  Ak (Az hk _ _ _) Tryz.func253 (by kernel_rfl) (by kernel_rfl) h
def Aq.Df.A7 : List (Nat × Entry) := [(255, compare.K8.spec), (258, Aq.lead.spec), (252, Aq.Bv.spec), (253, (Arr [.i .i64, .fn 254 []] Aq.row.Zero.spec Aq.row.Div.spec)), (256, Aq.Da.spec), (148, soft.Finite.spec), (233, soft.De.spec), (213, soft.Sign.spec), (89, Ae.Bm.spec), (158, Ae.Div.spec), (150, Ae.Finite.spec), (257, Ae.Norm.spec), (88, Ae.Bp.spec), (156, Ae.Sub.spec)]
def Aq.Df.E : Env := Bb (A5 Aq.Df.A7) (fun _ => false) (fun _ => none) (fun _ => none)
theorem Aq.Df.ev (N : Nat) (x : List Int) : Bx Aq.Df.E N Tryz.f245 (An Tryz.f245) [.ints .arg .u64 x] = bif (((List.length x : Int) == (0 : Int)) || (A4 (64 : Int) (List.length x : Int))) then some (.tup [.nil, .int .u64 0, .int .u64 0, .int .i64 3]) else bif (Cp x) then bif (!(Dl x)) then some (.tup [.nil, .int .u64 0, .int .u64 0, .int .i64 4]) else bif (decide ((1 : Int) ≤ (List.length x : Int))) then bif (Cp (List.drop 1 x)) then bif (Dx (List.drop 1 x)) then bif (C3 (1 ≤ (List.length x : Int) ∧ (List.length x : Int) ≤ 64)) then bif (decide ((0 : Int) < (List.length x : Int))) then some (.tup [.ints .fresh .u64 (Ip (Int.toNat (List.length x : Int)) (fun _ => 0)), .int .u64 0, .int .u64 (List.getD x 0 0), .int .i64 0]) else none else none else bif (Cp x) then bif (Ag (Be x)) then bif (Cp x && C3 (List.length x ≤ 1000 ∧ -2300 ≤ (Ab (0 - (Bo (Be x)))) ∧ (Ab (0 - (Bo (Be x)))) ≤ 2300)) then bif (Cp (Bl x (Ab (0 - (Bo (Be x))))) && C3 (List.length (Bl x (Ab (0 - (Bo (Be x))))) ≤ 64)) then bif (Cp x) then bif (Ag (N6 x)) then bif (!(Dh (N6 x))) then bif (Ag (C9 (Bl x (Ab (0 - (Bo (Be x))))))) then bif (C4 (Cz (C9 (Bl x (Ab (0 - (Bo (Be x))))))) (Bo (Be x))) then bif (Ag (Bu (Cz (C9 (Bl x (Ab (0 - (Bo (Be x))))))) (Bo (Be x)))) then bif (!(Cv (Bu (Cz (C9 (Bl x (Ab (0 - (Bo (Be x))))))) (Bo (Be x))))) then some (.tup [.nil, .int .u64 0, .int .u64 0, .int .i64 2]) else bif (decide ((0 : Int) < (List.length (Bl x (Ab (0 - (Bo (Be x))))) : Int))) then bif (Ag (List.getD (Bl x (Ab (0 - (Bo (Be x))))) 0 0) && Ag (Cz (C9 (Bl x (Ab (0 - (Bo (Be x)))))))) then bif ((C3 (1 ≤ (List.length (Bl x (Ab (0 - (Bo (Be x))))) : Int) ∧ (List.length (Bl x (Ab (0 - (Bo (Be x))))) : Int) ≤ 64 ∧ (List.length (Bl x (Ab (0 - (Bo (Be x))))) : Int) = List.length (Bl x (Ab (0 - (Bo (Be x)))))) && Al (Bl x (Ab (0 - (Bo (Be x)))))) && Ag (Ei (List.getD (Bl x (Ab (0 - (Bo (Be x))))) 0 0) (Cz (C9 (Bl x (Ab (0 - (Bo (Be x))))))))) then bif (decide ((0 : Int) < (List.length (Bl x (Ab (0 - (Bo (Be x))))) : Int))) then bif (Ag (Cz (C9 (Bl x (Ab (0 - (Bo (Be x))))))) && Ag (List.getD (Bl x (Ab (0 - (Bo (Be x))))) 0 0)) then bif (Ag (Ei (Cz (C9 (Bl x (Ab (0 - (Bo (Be x))))))) (List.getD (Bl x (Ab (0 - (Bo (Be x))))) 0 0)) && Ag (Cz (C9 (Bl x (Ab (0 - (Bo (Be x)))))))) then some (.tup [.ints .fresh .u64 (Ip (Int.toNat (List.length (Bl x (Ab (0 - (Bo (Be x))))) : Int)) (fun j => Ex (List.getD (Bl x (Ab (0 - (Bo (Be x))))) j 0) (Ei (List.getD (Bl x (Ab (0 - (Bo (Be x))))) 0 0) (Cz (C9 (Bl x (Ab (0 - (Bo (Be x)))))))))), .int .u64 (Ex (Ei (Cz (C9 (Bl x (Ab (0 - (Bo (Be x))))))) (List.getD (Bl x (Ab (0 - (Bo (Be x))))) 0 0)) (Cz (C9 (Bl x (Ab (0 - (Bo (Be x)))))))), .int .u64 (Bu (Cz (C9 (Bl x (Ab (0 - (Bo (Be x))))))) (Bo (Be x))), .int .i64 0]) else none else none else none else none else none else none else none else none else none else bif (C4 (C9 (Bl x (Ab (0 - (Bo (Be x)))))) (Bo (Be x))) then bif (Ag (Bu (C9 (Bl x (Ab (0 - (Bo (Be x)))))) (Bo (Be x)))) then bif (!(Cv (Bu (C9 (Bl x (Ab (0 - (Bo (Be x)))))) (Bo (Be x))))) then some (.tup [.nil, .int .u64 0, .int .u64 0, .int .i64 2]) else bif (decide ((0 : Int) < (List.length (Bl x (Ab (0 - (Bo (Be x))))) : Int))) then bif (Ag (List.getD (Bl x (Ab (0 - (Bo (Be x))))) 0 0) && Ag (C9 (Bl x (Ab (0 - (Bo (Be x))))))) then bif ((C3 (1 ≤ (List.length (Bl x (Ab (0 - (Bo (Be x))))) : Int) ∧ (List.length (Bl x (Ab (0 - (Bo (Be x))))) : Int) ≤ 64 ∧ (List.length (Bl x (Ab (0 - (Bo (Be x))))) : Int) = List.length (Bl x (Ab (0 - (Bo (Be x)))))) && Al (Bl x (Ab (0 - (Bo (Be x)))))) && Ag (Ei (List.getD (Bl x (Ab (0 - (Bo (Be x))))) 0 0) (C9 (Bl x (Ab (0 - (Bo (Be x)))))))) then bif (decide ((0 : Int) < (List.length (Bl x (Ab (0 - (Bo (Be x))))) : Int))) then bif (Ag (C9 (Bl x (Ab (0 - (Bo (Be x)))))) && Ag (List.getD (Bl x (Ab (0 - (Bo (Be x))))) 0 0)) then bif (Ag (Ei (C9 (Bl x (Ab (0 - (Bo (Be x)))))) (List.getD (Bl x (Ab (0 - (Bo (Be x))))) 0 0)) && Ag (C9 (Bl x (Ab (0 - (Bo (Be x))))))) then some (.tup [.ints .fresh .u64 (Ip (Int.toNat (List.length (Bl x (Ab (0 - (Bo (Be x))))) : Int)) (fun j => Ex (List.getD (Bl x (Ab (0 - (Bo (Be x))))) j 0) (Ei (List.getD (Bl x (Ab (0 - (Bo (Be x))))) 0 0) (C9 (Bl x (Ab (0 - (Bo (Be x))))))))), .int .u64 (Ex (Ei (C9 (Bl x (Ab (0 - (Bo (Be x)))))) (List.getD (Bl x (Ab (0 - (Bo (Be x))))) 0 0)) (C9 (Bl x (Ab (0 - (Bo (Be x))))))), .int .u64 (Bu (C9 (Bl x (Ab (0 - (Bo (Be x)))))) (Bo (Be x))), .int .i64 0]) else none else none else none else none else none else none else none else none else none else none else none else none else none else none else none else none else none :=
  Eq.trans (by kernel_rfl)
  (Ax (Lx ((List.length x : Int) == (0 : Int))) (Ax (Ld ((List.length x : Int) == (0 : Int))) (Ax (Ld ((List.length x : Int) == (0 : Int))) (Ax (Jg ((List.length x : Int) == (0 : Int))) (Cx (Gd ((List.length x : Int) == (0 : Int)) (A4 (64 : Int) (List.length x : Int))) rfl (Ee (Ee rfl (Cx (Ia (decide ((1 : Int) ≤ (List.length x : Int)))) (Ee (Ee (Cx (E3 (C3 (1 ≤ (List.length x : Int) ∧ (List.length x : Int) ≤ 64))) (Cx (E3 (decide ((0 : Int) < (List.length x : Int)))) rfl rfl) rfl) rfl) rfl) rfl)) rfl))))))
abbrev _root_.Go.Proofs.S1.Aq.Df.Kn := A3 Tryz.prog 245 Aq.Df.spec
theorem Aq.Df.Ac (hk : Ay Tryz.prog Aq.Df.A7) (h : ∀ (x : List Int), Aq.Df.pre [.l x] = true → Bc Aq.Df.E Tryz.f245 [.ints .arg .u64 x] (Aq.Df.out [.l x])) : Aq.Df.Kn :=
  Ak (Az hk _ _ _) Tryz.func245 (by kernel_rfl) (by kernel_rfl) h
def Aq.Apply.hint : Nat → Option Ba
  | 0 => some { keep := [1, 3, 4, 5, 10, 13, 14], objs := [(14, 2, 114002, .ints 37 .u64 [])], boxes := [5, 10, 13] }
  | 2 => some { keep := [1, 3, 4, 5, 10, 13, 14, 18, 90, 91, 92], objs := [(14, 2, 114002, .ints 37 .u64 [])], boxes := [5, 10, 13] }
  | _ => none
def Aq.Apply.A7 : List (Nat × Entry) := [(160, Aa.Check.spec), (191, Aa.Dr.spec), (189, Ae.Hg.spec), (157, Ae.Mul.spec), (156, Ae.Sub.spec)]
def Aq.Apply.E : Env := Bb (A5 Aq.Apply.A7) (fun _ => false) Aq.Apply.hint (fun _ => none)
def Aq.Apply.L0 (N M : Nat) (r c : Int) (l : List Int) (i : Int) (v : List Int) (t p14 : Int) (p2_1 : List Int) : Option DV := B0 Aq.Apply.E N Tryz.f219 (An Tryz.f219) [1, 1, 1, 1, 0, 1, 0] [] M ⟨F7 118 [(1, .int .i64 i), (3, .ints .arg .u64 v), (4, .int .u64 t), (5, .ptr 5 0 0), (10, .ptr 10 0 0), (13, .ptr 13 0 0), (14, .int .i64 p14)], [(5, false, .box [.int .i64 r, .int .i64 c, .ints .arg .u64 l]), (10, false, .box [.int .i64 0, .int .i64 0, .nil]), (13, false, .box [.int .i64 r, .int .i64 c, .oref 114002]), (114002, false, .ints 37 .u64 p2_1)]⟩
def Aq.Apply.L1 (N M0 M : Nat) (r c : Int) (l : List Int) (i : Int) (v : List Int) (t p92 : Int) (p2 : List Int) (p14_1 p18 : Int) (p90 : List Int) (p91 : Int) : Option DV := B0 Aq.Apply.E N Tryz.f219 (An Tryz.f219) [1, 1, 1, 1, 0, 1, 0, 0, 1, 0, 0, 1, 1, 1, 1, 0] [M0] M ⟨F7 118 [(1, .int .i64 i), (3, .ints .arg .u64 v), (4, .int .u64 t), (5, .ptr 5 0 0), (10, .ptr 10 0 0), (13, .ptr 13 0 0), (14, .int .i64 p14_1), (18, .int .u64 p18), (90, .ints .fresh .u64 p90), (91, .int .i64 p91), (92, .int .i64 p92)], [(5, false, .box [.int .i64 r, .int .i64 c, .ints .arg .u64 l]), (10, false, .box [.int .i64 0, .int .i64 0, .nil]), (13, false, .box [.int .i64 r, .int .i64 c, .oref 114002]), (114002, false, .ints 37 .u64 p2)]⟩
theorem Aq.Apply.As (N M : Nat) (r c : Int) (l : List Int) (i : Int) (v : List Int) (t p14 : Int) (p2_1 : List Int) : Aq.Apply.L0 N (M + 1) r c l i v t p14 p2_1 = bif (A4 p14 c) then bif (Gk r c l p14 && C3 (0 ≤ i ∧ i ≤ r)) then bif (((decide ((0 : Int) ≤ (List.length v : Int))) && (decide ((List.length v : Int) ≤ (List.length v : Int)))) && ((decide ((0 : Int) ≤ (List.length v : Int))) && (decide ((List.length v : Int) ≤ (List.length (Cn c l p14 i (Int.toNat (r - i))) : Int))))) then bif ((Oc v (List.take (Int.toNat (List.length v : Int)) (Cn c l p14 i (Int.toNat (r - i)))) && Al v) && Al (List.take (Int.toNat (List.length v : Int)) (Cn c l p14 i (Int.toNat (r - i))))) then bif (Ag t && Ag (It v (List.take (Int.toNat (List.length v : Int)) (Cn c l p14 i (Int.toNat (r - i)))))) then Aq.Apply.L1 N M N r c l i v t (0 : Int) p2_1 p14 (Ea t (It v (List.take (Int.toNat (List.length v : Int)) (Cn c l p14 i (Int.toNat (r - i)))))) (List.take (Int.toNat (List.length v : Int)) (Cn c l p14 i (Int.toNat (r - i)))) (List.length (List.take (Int.toNat (List.length v : Int)) (Cn c l p14 i (Int.toNat (r - i)))) : Int) else none else none else none else none else some (.tup [.agg [.int .i64 r, .int .i64 c, .ints (.own 114002 37) .u64 p2_1], .int .i64 0]) :=
  Eq.trans (by kernel_rfl)
  (Ee (Ee (Cx (Iw (decide ((0 : Int) ≤ (List.length v : Int))) (decide ((List.length v : Int) ≤ (List.length v : Int))) (decide ((List.length v : Int) ≤ (List.length (Cn c l p14 i (Int.toNat (r - i))) : Int)))) rfl rfl) rfl) rfl)
theorem Aq.Apply.B5 (N M0 M : Nat) (r c : Int) (l : List Int) (i : Int) (v : List Int) (t p92 : Int) (p2 : List Int) (p14_1 p18 : Int) (p90 : List Int) (p91 : Int) : Aq.Apply.L1 N M0 (M + 1) r c l i v t p92 p2 p14_1 p18 p90 p91 = bif (A4 p92 p91) then bif ((decide (0 ≤ p92)) && (decide (p92 < (List.length p90 : Int)))) then bif ((decide (0 ≤ p92)) && (decide (p92 < (List.length v : Int)))) then bif (Ag p18 && Ag (List.getD v (Int.toNat p92) 0)) then bif (Ag (List.getD p90 (Int.toNat p92) 0) && Ag (Ea p18 (List.getD v (Int.toNat p92) 0))) then bif ((decide (0 ≤ (Ab ((Ab ((Ab (i + p92)) * c)) + p14_1)))) && (decide ((Ab ((Ab ((Ab (i + p92)) * c)) + p14_1)) < (List.length p2 : Int)))) then bif (decide ((Int.toNat (Ab ((Ab ((Ab (i + p92)) * c)) + p14_1))) < (List.length p2))) then Aq.Apply.L1 N M0 M r c l i v t (Ab (p92 + (1 : Int))) (List.set p2 (Int.toNat (Ab ((Ab ((Ab (i + p92)) * c)) + p14_1))) (Ei (List.getD p90 (Int.toNat p92) 0) (Ea p18 (List.getD v (Int.toNat p92) 0)))) p14_1 p18 p90 p91 else none else none else none else none else none else none else Aq.Apply.L0 N M0 r c l i v t (Ab (p14_1 + (1 : Int))) p2 :=
  Eq.trans (by kernel_rfl)
  (Ee (Ee (Cx (Jn (decide (0 ≤ p92)) (decide (p92 < (List.length v : Int)))) (Cx (E3 (Ag p18 && Ag (List.getD v (Int.toNat p92) 0))) (Cx (E3 (Ag (List.getD p90 (Int.toNat p92) 0) && Ag (Ea p18 (List.getD v (Int.toNat p92) 0)))) (Cx (Jn (decide (0 ≤ (Ab ((Ab ((Ab (i + p92)) * c)) + p14_1)))) (decide ((Ab ((Ab ((Ab (i + p92)) * c)) + p14_1)) < (List.length p2 : Int)))) (Cx (E3 (decide ((Int.toNat (Ab ((Ab ((Ab (i + p92)) * c)) + p14_1))) < (List.length p2)))) rfl rfl) rfl) rfl) rfl) rfl) rfl) rfl)
theorem Aq.Apply.ev (N : Nat) (r c : Int) (l : List Int) (i k : Int) (v : List Int) (t : Int) : Bx Aq.Apply.E N Tryz.f219 (An Tryz.f219) [.agg [.int .i64 r, .int .i64 c, .ints .arg .u64 l], .int .i64 i, .int .i64 k, .ints .arg .u64 v, .int .u64 t] = bif ((Kh r c l) != (0 : Int)) then some (.tup [.agg [.int .i64 0, .int .i64 0, .nil], .int .i64 (Kh r c l)]) else bif (((((A4 i (0 : Int)) || (A4 r (List.length v : Int))) || (A4 (Ab (r - (List.length v : Int))) i)) || (A4 k (0 : Int))) || (A4 c k)) then some (.tup [.agg [.int .i64 0, .int .i64 0, .nil], .int .i64 3]) else bif (decide (0 + (List.length l) ≤ Hc)) then Aq.Apply.L0 N N r c l i v t k ([] ++ l) else none :=
  Eq.trans (by kernel_rfl)
  (Ee rfl (Ax (Lx (A4 i (0 : Int))) (Ax (Ld (A4 i (0 : Int))) (Ax (Lx (A4 i (0 : Int))) (Ax (Ld (A4 i (0 : Int))) (Ax (Akt (A4 i (0 : Int))) (Ax (Jg (A4 i (0 : Int))) (Ax (Ae9 (A4 i (0 : Int)) (A4 r (List.length v : Int))) (Ax (Ae9 (A4 i (0 : Int)) (A4 r (List.length v : Int))) (Ax (Ah8 (A4 i (0 : Int)) (A4 r (List.length v : Int))) (Ax (Ae9 (A4 i (0 : Int)) (A4 r (List.length v : Int))) (Ax (Ah8 (A4 i (0 : Int)) (A4 r (List.length v : Int))) (Ax (Afa (A4 i (0 : Int)) (A4 r (List.length v : Int))) (Ax (Afa (A4 i (0 : Int)) (A4 r (List.length v : Int))) (Ax (Pn (A4 i (0 : Int)) (A4 r (List.length v : Int))) (Ax (Jh (A4 i (0 : Int)) (A4 r (List.length v : Int)) (A4 (Ab (r - (List.length v : Int))) i)) (Ax (Oi (A4 i (0 : Int)) (A4 r (List.length v : Int)) (A4 (Ab (r - (List.length v : Int))) i)) (Ax (Mr (A4 i (0 : Int)) (A4 r (List.length v : Int)) (A4 (Ab (r - (List.length v : Int))) i)) (Ax (J9 (A4 i (0 : Int)) (A4 r (List.length v : Int)) (A4 (Ab (r - (List.length v : Int))) i) (A4 k (0 : Int))) (Ax (J9 (A4 i (0 : Int)) (A4 r (List.length v : Int)) (A4 (Ab (r - (List.length v : Int))) i) (A4 k (0 : Int))) (Ax (I1 (A4 i (0 : Int)) (A4 r (List.length v : Int)) (A4 (Ab (r - (List.length v : Int))) i) (A4 k (0 : Int))) (Ax (Hx (A4 i (0 : Int)) (A4 r (List.length v : Int)) (A4 (Ab (r - (List.length v : Int))) i) (A4 k (0 : Int))) (Ax (Sp (A4 i (0 : Int)) (A4 r (List.length v : Int)) (A4 (Ab (r - (List.length v : Int))) i) (A4 k (0 : Int))) (Cx (Pm (A4 i (0 : Int)) (A4 r (List.length v : Int)) (A4 (Ab (r - (List.length v : Int))) i) (A4 k (0 : Int)) (A4 c k)) rfl (Cx (E3 (decide (0 + (List.length l) ≤ Hc))) rfl rfl)))))))))))))))))))))))))
abbrev _root_.Go.Proofs.S1.Aq.Apply.Kn := A3 Tryz.prog 219 Aq.Apply.spec
theorem Aq.Apply.Ac (hk : Ay Tryz.prog Aq.Apply.A7) (h : ∀ (r c : Int) (l : List Int) (i k : Int) (v : List Int) (t : Int), Aq.Apply.pre [.i r, .i c, .l l, .i i, .i k, .l v, .i t] = true → Bc Aq.Apply.E Tryz.f219 [.agg [.int .i64 r, .int .i64 c, .ints .arg .u64 l], .int .i64 i, .int .i64 k, .ints .arg .u64 v, .int .u64 t] (Aq.Apply.out [.i r, .i c, .l l, .i i, .i k, .l v, .i t])) : Aq.Apply.Kn :=
  Ak (Az hk _ _ _) Tryz.func219 (by kernel_rfl) (by kernel_rfl) h
end EqHouse
end Go.Proofs.S1
end
