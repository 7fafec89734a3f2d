/- A verified evaluator of the program's form and its use for this seat: S1EqOf, S1POf, S1PMatA, S1EqRef10, S1PRef10, S1PFill, S1EqHouse, S1PHouse, S1PApply. -/
import Derived.Test.YtjbokjpbiobjpaaGreatTE
import Derived.Test.YtjbokjpbiobjpaaGreatTF
import Derived.Test.YtjbokjpbiobjpaaGreatTI
import Derived.Test.YtjbokjpbiobjpaaGreatTJ
set_option linter.unusedVariables false
set_option linter.unusedSimpArgs false
noncomputable section
namespace Go.Proofs.S1
open Go Go.Den Go.Rnd Go.Proofs
set_option linter.unusedVariables false
set_option maxRecDepth 100000
namespace EqOf
theorem Eu : ∀ a : Bool, (a && true) = a := by decide
theorem I7 : ∀ a b : Bool, (bif (!a) then true else (!b)) = ((!a) || (!b)) := by decide
theorem H8 : ∀ a : Bool, ((!(!(!a))) || ((!a) == false)) = true := by decide
theorem Hr : ∀ a : Bool, ((!((!a) == false)) || ((((!((!a) == false)) || ((!a) == false)) && true) && true)) = true := by decide
theorem Ge : ∀ a : Bool, ((!((!a) == false)) || true) = true := by decide
theorem Kb : ∀ a b c d e f g h : Bool, (bif (bif (bif (bif (bif (bif (bif a then true else b) then true else c) then true else d) then true else e) then true else f) then true else g) then true else h) = (((((((a || b) || c) || d) || e) || f) || g) || h) := by decide
theorem Lu : ∀ a b c d e f g : Bool, ((!(!(bif (bif (bif (bif (bif (bif a then true else b) then true else c) then true else d) then true else e) then true else f) then true else g))) || ((bif (bif (bif (bif (bif (bif a then true else b) then true else c) then true else d) then true else e) then true else f) then true else g) == false)) = true := by decide
theorem Ld : ∀ a b c d e f g : Bool, ((!((bif (bif (bif (bif (bif (bif a then true else b) then true else c) then true else d) then true else e) then true else f) then true else g) == false)) || ((((!((bif (bif (bif (bif (bif (bif a then true else b) then true else c) then true else d) then true else e) then true else f) then true else g) == false)) || ((bif (bif (bif (bif (bif (bif a then true else b) then true else c) then true else d) then true else e) then true else f) then true else g) == false)) && (((!((bif (bif (bif (bif (bif (bif a then true else b) then true else c) then true else d) then true else e) then true else f) then true else g) == false)) || ((bif (bif (bif (bif (bif (bif a then true else b) then true else c) then true else d) then true else e) then true else f) then true else g) == false)) && true)) && true)) = true := by decide
theorem Qk : ∀ a b c d e f g : Bool, ((!((bif (bif (bif (bif (bif (bif a then true else b) then true else c) then true else d) then true else e) then true else f) then true else g) == false)) || true) = true := by decide
theorem Ru : ∀ a b c d e f g : Bool, ((!((bif (bif (bif (bif (bif (bif a then true else b) then true else c) then true else d) then true else e) then true else f) then true else g) == false)) || ((((!((bif (bif (bif (bif (bif (bif a then true else b) then true else c) then true else d) then true else e) then true else f) then true else g) == false)) || ((bif (bif (bif (bif (bif (bif a then true else b) then true else c) then true else d) then true else e) then true else f) then true else g) == false)) && true) && true)) = true := by decide
theorem Ho : ∀ a b c d e f : Bool, ((!(!(bif (bif (bif (bif (bif a then true else b) then true else c) then true else d) then true else e) then true else f))) || ((bif (bif (bif (bif (bif a then true else b) then true else c) then true else d) then true else e) then true else f) == false)) = true := by decide
theorem Ip : ∀ a b c d e f : Bool, ((!((bif (bif (bif (bif (bif a then true else b) then true else c) then true else d) then true else e) then true else f) == false)) || ((((!((bif (bif (bif (bif (bif a then true else b) then true else c) then true else d) then true else e) then true else f) == false)) || ((bif (bif (bif (bif (bif a then true else b) then true else c) then true else d) then true else e) then true else f) == false)) && (((!((bif (bif (bif (bif (bif a then true else b) then true else c) then true else d) then true else e) then true else f) == false)) || ((bif (bif (bif (bif (bif a then true else b) then true else c) then true else d) then true else e) then true else f) == false)) && true)) && true)) = true := by decide
theorem I8 : ∀ a b c d e f : Bool, ((!((bif (bif (bif (bif (bif a then true else b) then true else c) then true else d) then true else e) then true else f) == false)) || true) = true := by decide
theorem Kl : ∀ a b c d e f : Bool, ((!((bif (bif (bif (bif (bif a then true else b) then true else c) then true else d) then true else e) then true else f) == false)) || ((((!((bif (bif (bif (bif (bif a then true else b) then true else c) then true else d) then true else e) then true else f) == false)) || ((bif (bif (bif (bif (bif a then true else b) then true else c) then true else d) then true else e) then true else f) == false)) && true) && true)) = true := by decide
theorem Mv : ∀ a b c d e : Bool, ((!(!(bif (bif (bif (bif a then true else b) then true else c) then true else d) then true else e))) || ((bif (bif (bif (bif a then true else b) then true else c) then true else d) then true else e) == false)) = true := by decide
theorem Mu : ∀ a b c d e : Bool, ((!((bif (bif (bif (bif a then true else b) then true else c) then true else d) then true else e) == false)) || ((((!((bif (bif (bif (bif a then true else b) then true else c) then true else d) then true else e) == false)) || ((bif (bif (bif (bif a then true else b) then true else c) then true else d) then true else e) == false)) && (((!((bif (bif (bif (bif a then true else b) then true else c) then true else d) then true else e) == false)) || ((bif (bif (bif (bif a then true else b) then true else c) then true else d) then true else e) == false)) && true)) && true)) = true := by decide
theorem Rv : ∀ a b c d e : Bool, ((!((bif (bif (bif (bif a then true else b) then true else c) then true else d) then true else e) == false)) || ((((!((bif (bif (bif (bif a then true else b) then true else c) then true else d) then true else e) == false)) || ((bif (bif (bif (bif a then true else b) then true else c) then true else d) then true else e) == false)) && true) && true)) = true := by decide
theorem tt17 : ∀ a b c d e : Bool, ((!((bif (bif (bif (bif a then true else b) then true else c) then true else d) then true else e) == false)) || true) = true := by decide
theorem tt18 : ∀ a b c d : Bool, ((!(!(bif (bif (bif a then true else b) then true else c) then true else d))) || ((bif (bif (bif a then true else b) then true else c) then true else d) == false)) = true := by decide
theorem tt19 : ∀ a b c d : Bool, ((!((bif (bif (bif a then true else b) then true else c) then true else d) == false)) || ((((!((bif (bif (bif a then true else b) then true else c) then true else d) == false)) || ((bif (bif (bif a then true else b) then true else c) then true else d) == false)) && (((!((bif (bif (bif a then true else b) then true else c) then true else d) == false)) || ((bif (bif (bif a then true else b) then true else c) then true else d) == false)) && true)) && true)) = true := by decide
theorem tt20 : ∀ a b c d : Bool, ((!((bif (bif (bif a then true else b) then true else c) then true else d) == false)) || ((((!((bif (bif (bif a then true else b) then true else c) then true else d) == false)) || ((bif (bif (bif a then true else b) then true else c) then true else d) == false)) && true) && true)) = true := by decide
theorem tt21 : ∀ a b c d : Bool, ((!((bif (bif (bif a then true else b) then true else c) then true else d) == false)) || true) = true := by decide
theorem tt22 : ∀ a b c : Bool, ((!(!(bif (bif a then true else b) then true else c))) || ((bif (bif a then true else b) then true else c) == false)) = true := by decide
theorem tt23 : ∀ a b c : Bool, ((!((bif (bif a then true else b) then true else c) == false)) || ((((!((bif (bif a then true else b) then true else c) == false)) || ((bif (bif a then true else b) then true else c) == false)) && true) && true)) = true := by decide
theorem tt24 : ∀ a b c : Bool, ((!((bif (bif a then true else b) then true else c) == false)) || true) = true := by decide
theorem tt25 : ∀ a b : Bool, ((!(!(bif a then true else b))) || ((bif a then true else b) == false)) = true := by decide
theorem tt26 : ∀ a b : Bool, ((!((bif a then true else b) == false)) || ((((!((bif a then true else b) == false)) || ((bif a then true else b) == false)) && true) && true)) = true := by decide
theorem tt27 : ∀ a b : Bool, ((!((bif a then true else b) == false)) || true) = true := by decide
theorem tt28 : ∀ a : Bool, ((!(!a)) || (a == false)) = true := by decide
theorem tt29 : ∀ a : Bool, ((!(a == false)) || ((((!(a == false)) || (a == false)) && true) && true)) = true := by decide
theorem tt30 : ∀ a : Bool, ((!(a == false)) || true) = true := by decide
def Aa.of.Bt.hint : Nat → Option Bf
  | 0 => some { keep := [1, 2, 6, 7, 13, 14], objs := [(8, 2, 108002, .ints 37 .u64 [])], boxes := [6, 7] }
  | 2 => some { keep := [1, 2, 6, 7, 8, 13, 14, 17, 18], objs := [(8, 2, 108002, .ints 37 .u64 [])], boxes := [6, 7] }
  | _ => none
def Aa.of.Bt.A9 : List (Nat × Entry) := [(205, Aa.Du.spec)]
def Aa.of.Bt.E : Env := Bb (A8 Aa.of.Bt.A9) (fun _ => false) Aa.of.Bt.hint (fun _ => none)
def Aa.of.Bt.L0 (N M : Nat) (a b p14 : Int) (p2_1 : List Int) : Option DV := B6 Aa.of.Bt.E N Tryz.f187 (Ad Tryz.f187) [1, 1, 0, 1, 0] [] M ⟨Hq 33 [(1, .int .i64 b), (2, .fn 205 [] []), (6, .ptr 6 0 0), (7, .ptr 7 0 0), (13, .int .i64 a), (14, .int .i64 p14)], [(6, false, .box [.int .i64 0, .int .i64 0, .nil]), (7, false, .box [.int .i64 a, .int .i64 b, .oref 108002]), (108002, false, .ints 37 .u64 p2_1)]⟩
def Aa.of.Bt.L1 (N M0 M : Nat) (a b : Int) (p8 p14_1 p18 : Int) (p2 : List Int) : Option DV := B6 Aa.of.Bt.E N Tryz.f187 (Ad Tryz.f187) [1, 1, 0, 1, 0, 0, 1, 1, 0, 0, 1, 1, 0] [M0] M ⟨Hq 33 [(1, .int .i64 b), (2, .fn 205 [] []), (6, .ptr 6 0 0), (7, .ptr 7 0 0), (8, .int .i64 p8), (13, .int .i64 a), (14, .int .i64 p14_1), (17, .int .i64 b), (18, .int .i64 p18)], [(6, false, .box [.int .i64 0, .int .i64 0, .nil]), (7, false, .box [.int .i64 a, .int .i64 b, .oref 108002]), (108002, false, .ints 37 .u64 p2)]⟩
theorem Aa.of.Bt.Az (N M : Nat) (a b p14 : Int) (p2_1 : List Int) : Aa.of.Bt.L0 N (M + 1) a b p14 p2_1 =
  bif (A5 p14 a) then
  Aa.of.Bt.L1 N M N a b p14 p14 (0 : Int) p2_1
  else some (.agg [.int .i64 a, .int .i64 b, .ints (.own 108002 37) .u64 p2_1]) := by kernel_rfl
theorem Aa.of.Bt.Ch (N M0 M : Nat) (a b : Int) (p8 p14_1 p18 : Int) (p2 : List Int) : Aa.of.Bt.L1 N M0 (M + 1) a b p8 p14_1 p18 p2 =
  bif (A5 p18 b) then
  bif (decide ((List.length p2) + 1 ≤ H0)) then
  Aa.of.Bt.L1 N M0 M a b p8 p14_1 (Ab (p18 + (1 : Int))) (p2 ++ [(0 : Int)])
  else none
  else Aa.of.Bt.L0 N M0 a b (Ab (p14_1 + (1 : Int))) p2 :=
  Eq.trans (by kernel_rfl)
  (Fb (C1 (Eu (decide ((List.length p2) + 1 ≤ H0))) rfl rfl) rfl)
theorem Aa.of.Bt.ev (N : Nat) (a b : Int) : A1 Aa.of.Bt.E N Tryz.f187 (Ad Tryz.f187) [.int .i64 a, .int .i64 b, .fn 205 [] []] =
  Aa.of.Bt.L0 N N a b (0 : Int) [] := by kernel_rfl
def Aa.of.G7.hint : Nat → Option Bf
  | 0 => some { keep := [1, 2, 6, 7, 13, 14], objs := [(8, 2, 108002, .ints 37 .u64 [])], boxes := [6, 7] }
  | 2 => some { keep := [1, 2, 6, 7, 8, 13, 14, 17, 18], objs := [(8, 2, 108002, .ints 37 .u64 [])], boxes := [6, 7] }
  | _ => none
def Aa.of.G7.A9 : List (Nat × Entry) := [(246, Aa.G6.spec)]
def Aa.of.G7.E : Env := Bb (A8 Aa.of.G7.A9) (fun _ => false) Aa.of.G7.hint (fun _ => none)
def Aa.of.G7.L0 (N M : Nat) (a b p14 : Int) (p2_1 : List Int) : Option DV := B6 Aa.of.G7.E N Tryz.f187 (Ad Tryz.f187) [1, 1, 0, 1, 0] [] M ⟨Hq 33 [(1, .int .i64 b), (2, .fn 246 [] []), (6, .ptr 6 0 0), (7, .ptr 7 0 0), (13, .int .i64 a), (14, .int .i64 p14)], [(6, false, .box [.int .i64 0, .int .i64 0, .nil]), (7, false, .box [.int .i64 a, .int .i64 b, .oref 108002]), (108002, false, .ints 37 .u64 p2_1)]⟩
def Aa.of.G7.L1 (N M0 M : Nat) (a b : Int) (p8 p14_1 p18 : Int) (p2 : List Int) : Option DV := B6 Aa.of.G7.E N Tryz.f187 (Ad Tryz.f187) [1, 1, 0, 1, 0, 0, 1, 1, 0, 0, 1, 1, 0] [M0] M ⟨Hq 33 [(1, .int .i64 b), (2, .fn 246 [] []), (6, .ptr 6 0 0), (7, .ptr 7 0 0), (8, .int .i64 p8), (13, .int .i64 a), (14, .int .i64 p14_1), (17, .int .i64 b), (18, .int .i64 p18)], [(6, false, .box [.int .i64 0, .int .i64 0, .nil]), (7, false, .box [.int .i64 a, .int .i64 b, .oref 108002]), (108002, false, .ints 37 .u64 p2)]⟩
theorem Aa.of.G7.Az (N M : Nat) (a b p14 : Int) (p2_1 : List Int) : Aa.of.G7.L0 N (M + 1) a b p14 p2_1 =
  bif (A5 p14 a) then
  Aa.of.G7.L1 N M N a b p14 p14 (0 : Int) p2_1
  else some (.agg [.int .i64 a, .int .i64 b, .ints (.own 108002 37) .u64 p2_1]) := by kernel_rfl
theorem Aa.of.G7.Ch (N M0 M : Nat) (a b : Int) (p8 p14_1 p18 : Int) (p2 : List Int) : Aa.of.G7.L1 N M0 (M + 1) a b p8 p14_1 p18 p2 =
  bif (A5 p18 b) then
  bif (decide ((List.length p2) + 1 ≤ H0)) then
  Aa.of.G7.L1 N M0 M a b p8 p14_1 (Ab (p18 + (1 : Int))) (p2 ++ [(Tv p8 p18)])
  else none
  else Aa.of.G7.L0 N M0 a b (Ab (p14_1 + (1 : Int))) p2 :=
  Eq.trans (by kernel_rfl)
  (Fb (C1 (Eu (decide ((List.length p2) + 1 ≤ H0))) rfl rfl) rfl)
theorem Aa.of.G7.ev (N : Nat) (a b : Int) : A1 Aa.of.G7.E N Tryz.f187 (Ad Tryz.f187) [.int .i64 a, .int .i64 b, .fn 246 [] []] =
  Aa.of.G7.L0 N N a b (0 : Int) [] := by kernel_rfl
theorem Aa.of.G7.Ac (hk : A0 Tryz.prog Aa.of.G7.A9) (h : ∀ (a b : Int), Aa.of.G7.pre [.i a, .i b] = true → ∃ N dv drops, A1 Aa.of.G7.E N Tryz.f187 (Ad Tryz.f187) [.int .i64 a, .int .i64 b, .fn 246 [] []] = some dv ∧ Wk drops dv (Aa.of.G7.out [.i a, .i b])) : Am Tryz.prog 187 Aa.of.G7.spec :=
  Aj (A2 hk _ _ _) Tryz.func187 (by kernel_rfl) (by kernel_rfl) h
abbrev _root_.Go.Proofs.S1.Aa.of.G7.Kn : Prop := Am Tryz.prog 187 Aa.of.G7.spec
def Aa.of.Df.hint : Nat → Option Bf
  | 0 => some { keep := [1, 2, 6, 7, 13, 14], objs := [(8, 2, 108002, .ints 37 .u64 [])], boxes := [6, 7] }
  | 2 => some { keep := [1, 2, 6, 7, 8, 13, 14, 17, 18], objs := [(8, 2, 108002, .ints 37 .u64 [])], boxes := [6, 7] }
  | _ => none
def Aa.of.Df.A9 : List (Nat × Entry) := [(220, Aa.E0.spec)]
def Aa.of.Df.E : Env := Bb (A8 Aa.of.Df.A9) (fun _ => false) Aa.of.Df.hint (fun _ => none)
def Aa.of.Df.L0 (N M : Nat) (a b : Int) (r c : Int) (l : List Int) (p14 : Int) (p2_1 : List Int) : Option DV := B6 Aa.of.Df.E N Tryz.f187 (Ad Tryz.f187) [1, 1, 0, 1, 0] [] M ⟨Hq 33 [(1, .int .i64 b), (2, .fn 220 [] [.cellp [.int .i64 r, .int .i64 c, .ints .arg .u64 l]]), (6, .ptr 6 0 0), (7, .ptr 7 0 0), (13, .int .i64 a), (14, .int .i64 p14)], [(6, false, .box [.int .i64 0, .int .i64 0, .nil]), (7, false, .box [.int .i64 a, .int .i64 b, .oref 108002]), (108002, false, .ints 37 .u64 p2_1)]⟩
def Aa.of.Df.L1 (N M0 M : Nat) (a b : Int) (r c : Int) (l : List Int) (p8 p14_1 p18 : Int) (p2 : List Int) : Option DV := B6 Aa.of.Df.E N Tryz.f187 (Ad Tryz.f187) [1, 1, 0, 1, 0, 0, 1, 1, 0, 0, 1, 1, 0] [M0] M ⟨Hq 33 [(1, .int .i64 b), (2, .fn 220 [] [.cellp [.int .i64 r, .int .i64 c, .ints .arg .u64 l]]), (6, .ptr 6 0 0), (7, .ptr 7 0 0), (8, .int .i64 p8), (13, .int .i64 a), (14, .int .i64 p14_1), (17, .int .i64 b), (18, .int .i64 p18)], [(6, false, .box [.int .i64 0, .int .i64 0, .nil]), (7, false, .box [.int .i64 a, .int .i64 b, .oref 108002]), (108002, false, .ints 37 .u64 p2)]⟩
theorem Aa.of.Df.Az (N M : Nat) (a b : Int) (r c : Int) (l : List Int) (p14 : Int) (p2_1 : List Int) : Aa.of.Df.L0 N (M + 1) a b r c l p14 p2_1 =
  bif (A5 p14 a) then
  Aa.of.Df.L1 N M N a b r c l p14 p14 (0 : Int) p2_1
  else some (.agg [.int .i64 a, .int .i64 b, .ints (.own 108002 37) .u64 p2_1]) := by kernel_rfl
theorem Aa.of.Df.Ch (N M0 M : Nat) (a b : Int) (r c : Int) (l : List Int) (p8 p14_1 p18 : Int) (p2 : List Int) : Aa.of.Df.L1 N M0 (M + 1) a b r c l p8 p14_1 p18 p2 =
  bif (A5 p18 b) then
  bif (Ec r c l p18 p8) then
  bif (decide ((List.length p2) + 1 ≤ H0)) then
  Aa.of.Df.L1 N M0 M a b r c l p8 p14_1 (Ab (p18 + (1 : Int))) (p2 ++ [(Eg c l p18 p8)])
  else none
  else none
  else Aa.of.Df.L0 N M0 a b r c l (Ab (p14_1 + (1 : Int))) p2 :=
  Eq.trans (by kernel_rfl)
  (Fb (C1 (Eu (Ec r c l p18 p8)) (C1 (Eu (decide ((List.length p2) + 1 ≤ H0))) rfl rfl) rfl) rfl)
theorem Aa.of.Df.ev (N : Nat) (a b : Int) (r c : Int) (l : List Int) : A1 Aa.of.Df.E N Tryz.f187 (Ad Tryz.f187) [.int .i64 a, .int .i64 b, .fn 220 [] [.cellp [.int .i64 r, .int .i64 c, .ints .arg .u64 l]]] =
  Aa.of.Df.L0 N N a b r c l (0 : Int) [] := by kernel_rfl
theorem Aa.of.Df.Ac (hk : A0 Tryz.prog Aa.of.Df.A9) (h : ∀ (a b : Int) (r c : Int) (l : List Int), Aa.of.Df.pre [.i a, .i b, .i r, .i c, .l l] = true → ∃ N dv drops, A1 Aa.of.Df.E N Tryz.f187 (Ad Tryz.f187) [.int .i64 a, .int .i64 b, .fn 220 [] [.cellp [.int .i64 r, .int .i64 c, .ints .arg .u64 l]]] = some dv ∧ Wk drops dv (Aa.of.Df.out [.i a, .i b, .i r, .i c, .l l])) : Am Tryz.prog 187 Aa.of.Df.spec :=
  Aj (A2 hk _ _ _) Tryz.func187 (by kernel_rfl) (by kernel_rfl) h
abbrev _root_.Go.Proofs.S1.Aa.of.Df.Kn : Prop := Am Tryz.prog 187 Aa.of.Df.spec
def Aa.of.Part.hint : Nat → Option Bf
  | 0 => some { keep := [1, 2, 6, 7, 13, 14], objs := [(8, 2, 108002, .ints 37 .u64 [])], boxes := [6, 7] }
  | 2 => some { keep := [1, 2, 6, 7, 8, 13, 14, 17, 18], objs := [(8, 2, 108002, .ints 37 .u64 [])], boxes := [6, 7] }
  | _ => none
def Aa.of.Part.A9 : List (Nat × Entry) := [(192, Aa.E2.spec)]
def Aa.of.Part.E : Env := Bb (A8 Aa.of.Part.A9) (fun _ => false) Aa.of.Part.hint (fun _ => none)
def Aa.of.Part.L0 (N M : Nat) (a b : Int) (r c : Int) (l : List Int) (x y p14 : Int) (p2_1 : List Int) : Option DV := B6 Aa.of.Part.E N Tryz.f187 (Ad Tryz.f187) [1, 1, 0, 1, 0] [] M ⟨Hq 33 [(1, .int .i64 b), (2, .fn 192 [] [.cellp [.int .i64 r, .int .i64 c, .ints .arg .u64 l], .cellp [.int .i64 x], .cellp [.int .i64 y]]), (6, .ptr 6 0 0), (7, .ptr 7 0 0), (13, .int .i64 a), (14, .int .i64 p14)], [(6, false, .box [.int .i64 0, .int .i64 0, .nil]), (7, false, .box [.int .i64 a, .int .i64 b, .oref 108002]), (108002, false, .ints 37 .u64 p2_1)]⟩
def Aa.of.Part.L1 (N M0 M : Nat) (a b : Int) (r c : Int) (l : List Int) (x y : Int) (p8 p14_1 p18 : Int) (p2 : List Int) : Option DV := B6 Aa.of.Part.E N Tryz.f187 (Ad Tryz.f187) [1, 1, 0, 1, 0, 0, 1, 1, 0, 0, 1, 1, 0] [M0] M ⟨Hq 33 [(1, .int .i64 b), (2, .fn 192 [] [.cellp [.int .i64 r, .int .i64 c, .ints .arg .u64 l], .cellp [.int .i64 x], .cellp [.int .i64 y]]), (6, .ptr 6 0 0), (7, .ptr 7 0 0), (8, .int .i64 p8), (13, .int .i64 a), (14, .int .i64 p14_1), (17, .int .i64 b), (18, .int .i64 p18)], [(6, false, .box [.int .i64 0, .int .i64 0, .nil]), (7, false, .box [.int .i64 a, .int .i64 b, .oref 108002]), (108002, false, .ints 37 .u64 p2)]⟩
theorem Aa.of.Part.Az (N M : Nat) (a b : Int) (r c : Int) (l : List Int) (x y p14 : Int) (p2_1 : List Int) : Aa.of.Part.L0 N (M + 1) a b r c l x y p14 p2_1 =
  bif (A5 p14 a) then
  Aa.of.Part.L1 N M N a b r c l x y p14 p14 (0 : Int) p2_1
  else some (.agg [.int .i64 a, .int .i64 b, .ints (.own 108002 37) .u64 p2_1]) := by kernel_rfl
theorem Aa.of.Part.Ch (N M0 M : Nat) (a b : Int) (r c : Int) (l : List Int) (x y : Int) (p8 p14_1 p18 : Int) (p2 : List Int) : Aa.of.Part.L1 N M0 (M + 1) a b r c l x y p8 p14_1 p18 p2 =
  bif (A5 p18 b) then
  bif (Ec r c l (x + p8) (y + p18) && Tc x y p8 p18) then
  bif (decide ((List.length p2) + 1 ≤ H0)) then
  Aa.of.Part.L1 N M0 M a b r c l x y p8 p14_1 (Ab (p18 + (1 : Int))) (p2 ++ [(Eg c l (x + p8) (y + p18))])
  else none
  else none
  else Aa.of.Part.L0 N M0 a b r c l x y (Ab (p14_1 + (1 : Int))) p2 :=
  Eq.trans (by kernel_rfl)
  (Fb (C1 (Eu (Ec r c l (x + p8) (y + p18) && Tc x y p8 p18)) (C1 (Eu (decide ((List.length p2) + 1 ≤ H0))) rfl rfl) rfl) rfl)
theorem Aa.of.Part.ev (N : Nat) (a b : Int) (r c : Int) (l : List Int) (x y : Int) : A1 Aa.of.Part.E N Tryz.f187 (Ad Tryz.f187) [.int .i64 a, .int .i64 b, .fn 192 [] [.cellp [.int .i64 r, .int .i64 c, .ints .arg .u64 l], .cellp [.int .i64 x], .cellp [.int .i64 y]]] =
  Aa.of.Part.L0 N N a b r c l x y (0 : Int) [] := by kernel_rfl
theorem Aa.of.Part.Ac (hk : A0 Tryz.prog Aa.of.Part.A9) (h : ∀ (a b : Int) (r c : Int) (l : List Int) (x y : Int), Aa.of.Part.pre [.i a, .i b, .i r, .i c, .l l, .i x, .i y] = true → ∃ N dv drops, A1 Aa.of.Part.E N Tryz.f187 (Ad Tryz.f187) [.int .i64 a, .int .i64 b, .fn 192 [] [.cellp [.int .i64 r, .int .i64 c, .ints .arg .u64 l], .cellp [.int .i64 x], .cellp [.int .i64 y]]] = some dv ∧ Wk drops dv (Aa.of.Part.out [.i a, .i b, .i r, .i c, .l l, .i x, .i y])) : Am Tryz.prog 187 Aa.of.Part.spec :=
  Aj (A2 hk _ _ _) Tryz.func187 (by kernel_rfl) (by kernel_rfl) h
abbrev _root_.Go.Proofs.S1.Aa.of.Part.Kn : Prop := Am Tryz.prog 187 Aa.of.Part.spec
def Aa.of.Mul.hint : Nat → Option Bf
  | 0 => some { keep := [1, 2, 6, 7, 13, 14], objs := [(8, 2, 108002, .ints 37 .u64 [])], boxes := [6, 7] }
  | 2 => some { keep := [1, 2, 6, 7, 8, 13, 14, 17, 18], objs := [(8, 2, 108002, .ints 37 .u64 [])], boxes := [6, 7] }
  | _ => none
def Aa.of.Mul.A9 : List (Nat × Entry) := [(188, Aa.G2.spec)]
def Aa.of.Mul.E : Env := Bb (A8 Aa.of.Mul.A9) (fun _ => false) Aa.of.Mul.hint (fun _ => none)
def Aa.of.Mul.L0 (N M : Nat) (a b : Int) (r c : Int) (l : List Int) (p q : Int) (m : List Int) (p14 : Int) (p2_1 : List Int) : Option DV := B6 Aa.of.Mul.E N Tryz.f187 (Ad Tryz.f187) [1, 1, 0, 1, 0] [] M ⟨Hq 33 [(1, .int .i64 b), (2, .fn 188 [] [.cellp [.int .i64 r, .int .i64 c, .ints .arg .u64 l], .cellp [.int .i64 p, .int .i64 q, .ints .arg .u64 m]]), (6, .ptr 6 0 0), (7, .ptr 7 0 0), (13, .int .i64 a), (14, .int .i64 p14)], [(6, false, .box [.int .i64 0, .int .i64 0, .nil]), (7, false, .box [.int .i64 a, .int .i64 b, .oref 108002]), (108002, false, .ints 37 .u64 p2_1)]⟩
def Aa.of.Mul.L1 (N M0 M : Nat) (a b : Int) (r c : Int) (l : List Int) (p q : Int) (m : List Int) (p8 p14_1 p18 : Int) (p2 : List Int) : Option DV := B6 Aa.of.Mul.E N Tryz.f187 (Ad Tryz.f187) [1, 1, 0, 1, 0, 0, 1, 1, 0, 0, 1, 1, 0] [M0] M ⟨Hq 33 [(1, .int .i64 b), (2, .fn 188 [] [.cellp [.int .i64 r, .int .i64 c, .ints .arg .u64 l], .cellp [.int .i64 p, .int .i64 q, .ints .arg .u64 m]]), (6, .ptr 6 0 0), (7, .ptr 7 0 0), (8, .int .i64 p8), (13, .int .i64 a), (14, .int .i64 p14_1), (17, .int .i64 b), (18, .int .i64 p18)], [(6, false, .box [.int .i64 0, .int .i64 0, .nil]), (7, false, .box [.int .i64 a, .int .i64 b, .oref 108002]), (108002, false, .ints 37 .u64 p2)]⟩
theorem Aa.of.Mul.Az (N M : Nat) (a b : Int) (r c : Int) (l : List Int) (p q : Int) (m : List Int) (p14 : Int) (p2_1 : List Int) : Aa.of.Mul.L0 N (M + 1) a b r c l p q m p14 p2_1 =
  bif (A5 p14 a) then
  Aa.of.Mul.L1 N M N a b r c l p q m p14 p14 (0 : Int) p2_1
  else some (.agg [.int .i64 a, .int .i64 b, .ints (.own 108002 37) .u64 p2_1]) := by kernel_rfl
theorem Aa.of.Mul.Ch (N M0 M : Nat) (a b : Int) (r c : Int) (l : List Int) (p q : Int) (m : List Int) (p8 p14_1 p18 : Int) (p2 : List Int) : Aa.of.Mul.L1 N M0 (M + 1) a b r c l p q m p8 p14_1 p18 p2 =
  bif (A5 p18 b) then
  bif (Rb r c l p q m p8 p18) then
  bif (decide ((List.length p2) + 1 ≤ H0)) then
  Aa.of.Mul.L1 N M0 M a b r c l p q m p8 p14_1 (Ab (p18 + (1 : Int))) (p2 ++ [(Qn (Mf c l p8) (Rk p q m p18))])
  else none
  else none
  else Aa.of.Mul.L0 N M0 a b r c l p q m (Ab (p14_1 + (1 : Int))) p2 :=
  Eq.trans (by kernel_rfl)
  (Fb (C1 (Eu (Rb r c l p q m p8 p18)) (C1 (Eu (decide ((List.length p2) + 1 ≤ H0))) rfl rfl) rfl) rfl)
theorem Aa.of.Mul.ev (N : Nat) (a b : Int) (r c : Int) (l : List Int) (p q : Int) (m : List Int) : A1 Aa.of.Mul.E N Tryz.f187 (Ad Tryz.f187) [.int .i64 a, .int .i64 b, .fn 188 [] [.cellp [.int .i64 r, .int .i64 c, .ints .arg .u64 l], .cellp [.int .i64 p, .int .i64 q, .ints .arg .u64 m]]] =
  Aa.of.Mul.L0 N N a b r c l p q m (0 : Int) [] := by kernel_rfl
theorem Aa.of.Mul.Ac (hk : A0 Tryz.prog Aa.of.Mul.A9) (h : ∀ (a b : Int) (r c : Int) (l : List Int) (p q : Int) (m : List Int), Aa.of.Mul.pre [.i a, .i b, .i r, .i c, .l l, .i p, .i q, .l m] = true → ∃ N dv drops, A1 Aa.of.Mul.E N Tryz.f187 (Ad Tryz.f187) [.int .i64 a, .int .i64 b, .fn 188 [] [.cellp [.int .i64 r, .int .i64 c, .ints .arg .u64 l], .cellp [.int .i64 p, .int .i64 q, .ints .arg .u64 m]]] = some dv ∧ Wk drops dv (Aa.of.Mul.out [.i a, .i b, .i r, .i c, .l l, .i p, .i q, .l m])) : Am Tryz.prog 187 Aa.of.Mul.spec :=
  Aj (A2 hk _ _ _) Tryz.func187 (by kernel_rfl) (by kernel_rfl) h
abbrev _root_.Go.Proofs.S1.Aa.of.Mul.Kn : Prop := Am Tryz.prog 187 Aa.of.Mul.spec
def Aa.G7.A9 : List (Nat × Entry) := [(187, Aa.of.G7.spec), (204, Aa.size.spec)]
def Aa.G7.E : Env := Bb (A8 Aa.G7.A9) (fun _ => false) (fun _ => none) (fun _ => none)
theorem Aa.G7.ev (N : Nat) (n : Int) : A1 Aa.G7.E N Tryz.f218 (Ad Tryz.f218) [.int .i64 n] =
  bif (!(Bs n)) then
  some (.tup [.agg [.int .i64 0, .int .i64 0, .nil], .int .i64 3])
  else bif ((Bs n && Bs n)) then
  some (.tup [.agg [.int .i64 n, .int .i64 n, .ints .fresh .u64 (Cx (Int.toNat n) (Int.toNat n) (fun j1 j2 => Tv j1 j2))], .int .i64 0])
  else none := by kernel_rfl
theorem Aa.G7.Ac (hk : A0 Tryz.prog Aa.G7.A9) (h : ∀ (n : Int), Aa.G7.pre [.i n] = true → ∃ N dv drops, A1 Aa.G7.E N Tryz.f218 (Ad Tryz.f218) [.int .i64 n] = some dv ∧ Wk drops dv (Aa.G7.out [.i n])) : Am Tryz.prog 218 Aa.G7.spec :=
  Aj (A2 hk _ _ _) Tryz.func218 (by kernel_rfl) (by kernel_rfl) h
abbrev _root_.Go.Proofs.S1.Aa.G7.Kn : Prop := Am Tryz.prog 218 Aa.G7.spec
def Aa.Df.A9 : List (Nat × Entry) := [(160, Aa.Check.spec), (187, Aa.of.Df.spec)]
def Aa.Df.E : Env := Bb (A8 Aa.Df.A9) (fun _ => false) (fun _ => none) (fun _ => none)
theorem Aa.Df.ev (N : Nat) (r c : Int) (l : List Int) : A1 Aa.Df.E N Tryz.f167 (Ad Tryz.f167) [.agg [.int .i64 r, .int .i64 c, .ints .arg .u64 l]] =
  bif ((Jm r c l) != (0 : Int)) then
  some (.tup [.agg [.int .i64 0, .int .i64 0, .nil], .int .i64 (Jm r c l)])
  else bif ((Bs c && Bs r) && Bn r c l && decide (c = c ∧ r = r)) then
  some (.tup [.agg [.int .i64 c, .int .i64 r, .ints .fresh .u64 (Cx (Int.toNat c) (Int.toNat r) (fun j1 j2 => Eg c l j2 j1))], .int .i64 0])
  else none := by kernel_rfl
theorem Aa.Df.Ac (hk : A0 Tryz.prog Aa.Df.A9) (h : ∀ (r c : Int) (l : List Int), Aa.Df.pre [.i r, .i c, .l l] = true → ∃ N dv drops, A1 Aa.Df.E N Tryz.f167 (Ad Tryz.f167) [.agg [.int .i64 r, .int .i64 c, .ints .arg .u64 l]] = some dv ∧ Wk drops dv (Aa.Df.out [.i r, .i c, .l l])) : Am Tryz.prog 167 Aa.Df.spec :=
  Aj (A2 hk _ _ _) Tryz.func167 (by kernel_rfl) (by kernel_rfl) h
abbrev _root_.Go.Proofs.S1.Aa.Df.Kn : Prop := Am Tryz.prog 167 Aa.Df.spec
def Aa.Part.A9 : List (Nat × Entry) := [(160, Aa.Check.spec), (187, Aa.of.Part.spec)]
def Aa.Part.E : Env := Bb (A8 Aa.Part.A9) (fun _ => false) (fun _ => none) (fun _ => none)
theorem Aa.Part.ev (N : Nat) (r c : Int) (l : List Int) (x y : Int) (a b : Int) : A1 Aa.Part.E N Tryz.f124 (Ad Tryz.f124) [.agg [.int .i64 r, .int .i64 c, .ints .arg .u64 l], .int .i64 x, .int .i64 y, .int .i64 a, .int .i64 b] =
  bif ((Jm r c l) != (0 : Int)) then
  some (.tup [.agg [.int .i64 0, .int .i64 0, .nil], .int .i64 (Jm r c l)])
  else bif ((((((((A5 x (0 : Int)) || (A5 y (0 : Int))) || (A5 a (0 : Int))) || (A5 b (0 : Int))) || (A5 r x)) || (A5 c y)) || (A5 (Ab (r - x)) a)) || (A5 (Ab (c - y)) b)) then
  some (.tup [.agg [.int .i64 0, .int .i64 0, .nil], .int .i64 3])
  else bif ((Bs a && Bs b) && Bn r c l && Oa r c x y a b) then
  some (.tup [.agg [.int .i64 a, .int .i64 b, .ints .fresh .u64 (Cx (Int.toNat a) (Int.toNat b) (fun j1 j2 => Eg c l (x + j1) (y + j2)))], .int .i64 0])
  else none :=
  Eq.trans (by kernel_rfl)
  (Fb rfl (Ax (tt30 (A5 x (0 : Int))) (Ax (tt29 (A5 x (0 : Int))) (Ax (tt28 (A5 x (0 : Int))) (Ax (tt27 (A5 x (0 : Int)) (A5 y (0 : Int))) (Ax (tt26 (A5 x (0 : Int)) (A5 y (0 : Int))) (Ax (tt25 (A5 x (0 : Int)) (A5 y (0 : Int))) (Ax (tt24 (A5 x (0 : Int)) (A5 y (0 : Int)) (A5 a (0 : Int))) (Ax (tt23 (A5 x (0 : Int)) (A5 y (0 : Int)) (A5 a (0 : Int))) (Ax (tt22 (A5 x (0 : Int)) (A5 y (0 : Int)) (A5 a (0 : Int))) (Ax (tt21 (A5 x (0 : Int)) (A5 y (0 : Int)) (A5 a (0 : Int)) (A5 b (0 : Int))) (Ax (tt21 (A5 x (0 : Int)) (A5 y (0 : Int)) (A5 a (0 : Int)) (A5 b (0 : Int))) (Ax (tt20 (A5 x (0 : Int)) (A5 y (0 : Int)) (A5 a (0 : Int)) (A5 b (0 : Int))) (Ax (tt19 (A5 x (0 : Int)) (A5 y (0 : Int)) (A5 a (0 : Int)) (A5 b (0 : Int))) (Ax (tt18 (A5 x (0 : Int)) (A5 y (0 : Int)) (A5 a (0 : Int)) (A5 b (0 : Int))) (Ax (tt17 (A5 x (0 : Int)) (A5 y (0 : Int)) (A5 a (0 : Int)) (A5 b (0 : Int)) (A5 r x)) (Ax (tt17 (A5 x (0 : Int)) (A5 y (0 : Int)) (A5 a (0 : Int)) (A5 b (0 : Int)) (A5 r x)) (Ax (Rv (A5 x (0 : Int)) (A5 y (0 : Int)) (A5 a (0 : Int)) (A5 b (0 : Int)) (A5 r x)) (Ax (Mu (A5 x (0 : Int)) (A5 y (0 : Int)) (A5 a (0 : Int)) (A5 b (0 : Int)) (A5 r x)) (Ax (Mv (A5 x (0 : Int)) (A5 y (0 : Int)) (A5 a (0 : Int)) (A5 b (0 : Int)) (A5 r x)) (Ax (I8 (A5 x (0 : Int)) (A5 y (0 : Int)) (A5 a (0 : Int)) (A5 b (0 : Int)) (A5 r x) (A5 c y)) (Ax (I8 (A5 x (0 : Int)) (A5 y (0 : Int)) (A5 a (0 : Int)) (A5 b (0 : Int)) (A5 r x) (A5 c y)) (Ax (Kl (A5 x (0 : Int)) (A5 y (0 : Int)) (A5 a (0 : Int)) (A5 b (0 : Int)) (A5 r x) (A5 c y)) (Ax (I8 (A5 x (0 : Int)) (A5 y (0 : Int)) (A5 a (0 : Int)) (A5 b (0 : Int)) (A5 r x) (A5 c y)) (Ax (Ip (A5 x (0 : Int)) (A5 y (0 : Int)) (A5 a (0 : Int)) (A5 b (0 : Int)) (A5 r x) (A5 c y)) (Ax (Ip (A5 x (0 : Int)) (A5 y (0 : Int)) (A5 a (0 : Int)) (A5 b (0 : Int)) (A5 r x) (A5 c y)) (Ax (Ho (A5 x (0 : Int)) (A5 y (0 : Int)) (A5 a (0 : Int)) (A5 b (0 : Int)) (A5 r x) (A5 c y)) (Ax (Qk (A5 x (0 : Int)) (A5 y (0 : Int)) (A5 a (0 : Int)) (A5 b (0 : Int)) (A5 r x) (A5 c y) (A5 (Ab (r - x)) a)) (Ax (Qk (A5 x (0 : Int)) (A5 y (0 : Int)) (A5 a (0 : Int)) (A5 b (0 : Int)) (A5 r x) (A5 c y) (A5 (Ab (r - x)) a)) (Ax (Ru (A5 x (0 : Int)) (A5 y (0 : Int)) (A5 a (0 : Int)) (A5 b (0 : Int)) (A5 r x) (A5 c y) (A5 (Ab (r - x)) a)) (Ax (Qk (A5 x (0 : Int)) (A5 y (0 : Int)) (A5 a (0 : Int)) (A5 b (0 : Int)) (A5 r x) (A5 c y) (A5 (Ab (r - x)) a)) (Ax (Ld (A5 x (0 : Int)) (A5 y (0 : Int)) (A5 a (0 : Int)) (A5 b (0 : Int)) (A5 r x) (A5 c y) (A5 (Ab (r - x)) a)) (Ax (Ld (A5 x (0 : Int)) (A5 y (0 : Int)) (A5 a (0 : Int)) (A5 b (0 : Int)) (A5 r x) (A5 c y) (A5 (Ab (r - x)) a)) (Ax (Lu (A5 x (0 : Int)) (A5 y (0 : Int)) (A5 a (0 : Int)) (A5 b (0 : Int)) (A5 r x) (A5 c y) (A5 (Ab (r - x)) a)) (C1 (Kb (A5 x (0 : Int)) (A5 y (0 : Int)) (A5 a (0 : Int)) (A5 b (0 : Int)) (A5 r x) (A5 c y) (A5 (Ab (r - x)) a) (A5 (Ab (c - y)) b)) rfl rfl)))))))))))))))))))))))))))))))))))
theorem Aa.Part.Ac (hk : A0 Tryz.prog Aa.Part.A9) (h : ∀ (r c : Int) (l : List Int) (x y : Int) (a b : Int), Aa.Part.pre [.i r, .i c, .l l, .i x, .i y, .i a, .i b] = true → ∃ N dv drops, A1 Aa.Part.E N Tryz.f124 (Ad Tryz.f124) [.agg [.int .i64 r, .int .i64 c, .ints .arg .u64 l], .int .i64 x, .int .i64 y, .int .i64 a, .int .i64 b] = some dv ∧ Wk drops dv (Aa.Part.out [.i r, .i c, .l l, .i x, .i y, .i a, .i b])) : Am Tryz.prog 124 Aa.Part.spec :=
  Aj (A2 hk _ _ _) Tryz.func124 (by kernel_rfl) (by kernel_rfl) h
abbrev _root_.Go.Proofs.S1.Aa.Part.Kn : Prop := Am Tryz.prog 124 Aa.Part.spec
def Aa.Mul.A9 : List (Nat × Entry) := [(187, Aa.of.Mul.spec), (186, Aa.two.spec)]
def Aa.Mul.E : Env := Bb (A8 Aa.Mul.A9) (fun _ => false) (fun _ => none) (fun _ => none)
theorem Aa.Mul.ev (N : Nat) (r c : Int) (l : List Int) (p q : Int) (m : List Int) : A1 Aa.Mul.E N Tryz.f123 (Ad Tryz.f123) [.agg [.int .i64 r, .int .i64 c, .ints .arg .u64 l], .agg [.int .i64 p, .int .i64 q, .ints .arg .u64 m]] =
  bif ((Y2 r c l p q m) != (0 : Int)) then
  some (.tup [.agg [.int .i64 0, .int .i64 0, .nil], .int .i64 (Y2 r c l p q m)])
  else bif (c != p) then
  some (.tup [.agg [.int .i64 0, .int .i64 0, .nil], .int .i64 3])
  else bif ((Bs r && Bs q) && ((Bn r c l && Bn p q m) && (An l && An m)) && decide (r = r ∧ q = q ∧ c = p)) then
  some (.tup [.agg [.int .i64 r, .int .i64 q, .ints .fresh .u64 (Cx (Int.toNat r) (Int.toNat q) (fun j1 j2 => Qn (Mf c l j1) (Rk p q m j2)))], .int .i64 0])
  else none := by kernel_rfl
theorem Aa.Mul.Ac (hk : A0 Tryz.prog Aa.Mul.A9) (h : ∀ (r c : Int) (l : List Int) (p q : Int) (m : List Int), Aa.Mul.pre [.i r, .i c, .l l, .i p, .i q, .l m] = true → ∃ N dv drops, A1 Aa.Mul.E N Tryz.f123 (Ad Tryz.f123) [.agg [.int .i64 r, .int .i64 c, .ints .arg .u64 l], .agg [.int .i64 p, .int .i64 q, .ints .arg .u64 m]] = some dv ∧ Wk drops dv (Aa.Mul.out [.i r, .i c, .l l, .i p, .i q, .l m])) : Am Tryz.prog 123 Aa.Mul.spec :=
  Aj (A2 hk _ _ _) Tryz.func123 (by kernel_rfl) (by kernel_rfl) h
abbrev _root_.Go.Proofs.S1.Aa.Mul.Kn : Prop := Am Tryz.prog 123 Aa.Mul.spec
end EqOf
end Go.Proofs.S1
namespace Go.Proofs.S1
open Go Go.Den Go.Rnd Go.Proofs
open EqOf
theorem of.Bt.inner (N : Nat)  {A B : Nat} (hA : A ≤ 6) (hB : B ≤ 6) {F : Nat → Nat → Int} (hF : ∀ i j : Nat, F i j = (0 : Int)) {i : Nat} (hi : i < A) : ∀ (k j M0 M : Nat), j + k = B → k < M →
    Aa.of.Bt.L1 N M0 M (A : Int) (B : Int) (i : Int) (i : Int) (j : Int) (Cx i B F ++ (List.range j).map (F i)) = Aa.of.Bt.L0 N M0 (A : Int) (B : Int) ((i + 1 : Nat) : Int) (Cx (i + 1) B F) := by
  intro k
  induction k with
  | zero =>
    intro j M0 M hj hM
    obtain ⟨M, rfl⟩ : ∃ G, M = G + 1 := ⟨M - 1, by omega⟩
    obtain rfl : j = B := by omega
    rw [Aa.of.Bt.Ch, Aw, decide_eq_false (by omega), cond_false, Ap (by omega) (by omega), ← Nh]
    rfl
  | succ k ih =>
    intro j M0 M hj hM
    obtain ⟨M, rfl⟩ : ∃ G, M = G + 1 := ⟨M - 1, by omega⟩
    have d : decide ((Cx i B F ++ (List.range j).map (F i)).length + 1 ≤ H0) = true := by
      refine decide_eq_true ?_
      have := Nat.mul_le_mul (show i ≤ 6 by omega) hB
      rw [List.length_append, Cd, List.length_map, List.length_range]; unfold H0; omega
    rw [Aa.of.Bt.Ch, Aw, decide_eq_true (by omega), cond_true, d, cond_true, Ap (by omega) (by omega), ← hF i j]
    have := ih (j + 1) M0 M (by omega) (by omega)
    rw [Jx, ← List.append_assoc] at this
    exact this
theorem of.Bt.outer (N : Nat)  {A B : Nat} (hA : A ≤ 6) (hB : B ≤ 6) (hN : 6 < N) {F : Nat → Nat → Int} (hF : ∀ i j : Nat, F i j = (0 : Int)) : ∀ (k i M : Nat), i + k = A → k < M →
    Aa.of.Bt.L0 N M (A : Int) (B : Int) (i : Int) (Cx i B F) = some (.agg [.int .i64 (A : Int), .int .i64 (B : Int), .ints (.own 108002 tB) .u64 (Cx A B F)]) := by
  intro k
  induction k with
  | zero =>
    intro i M hi hM
    obtain ⟨M, rfl⟩ : ∃ G, M = G + 1 := ⟨M - 1, by omega⟩
    obtain rfl : i = A := by omega
    rw [Aa.of.Bt.Az, Aw, decide_eq_false (by omega), cond_false]
  | succ k ih =>
    intro i M hi hM
    obtain ⟨M, rfl⟩ : ∃ G, M = G + 1 := ⟨M - 1, by omega⟩
    have n := of.Bt.inner N hA hB hF (show i < A by omega) B 0 M N (by omega) (by omega)
    rw [List.range_zero, List.map_nil, List.append_nil] at n
    rw [Aa.of.Bt.Az, Aw, decide_eq_true (by omega), cond_true]
    exact n.trans (ih (i + 1) M (by omega) (by omega))
theorem of.G7.inner (N : Nat)  {A B : Nat} (hA : A ≤ 6) (hB : B ≤ 6) {F : Nat → Nat → Int} (hF : ∀ i j : Nat, F i j = Tv (i : Int) (j : Int)) {i : Nat} (hi : i < A) : ∀ (k j M0 M : Nat), j + k = B → k < M →
    Aa.of.G7.L1 N M0 M (A : Int) (B : Int) (i : Int) (i : Int) (j : Int) (Cx i B F ++ (List.range j).map (F i)) = Aa.of.G7.L0 N M0 (A : Int) (B : Int) ((i + 1 : Nat) : Int) (Cx (i + 1) B F) := by
  intro k
  induction k with
  | zero =>
    intro j M0 M hj hM
    obtain ⟨M, rfl⟩ : ∃ G, M = G + 1 := ⟨M - 1, by omega⟩
    obtain rfl : j = B := by omega
    rw [Aa.of.G7.Ch, Aw, decide_eq_false (by omega), cond_false, Ap (by omega) (by omega), ← Nh]
    rfl
  | succ k ih =>
    intro j M0 M hj hM
    obtain ⟨M, rfl⟩ : ∃ G, M = G + 1 := ⟨M - 1, by omega⟩
    have d : decide ((Cx i B F ++ (List.range j).map (F i)).length + 1 ≤ H0) = true := by
      refine decide_eq_true ?_
      have := Nat.mul_le_mul (show i ≤ 6 by omega) hB
      rw [List.length_append, Cd, List.length_map, List.length_range]; unfold H0; omega
    rw [Aa.of.G7.Ch, Aw, decide_eq_true (by omega), cond_true, d, cond_true, Ap (by omega) (by omega), ← hF i j]
    have := ih (j + 1) M0 M (by omega) (by omega)
    rw [Jx, ← List.append_assoc] at this
    exact this
theorem of.G7.outer (N : Nat)  {A B : Nat} (hA : A ≤ 6) (hB : B ≤ 6) (hN : 6 < N) {F : Nat → Nat → Int} (hF : ∀ i j : Nat, F i j = Tv (i : Int) (j : Int)) : ∀ (k i M : Nat), i + k = A → k < M →
    Aa.of.G7.L0 N M (A : Int) (B : Int) (i : Int) (Cx i B F) = some (.agg [.int .i64 (A : Int), .int .i64 (B : Int), .ints (.own 108002 tB) .u64 (Cx A B F)]) := by
  intro k
  induction k with
  | zero =>
    intro i M hi hM
    obtain ⟨M, rfl⟩ : ∃ G, M = G + 1 := ⟨M - 1, by omega⟩
    obtain rfl : i = A := by omega
    rw [Aa.of.G7.Az, Aw, decide_eq_false (by omega), cond_false]
  | succ k ih =>
    intro i M hi hM
    obtain ⟨M, rfl⟩ : ∃ G, M = G + 1 := ⟨M - 1, by omega⟩
    have n := of.G7.inner N hA hB hF (show i < A by omega) B 0 M N (by omega) (by omega)
    rw [List.range_zero, List.map_nil, List.append_nil] at n
    rw [Aa.of.G7.Az, Aw, decide_eq_true (by omega), cond_true]
    exact n.trans (ih (i + 1) M (by omega) (by omega))
theorem Aa.of.G7.known : Aa.of.G7.Kn := Aa.of.G7.Ac (.cons Aa.G6.known .nil) fun a b hp => by
  have h1 : (Bs a && Bs b) = true := hp
  obtain ⟨ha, hb⟩ := Ag.1 h1
  obtain ⟨A, rfl, hA⟩ := Gh ha
  obtain ⟨B, rfl, hB⟩ := Gh hb
  refine ⟨8, .agg [.int .i64 (A : Int), .int .i64 (B : Int), .ints (.own 108002 tB) .u64 (Cx A B fun (i j : Nat) => Tv (i : Int) (j : Int))], [108002], ?_, Wk.J7 (.cons .int (.cons .int (.cons (.drop _ _ _ _ (List.mem_singleton.2 rfl)) .nil)))⟩
  rw [Aa.of.G7.ev]
  have n := of.G7.outer 8 hA hB (by omega) (F := fun (i j : Nat) => Tv (i : Int) (j : Int)) (fun _ _ => rfl) A 0 8 (by omega) (by omega)
  rw [Ng] at n
  exact n
theorem of.Df.inner (N : Nat) (r c : Int) (l : List Int) {A B : Nat} (hA : A ≤ 6) (hB : B ≤ 6) {F : Nat → Nat → Int} (hF : ∀ i j : Nat, F i j = Eg c l (j : Int) (i : Int)) {i : Nat} (hi : i < A) (hp : ∀ j : Nat, j < B → Ec r c l (j : Int) (i : Int) = true) : ∀ (k j M0 M : Nat), j + k = B → k < M →
    Aa.of.Df.L1 N M0 M (A : Int) (B : Int) r c l (i : Int) (i : Int) (j : Int) (Cx i B F ++ (List.range j).map (F i)) = Aa.of.Df.L0 N M0 (A : Int) (B : Int) r c l ((i + 1 : Nat) : Int) (Cx (i + 1) B F) := by
  intro k
  induction k with
  | zero =>
    intro j M0 M hj hM
    obtain ⟨M, rfl⟩ : ∃ G, M = G + 1 := ⟨M - 1, by omega⟩
    obtain rfl : j = B := by omega
    rw [Aa.of.Df.Ch, Aw, decide_eq_false (by omega), cond_false, Ap (by omega) (by omega), ← Nh]
    rfl
  | succ k ih =>
    intro j M0 M hj hM
    obtain ⟨M, rfl⟩ : ∃ G, M = G + 1 := ⟨M - 1, by omega⟩
    have d : decide ((Cx i B F ++ (List.range j).map (F i)).length + 1 ≤ H0) = true := by
      refine decide_eq_true ?_
      have := Nat.mul_le_mul (show i ≤ 6 by omega) hB
      rw [List.length_append, Cd, List.length_map, List.length_range]; unfold H0; omega
    rw [Aa.of.Df.Ch, Aw, decide_eq_true (by omega), cond_true, hp j (by omega), cond_true, d, cond_true, Ap (by omega) (by omega), ← hF i j]
    have := ih (j + 1) M0 M (by omega) (by omega)
    rw [Jx, ← List.append_assoc] at this
    exact this
theorem of.Df.outer (N : Nat) (r c : Int) (l : List Int) {A B : Nat} (hA : A ≤ 6) (hB : B ≤ 6) (hN : 6 < N) {F : Nat → Nat → Int} (hF : ∀ i j : Nat, F i j = Eg c l (j : Int) (i : Int)) (hp : ∀ i j : Nat, i < A → j < B → Ec r c l (j : Int) (i : Int) = true) : ∀ (k i M : Nat), i + k = A → k < M →
    Aa.of.Df.L0 N M (A : Int) (B : Int) r c l (i : Int) (Cx i B F) = some (.agg [.int .i64 (A : Int), .int .i64 (B : Int), .ints (.own 108002 tB) .u64 (Cx A B F)]) := by
  intro k
  induction k with
  | zero =>
    intro i M hi hM
    obtain ⟨M, rfl⟩ : ∃ G, M = G + 1 := ⟨M - 1, by omega⟩
    obtain rfl : i = A := by omega
    rw [Aa.of.Df.Az, Aw, decide_eq_false (by omega), cond_false]
  | succ k ih =>
    intro i M hi hM
    obtain ⟨M, rfl⟩ : ∃ G, M = G + 1 := ⟨M - 1, by omega⟩
    have n := of.Df.inner N r c l hA hB hF (show i < A by omega) (fun j hj => hp i j (by omega) hj) B 0 M N (by omega) (by omega)
    rw [List.range_zero, List.map_nil, List.append_nil] at n
    rw [Aa.of.Df.Az, Aw, decide_eq_true (by omega), cond_true]
    exact n.trans (ih (i + 1) M (by omega) (by omega))
theorem Aa.of.Df.known : Aa.of.Df.Kn := Aa.of.Df.Ac (.cons Aa.E0.known .nil) fun a b r c l hp => by
  obtain ⟨h12, hy⟩ := Ag.1 (show (((Bs a && Bs b) && Bn r c l) && decide (a = c ∧ b = r)) = true from hp)
  obtain ⟨h1, hx⟩ := Ag.1 h12
  have h2 := Ag.2 ⟨hx, hy⟩
  obtain ⟨ha, hb⟩ := Ag.1 h1
  obtain ⟨A, rfl, hA⟩ := Gh ha
  obtain ⟨B, rfl, hB⟩ := Gh hb
  obtain ⟨hr, he⟩ := Ag.1 h2
  obtain ⟨e1, e2⟩ := of_decide_eq_true he
  have hp : ∀ i j : Nat, i < A → j < B → Ec r c l (j : Int) (i : Int) = true := fun i j hi hj => Ui hr (by omega) (by omega) (by omega) (by omega) r
  refine ⟨8, .agg [.int .i64 (A : Int), .int .i64 (B : Int), .ints (.own 108002 tB) .u64 (Cx A B fun (i j : Nat) => Eg c l (j : Int) (i : Int))], [108002], ?_, Wk.J7 (.cons .int (.cons .int (.cons (.drop _ _ _ _ (List.mem_singleton.2 rfl)) .nil)))⟩
  rw [Aa.of.Df.ev]
  have n := of.Df.outer 8 r c l hA hB (by omega) (F := fun (i j : Nat) => Eg c l (j : Int) (i : Int)) (fun _ _ => rfl) hp A 0 8 (by omega) (by omega)
  rw [Ng] at n
  exact n
theorem of.Part.inner (N : Nat) (r c : Int) (l : List Int) (x y : Int) {A B : Nat} (hA : A ≤ 6) (hB : B ≤ 6) {F : Nat → Nat → Int} (hF : ∀ i j : Nat, F i j = Eg c l (x + (i : Int)) (y + (j : Int))) {i : Nat} (hi : i < A) (hp : ∀ j : Nat, j < B → (Ec r c l (x + (i : Int)) (y + (j : Int)) && Tc x y (i : Int) (j : Int)) = true) : ∀ (k j M0 M : Nat), j + k = B → k < M →
    Aa.of.Part.L1 N M0 M (A : Int) (B : Int) r c l x y (i : Int) (i : Int) (j : Int) (Cx i B F ++ (List.range j).map (F i)) = Aa.of.Part.L0 N M0 (A : Int) (B : Int) r c l x y ((i + 1 : Nat) : Int) (Cx (i + 1) B F) := by
  intro k
  induction k with
  | zero =>
    intro j M0 M hj hM
    obtain ⟨M, rfl⟩ : ∃ G, M = G + 1 := ⟨M - 1, by omega⟩
    obtain rfl : j = B := by omega
    rw [Aa.of.Part.Ch, Aw, decide_eq_false (by omega), cond_false, Ap (by omega) (by omega), ← Nh]
    rfl
  | succ k ih =>
    intro j M0 M hj hM
    obtain ⟨M, rfl⟩ : ∃ G, M = G + 1 := ⟨M - 1, by omega⟩
    have d : decide ((Cx i B F ++ (List.range j).map (F i)).length + 1 ≤ H0) = true := by
      refine decide_eq_true ?_
      have := Nat.mul_le_mul (show i ≤ 6 by omega) hB
      rw [List.length_append, Cd, List.length_map, List.length_range]; unfold H0; omega
    rw [Aa.of.Part.Ch, Aw, decide_eq_true (by omega), cond_true, hp j (by omega), cond_true, d, cond_true, Ap (by omega) (by omega), ← hF i j]
    have := ih (j + 1) M0 M (by omega) (by omega)
    rw [Jx, ← List.append_assoc] at this
    exact this
theorem of.Part.outer (N : Nat) (r c : Int) (l : List Int) (x y : Int) {A B : Nat} (hA : A ≤ 6) (hB : B ≤ 6) (hN : 6 < N) {F : Nat → Nat → Int} (hF : ∀ i j : Nat, F i j = Eg c l (x + (i : Int)) (y + (j : Int))) (hp : ∀ i j : Nat, i < A → j < B → (Ec r c l (x + (i : Int)) (y + (j : Int)) && Tc x y (i : Int) (j : Int)) = true) : ∀ (k i M : Nat), i + k = A → k < M →
    Aa.of.Part.L0 N M (A : Int) (B : Int) r c l x y (i : Int) (Cx i B F) = some (.agg [.int .i64 (A : Int), .int .i64 (B : Int), .ints (.own 108002 tB) .u64 (Cx A B F)]) := by
  intro k
  induction k with
  | zero =>
    intro i M hi hM
    obtain ⟨M, rfl⟩ : ∃ G, M = G + 1 := ⟨M - 1, by omega⟩
    obtain rfl : i = A := by omega
    rw [Aa.of.Part.Az, Aw, decide_eq_false (by omega), cond_false]
  | succ k ih =>
    intro i M hi hM
    obtain ⟨M, rfl⟩ : ∃ G, M = G + 1 := ⟨M - 1, by omega⟩
    have n := of.Part.inner N r c l x y hA hB hF (show i < A by omega) (fun j hj => hp i j (by omega) hj) B 0 M N (by omega) (by omega)
    rw [List.range_zero, List.map_nil, List.append_nil] at n
    rw [Aa.of.Part.Az, Aw, decide_eq_true (by omega), cond_true]
    exact n.trans (ih (i + 1) M (by omega) (by omega))
theorem Aa.of.Part.known : Aa.of.Part.Kn := Aa.of.Part.Ac (.cons Aa.E2.known .nil) fun a b r c l x y hp => by
  obtain ⟨h12, hy⟩ := Ag.1 (show (((Bs a && Bs b) && Bn r c l) && Oa r c x y a b) = true from hp)
  obtain ⟨h1, hx⟩ := Ag.1 h12
  have h2 := Ag.2 ⟨hx, hy⟩
  obtain ⟨ha, hb⟩ := Ag.1 h1
  obtain ⟨A, rfl, hA⟩ := Gh ha
  obtain ⟨B, rfl, hB⟩ := Gh hb
  obtain ⟨hr, he⟩ := Ag.1 h2
  have he := of_decide_eq_true he
  have hs := K7.1 hr
  have hp : ∀ i j : Nat, i < A → j < B → (Ec r c l (x + (i : Int)) (y + (j : Int)) && Tc x y (i : Int) (j : Int)) = true := fun i j hi hj =>
    Ag.2 ⟨Ui hr (by omega) (by omega) (by omega) (by omega) r, Ar.2 (by omega)⟩
  refine ⟨8, .agg [.int .i64 (A : Int), .int .i64 (B : Int), .ints (.own 108002 tB) .u64 (Cx A B fun (i j : Nat) => Eg c l (x + (i : Int)) (y + (j : Int)))], [108002], ?_, Wk.J7 (.cons .int (.cons .int (.cons (.drop _ _ _ _ (List.mem_singleton.2 rfl)) .nil)))⟩
  rw [Aa.of.Part.ev]
  have n := of.Part.outer 8 r c l x y hA hB (by omega) (F := fun (i j : Nat) => Eg c l (x + (i : Int)) (y + (j : Int))) (fun _ _ => rfl) hp A 0 8 (by omega) (by omega)
  rw [Ng] at n
  exact n
theorem of.Mul.inner (N : Nat) (r c : Int) (l : List Int) (p q : Int) (m : List Int) {A B : Nat} (hA : A ≤ 6) (hB : B ≤ 6) {F : Nat → Nat → Int} (hF : ∀ i j : Nat, F i j = Qn (Mf c l (i : Int)) (Rk p q m (j : Int))) {i : Nat} (hi : i < A) (hp : ∀ j : Nat, j < B → Rb r c l p q m (i : Int) (j : Int) = true) : ∀ (k j M0 M : Nat), j + k = B → k < M →
    Aa.of.Mul.L1 N M0 M (A : Int) (B : Int) r c l p q m (i : Int) (i : Int) (j : Int) (Cx i B F ++ (List.range j).map (F i)) = Aa.of.Mul.L0 N M0 (A : Int) (B : Int) r c l p q m ((i + 1 : Nat) : Int) (Cx (i + 1) B F) := by
  intro k
  induction k with
  | zero =>
    intro j M0 M hj hM
    obtain ⟨M, rfl⟩ : ∃ G, M = G + 1 := ⟨M - 1, by omega⟩
    obtain rfl : j = B := by omega
    rw [Aa.of.Mul.Ch, Aw, decide_eq_false (by omega), cond_false, Ap (by omega) (by omega), ← Nh]
    rfl
  | succ k ih =>
    intro j M0 M hj hM
    obtain ⟨M, rfl⟩ : ∃ G, M = G + 1 := ⟨M - 1, by omega⟩
    have d : decide ((Cx i B F ++ (List.range j).map (F i)).length + 1 ≤ H0) = true := by
      refine decide_eq_true ?_
      have := Nat.mul_le_mul (show i ≤ 6 by omega) hB
      rw [List.length_append, Cd, List.length_map, List.length_range]; unfold H0; omega
    rw [Aa.of.Mul.Ch, Aw, decide_eq_true (by omega), cond_true, hp j (by omega), cond_true, d, cond_true, Ap (by omega) (by omega), ← hF i j]
    have := ih (j + 1) M0 M (by omega) (by omega)
    rw [Jx, ← List.append_assoc] at this
    exact this
theorem of.Mul.outer (N : Nat) (r c : Int) (l : List Int) (p q : Int) (m : List Int) {A B : Nat} (hA : A ≤ 6) (hB : B ≤ 6) (hN : 6 < N) {F : Nat → Nat → Int} (hF : ∀ i j : Nat, F i j = Qn (Mf c l (i : Int)) (Rk p q m (j : Int))) (hp : ∀ i j : Nat, i < A → j < B → Rb r c l p q m (i : Int) (j : Int) = true) : ∀ (k i M : Nat), i + k = A → k < M →
    Aa.of.Mul.L0 N M (A : Int) (B : Int) r c l p q m (i : Int) (Cx i B F) = some (.agg [.int .i64 (A : Int), .int .i64 (B : Int), .ints (.own 108002 tB) .u64 (Cx A B F)]) := by
  intro k
  induction k with
  | zero =>
    intro i M hi hM
    obtain ⟨M, rfl⟩ : ∃ G, M = G + 1 := ⟨M - 1, by omega⟩
    obtain rfl : i = A := by omega
    rw [Aa.of.Mul.Az, Aw, decide_eq_false (by omega), cond_false]
  | succ k ih =>
    intro i M hi hM
    obtain ⟨M, rfl⟩ : ∃ G, M = G + 1 := ⟨M - 1, by omega⟩
    have n := of.Mul.inner N r c l p q m hA hB hF (show i < A by omega) (fun j hj => hp i j (by omega) hj) B 0 M N (by omega) (by omega)
    rw [List.range_zero, List.map_nil, List.append_nil] at n
    rw [Aa.of.Mul.Az, Aw, decide_eq_true (by omega), cond_true]
    exact n.trans (ih (i + 1) M (by omega) (by omega))
theorem Aa.of.Mul.known : Aa.of.Mul.Kn := Aa.of.Mul.Ac (.cons Aa.G2.known .nil) fun a b r c l p q m hp => by
  obtain ⟨h12, hy⟩ := Ag.1 (show (((Bs a && Bs b) && ((Bn r c l && Bn p q m) && (An l && An m))) && decide (a = r ∧ b = q ∧ c = p)) = true from hp)
  obtain ⟨h1, hx⟩ := Ag.1 h12
  have h2 := Ag.2 ⟨hx, hy⟩
  obtain ⟨ha, hb⟩ := Ag.1 h1
  obtain ⟨A, rfl, hA⟩ := Gh ha
  obtain ⟨B, rfl, hB⟩ := Gh hb
  obtain ⟨h3, he⟩ := Ag.1 h2
  obtain ⟨h4, h5⟩ := Ag.1 h3
  obtain ⟨hr, hm⟩ := Ag.1 h4
  obtain ⟨e1, e2, e3⟩ := of_decide_eq_true he
  have hp : ∀ i j : Nat, i < A → j < B → Rb r c l p q m (i : Int) (j : Int) = true := fun i j hi hj =>
    Ag.2 ⟨Ag.2 ⟨Ag.2 ⟨hr, Ar.2 (by omega)⟩, Ag.2 ⟨hm, Ar.2 (by omega)⟩⟩, Ag.2 ⟨h5, Ar.2 e3⟩⟩
  refine ⟨8, .agg [.int .i64 (A : Int), .int .i64 (B : Int), .ints (.own 108002 tB) .u64 (Cx A B fun (i j : Nat) => Qn (Mf c l (i : Int)) (Rk p q m (j : Int)))], [108002], ?_, Wk.J7 (.cons .int (.cons .int (.cons (.drop _ _ _ _ (List.mem_singleton.2 rfl)) .nil)))⟩
  rw [Aa.of.Mul.ev]
  have n := of.Mul.outer 8 r c l p q m hA hB (by omega) (F := fun (i j : Nat) => Qn (Mf c l (i : Int)) (Rk p q m (j : Int))) (fun _ _ => rfl) hp A 0 8 (by omega) (by omega)
  rw [Ng] at n
  exact n
end Go.Proofs.S1
namespace Go.Proofs.S1
open Go Go.Den Go.Rnd Go.Proofs
open EqOf
def Tl (x : MX) : DV := .tup [.agg [.int .i64 x.1, .int .i64 x.2.1, .ints .fresh .u64 x.2.2.1], .int .i64 x.2.2.2]
def nilX (e : Int) : DV := .tup [.agg [.int .i64 0, .int .i64 0, .nil], .int .i64 e]
theorem Ol {drops : List Nat} {x : MX} : Wk drops (Tl x) (Tl x) :=
  Wk.Gg (.cons (Wk.J7 (.cons .int (.cons .int (.cons .Rf .nil)))) (.cons .int .nil))
theorem Js {drops : List Nat} {e : Int} : Wk drops (nilX e) (Tl (O0 e)) :=
  Wk.Gg (.cons (Wk.J7 (.cons .int (.cons .int (.cons (.nil _ _) .nil)))) (.cons .int .nil))
theorem Aa.G7.known : Aa.G7.Kn := Aa.G7.Ac (.cons Aa.of.G7.known (.cons Aa.size.known .nil)) fun n _ => by
  show ∃ N dv drops, _ = some dv ∧ Wk drops dv (Tl (Ll n))
  unfold Ll
  by_cases h : Bs n = true
  · rw [if_pos h]
    exact ⟨0, _, [], by rw [Aa.G7.ev, h]; rfl, Ol⟩
  · have e : Bs n = false := by simpa using h
    rw [if_neg h]
    exact ⟨0, _, [], by rw [Aa.G7.ev, e]; rfl, Js⟩
theorem F1 {r c : Int} {l : List Int} (h : Bn r c l = true) : Bs r = true ∧ Bs c = true := by
  obtain ⟨h1, h2, _⟩ := K7.1 h
  exact ⟨Ht.2 h1, Ht.2 h2⟩
theorem Aa.Df.known : Aa.Df.Kn := Aa.Df.Ac (.cons Aa.Check.known (.cons Aa.of.Df.known .nil)) fun r c l _ => by
  show ∃ N dv drops, _ = some dv ∧ Wk drops dv (Tl (Fi r c l))
  unfold Fi
  by_cases h : Bn r c l = true
  · obtain ⟨h1, h2⟩ := F1 h
    rw [if_pos h]
    exact ⟨0, _, [], by rw [Aa.Df.ev, Rl, h, h1, h2, decide_eq_true ⟨rfl, rfl⟩]; rfl, Ol⟩
  · have e : Bn r c l = false := by simpa using h
    have ec : Jm r c l = 1 := by unfold Jm; rw [e]; rfl
    rw [if_neg h]
    exact ⟨0, _, [], by rw [Aa.Df.ev, Rl, e, ec]; rfl, Js⟩
theorem Xx {r c x y a b : Int} (hr : 0 ≤ r ∧ r ≤ 6) (hc : 0 ≤ c ∧ c ≤ 6) :
    ((((((((A5 x (0 : Int)) || (A5 y (0 : Int))) || (A5 a (0 : Int))) || (A5 b (0 : Int))) || (A5 r x)) || (A5 c y)) || (A5 (Ab (r - x)) a)) || (A5 (Ab (c - y)) b)) = !(Oa r c x y a b) := by
  unfold Oa
  simp only [Aw]
  by_cases h : 0 ≤ x ∧ 0 ≤ y ∧ x ≤ r ∧ y ≤ c
  · rw [Ap (x := r - x) (by omega) (by omega), Ap (x := c - y) (by omega) (by omega), Bool.eq_iff_iff]
    simp only [Bool.or_eq_true, decide_eq_true_eq, Bool.not_eq_true', decide_eq_false_iff_not]
    omega
  · have e : decide (0 ≤ x ∧ 0 ≤ y ∧ 0 ≤ a ∧ 0 ≤ b ∧ x ≤ r ∧ y ≤ c ∧ a ≤ r - x ∧ b ≤ c - y) = false := decide_eq_false (by omega)
    rw [e, Bool.eq_iff_iff]
    simp only [Bool.or_eq_true, decide_eq_true_eq, Bool.not_false, iff_true]
    omega
theorem part_sizes {r c x y a b : Int} {l : List Int} (h : Bn r c l = true) (hp : Oa r c x y a b = true) : Bs a = true ∧ Bs b = true := by
  obtain ⟨h1, h2, _⟩ := K7.1 h
  have := of_decide_eq_true hp
  exact ⟨Ht.2 (by omega), Ht.2 (by omega)⟩
theorem Aa.Part.known : Aa.Part.Kn := Aa.Part.Ac (.cons Aa.Check.known (.cons Aa.of.Part.known .nil)) fun r c l x y a b _ => by
  show ∃ N dv drops, _ = some dv ∧ Wk drops dv (Tl (Ia r c l x y a b))
  unfold Ia
  by_cases h : Bn r c l = true
  · obtain ⟨h1, h2, _⟩ := K7.1 h
    by_cases hp : Oa r c x y a b = true
    · obtain ⟨s1, s2⟩ := part_sizes h hp
      rw [if_pos h, if_pos hp]
      exact ⟨0, _, [], by rw [Aa.Part.ev, Rl, Xx h1 h2, h, hp, s1, s2]; rfl, Ol⟩
    · have e : Oa r c x y a b = false := by simpa using hp
      rw [if_pos h, if_neg hp]
      exact ⟨0, _, [], by rw [Aa.Part.ev, Rl, Xx h1 h2, h, e]; rfl, Js⟩
  · have e : Bn r c l = false := by simpa using h
    have ec : Jm r c l = 1 := by unfold Jm; rw [e]; rfl
    rw [if_neg h]
    exact ⟨0, _, [], by rw [Aa.Part.ev, Rl, e, ec]; rfl, Js⟩
theorem two_ne (r c : Int) (l : List Int) (p q : Int) (m : List Int) : ((Y2 r c l p q m) != (0 : Int)) = !(Bn r c l && Bn p q m) := by
  unfold Y2
  cases Bn r c l && Bn p q m <;> rfl
theorem two_no {r c : Int} {l : List Int} {p q : Int} {m : List Int} (h : (Bn r c l && Bn p q m) = false) : Y2 r c l p q m = 1 := by
  unfold Y2; rw [h]; rfl
theorem Aa.Mul.known : Aa.Mul.Kn := Aa.Mul.Ac (.cons Aa.of.Mul.known (.cons Aa.two.known .nil)) fun r c l p q m hp => by
  show ∃ N dv drops, _ = some dv ∧ Wk drops dv (Tl (To r c l p q m))
  unfold To
  have hp : (An l && An m) = true := hp
  by_cases h : (Bn r c l && Bn p q m) = true
  · obtain ⟨h1, h2⟩ := Ag.1 h
    by_cases hc : c = p
    · have e : (c != p) = false := by rw [hc]; simp
      rw [if_pos h, if_pos hc]
      exact ⟨0, _, [], by rw [Aa.Mul.ev, two_ne, h, e, (F1 h1).1, (F1 h2).2, hp, decide_eq_true ⟨rfl, rfl, hc⟩]; rfl, Ol⟩
    · have e : (c != p) = true := by simpa using hc
      rw [if_pos h, if_neg hc]
      exact ⟨0, _, [], by rw [Aa.Mul.ev, two_ne, h, e]; rfl, Js⟩
  · have e : (Bn r c l && Bn p q m) = false := by simpa using h
    rw [if_neg h]
    exact ⟨0, _, [], by rw [Aa.Mul.ev, two_ne, e, two_no e]; rfl, Js⟩
end Go.Proofs.S1
namespace Go.Proofs.S1
open Go Go.Den Go.Rnd Go.Proofs
set_option linter.unusedVariables false
set_option maxRecDepth 100000
namespace EqRef10
theorem Eu : ∀ a b c d : Bool, (((!(bif (bif (bif a then b else false) then c else false) then d else false)) || ((bif (bif (bif a then b else false) then c else false) then d else false) == true)) && true) = true := by decide
theorem I7 : ∀ a b c d : Bool, ((!((bif (bif (bif a then b else false) then c else false) then d else false) == true)) || ((((!((bif (bif (bif a then b else false) then c else false) then d else false) == true)) || ((bif (bif (bif a then b else false) then c else false) then d else false) == true)) && (((!((bif (bif (bif a then b else false) then c else false) then d else false) == true)) || ((bif (bif (bif a then b else false) then c else false) then d else false) == true)) && true)) && true)) = true := by decide
theorem H8 : ∀ a b c d : Bool, ((!((bif (bif (bif a then b else false) then c else false) then d else false) == true)) || ((((!((bif (bif (bif a then b else false) then c else false) then d else false) == true)) || ((bif (bif (bif a then b else false) then c else false) then d else false) == true)) && true) && true)) = true := by decide
theorem Hr : ∀ a b c d : Bool, ((!((bif (bif (bif a then b else false) then c else false) then d else false) == true)) || true) = true := by decide
theorem Ge : ∀ a b c : Bool, (((!(bif (bif a then b else false) then c else false)) || ((bif (bif a then b else false) then c else false) == true)) && true) = true := by decide
theorem Kb : ∀ a b c : Bool, ((!((bif (bif a then b else false) then c else false) == true)) || ((((!((bif (bif a then b else false) then c else false) == true)) || ((bif (bif a then b else false) then c else false) == true)) && true) && true)) = true := by decide
theorem Lu : ∀ a b c : Bool, ((!((bif (bif a then b else false) then c else false) == true)) || true) = true := by decide
theorem Ld : ∀ a b : Bool, (((!(bif a then b else false)) || ((bif a then b else false) == true)) && true) = true := by decide
theorem Qk : ∀ a b : Bool, ((!((bif a then b else false) == true)) || ((((!((bif a then b else false) == true)) || ((bif a then b else false) == true)) && true) && true)) = true := by decide
theorem Ru : ∀ a b : Bool, ((!((bif a then b else false) == true)) || true) = true := by decide
theorem Ho : ∀ a : Bool, (((!a) || (a == true)) && true) = true := by decide
theorem Ip : ∀ a : Bool, ((!(a == true)) || ((((!(a == true)) || (a == true)) && true) && true)) = true := by decide
theorem I8 : ∀ a : Bool, ((!(a == true)) || true) = true := by decide
theorem Kl : ∀ a b c : Bool, ((!((bif a then b else false) == true)) || ((((!((bif a then b else false) == true)) || ((bif a then b else false) == true)) && (((!((bif a then b else false) == true)) || ((bif a then b else false) == true)) && true)) && c)) = ((!(a && b)) || c) := by decide
theorem Mv : ∀ a : Bool, ((!(a == true)) || ((((!(a == true)) || (a == true)) && (((!(a == true)) || (a == true)) && true)) && true)) = true := by decide
theorem Mu : ∀ a : Bool, (a && true) = a := by decide
theorem Rv : ∀ a b c d : Bool, (((a && b) && (c && d)) && true) = ((a && b) && (c && d)) := by decide
def Bh.G1.A9 : List (Nat × Entry) := []
def Bh.G1.E : Env := Bb (A8 Bh.G1.A9) (fun _ => false) (fun _ => none) (fun _ => none)
theorem Bh.G1.ev (N : Nat) (r c : Int) (l : List Int) : A1 Bh.G1.E N Tryz.f91 (Ad Tryz.f91) [.agg [.int .i64 r, .int .i64 c, .ints .arg .u64 l]] =
  some (.bool (bif (bif (bif (bif (Ds (0 : Int) r) then (Ds r (6 : Int)) else false) then (Ds (0 : Int) c) else false) then (Ds c (6 : Int)) else false) then ((List.length l : Int) == (Ab (r * c))) else false)) :=
  Eq.trans (by kernel_rfl)
  (Ax (I8 (Ds (0 : Int) r)) (Ax (Ip (Ds (0 : Int) r)) (Ax (Ip (Ds (0 : Int) r)) (Ax (Ho (Ds (0 : Int) r)) (Ax (Ru (Ds (0 : Int) r) (Ds r (6 : Int))) (Ax (Qk (Ds (0 : Int) r) (Ds r (6 : Int))) (Ax (Qk (Ds (0 : Int) r) (Ds r (6 : Int))) (Ax (Ld (Ds (0 : Int) r) (Ds r (6 : Int))) (Ax (Lu (Ds (0 : Int) r) (Ds r (6 : Int)) (Ds (0 : Int) c)) (Ax (Kb (Ds (0 : Int) r) (Ds r (6 : Int)) (Ds (0 : Int) c)) (Ax (Kb (Ds (0 : Int) r) (Ds r (6 : Int)) (Ds (0 : Int) c)) (Ax (Ge (Ds (0 : Int) r) (Ds r (6 : Int)) (Ds (0 : Int) c)) (Ax (Hr (Ds (0 : Int) r) (Ds r (6 : Int)) (Ds (0 : Int) c) (Ds c (6 : Int))) (Ax (H8 (Ds (0 : Int) r) (Ds r (6 : Int)) (Ds (0 : Int) c) (Ds c (6 : Int))) (Ax (H8 (Ds (0 : Int) r) (Ds r (6 : Int)) (Ds (0 : Int) c) (Ds c (6 : Int))) (Ax (Hr (Ds (0 : Int) r) (Ds r (6 : Int)) (Ds (0 : Int) c) (Ds c (6 : Int))) (Ax (H8 (Ds (0 : Int) r) (Ds r (6 : Int)) (Ds (0 : Int) c) (Ds c (6 : Int))) (Ax (Hr (Ds (0 : Int) r) (Ds r (6 : Int)) (Ds (0 : Int) c) (Ds c (6 : Int))) (Ax (H8 (Ds (0 : Int) r) (Ds r (6 : Int)) (Ds (0 : Int) c) (Ds c (6 : Int))) (Ax (I7 (Ds (0 : Int) r) (Ds r (6 : Int)) (Ds (0 : Int) c) (Ds c (6 : Int))) (Ax (I7 (Ds (0 : Int) r) (Ds r (6 : Int)) (Ds (0 : Int) c) (Ds c (6 : Int))) (Ax (Eu (Ds (0 : Int) r) (Ds r (6 : Int)) (Ds (0 : Int) c) (Ds c (6 : Int))) rfl))))))))))))))))))))))
theorem Bh.G1.Ac (hk : A0 Tryz.prog Bh.G1.A9) (h : ∀ (r c : Int) (l : List Int), Bh.G1.pre [.i r, .i c, .l l] = true → ∃ N dv drops, A1 Bh.G1.E N Tryz.f91 (Ad Tryz.f91) [.agg [.int .i64 r, .int .i64 c, .ints .arg .u64 l]] = some dv ∧ Wk drops dv (Bh.G1.out [.i r, .i c, .l l])) : Am Tryz.prog 91 Bh.G1.spec :=
  Aj (A2 hk _ _ _) Tryz.func91 (by kernel_rfl) (by kernel_rfl) h
abbrev _root_.Go.Proofs.S1.Bh.G1.Kn : Prop := Am Tryz.prog 91 Bh.G1.spec
def Bh.At.A9 : List (Nat × Entry) := []
def Bh.At.E : Env := Bb (A8 Bh.At.A9) (fun _ => false) (fun _ => none) (fun _ => none)
theorem Bh.At.ev (N : Nat) (r c : Int) (l : List Int) (i k : Int) : A1 Bh.At.E N Tryz.f80 (Ad Tryz.f80) [.agg [.int .i64 r, .int .i64 c, .ints .arg .u64 l], .int .i64 i, .int .i64 k] =
  bif ((decide (0 ≤ (Ab ((Ab (i * c)) + k)))) && (decide ((Ab ((Ab (i * c)) + k)) < (List.length l : Int)))) then
  some (.int .u64 (List.getD l (Int.toNat (Ab ((Ab (i * c)) + k))) 0))
  else none := by kernel_rfl
theorem Bh.At.Ac (hk : A0 Tryz.prog Bh.At.A9) (h : ∀ (r c : Int) (l : List Int) (i k : Int), Bh.At.pre [.i r, .i c, .l l, .i i, .i k] = true → ∃ N dv drops, A1 Bh.At.E N Tryz.f80 (Ad Tryz.f80) [.agg [.int .i64 r, .int .i64 c, .ints .arg .u64 l], .int .i64 i, .int .i64 k] = some dv ∧ Wk drops dv (Bh.At.out [.i r, .i c, .l l, .i i, .i k])) : Am Tryz.prog 80 Bh.At.spec :=
  Aj (A2 hk _ _ _) Tryz.func80 (by kernel_rfl) (by kernel_rfl) h
abbrev _root_.Go.Proofs.S1.Bh.At.Kn : Prop := Am Tryz.prog 80 Bh.At.spec
def Bh.Bt.A9 : List (Nat × Entry) := []
def Bh.Bt.E : Env := Bb (A8 Bh.Bt.A9) (fun _ => false) (fun _ => none) (fun _ => none)
theorem Bh.Bt.ev (N : Nat) (a b : Int) : A1 Bh.Bt.E N Tryz.f35 (Ad Tryz.f35) [.int .i64 a, .int .i64 b] =
  bif (((decide ((0 : Int) ≤ (Ab (a * b)))) && (decide ((Ab (a * b)) ≤ (Ab (a * b))))) && (decide ((Ab (a * b)) ≤ H0))) then
  some (.agg [.int .i64 a, .int .i64 b, .ints (.own 10 37) .u64 (List.replicate (Int.toNat (Ab (a * b))) (0 : Int))])
  else none := by kernel_rfl
theorem Bh.Bt.Ac (hk : A0 Tryz.prog Bh.Bt.A9) (h : ∀ (a b : Int), Bh.Bt.pre [.i a, .i b] = true → ∃ N dv drops, A1 Bh.Bt.E N Tryz.f35 (Ad Tryz.f35) [.int .i64 a, .int .i64 b] = some dv ∧ Wk drops dv (Bh.Bt.out [.i a, .i b])) : Am Tryz.prog 35 Bh.Bt.spec :=
  Aj (A2 hk _ _ _) Tryz.func35 (by kernel_rfl) (by kernel_rfl) h
abbrev _root_.Go.Proofs.S1.Bh.Bt.Kn : Prop := Am Tryz.prog 35 Bh.Bt.spec
def Bh.Lr.A9 : List (Nat × Entry) := []
def Bh.Lr.E : Env := Bb (A8 Bh.Lr.A9) (fun _ => false) (fun _ => none) (fun _ => none)
theorem Bh.Lr.ev (N : Nat) (r c : Int) (l : List Int) (i k b : Int) : A1 Bh.Lr.E N Tryz.f83 (Ad Tryz.f83) [.agg [.int .i64 r, .int .i64 c, .ints .arg .u64 l], .int .i64 i, .int .i64 k, .int .u64 b] =
  bif (decide (0 + (List.length l) ≤ H0)) then
  bif ((decide (0 ≤ (Ab ((Ab (i * c)) + k)))) && (decide ((Ab ((Ab (i * c)) + k)) < (List.length ([] ++ l) : Int)))) then
  bif (decide ((Int.toNat (Ab ((Ab (i * c)) + k))) < (List.length ([] ++ l)))) then
  some (.agg [.int .i64 r, .int .i64 c, .ints (.own 13 37) .u64 (List.set ([] ++ l) (Int.toNat (Ab ((Ab (i * c)) + k))) b)])
  else none
  else none
  else none := by kernel_rfl
theorem Bh.Lr.Ac (hk : A0 Tryz.prog Bh.Lr.A9) (h : ∀ (r c : Int) (l : List Int) (i k b : Int), Bh.Lr.pre [.i r, .i c, .l l, .i i, .i k, .i b] = true → ∃ N dv drops, A1 Bh.Lr.E N Tryz.f83 (Ad Tryz.f83) [.agg [.int .i64 r, .int .i64 c, .ints .arg .u64 l], .int .i64 i, .int .i64 k, .int .u64 b] = some dv ∧ Wk drops dv (Bh.Lr.out [.i r, .i c, .l l, .i i, .i k, .i b])) : Am Tryz.prog 83 Bh.Lr.spec :=
  Aj (A2 hk _ _ _) Tryz.func83 (by kernel_rfl) (by kernel_rfl) h
abbrev _root_.Go.Proofs.S1.Bh.Lr.Kn : Prop := Am Tryz.prog 83 Bh.Lr.spec
def Bh.D4.A9 : List (Nat × Entry) := [(99, Av.D4.spec)]
def Bh.D4.E : Env := Bb (A8 Bh.D4.A9) (fun _ => false) (fun _ => none) (fun _ => none)
theorem Bh.D4.ev (N : Nat) (r c : Int) (l : List Int) (p q : Int) (m : List Int) : A1 Bh.D4.E N Tryz.f31 (Ad Tryz.f31) [.agg [.int .i64 r, .int .i64 c, .ints .arg .u64 l], .agg [.int .i64 p, .int .i64 q, .ints .arg .u64 m]] =
  bif ((!((r == p) && (c == q))) || (Ob l)) then
  some (.bool (bif (bif (r == p) then (c == q) else false) then (R6 l m) else false))
  else none :=
  Eq.trans (by kernel_rfl)
  (Ax (I8 (r == p)) (Ax (Ip (r == p)) (Ax (I8 (r == p)) (Ax (Ip (r == p)) (Ax (Mv (r == p)) (Ax (Ho (r == p)) (Ax (Ru (r == p) (c == q)) (Ax (Qk (r == p) (c == q)) (Ax (Ru (r == p) (c == q)) (Ax (Qk (r == p) (c == q)) (C1 (Kl (r == p) (c == q) (Ob l)) (Ax (Ld (r == p) (c == q)) rfl) rfl)))))))))))
theorem Bh.D4.Ac (hk : A0 Tryz.prog Bh.D4.A9) (h : ∀ (r c : Int) (l : List Int) (p q : Int) (m : List Int), Bh.D4.pre [.i r, .i c, .l l, .i p, .i q, .l m] = true → ∃ N dv drops, A1 Bh.D4.E N Tryz.f31 (Ad Tryz.f31) [.agg [.int .i64 r, .int .i64 c, .ints .arg .u64 l], .agg [.int .i64 p, .int .i64 q, .ints .arg .u64 m]] = some dv ∧ Wk drops dv (Bh.D4.out [.i r, .i c, .l l, .i p, .i q, .l m])) : Am Tryz.prog 31 Bh.D4.spec :=
  Aj (A2 hk _ _ _) Tryz.func31 (by kernel_rfl) (by kernel_rfl) h
abbrev _root_.Go.Proofs.S1.Bh.D4.Kn : Prop := Am Tryz.prog 31 Bh.D4.spec
end EqRef10
end Go.Proofs.S1
namespace Go.Proofs.S1
open Go Go.Den Go.Rnd Go.Proofs
open EqRef10
theorem Bh.G1.known : Bh.G1.Kn := Bh.G1.Ac .nil fun r c l _ => by
  refine ⟨0, Bh.G1.out [.i r, .i c, .l l], [], ?_, .bool⟩
  have e : (bif (bif (bif (bif (Ds (0 : Int) r) then (Ds r (6 : Int)) else false) then (Ds (0 : Int) c) else false) then (Ds c (6 : Int)) else false) then ((List.length l : Int) == (Ab (r * c))) else false) = Bn r c l := by
    have := chk_code r c l
    have h : (bif (bif (bif (bif (Ds (0 : Int) r) then (Ds r (6 : Int)) else false) then (Ds (0 : Int) c) else false) then (Ds c (6 : Int)) else false) then ((List.length l : Int) == (Ab (r * c))) else false) = !(((!(Bs r)) || (!(Bs c))) || ((List.length l : Int) != (Ab (r * c)))) := by
      unfold Bs bne
      rw [Ef, Ef, Ef, Ef]
      cases decide (0 ≤ r) <;> cases decide (r ≤ 6) <;> cases decide (0 ≤ c) <;> cases decide (c ≤ 6) <;> cases ((List.length l : Int) == (Ab (r * c))) <;> rfl
    rw [h, this, Bool.not_not]
  rw [Bh.G1.ev, e]; rfl
theorem Bh.At.known : Bh.At.Kn := Bh.At.Ac .nil fun r c l i k hp => by
  obtain ⟨e, h1, h2⟩ := Gc (R := r) (show Ec r c l i k = true from hp)
  refine ⟨0, Bh.At.out [.i r, .i c, .l l, .i i, .i k], [], ?_, .int⟩
  rw [Bh.At.ev, e, decide_eq_true h1, decide_eq_true h2]
  rfl
theorem Yw {drops : List Nat} {i : Nat} {e : TypeId} {a b : Int} {l : List Int} (h : i ∈ drops) : Wk drops (.agg [.int .i64 a, .int .i64 b, .ints (.own i e) .u64 l]) (.agg [.int .i64 a, .int .i64 b, .ints .fresh .u64 l]) :=
  Wk.J7 (.cons .int (.cons .int (.cons (.drop _ _ _ _ h) .nil)))
theorem Bh.Bt.known : Bh.Bt.Kn := Bh.Bt.Ac .nil fun a b hp => by
  obtain ⟨ha, hb⟩ := Ag.1 (show (Bs a && Bs b) = true from hp)
  obtain ⟨A, rfl, hA⟩ := Gh ha
  obtain ⟨B, rfl, hB⟩ := Gh hb
  have hm := K3 (a := (A : Int)) (b := (B : Int)) (by omega) (by omega) (by omega) (by omega)
  have e : ((A : Int) * (B : Int)).toNat = A * B := by rw [← Int.natCast_mul, Int.toNat_natCast]
  refine ⟨0, .agg [.int .i64 (A : Int), .int .i64 (B : Int), .ints (.own 10 tB) .u64 (Cx A B fun _ _ => 0)], [10], ?_, Yw (List.mem_singleton.2 rfl)⟩
  rw [Bh.Bt.ev, Ap (by omega) (by omega), decide_eq_true hm.1, decide_eq_true (Int.le_refl _), decide_eq_true (show (A : Int) * (B : Int) ≤ (H0 : Int) by unfold H0; omega), e, grid_const]
  rfl
theorem Bh.Lr.known : Bh.Lr.Kn := Bh.Lr.Ac .nil fun r c l i k b hp => by
  obtain ⟨_, _, _, _, _, _, _, h8⟩ := Ar.1 (show Ec r c l i k = true from hp)
  obtain ⟨e, g1, g2⟩ := Gc (R := r) (show Ec r c l i k = true from hp)
  refine ⟨0, .agg [.int .i64 r, .int .i64 c, .ints (.own 13 tB) .u64 (List.set l (i * c + k).toNat b)], [13], ?_, Yw (List.mem_singleton.2 rfl)⟩
  rw [Bh.Lr.ev, e, List.nil_append, decide_eq_true (show 0 + l.length ≤ H0 by unfold H0; omega), decide_eq_true g1, decide_eq_true g2, decide_eq_true (show (i * c + k).toNat < l.length by omega)]
  rfl
theorem done_set {r c i k : Nat} (hk : k < c) {d d' : Nat → Nat → Bool} {f : Nat → Nat → Int} {x : Int} (hx : x = f i k)
    (h : ∀ a b, a < r → b < c → (d' a b = true ↔ d a b = true ∨ (a = i ∧ b = k))) :
    List.set (Cx r c fun a b => if d a b = true then f a b else 0) (Int.toNat ((i : Int) * (c : Int) + (k : Int))) x = Cx r c fun a b => if d' a b = true then f a b else 0 := by
  have e : ((i : Int) * (c : Int) + (k : Int)).toNat = i * c + k := by rw [← Int.natCast_mul, ← Int.natCast_add, Int.toNat_natCast]
  rw [e, Sw hk]
  refine Dv fun a b ha hb => ?_
  have h := h a b ha hb
  by_cases hab : a = i ∧ b = k
  · rw [if_pos hab, if_pos (h.2 (.inr hab)), hx, hab.1, hab.2]
  · rw [if_neg hab]
    by_cases hd : d a b = true
    · rw [if_pos hd, if_pos (h.2 (.inl hd))]
    · rw [if_neg hd, if_neg (fun k => (h.1 k).elim hd hab)]
theorem same_code (r c : Int) (l : List Int) (p q : Int) (m : List Int) : (bif (bif (r == p) then (c == q) else false) then (R6 l m) else false) = Ot r c l p q m := by
  unfold Ot R6
  have e1 : (r == p) = decide (r = p) := by rw [Bool.eq_iff_iff]; simp
  have e2 : (c == q) = decide (c = q) := by rw [Bool.eq_iff_iff]; simp
  rw [e1, e2]
  cases decide (r = p) <;> cases decide (c = q) <;> cases decide (l = m) <;> rfl
theorem Bh.D4.known : Bh.D4.Kn := Bh.D4.Ac (.cons Av.D4.known .nil) fun r c l p q m hp => by
  have hp : Ob l = true := hp
  refine ⟨0, Bh.D4.out [.i r, .i c, .l l, .i p, .i q, .l m], [], ?_, .bool⟩
  rw [Bh.D4.ev, hp, Bool.or_true, cond_true, same_code]
  rfl
end Go.Proofs.S1
namespace Go.Proofs.S1
open Go Go.Den Go.Rnd Go.Proofs
open EqRef10
def fill (r c : Nat) (f : Nat → Nat → Int) (d : Nat → Nat → Bool) : List Int := Cx r c fun a b => if d a b = true then f a b else 0
end Go.Proofs.S1
namespace Go.Proofs.S1
open Go Go.Den Go.Rnd Go.Proofs
set_option linter.unusedVariables false
set_option maxRecDepth 100000
namespace EqHouse
theorem Eu : ∀ a : Bool, (a && true) = a := by decide
theorem I7 : ∀ a b : Bool, ((a && b) && true) = (a && b) := by decide
theorem H8 : ∀ a b c : Bool, ((a && b) && ((a && c) && true)) = ((a && b) && (a && c)) := by decide
theorem Hr : ∀ a : Bool, ((a && true) && true) = a := by decide
theorem Ge : ∀ a b : Bool, (bif a then true else b) = (a || b) := by decide
theorem Kb : ∀ a : Bool, ((!(!a)) || (a == false)) = true := by decide
theorem Lu : ∀ a : Bool, ((!(a == false)) || ((((!(a == false)) || (a == false)) && true) && true)) = true := by decide
theorem Ld : ∀ a : Bool, ((!(a == false)) || true) = true := by decide
theorem Qk : ∀ a b c d e : Bool, (bif (bif (bif (bif a then true else b) then true else c) then true else d) then true else e) = ((((a || b) || c) || d) || e) := by decide
theorem Ru : ∀ a b c d : Bool, ((!(!(bif (bif (bif a then true else b) then true else c) then true else d))) || ((bif (bif (bif a then true else b) then true else c) then true else d) == false)) = true := by decide
theorem Ho : ∀ a b c d : Bool, ((!((bif (bif (bif a then true else b) then true else c) then true else d) == false)) || ((((!((bif (bif (bif a then true else b) then true else c) then true else d) == false)) || ((bif (bif (bif a then true else b) then true else c) then true else d) == false)) && (((!((bif (bif (bif a then true else b) then true else c) then true else d) == false)) || ((bif (bif (bif a then true else b) then true else c) then true else d) == false)) && true)) && true)) = true := by decide
theorem Ip : ∀ a b c d : Bool, ((!((bif (bif (bif a then true else b) then true else c) then true else d) == false)) || ((((!((bif (bif (bif a then true else b) then true else c) then true else d) == false)) || ((bif (bif (bif a then true else b) then true else c) then true else d) == false)) && true) && true)) = true := by decide
theorem I8 : ∀ a b c d : Bool, ((!((bif (bif (bif a then true else b) then true else c) then true else d) == false)) || true) = true := by decide
theorem Kl : ∀ a b c : Bool, ((!(!(bif (bif a then true else b) then true else c))) || ((bif (bif a then true else b) then true else c) == false)) = true := by decide
theorem Mv : ∀ a b c : Bool, ((!((bif (bif a then true else b) then true else c) == false)) || ((((!((bif (bif a then true else b) then true else c) == false)) || ((bif (bif a then true else b) then true else c) == false)) && true) && true)) = true := by decide
theorem Mu : ∀ a b c : Bool, ((!((bif (bif a then true else b) then true else c) == false)) || true) = true := by decide
theorem Rv : ∀ a b : Bool, ((!(!(bif a then true else b))) || ((bif a then true else b) == false)) = true := by decide
theorem tt17 : ∀ a b : Bool, ((!((bif a then true else b) == false)) || ((((!((bif a then true else b) == false)) || ((bif a then true else b) == false)) && (((!((bif a then true else b) == false)) || ((bif a then true else b) == false)) && true)) && true)) = true := by decide
theorem tt18 : ∀ a b : Bool, ((!((bif a then true else b) == false)) || ((((!((bif a then true else b) == false)) || ((bif a then true else b) == false)) && true) && true)) = true := by decide
theorem tt19 : ∀ a b : Bool, ((!((bif a then true else b) == false)) || true) = true := by decide
theorem tt20 : ∀ a : Bool, ((!(a == false)) || ((((!(a == false)) || (a == false)) && (((!(a == false)) || (a == false)) && true)) && true)) = true := by decide
def Ao.Cr.hint : Nat → Option Bf
  | 0 => some { keep := [5, 6, 7], objs := [], boxes := [] }
  | _ => none
def Ao.Cr.A9 : List (Nat × Entry) := [(155, soft.Kind.spec)]
def Ao.Cr.E : Env := Bb (A8 Ao.Cr.A9) (fun _ => false) Ao.Cr.hint (fun _ => none)
def Ao.Cr.L0 (N M : Nat) (x : List Int) (p7 : Int) : Option DV := B6 Ao.Cr.E N Tryz.f252 (Ad Tryz.f252) [1, 0, 1, 0] [] M ⟨Hq 15 [(5, .ints .arg .u64 x), (6, .int .i64 (List.length x : Int)), (7, .int .i64 p7)], []⟩
theorem Ao.Cr.Az (N M : Nat) (x : List Int) (p7 : Int) : Ao.Cr.L0 N (M + 1) x p7 =
  bif (A5 p7 (List.length x : Int)) then
  bif ((decide (0 ≤ p7)) && (decide (p7 < (List.length x : Int)))) then
  bif (Ah (List.getD x (Int.toNat p7) 0)) then
  bif ((A7 (List.getD x (Int.toNat p7) 0)) != (0 : Int)) then
  some (.bool false)
  else Ao.Cr.L0 N M x (Ab (p7 + (1 : Int)))
  else none
  else none
  else some (.bool true) := by kernel_rfl
theorem Ao.Cr.ev (N : Nat) (x : List Int) : A1 Ao.Cr.E N Tryz.f252 (Ad Tryz.f252) [.ints .arg .u64 x] =
  Ao.Cr.L0 N N x (0 : Int) := by kernel_rfl
theorem Ao.Cr.Ac (hk : A0 Tryz.prog Ao.Cr.A9) (h : ∀ (x : List Int), Ao.Cr.pre [.l x] = true → ∃ N dv drops, A1 Ao.Cr.E N Tryz.f252 (Ad Tryz.f252) [.ints .arg .u64 x] = some dv ∧ Wk drops dv (Ao.Cr.out [.l x])) : Am Tryz.prog 252 Ao.Cr.spec :=
  Aj (A2 hk _ _ _) Tryz.func252 (by kernel_rfl) (by kernel_rfl) h
abbrev _root_.Go.Proofs.S1.Ao.Cr.Kn : Prop := Am Tryz.prog 252 Ao.Cr.spec
def Ao.lead.hint : Nat → Option Bf
  | 0 => some { keep := [5, 6, 7], objs := [], boxes := [] }
  | _ => none
def Ao.lead.A9 : List (Nat × Entry) := [(155, soft.Kind.spec)]
def Ao.lead.E : Env := Bb (A8 Ao.lead.A9) (fun _ => false) Ao.lead.hint (fun _ => none)
def Ao.lead.L0 (N M : Nat) (x : List Int) (p7 : Int) : Option DV := B6 Ao.lead.E N Tryz.f258 (Ad Tryz.f258) [1, 0, 1, 0] [] M ⟨Hq 16 [(5, .ints .arg .u64 x), (6, .int .i64 (List.length x : Int)), (7, .int .i64 p7)], []⟩
theorem Ao.lead.Az (N M : Nat) (x : List Int) (p7 : Int) : Ao.lead.L0 N (M + 1) x p7 =
  bif (A5 p7 (List.length x : Int)) then
  bif ((decide (0 ≤ p7)) && (decide (p7 < (List.length x : Int)))) then
  bif (Ah (List.getD x (Int.toNat p7) 0)) then
  bif ((A7 (List.getD x (Int.toNat p7) 0)) != (0 : Int)) then
  some (.int .u64 (List.getD x (Int.toNat p7) 0))
  else Ao.lead.L0 N M x (Ab (p7 + (1 : Int)))
  else none
  else none
  else some (.int .u64 0) := by kernel_rfl
theorem Ao.lead.ev (N : Nat) (x : List Int) : A1 Ao.lead.E N Tryz.f258 (Ad Tryz.f258) [.ints .arg .u64 x] =
  Ao.lead.L0 N N x (0 : Int) := by kernel_rfl
theorem Ao.lead.Ac (hk : A0 Tryz.prog Ao.lead.A9) (h : ∀ (x : List Int), Ao.lead.pre [.l x] = true → ∃ N dv drops, A1 Ao.lead.E N Tryz.f258 (Ad Tryz.f258) [.ints .arg .u64 x] = some dv ∧ Wk drops dv (Ao.lead.out [.l x])) : Am Tryz.prog 258 Ao.lead.spec :=
  Aj (A2 hk _ _ _) Tryz.func258 (by kernel_rfl) (by kernel_rfl) h
abbrev _root_.Go.Proofs.S1.Ao.lead.Kn : Prop := Am Tryz.prog 258 Ao.lead.spec
def Ao.Cu.hint : Nat → Option Bf
  | 0 => some { keep := [1, 5, 8, 9, 10], objs := [(0, 5, 100005, .ints 37 .u64 [])], boxes := [] }
  | _ => none
def Ao.Cu.A9 : List (Nat × Entry) := [(88, Ae.Bj.spec)]
def Ao.Cu.E : Env := Bb (A8 Ao.Cu.A9) (fun _ => false) Ao.Cu.hint (fun _ => none)
def Ao.Cu.L0 (N M : Nat) (x : List Int) (k p10 : Int) (p5 : List Int) : Option DV := B6 Ao.Cu.E N Tryz.f256 (Ad Tryz.f256) [1, 1, 0, 1, 0] [] M ⟨Hq 22 [(1, .int .i64 k), (5, .oref 100005), (8, .ints .arg .u64 x), (9, .int .i64 (List.length x : Int)), (10, .int .i64 p10)], [(100005, false, .ints 37 .u64 p5)]⟩
theorem Ao.Cu.Az (N M : Nat) (x : List Int) (k p10 : Int) (p5 : List Int) : Ao.Cu.L0 N (M + 1) x k p10 p5 =
  bif (A5 p10 (List.length x : Int)) then
  bif ((decide (0 ≤ p10)) && (decide (p10 < (List.length x : Int)))) then
  bif (Dp (List.getD x (Int.toNat p10) 0) k) then
  bif (decide ((List.length p5) + 1 ≤ H0)) then
  Ao.Cu.L0 N M x k (Ab (p10 + (1 : Int))) (p5 ++ [(B3 (List.getD x (Int.toNat p10) 0) k)])
  else none
  else none
  else none
  else some (.ints (.own 100005 37) .u64 p5) := by kernel_rfl
theorem Ao.Cu.ev (N : Nat) (x : List Int) (k : Int) : A1 Ao.Cu.E N Tryz.f256 (Ad Tryz.f256) [.ints .arg .u64 x, .int .i64 k] =
  Ao.Cu.L0 N N x k (0 : Int) [] := by kernel_rfl
theorem Ao.Cu.Ac (hk : A0 Tryz.prog Ao.Cu.A9) (h : ∀ (x : List Int) (k : Int), Ao.Cu.pre [.l x, .i k] = true → ∃ N dv drops, A1 Ao.Cu.E N Tryz.f256 (Ad Tryz.f256) [.ints .arg .u64 x, .int .i64 k] = some dv ∧ Wk drops dv (Ao.Cu.out [.l x, .i k])) : Am Tryz.prog 256 Ao.Cu.spec :=
  Aj (A2 hk _ _ _) Tryz.func256 (by kernel_rfl) (by kernel_rfl) h
abbrev _root_.Go.Proofs.S1.Ao.Cu.Kn : Prop := Am Tryz.prog 256 Ao.Cu.spec
def Ao.E4.A9 : List (Nat × Entry) := []
def Ao.E4.E : Env := Bb (A8 Ao.E4.A9) (fun _ => false) (fun _ => none) (fun _ => none)
theorem Ao.E4.ev (N : Nat) (i : Int) : A1 Ao.E4.E N Tryz.f254 (Ad Tryz.f254) [.int .i64 i] =
  some (.int .u64 0) := by kernel_rfl
theorem Ao.E4.Ac (hk : A0 Tryz.prog Ao.E4.A9) (h : ∀ (i : Int), Ao.E4.pre [.i i] = true → ∃ N dv drops, A1 Ao.E4.E N Tryz.f254 (Ad Tryz.f254) [.int .i64 i] = some dv ∧ Wk drops dv (Ao.E4.out [.i i])) : Am Tryz.prog 254 Ao.E4.spec :=
  Aj (A2 hk _ _ _) Tryz.func254 (by kernel_rfl) (by kernel_rfl) h
abbrev _root_.Go.Proofs.S1.Ao.E4.Kn : Prop := Am Tryz.prog 254 Ao.E4.spec
def Ao.E3.A9 : List (Nat × Entry) := [(158, Ae.Div.spec)]
def Ao.E3.E : Env := Bb (A8 Ao.E3.A9) (fun _ => false) (fun _ => none) (fun _ => none)
theorem Ao.E3.ev (N : Nat) (i : Int) (y : List Int) (d : Int) : A1 Ao.E3.E N Tryz.f259 (Ad Tryz.f259) [.int .i64 i, .cellp [.ints .arg .u64 y], .cellp [.int .u64 d]] =
  bif ((decide (0 ≤ i)) && (decide (i < (List.length y : Int)))) then
  bif (Ah (List.getD y (Int.toNat i) 0) && Ah d) then
  some (.int .u64 (Et (List.getD y (Int.toNat i) 0) d))
  else none
  else none :=
  Eq.trans (by kernel_rfl)
  (C1 (I7 (decide (0 ≤ i)) (decide (i < (List.length y : Int)))) (C1 (Eu (Ah (List.getD y (Int.toNat i) 0) && Ah d)) rfl rfl) rfl)
theorem Ao.E3.Ac (hk : A0 Tryz.prog Ao.E3.A9) (h : ∀ (i : Int) (y : List Int) (d : Int), Ao.E3.pre [.i i, .l y, .i d] = true → ∃ N dv drops, A1 Ao.E3.E N Tryz.f259 (Ad Tryz.f259) [.int .i64 i, .cellp [.ints .arg .u64 y], .cellp [.int .u64 d]] = some dv ∧ Wk drops dv (Ao.E3.out [.i i, .l y, .i d])) : Am Tryz.prog 259 Ao.E3.spec :=
  Aj (A2 hk _ _ _) Tryz.func259 (by kernel_rfl) (by kernel_rfl) h
abbrev _root_.Go.Proofs.S1.Ao.E3.Kn : Prop := Am Tryz.prog 259 Ao.E3.spec
def Ao.row.Zero.hint : Nat → Option Bf
  | 0 => some { keep := [0, 1, 5, 6], objs := [(0, 5, 100005, .ints 37 .u64 [])], boxes := [] }
  | _ => none
def Ao.row.Zero.A9 : List (Nat × Entry) := [(254, Ao.E4.spec)]
def Ao.row.Zero.E : Env := Bb (A8 Ao.row.Zero.A9) (fun _ => false) Ao.row.Zero.hint (fun _ => none)
def Ao.row.Zero.L0 (N M : Nat) (n p6 : Int) (p5 : List Int) : Option DV := B6 Ao.row.Zero.E N Tryz.f253 (Ad Tryz.f253) [1, 1, 0, 1, 0] [] M ⟨Hq 23 [(0, .int .i64 n), (1, .fn 254 [] []), (5, .oref 100005), (6, .int .i64 p6)], [(100005, false, .ints 37 .u64 p5)]⟩
theorem Ao.row.Zero.Az (N M : Nat) (n p6 : Int) (p5 : List Int) : Ao.row.Zero.L0 N (M + 1) n p6 p5 =
  bif (A5 p6 n) then
  bif (decide ((List.length p5) + 1 ≤ H0)) then
  Ao.row.Zero.L0 N M n (Ab (p6 + (1 : Int))) (p5 ++ [(0 : Int)])
  else none
  else bif (((decide ((0 : Int) ≤ n)) && (decide (n ≤ n))) && ((decide ((0 : Int) ≤ n)) && (decide (n ≤ (List.length p5 : Int))))) then
  some (.ints .fresh .u64 (List.take (Int.toNat (n - (0 : Int))) (List.drop 0 p5)))
  else none :=
  Eq.trans (by kernel_rfl)
  (Fb rfl (C1 (H8 (decide ((0 : Int) ≤ n)) (decide (n ≤ n)) (decide (n ≤ (List.length p5 : Int)))) rfl rfl))
theorem Ao.row.Zero.ev (N : Nat) (n : Int) : A1 Ao.row.Zero.E N Tryz.f253 (Ad Tryz.f253) [.int .i64 n, .fn 254 [] []] =
  Ao.row.Zero.L0 N N n (1 : Int) [(4607182418800017408 : Int)] := by kernel_rfl
theorem Ao.row.Zero.Ac (hk : A0 Tryz.prog Ao.row.Zero.A9) (h : ∀ (n : Int), Ao.row.Zero.pre [.i n] = true → ∃ N dv drops, A1 Ao.row.Zero.E N Tryz.f253 (Ad Tryz.f253) [.int .i64 n, .fn 254 [] []] = some dv ∧ Wk drops dv (Ao.row.Zero.out [.i n])) : Am Tryz.prog 253 Ao.row.Zero.spec :=
  Aj (A2 hk _ _ _) Tryz.func253 (by kernel_rfl) (by kernel_rfl) h
abbrev _root_.Go.Proofs.S1.Ao.row.Zero.Kn : Prop := Am Tryz.prog 253 Ao.row.Zero.spec
def Ao.row.Div.hint : Nat → Option Bf
  | 0 => some { keep := [0, 1, 5, 6], objs := [(0, 5, 100005, .ints 37 .u64 [])], boxes := [] }
  | _ => none
def Ao.row.Div.A9 : List (Nat × Entry) := [(259, Ao.E3.spec)]
def Ao.row.Div.E : Env := Bb (A8 Ao.row.Div.A9) (fun _ => false) Ao.row.Div.hint (fun _ => none)
def Ao.row.Div.L0 (N M : Nat) (n : Int) (y : List Int) (d p6 : Int) (p5 : List Int) : Option DV := B6 Ao.row.Div.E N Tryz.f253 (Ad Tryz.f253) [1, 1, 0, 1, 0] [] M ⟨Hq 23 [(0, .int .i64 n), (1, .fn 259 [] [.cellp [.ints .arg .u64 y], .cellp [.int .u64 d]]), (5, .oref 100005), (6, .int .i64 p6)], [(100005, false, .ints 37 .u64 p5)]⟩
theorem Ao.row.Div.Az (N M : Nat) (n : Int) (y : List Int) (d p6 : Int) (p5 : List Int) : Ao.row.Div.L0 N (M + 1) n y d p6 p5 =
  bif (A5 p6 n) then
  bif ((C2 (0 ≤ p6 ∧ p6 < List.length y) && An y) && Ah d) then
  bif (decide ((List.length p5) + 1 ≤ H0)) then
  Ao.row.Div.L0 N M n y d (Ab (p6 + (1 : Int))) (p5 ++ [(Et (List.getD y (Int.toNat p6) 0) d)])
  else none
  else none
  else bif (((decide ((0 : Int) ≤ n)) && (decide (n ≤ n))) && ((decide ((0 : Int) ≤ n)) && (decide (n ≤ (List.length p5 : Int))))) then
  some (.ints .fresh .u64 (List.take (Int.toNat (n - (0 : Int))) (List.drop 0 p5)))
  else none :=
  Eq.trans (by kernel_rfl)
  (Fb rfl (C1 (H8 (decide ((0 : Int) ≤ n)) (decide (n ≤ n)) (decide (n ≤ (List.length p5 : Int)))) rfl rfl))
theorem Ao.row.Div.ev (N : Nat) (n : Int) (y : List Int) (d : Int) : A1 Ao.row.Div.E N Tryz.f253 (Ad Tryz.f253) [.int .i64 n, .fn 259 [] [.cellp [.ints .arg .u64 y], .cellp [.int .u64 d]]] =
  Ao.row.Div.L0 N N n y d (1 : Int) [(4607182418800017408 : Int)] := by kernel_rfl
theorem Ao.row.Div.Ac (hk : A0 Tryz.prog Ao.row.Div.A9) (h : ∀ (n : Int) (y : List Int) (d : Int), Ao.row.Div.pre [.i n, .l y, .i d] = true → ∃ N dv drops, A1 Ao.row.Div.E N Tryz.f253 (Ad Tryz.f253) [.int .i64 n, .fn 259 [] [.cellp [.ints .arg .u64 y], .cellp [.int .u64 d]]] = some dv ∧ Wk drops dv (Ao.row.Div.out [.i n, .l y, .i d])) : Am Tryz.prog 253 Ao.row.Div.spec :=
  Aj (A2 hk _ _ _) Tryz.func253 (by kernel_rfl) (by kernel_rfl) h
abbrev _root_.Go.Proofs.S1.Ao.row.Div.Kn : Prop := Am Tryz.prog 253 Ao.row.Div.spec
def Ao.Jn.A9 : List (Nat × Entry) := [(255, compare.Um.spec), (258, Ao.lead.spec), (252, Ao.Cr.spec), (253, (altE [.i .i64, .fn 254 []] Ao.row.Zero.spec Ao.row.Div.spec)), (256, Ao.Cu.spec), (148, soft.Finite.spec), (233, soft.Cy.spec), (213, soft.Sign.spec), (89, Ae.Cm.spec), (158, Ae.Div.spec), (150, Ae.Finite.spec), (257, Ae.Norm.spec), (88, Ae.Bj.spec), (156, Ae.Sub.spec)]
def Ao.Jn.E : Env := Bb (A8 Ao.Jn.A9) (fun _ => false) (fun _ => none) (fun _ => none)
theorem Ao.Jn.ev (N : Nat) (x : List Int) : A1 Ao.Jn.E N Tryz.f245 (Ad Tryz.f245) [.ints .arg .u64 x] =
  bif (((List.length x : Int) == (0 : Int)) || (A5 (64 : Int) (List.length x : Int))) then
  some (.tup [.nil, .int .u64 0, .int .u64 0, .int .i64 3])
  else bif (Di x) then
  bif (!(Ev x)) then
  some (.tup [.nil, .int .u64 0, .int .u64 0, .int .i64 4])
  else bif (decide ((1 : Int) ≤ (List.length x : Int))) then
  bif (Di (List.drop 1 x)) then
  bif (Jz (List.drop 1 x)) then
  bif (C2 (1 ≤ (List.length x : Int) ∧ (List.length x : Int) ≤ 64)) then
  bif (decide ((0 : Int) < (List.length x : Int))) then
  some (.tup [.ints .fresh .u64 (Jd (Int.toNat (List.length x : Int)) (fun _ => 0)), .int .u64 0, .int .u64 (List.getD x 0 0), .int .i64 0])
  else none
  else none
  else bif (Di x) then
  bif (Ah (Br x)) then
  bif (Di x && C2 (List.length x ≤ 1000 ∧ -2300 ≤ (Ab (0 - (B4 (Br x)))) ∧ (Ab (0 - (B4 (Br x)))) ≤ 2300)) then
  bif (Di (Bm x (Ab (0 - (B4 (Br x))))) && C2 (List.length (Bm x (Ab (0 - (B4 (Br x))))) ≤ 64)) then
  bif (Di x) then
  bif (Ah (Qw x)) then
  bif (!(C6 (Qw x))) then
  bif (Ah (Ej (Bm x (Ab (0 - (B4 (Br x))))))) then
  bif (Dp (C0 (Ej (Bm x (Ab (0 - (B4 (Br x))))))) (B4 (Br x))) then
  bif (Ah (B3 (C0 (Ej (Bm x (Ab (0 - (B4 (Br x))))))) (B4 (Br x)))) then
  bif (!(C8 (B3 (C0 (Ej (Bm x (Ab (0 - (B4 (Br x))))))) (B4 (Br x))))) then
  some (.tup [.nil, .int .u64 0, .int .u64 0, .int .i64 2])
  else bif (decide ((0 : Int) < (List.length (Bm x (Ab (0 - (B4 (Br x))))) : Int))) then
  bif (Ah (List.getD (Bm x (Ab (0 - (B4 (Br x))))) 0 0) && Ah (C0 (Ej (Bm x (Ab (0 - (B4 (Br x)))))))) then
  bif ((C2 (1 ≤ (List.length (Bm x (Ab (0 - (B4 (Br x))))) : Int) ∧ (List.length (Bm x (Ab (0 - (B4 (Br x))))) : Int) ≤ 64 ∧ (List.length (Bm x (Ab (0 - (B4 (Br x))))) : Int) = List.length (Bm x (Ab (0 - (B4 (Br x)))))) && An (Bm x (Ab (0 - (B4 (Br x)))))) && Ah (Ep (List.getD (Bm x (Ab (0 - (B4 (Br x))))) 0 0) (C0 (Ej (Bm x (Ab (0 - (B4 (Br x))))))))) then
  bif (decide ((0 : Int) < (List.length (Bm x (Ab (0 - (B4 (Br x))))) : Int))) then
  bif (Ah (C0 (Ej (Bm x (Ab (0 - (B4 (Br x))))))) && Ah (List.getD (Bm x (Ab (0 - (B4 (Br x))))) 0 0)) then
  bif (Ah (Ep (C0 (Ej (Bm x (Ab (0 - (B4 (Br x))))))) (List.getD (Bm x (Ab (0 - (B4 (Br x))))) 0 0)) && Ah (C0 (Ej (Bm x (Ab (0 - (B4 (Br x)))))))) then
  some (.tup [.ints .fresh .u64 (Jd (Int.toNat (List.length (Bm x (Ab (0 - (B4 (Br x))))) : Int)) (fun j => Et (List.getD (Bm x (Ab (0 - (B4 (Br x))))) j 0) (Ep (List.getD (Bm x (Ab (0 - (B4 (Br x))))) 0 0) (C0 (Ej (Bm x (Ab (0 - (B4 (Br x)))))))))), .int .u64 (Et (Ep (C0 (Ej (Bm x (Ab (0 - (B4 (Br x))))))) (List.getD (Bm x (Ab (0 - (B4 (Br x))))) 0 0)) (C0 (Ej (Bm x (Ab (0 - (B4 (Br x)))))))), .int .u64 (B3 (C0 (Ej (Bm x (Ab (0 - (B4 (Br x))))))) (B4 (Br x))), .int .i64 0])
  else none
  else none
  else none
  else none
  else none
  else none
  else none
  else none
  else none
  else bif (Dp (Ej (Bm x (Ab (0 - (B4 (Br x)))))) (B4 (Br x))) then
  bif (Ah (B3 (Ej (Bm x (Ab (0 - (B4 (Br x)))))) (B4 (Br x)))) then
  bif (!(C8 (B3 (Ej (Bm x (Ab (0 - (B4 (Br x)))))) (B4 (Br x))))) then
  some (.tup [.nil, .int .u64 0, .int .u64 0, .int .i64 2])
  else bif (decide ((0 : Int) < (List.length (Bm x (Ab (0 - (B4 (Br x))))) : Int))) then
  bif (Ah (List.getD (Bm x (Ab (0 - (B4 (Br x))))) 0 0) && Ah (Ej (Bm x (Ab (0 - (B4 (Br x))))))) then
  bif ((C2 (1 ≤ (List.length (Bm x (Ab (0 - (B4 (Br x))))) : Int) ∧ (List.length (Bm x (Ab (0 - (B4 (Br x))))) : Int) ≤ 64 ∧ (List.length (Bm x (Ab (0 - (B4 (Br x))))) : Int) = List.length (Bm x (Ab (0 - (B4 (Br x)))))) && An (Bm x (Ab (0 - (B4 (Br x)))))) && Ah (Ep (List.getD (Bm x (Ab (0 - (B4 (Br x))))) 0 0) (Ej (Bm x (Ab (0 - (B4 (Br x)))))))) then
  bif (decide ((0 : Int) < (List.length (Bm x (Ab (0 - (B4 (Br x))))) : Int))) then
  bif (Ah (Ej (Bm x (Ab (0 - (B4 (Br x)))))) && Ah (List.getD (Bm x (Ab (0 - (B4 (Br x))))) 0 0)) then
  bif (Ah (Ep (Ej (Bm x (Ab (0 - (B4 (Br x)))))) (List.getD (Bm x (Ab (0 - (B4 (Br x))))) 0 0)) && Ah (Ej (Bm x (Ab (0 - (B4 (Br x))))))) then
  some (.tup [.ints .fresh .u64 (Jd (Int.toNat (List.length (Bm x (Ab (0 - (B4 (Br x))))) : Int)) (fun j => Et (List.getD (Bm x (Ab (0 - (B4 (Br x))))) j 0) (Ep (List.getD (Bm x (Ab (0 - (B4 (Br x))))) 0 0) (Ej (Bm x (Ab (0 - (B4 (Br x))))))))), .int .u64 (Et (Ep (Ej (Bm x (Ab (0 - (B4 (Br x)))))) (List.getD (Bm x (Ab (0 - (B4 (Br x))))) 0 0)) (Ej (Bm x (Ab (0 - (B4 (Br x))))))), .int .u64 (B3 (Ej (Bm x (Ab (0 - (B4 (Br x)))))) (B4 (Br x))), .int .i64 0])
  else none
  else none
  else none
  else none
  else none
  else none
  else none
  else none
  else none
  else none
  else none
  else none
  else none
  else none
  else none
  else none
  else none :=
  Eq.trans (by kernel_rfl)
  (Ax (Ld ((List.length x : Int) == (0 : Int))) (Ax (Lu ((List.length x : Int) == (0 : Int))) (Ax (Lu ((List.length x : Int) == (0 : Int))) (Ax (Kb ((List.length x : Int) == (0 : Int))) (C1 (Ge ((List.length x : Int) == (0 : Int)) (A5 (64 : Int) (List.length x : Int))) rfl (Fb (Fb rfl (C1 (Hr (decide ((1 : Int) ≤ (List.length x : Int)))) (Fb (Fb (C1 (Eu (C2 (1 ≤ (List.length x : Int) ∧ (List.length x : Int) ≤ 64))) (C1 (Eu (decide ((0 : Int) < (List.length x : Int)))) rfl rfl) rfl) rfl) rfl) rfl)) rfl))))))
theorem Ao.Jn.Ac (hk : A0 Tryz.prog Ao.Jn.A9) (h : ∀ (x : List Int), Ao.Jn.pre [.l x] = true → ∃ N dv drops, A1 Ao.Jn.E N Tryz.f245 (Ad Tryz.f245) [.ints .arg .u64 x] = some dv ∧ Wk drops dv (Ao.Jn.out [.l x])) : Am Tryz.prog 245 Ao.Jn.spec :=
  Aj (A2 hk _ _ _) Tryz.func245 (by kernel_rfl) (by kernel_rfl) h
abbrev _root_.Go.Proofs.S1.Ao.Jn.Kn : Prop := Am Tryz.prog 245 Ao.Jn.spec
def Ao.Apply.hint : Nat → Option Bf
  | 0 => some { keep := [1, 3, 4, 5, 10, 13, 14], objs := [(14, 2, 114002, .ints 37 .u64 [])], boxes := [5, 10, 13] }
  | 2 => some { keep := [1, 3, 4, 5, 10, 13, 14, 18, 90, 91, 92], objs := [(14, 2, 114002, .ints 37 .u64 [])], boxes := [5, 10, 13] }
  | _ => none
def Ao.Apply.A9 : List (Nat × Entry) := [(160, Aa.Check.spec), (191, Aa.C9.spec), (189, Ae.Oi.spec), (157, Ae.Mul.spec), (156, Ae.Sub.spec)]
def Ao.Apply.E : Env := Bb (A8 Ao.Apply.A9) (fun _ => false) Ao.Apply.hint (fun _ => none)
def Ao.Apply.L0 (N M : Nat) (r c : Int) (l : List Int) (i : Int) (v : List Int) (t p14 : Int) (p2_1 : List Int) : Option DV := B6 Ao.Apply.E N Tryz.f219 (Ad Tryz.f219) [1, 1, 1, 1, 0, 1, 0] [] M ⟨Hq 118 [(1, .int .i64 i), (3, .ints .arg .u64 v), (4, .int .u64 t), (5, .ptr 5 0 0), (10, .ptr 10 0 0), (13, .ptr 13 0 0), (14, .int .i64 p14)], [(5, false, .box [.int .i64 r, .int .i64 c, .ints .arg .u64 l]), (10, false, .box [.int .i64 0, .int .i64 0, .nil]), (13, false, .box [.int .i64 r, .int .i64 c, .oref 114002]), (114002, false, .ints 37 .u64 p2_1)]⟩
def Ao.Apply.L1 (N M0 M : Nat) (r c : Int) (l : List Int) (i : Int) (v : List Int) (t p92 : Int) (p2 : List Int) (p14_1 p18 : Int) (p90 : List Int) (p91 : Int) : Option DV := B6 Ao.Apply.E N Tryz.f219 (Ad Tryz.f219) [1, 1, 1, 1, 0, 1, 0, 0, 1, 0, 0, 1, 1, 1, 1, 0] [M0] M ⟨Hq 118 [(1, .int .i64 i), (3, .ints .arg .u64 v), (4, .int .u64 t), (5, .ptr 5 0 0), (10, .ptr 10 0 0), (13, .ptr 13 0 0), (14, .int .i64 p14_1), (18, .int .u64 p18), (90, .ints .fresh .u64 p90), (91, .int .i64 p91), (92, .int .i64 p92)], [(5, false, .box [.int .i64 r, .int .i64 c, .ints .arg .u64 l]), (10, false, .box [.int .i64 0, .int .i64 0, .nil]), (13, false, .box [.int .i64 r, .int .i64 c, .oref 114002]), (114002, false, .ints 37 .u64 p2)]⟩
theorem Ao.Apply.Az (N M : Nat) (r c : Int) (l : List Int) (i : Int) (v : List Int) (t p14 : Int) (p2_1 : List Int) : Ao.Apply.L0 N (M + 1) r c l i v t p14 p2_1 =
  bif (A5 p14 c) then
  bif (Lm r c l p14 && C2 (0 ≤ i ∧ i ≤ r)) then
  bif (((decide ((0 : Int) ≤ (List.length v : Int))) && (decide ((List.length v : Int) ≤ (List.length v : Int)))) && ((decide ((0 : Int) ≤ (List.length v : Int))) && (decide ((List.length v : Int) ≤ (List.length (Dm c l p14 i (Int.toNat (r - i))) : Int))))) then
  bif ((Tt v (List.take (Int.toNat (List.length v : Int)) (Dm c l p14 i (Int.toNat (r - i)))) && An v) && An (List.take (Int.toNat (List.length v : Int)) (Dm c l p14 i (Int.toNat (r - i))))) then
  bif (Ah t && Ah (Qn v (List.take (Int.toNat (List.length v : Int)) (Dm c l p14 i (Int.toNat (r - i)))))) then
  Ao.Apply.L1 N M N r c l i v t (0 : Int) p2_1 p14 (Ed t (Qn v (List.take (Int.toNat (List.length v : Int)) (Dm c l p14 i (Int.toNat (r - i)))))) (List.take (Int.toNat (List.length v : Int)) (Dm c l p14 i (Int.toNat (r - i)))) (List.length (List.take (Int.toNat (List.length v : Int)) (Dm c l p14 i (Int.toNat (r - i)))) : Int)
  else none
  else none
  else none
  else none
  else some (.tup [.agg [.int .i64 r, .int .i64 c, .ints (.own 114002 37) .u64 p2_1], .int .i64 0]) :=
  Eq.trans (by kernel_rfl)
  (Fb (Fb (C1 (H8 (decide ((0 : Int) ≤ (List.length v : Int))) (decide ((List.length v : Int) ≤ (List.length v : Int))) (decide ((List.length v : Int) ≤ (List.length (Dm c l p14 i (Int.toNat (r - i))) : Int)))) rfl rfl) rfl) rfl)
theorem Ao.Apply.Ch (N M0 M : Nat) (r c : Int) (l : List Int) (i : Int) (v : List Int) (t p92 : Int) (p2 : List Int) (p14_1 p18 : Int) (p90 : List Int) (p91 : Int) : Ao.Apply.L1 N M0 (M + 1) r c l i v t p92 p2 p14_1 p18 p90 p91 =
  bif (A5 p92 p91) then
  bif ((decide (0 ≤ p92)) && (decide (p92 < (List.length p90 : Int)))) then
  bif ((decide (0 ≤ p92)) && (decide (p92 < (List.length v : Int)))) then
  bif (Ah p18 && Ah (List.getD v (Int.toNat p92) 0)) then
  bif (Ah (List.getD p90 (Int.toNat p92) 0) && Ah (Ed p18 (List.getD v (Int.toNat p92) 0))) then
  bif ((decide (0 ≤ (Ab ((Ab ((Ab (i + p92)) * c)) + p14_1)))) && (decide ((Ab ((Ab ((Ab (i + p92)) * c)) + p14_1)) < (List.length p2 : Int)))) then
  bif (decide ((Int.toNat (Ab ((Ab ((Ab (i + p92)) * c)) + p14_1))) < (List.length p2))) then
  Ao.Apply.L1 N M0 M r c l i v t (Ab (p92 + (1 : Int))) (List.set p2 (Int.toNat (Ab ((Ab ((Ab (i + p92)) * c)) + p14_1))) (Ep (List.getD p90 (Int.toNat p92) 0) (Ed p18 (List.getD v (Int.toNat p92) 0)))) p14_1 p18 p90 p91
  else none
  else none
  else none
  else none
  else none
  else none
  else Ao.Apply.L0 N M0 r c l i v t (Ab (p14_1 + (1 : Int))) p2 :=
  Eq.trans (by kernel_rfl)
  (Fb (Fb (C1 (I7 (decide (0 ≤ p92)) (decide (p92 < (List.length v : Int)))) (C1 (Eu (Ah p18 && Ah (List.getD v (Int.toNat p92) 0))) (C1 (Eu (Ah (List.getD p90 (Int.toNat p92) 0) && Ah (Ed p18 (List.getD v (Int.toNat p92) 0)))) (C1 (I7 (decide (0 ≤ (Ab ((Ab ((Ab (i + p92)) * c)) + p14_1)))) (decide ((Ab ((Ab ((Ab (i + p92)) * c)) + p14_1)) < (List.length p2 : Int)))) (C1 (Eu (decide ((Int.toNat (Ab ((Ab ((Ab (i + p92)) * c)) + p14_1))) < (List.length p2)))) rfl rfl) rfl) rfl) rfl) rfl) rfl) rfl)
theorem Ao.Apply.ev (N : Nat) (r c : Int) (l : List Int) (i k : Int) (v : List Int) (t : Int) : A1 Ao.Apply.E N Tryz.f219 (Ad Tryz.f219) [.agg [.int .i64 r, .int .i64 c, .ints .arg .u64 l], .int .i64 i, .int .i64 k, .ints .arg .u64 v, .int .u64 t] =
  bif ((Jm r c l) != (0 : Int)) then
  some (.tup [.agg [.int .i64 0, .int .i64 0, .nil], .int .i64 (Jm r c l)])
  else bif (((((A5 i (0 : Int)) || (A5 r (List.length v : Int))) || (A5 (Ab (r - (List.length v : Int))) i)) || (A5 k (0 : Int))) || (A5 c k)) then
  some (.tup [.agg [.int .i64 0, .int .i64 0, .nil], .int .i64 3])
  else bif (decide (0 + (List.length l) ≤ H0)) then
  Ao.Apply.L0 N N r c l i v t k ([] ++ l)
  else none :=
  Eq.trans (by kernel_rfl)
  (Fb rfl (Ax (Ld (A5 i (0 : Int))) (Ax (Lu (A5 i (0 : Int))) (Ax (Ld (A5 i (0 : Int))) (Ax (Lu (A5 i (0 : Int))) (Ax (tt20 (A5 i (0 : Int))) (Ax (Kb (A5 i (0 : Int))) (Ax (tt19 (A5 i (0 : Int)) (A5 r (List.length v : Int))) (Ax (tt19 (A5 i (0 : Int)) (A5 r (List.length v : Int))) (Ax (tt18 (A5 i (0 : Int)) (A5 r (List.length v : Int))) (Ax (tt19 (A5 i (0 : Int)) (A5 r (List.length v : Int))) (Ax (tt18 (A5 i (0 : Int)) (A5 r (List.length v : Int))) (Ax (tt17 (A5 i (0 : Int)) (A5 r (List.length v : Int))) (Ax (tt17 (A5 i (0 : Int)) (A5 r (List.length v : Int))) (Ax (Rv (A5 i (0 : Int)) (A5 r (List.length v : Int))) (Ax (Mu (A5 i (0 : Int)) (A5 r (List.length v : Int)) (A5 (Ab (r - (List.length v : Int))) i)) (Ax (Mv (A5 i (0 : Int)) (A5 r (List.length v : Int)) (A5 (Ab (r - (List.length v : Int))) i)) (Ax (Kl (A5 i (0 : Int)) (A5 r (List.length v : Int)) (A5 (Ab (r - (List.length v : Int))) i)) (Ax (I8 (A5 i (0 : Int)) (A5 r (List.length v : Int)) (A5 (Ab (r - (List.length v : Int))) i) (A5 k (0 : Int))) (Ax (I8 (A5 i (0 : Int)) (A5 r (List.length v : Int)) (A5 (Ab (r - (List.length v : Int))) i) (A5 k (0 : Int))) (Ax (Ip (A5 i (0 : Int)) (A5 r (List.length v : Int)) (A5 (Ab (r - (List.length v : Int))) i) (A5 k (0 : Int))) (Ax (Ho (A5 i (0 : Int)) (A5 r (List.length v : Int)) (A5 (Ab (r - (List.length v : Int))) i) (A5 k (0 : Int))) (Ax (Ru (A5 i (0 : Int)) (A5 r (List.length v : Int)) (A5 (Ab (r - (List.length v : Int))) i) (A5 k (0 : Int))) (C1 (Qk (A5 i (0 : Int)) (A5 r (List.length v : Int)) (A5 (Ab (r - (List.length v : Int))) i) (A5 k (0 : Int)) (A5 c k)) rfl (C1 (Eu (decide (0 + (List.length l) ≤ H0))) rfl rfl)))))))))))))))))))))))))
theorem Ao.Apply.Ac (hk : A0 Tryz.prog Ao.Apply.A9) (h : ∀ (r c : Int) (l : List Int) (i k : Int) (v : List Int) (t : Int), Ao.Apply.pre [.i r, .i c, .l l, .i i, .i k, .l v, .i t] = true → ∃ N dv drops, A1 Ao.Apply.E N Tryz.f219 (Ad Tryz.f219) [.agg [.int .i64 r, .int .i64 c, .ints .arg .u64 l], .int .i64 i, .int .i64 k, .ints .arg .u64 v, .int .u64 t] = some dv ∧ Wk drops dv (Ao.Apply.out [.i r, .i c, .l l, .i i, .i k, .l v, .i t])) : Am Tryz.prog 219 Ao.Apply.spec :=
  Aj (A2 hk _ _ _) Tryz.func219 (by kernel_rfl) (by kernel_rfl) h
abbrev _root_.Go.Proofs.S1.Ao.Apply.Kn : Prop := Am Tryz.prog 219 Ao.Apply.spec
end EqHouse
end Go.Proofs.S1
namespace Go.Proofs.S1
open Go Go.Den Go.Rnd Go.Proofs
open EqHouse
theorem kind_ne (x : Int) : ((A7 x) != (0 : Int)) = !(decide (A7 x = 0)) := by
  rw [Bool.eq_iff_iff]; simp
theorem Zk (N : Nat) {x : List Int} (hx : Di x = true) : ∀ (k i F : Nat), i + k = x.length → k < F → Ao.Cr.L0 N F x (i : Int) = some (.bool (Jz (x.drop i))) := by
  obtain ⟨hl, hu⟩ := Ks hx
  intro k
  induction k with
  | zero =>
    intro i F hi hF
    obtain ⟨F, rfl⟩ : ∃ G, F = G + 1 := ⟨F - 1, by omega⟩
    rw [Ao.Cr.Az, Aw, decide_eq_false (by omega), cond_false, List.drop_of_length_le (by omega)]; rfl
  | succ k ih =>
    intro i F hi hF
    obtain ⟨F, rfl⟩ : ∃ G, F = G + 1 := ⟨F - 1, by omega⟩
    rw [Ao.Cr.Az, Aw, decide_eq_true (show (i : Int) < (x.length : Int) by omega), cond_true, decide_eq_true (show (0 : Int) ≤ (i : Int) by omega), Bool.and_self, cond_true, Int.toNat_natCast, hu i (by omega), cond_true, kind_ne, Ih (by omega)]
    unfold Jz
    rw [List.all_cons]
    cases decide (A7 (x.getD i 0) = 0) with
    | false => rfl
    | true =>
      rw [Bool.not_true, cond_false, Bool.true_and, Ap (by omega) (by omega)]
      exact ih (i + 1) F (by omega) (by omega)
theorem Ao.Cr.known : Ao.Cr.Kn := Ao.Cr.Ac (.cons soft.Kind.known .nil) fun x hp => by
  refine ⟨x.length + 1, Ao.Cr.out [.l x], [], ?_, .bool⟩
  rw [Ao.Cr.ev]
  exact Zk (x.length + 1) hp x.length 0 (x.length + 1) (by omega) (by omega)
theorem lead_loop (N : Nat) {x : List Int} (hx : Di x = true) : ∀ (k i F : Nat), i + k = x.length → k < F → Ao.lead.L0 N F x (i : Int) = some (.int .u64 (Qw (x.drop i))) := by
  obtain ⟨hl, hu⟩ := Ks hx
  intro k
  induction k with
  | zero =>
    intro i F hi hF
    obtain ⟨F, rfl⟩ : ∃ G, F = G + 1 := ⟨F - 1, by omega⟩
    rw [Ao.lead.Az, Aw, decide_eq_false (by omega), cond_false, List.drop_of_length_le (by omega)]; rfl
  | succ k ih =>
    intro i F hi hF
    obtain ⟨F, rfl⟩ : ∃ G, F = G + 1 := ⟨F - 1, by omega⟩
    rw [Ao.lead.Az, Aw, decide_eq_true (show (i : Int) < (x.length : Int) by omega), cond_true, decide_eq_true (show (0 : Int) ≤ (i : Int) by omega), Bool.and_self, cond_true, Int.toNat_natCast, hu i (by omega), cond_true, kind_ne, Ih (by omega), Qw]
    by_cases h : A7 (x.getD i 0) = 0
    · rw [decide_eq_true h, if_pos h, Bool.not_true, cond_false, Ap (by omega) (by omega)]
      exact ih (i + 1) F (by omega) (by omega)
    · rw [decide_eq_false h, if_neg h]; rfl
theorem Ao.lead.known : Ao.lead.Kn := Ao.lead.Ac (.cons soft.Kind.known .nil) fun x hp => by
  refine ⟨x.length + 1, Ao.lead.out [.l x], [], ?_, .int⟩
  rw [Ao.lead.ev]
  exact lead_loop (x.length + 1) hp x.length 0 (x.length + 1) (by omega) (by omega)
theorem take_succ' {x : List Int} {i : Nat} (h : i < x.length) (f : Int → Int) : (x.take (i + 1)).map f = (x.take i).map f ++ [f (x.getD i 0)] := by
  rw [List.take_succ_eq_append_getElem h, List.map_append, List.getD_eq_getElem?_getD, List.getElem?_eq_getElem h]; rfl
theorem Y8 (N : Nat) {x : List Int} {e : Int} (hx : Di x = true) (hl : x.length ≤ 1000) (he : -2300 ≤ e ∧ e ≤ 2300) : ∀ (k i F : Nat), i + k = x.length → k < F →
    Ao.Cu.L0 N F x e (i : Int) ((x.take i).map fun b => B3 b e) = some (.ints (.own 100005 tB) .u64 (Bm x e)) := by
  obtain ⟨_, hu⟩ := Ks hx
  intro k
  induction k with
  | zero =>
    intro i F hi hF
    obtain ⟨F, rfl⟩ : ∃ G, F = G + 1 := ⟨F - 1, by omega⟩
    rw [Ao.Cu.Az, Aw, decide_eq_false (by omega), cond_false, List.take_of_length_le (by omega)]; rfl
  | succ k ih =>
    intro i F hi hF
    obtain ⟨F, rfl⟩ : ∃ G, F = G + 1 := ⟨F - 1, by omega⟩
    rw [Ao.Cu.Az, Aw, decide_eq_true (show (i : Int) < (x.length : Int) by omega), cond_true, decide_eq_true (show (0 : Int) ≤ (i : Int) by omega), Bool.and_self, cond_true, Int.toNat_natCast,
      show Dp (List.getD x i 0) e = true from Ag.2 ⟨hu i (by omega), Ar.2 he⟩, cond_true, decide_eq_true (by rw [List.length_map, List.length_take]; unfold H0; omega), cond_true, Ap (by omega) (by omega)]
    have := ih (i + 1) F (by omega) (by omega)
    rw [take_succ' (by omega)] at this
    exact this
theorem Ao.Cu.known : Ao.Cu.Kn := Ao.Cu.Ac (.cons Ae.Bj.known .nil) fun x k hp => by
  obtain ⟨h1, h2⟩ := Ag.1 hp
  have h2 := Ar.1 h2
  refine ⟨x.length + 1, .ints (.own 100005 tB) .u64 (Bm x k), [100005], ?_, .drop _ _ _ _ (List.mem_singleton.2 rfl)⟩
  rw [Ao.Cu.ev]
  exact Y8 (x.length + 1) h1 h2.1 h2.2 x.length 0 (x.length + 1) (by omega) (by omega)
theorem Ao.E4.known : Ao.E4.Kn := Ao.E4.Ac .nil fun i _ => ⟨0, Ao.E4.out [.i i], [], by rw [Ao.E4.ev]; rfl, .int⟩
theorem Ao.E3.known : Ao.E3.Kn := Ao.E3.Ac (.cons Ae.Div.known .nil) fun i y d hp => by
  obtain ⟨h1, h2⟩ := Ag.1 (show ((C2 (0 ≤ i ∧ i < List.length y) && An y) && Ah d) = true from hp)
  obtain ⟨h3, h4⟩ := Ag.1 h1
  have h3 := Ar.1 h3
  refine ⟨0, Ao.E3.out [.i i, .l y, .i d], [], ?_, .int⟩
  rw [Ao.E3.ev, decide_eq_true h3.1, decide_eq_true h3.2, Nl h4, h2]; rfl
theorem P6 (n i : Nat) (f : Nat → Int) (h : i + 1 = n) : Jd n f = oneI :: (List.range i).map fun j => f (j + 1) := by unfold Jd; rw [show n - 1 = i by omega]
theorem row_end {n : Nat} (f : Nat → Int) (h : n ≠ 0) : (((decide ((0 : Int) ≤ (n : Int))) && (decide ((n : Int) ≤ (n : Int)))) && ((decide ((0 : Int) ≤ (n : Int))) && (decide ((n : Int) ≤ (List.length (Jd n f) : Int))))) = true ∧
    List.take (Int.toNat ((n : Int) - (0 : Int))) (List.drop 0 (Jd n f)) = Jd n f := by
  have := R8 h f
  refine ⟨?_, ?_⟩
  · rw [decide_eq_true (by omega), decide_eq_true (by omega), decide_eq_true (by omega)]; rfl
  · rw [List.drop_zero, List.take_of_length_le (by omega)]
theorem W7 (N : Nat) {n : Nat} (h64 : n ≤ 64) (h0 : n ≠ 0) : ∀ (k i F : Nat), i + 1 + k = n → k < F →
    Ao.row.Zero.L0 N F (n : Int) ((i + 1 : Nat) : Int) (Jd (i + 1) fun _ => 0) = some (.ints .fresh .u64 (Jd n fun _ => 0)) := by
  intro k
  induction k with
  | zero =>
    intro i F hi hF
    obtain ⟨F, rfl⟩ : ∃ G, F = G + 1 := ⟨F - 1, by omega⟩
    obtain rfl : i + 1 = n := by omega
    obtain ⟨e1, e2⟩ := row_end (fun _ => 0) h0
    rw [Ao.row.Zero.Az, Aw, decide_eq_false (by omega), cond_false, e1, cond_true, e2]
  | succ k ih =>
    intro i F hi hF
    obtain ⟨F, rfl⟩ : ∃ G, F = G + 1 := ⟨F - 1, by omega⟩
    rw [Ao.row.Zero.Az, Aw, decide_eq_true (by omega), cond_true, decide_eq_true (by rw [R8 (by omega)]; unfold H0; omega), cond_true, Ap (by omega) (by omega)]
    have := ih (i + 1) F (by omega) (by omega)
    rw [P6 (i + 1 + 1) (i + 1) _ rfl, Jx] at this
    rw [P6 (i + 1) i _ rfl]
    exact this
theorem Ao.row.Zero.known : Ao.row.Zero.Kn := Ao.row.Zero.Ac (.cons Ao.E4.known .nil) fun n hp => by
  have hp := Ar.1 (show C2 (1 ≤ n ∧ n ≤ 64) = true from hp)
  obtain ⟨m, rfl⟩ : ∃ m : Nat, n = m := ⟨n.toNat, by omega⟩
  refine ⟨65, Ao.row.Zero.out [.i m], [], ?_, .Rf⟩
  show _ = some (DV.ints .fresh .u64 (Jd (Int.toNat (m : Int)) fun _ => 0))
  rw [Ao.row.Zero.ev, Int.toNat_natCast]
  exact W7 65 (by omega) (by omega) (m - 1) 0 65 (by omega) (by omega)
theorem Zb (N : Nat) {n : Nat} {y : List Int} {d : Int} (h64 : n ≤ 64) (h0 : n ≠ 0) (hy : n = y.length) (al : An y = true) (hd : Ah d = true) : ∀ (k i F : Nat), i + 1 + k = n → k < F →
    Ao.row.Div.L0 N F (n : Int) y d ((i + 1 : Nat) : Int) (Jd (i + 1) fun j => Et (y.getD j 0) d) = some (.ints .fresh .u64 (Jd n fun j => Et (y.getD j 0) d)) := by
  intro k
  induction k with
  | zero =>
    intro i F hi hF
    obtain ⟨F, rfl⟩ : ∃ G, F = G + 1 := ⟨F - 1, by omega⟩
    obtain rfl : i + 1 = n := by omega
    obtain ⟨e1, e2⟩ := row_end (fun j => Et (y.getD j 0) d) h0
    rw [Ao.row.Div.Az, Aw, decide_eq_false (by omega), cond_false, e1, cond_true, e2]
  | succ k ih =>
    intro i F hi hF
    obtain ⟨F, rfl⟩ : ∃ G, F = G + 1 := ⟨F - 1, by omega⟩
    rw [Ao.row.Div.Az, Aw, decide_eq_true (by omega), cond_true, Ar.2 (show 0 ≤ ((i + 1 : Nat) : Int) ∧ ((i + 1 : Nat) : Int) < (y.length : Int) by omega), al, hd, Bool.and_self, Bool.and_self, cond_true, decide_eq_true (by rw [R8 (by omega)]; unfold H0; omega), cond_true, Ap (by omega) (by omega), Int.toNat_natCast]
    have := ih (i + 1) F (by omega) (by omega)
    rw [P6 (i + 1 + 1) (i + 1) _ rfl, Jx] at this
    rw [P6 (i + 1) i _ rfl]
    exact this
theorem Ao.row.Div.known : Ao.row.Div.Kn := Ao.row.Div.Ac (.cons Ao.E3.known .nil) fun n y d hp => by
  obtain ⟨h1, h2⟩ := Ag.1 (show ((C2 (1 ≤ n ∧ n ≤ 64 ∧ n = List.length y) && An y) && Ah d) = true from hp)
  obtain ⟨h3, h4⟩ := Ag.1 h1
  have h3 := Ar.1 h3
  obtain ⟨m, rfl⟩ : ∃ m : Nat, n = m := ⟨n.toNat, by omega⟩
  refine ⟨65, Ao.row.Div.out [.i m, .l y, .i d], [], ?_, .Rf⟩
  show _ = some (DV.ints .fresh .u64 (Jd (Int.toNat (m : Int)) fun j => Et (List.getD y j 0) d))
  rw [Ao.row.Div.ev, Int.toNat_natCast]
  exact Zb 65 (by omega) (by omega) (by omega) h4 h2 (m - 1) 0 65 (by omega) (by omega)
theorem Xr {x : List Int} {k : Int} {j : Nat} (h : j < x.length) : (Bm x k).getD j 0 = B3 (x.getD j 0) k := by
  unfold Bm
  rw [List.getD_eq_getElem?_getD, List.getElem?_map, List.getElem?_eq_getElem h, List.getD_eq_getElem?_getD, List.getElem?_eq_getElem h]; rfl
theorem shift_len (x : List Int) (k : Int) : (Bm x k).length = x.length := by unfold Bm; rw [List.length_map]
theorem shift_all {x : List Int} (k : Int) (h : An x = true) : An (Bm x k) = true := Qg fun y hy => by
  obtain ⟨b, hb, rfl⟩ := List.mem_map.1 hy
  exact It (Ar.1 h b hb)
theorem Zv : ∀ {x : List Int}, An x = true → Ah (Qw x) = true
  | [], _ => Ik
  | b :: l, h => by
    unfold Qw
    split
    · exact Zv (Qg fun y hy => Ar.1 h y (List.mem_cons_of_mem _ hy))
    · exact Ar.1 h b List.mem_cons_self
theorem all_of_ok {x : List Int} (h : Di x = true) : An x = true := Ar.2 (Ar.1 h).2
theorem Pz {drops : List Nat} {g : Flag} : Wk drops .nil (.ints g .u64 []) := .nil g .u64
theorem row_congr {n : Nat} {f g : Nat → Int} (h : ∀ j, j < n → f j = g j) : Jd n f = Jd n g := by
  unfold Jd
  congr 1
  exact List.map_congr_left fun j hj => h _ (by have := List.mem_range.1 hj; omega)
theorem Ao.Jn.known : Ao.Jn.Kn := Ao.Jn.Ac (.cons compare.Um.known (.cons Ao.lead.known (.cons Ao.Cr.known (.cons (Am.alt Ao.row.Zero.known Ao.row.Div.known) (.cons Ao.Cu.known (.cons soft.Finite.known (.cons soft.Cy.known (.cons soft.Sign.known (.cons Ae.Cm.known (.cons Ae.Div.known (.cons Ae.Finite.known (.cons Ae.Norm.known (.cons Ae.Bj.known (.cons Ae.Sub.known .nil)))))))))))))) fun x hp => by
  have hx : Di x = true := hp
  have al := all_of_ok hx
  have he := exp_in (Br x)
  show ∃ N dv drops, _ = some dv ∧ Wk drops dv (DV.tup [.ints .fresh .u64 (Cb x).1, .int .u64 (Cb x).2.1, .int .u64 (Cb x).2.2.1, .int .i64 (Cb x).2.2.2])
  unfold Cb
  by_cases h1 : x.length = 0 ∨ 64 < x.length
  · rw [if_pos h1]
    refine ⟨0, .tup [.nil, .int .u64 0, .int .u64 0, .int .i64 3], [], ?_, Wk.Gg (.cons Pz (.cons .int (.cons .int (.cons .int .nil))))⟩
    have : (((List.length x : Int) == (0 : Int)) || (A5 (64 : Int) (List.length x : Int))) = true := by
      rw [Aw, Bool.or_eq_true, beq_iff_eq, decide_eq_true_eq]; omega
    rw [Ao.Jn.ev, this, cond_true]
  have c1 : (((List.length x : Int) == (0 : Int)) || (A5 (64 : Int) (List.length x : Int))) = false := by
    rw [Aw, Bool.or_eq_false_iff, beq_eq_false_iff_ne, decide_eq_false_iff_not]; omega
  rw [if_neg h1]
  by_cases h2 : Ev x = true
  · rw [if_pos h2]
    unfold mirX
    have ok1 : Di (x.drop 1) = true := Jg (Qg fun y hy => Ar.1 al y (List.mem_of_mem_drop hy)) (by rw [List.length_drop]; omega)
    have d1 : decide ((1 : Int) ≤ (x.length : Int)) = true := decide_eq_true (by omega)
    have d0 : decide ((0 : Int) < (x.length : Int)) = true := decide_eq_true (by omega)
    by_cases h3 : Jz (x.drop 1) = true
    · rw [if_pos h3]
      refine ⟨0, .tup [.ints .fresh .u64 (Jd x.length fun _ => 0), .int .u64 0, .int .u64 (x.getD 0 0), .int .i64 0], [], ?_, Wk.Gg (.cons .Rf (.cons .int (.cons .int (.cons .int .nil))))⟩
      rw [Ao.Jn.ev, c1, cond_false, hx, cond_true, h2, Bool.not_true, cond_false, d1, cond_true, ok1, cond_true, h3, cond_true, Ar.2 (show 1 ≤ (x.length : Int) ∧ (x.length : Int) ≤ 64 by omega), cond_true, d0, cond_true, Int.toNat_natCast]
    · rw [if_neg h3]
      have h3 : Jz (x.drop 1) = false := by simpa using h3
      have ew : Ab (0 - B4 (Br x)) = -B4 (Br x) := by rw [Ap (by omega) (by omega)]; omega
      have ly := shift_len x (-B4 (Br x))
      have ay := shift_all (-B4 (Br x)) al
      have oky : Di (Bm x (-B4 (Br x))) = true := Jg ay (by omega)
      have gy := Xr (x := x) (k := -B4 (Br x)) (j := 0) (by omega)
      have iy := Nl ay 0
      have key : ∀ mu : Int, muI x = mu → Ah mu = true → ∀ b : Bool, C8 (Hv x) = b → ∃ dv : DV, (bif (!b) then
              some (.tup [.nil, .int .u64 (0 : Int), .int .u64 (0 : Int), .int .i64 (2 : Int)])
            else some (.tup [.ints .fresh .u64 (Jd (Int.toNat (List.length (Bm x (-B4 (Br x))) : Int)) (fun j => Et (List.getD (Bm x (-B4 (Br x))) j 0) (Ep (List.getD (Bm x (-B4 (Br x))) 0 0) mu))), .int .u64 (Et (Ep mu (List.getD (Bm x (-B4 (Br x))) 0 0)) mu), .int .u64 (B3 mu (B4 (Br x))), .int .i64 (0 : Int)])) = some dv ∧
          Wk [] dv (DV.tup [.ints .fresh .u64 (if C8 (Hv x) = true then (mirV x, mirT x, Hv x, (0 : Int)) else ([], 0, 0, 2)).1, .int .u64 (if C8 (Hv x) = true then (mirV x, mirT x, Hv x, (0 : Int)) else ([], 0, 0, 2)).2.1, .int .u64 (if C8 (Hv x) = true then (mirV x, mirT x, Hv x, (0 : Int)) else ([], 0, 0, 2)).2.2.1, .int .i64 (if C8 (Hv x) = true then (mirV x, mirT x, Hv x, (0 : Int)) else ([], 0, 0, 2)).2.2.2]) := by
        intro mu hmu _ b hb
        rw [hb]
        cases b with
        | false => exact ⟨_, rfl, Wk.Gg (.cons Pz (.cons .int (.cons .int (.cons .int .nil))))⟩
        | true =>
          refine ⟨_, rfl, ?_⟩
          rw [if_pos rfl]
          dsimp only
          have e1 : Jd (Int.toNat (List.length (Bm x (-B4 (Br x))) : Int)) (fun j => Et (List.getD (Bm x (-B4 (Br x))) j 0) (Ep (List.getD (Bm x (-B4 (Br x))) 0 0) mu)) = mirV x := by
            unfold mirV
            rw [Int.toNat_natCast, ly, gy, ← hmu]
            exact row_congr fun j hj => by rw [Xr hj]; rfl
          have e2 : Et (Ep mu (List.getD (Bm x (-B4 (Br x))) 0 0)) mu = mirT x := by
            unfold mirT
            rw [gy, hmu]; rfl
          have e3 : B3 mu (B4 (Br x)) = Hv x := by unfold Hv; rw [hmu]
          rw [e1, e2, e3]
          exact Wk.Gg (.cons .Rf (.cons .int (.cons .int (.cons .int .nil))))
      have dz : decide ((0 : Int) < ((Bm x (-B4 (Br x))).length : Int)) = true := decide_eq_true (by omega)
      have cz' : C2 (1 ≤ ((Bm x (-B4 (Br x))).length : Int) ∧ ((Bm x (-B4 (Br x))).length : Int) ≤ 64 ∧ True) = true := Ar.2 ⟨by omega, by omega, trivial⟩
      have p1 : C2 (x.length ≤ 1000 ∧ -2300 ≤ -B4 (Br x) ∧ -B4 (Br x) ≤ 2300) = true := Ar.2 (by omega)
      have p2 : C2 ((Bm x (-B4 (Br x))).length ≤ 64) = true := Ar.2 (by omega)
      have sp : ∀ mu : Int, Ah mu = true → Dp mu (B4 (Br x)) = true := fun mu h => Ag.2 ⟨h, Ar.2 (by omega)⟩
      have ny := Zm (Bm x (-B4 (Br x)))
      cases hn : C6 (Qw x) with
      | true =>
        have hm : muI x = Ej (Bm x (-B4 (Br x))) := by unfold muI; rw [if_pos hn]
        obtain ⟨dv, k1, k2⟩ := key _ hm ny (C8 (Hv x)) rfl
        refine ⟨0, dv, [], ?_, k2⟩
        rw [← k1]
        have eb : Hv x = B3 (Ej (Bm x (-B4 (Br x)))) (B4 (Br x)) := by unfold Hv; rw [hm]
        rw [Ao.Jn.ev, ew, eb]
        simp only [c1, cond_false, hx, cond_true, h2, Bool.not_true, d1, ok1, h3, Pl, p1, oky, p2, Bool.and_self, Zv al, hn, sp _ ny, It ny, dz, cz', ay, iy, ny, Oo iy ny, Oo ny iy]
      | false =>
        have hm : muI x = C0 (Ej (Bm x (-B4 (Br x)))) := by unfold muI; rw [if_neg (by rw [hn]; decide)]
        have my := minus_in ny
        obtain ⟨dv, k1, k2⟩ := key _ hm my (C8 (Hv x)) rfl
        refine ⟨0, dv, [], ?_, k2⟩
        rw [← k1]
        have eb : Hv x = B3 (C0 (Ej (Bm x (-B4 (Br x))))) (B4 (Br x)) := by unfold Hv; rw [hm]
        rw [Ao.Jn.ev, ew, eb]
        simp only [c1, cond_false, hx, cond_true, h2, Bool.not_true, d1, ok1, h3, Pl, p1, oky, p2, Bool.and_self, Zv al, hn, Bool.not_false, sp _ my, It my, dz, cz', ay, iy, ny, my, Oo iy my, Oo my iy]
  · rw [if_neg h2]
    have h2 : Ev x = false := by simpa using h2
    refine ⟨0, .tup [.nil, .int .u64 0, .int .u64 0, .int .i64 4], [], ?_, Wk.Gg (.cons Pz (.cons .int (.cons .int (.cons .int .nil))))⟩
    rw [Ao.Jn.ev, c1, cond_false, hx, cond_true, h2, Bool.not_false, cond_true]
end Go.Proofs.S1
namespace Go.Proofs.S1
open Go Go.Den Go.Rnd Go.Proofs
open EqHouse
def apD (i k c j a b : Nat) : Bool := decide (k ≤ b ∧ i ≤ a ∧ (b < c ∨ (b = c ∧ a < i + j)))
def apS (R C : Nat) (l : List Int) (i k : Nat) (v : List Int) (t : Int) (c j : Nat) : List Int :=
  Cx R C fun a b => if apD i k c j a b = true ∧ a < i + v.length then Pn (C : Int) l (i : Int) (k : Int) v t (a : Int) (b : Int) else Eg (C : Int) l (a : Int) (b : Int)
section
variable {R C i k : Nat} {l v : List Int} {t : Int}
theorem apS_len (c j : Nat) : (apS R C l i k v t c j).length = R * C := Cd _ _ _
theorem apS_zero (h : l.length = R * C) : apS R C l i k v t k 0 = l := by
  unfold apS
  conv => rhs; rw [← Yb h]
  refine Dv fun a b ha hb => ?_
  rw [if_neg]
  rintro ⟨h, _⟩
  have := of_decide_eq_true h
  omega
theorem apS_next (c : Nat) : apS R C l i k v t c v.length = apS R C l i k v t (c + 1) 0 := by
  unfold apS
  refine Dv fun a b ha hb => ?_
  have : (apD i k c v.length a b = true ∧ a < i + v.length) ↔ (apD i k (c + 1) 0 a b = true ∧ a < i + v.length) := by
    unfold apD
    rw [decide_eq_true_eq, decide_eq_true_eq]
    omega
  by_cases h : apD i k c v.length a b = true ∧ a < i + v.length
  · rw [if_pos h, if_pos (this.1 h)]
  · rw [if_neg h, if_neg (fun hh => h (this.2 hh))]
theorem apS_all : apS R C l i k v t C 0 = Fy R C l (i : Int) (k : Int) v t := by
  unfold apS Fy
  refine Dv fun a b ha hb => ?_
  by_cases h : apD i k C 0 a b = true ∧ a < i + v.length
  · rw [if_pos h]
  · rw [if_neg h]
    unfold Pn
    rw [if_neg]
    intro hh
    refine h ⟨?_, by omega⟩
    unfold apD
    rw [decide_eq_true_eq]; omega
theorem apS_set {c j : Nat} (hc : c < C) (hk : k ≤ c) (hj : j < v.length) {x : Int} (hx : x = Pn (C : Int) l (i : Int) (k : Int) v t ((i + j : Nat) : Int) (c : Int)) :
    List.set (apS R C l i k v t c j) ((i + j) * C + c) x = apS R C l i k v t c (j + 1) := by
  unfold apS
  rw [Sw hc]
  refine Dv fun a b ha hb => ?_
  by_cases h : a = i + j ∧ b = c
  · obtain ⟨rfl, rfl⟩ := h
    rw [if_pos ⟨rfl, rfl⟩, if_pos ⟨by unfold apD; rw [decide_eq_true_eq]; omega, by omega⟩, hx]
  · rw [if_neg h]
    have : (apD i k c j a b = true ∧ a < i + v.length) ↔ (apD i k c (j + 1) a b = true ∧ a < i + v.length) := by
      unfold apD
      rw [decide_eq_true_eq, decide_eq_true_eq]
      omega
    by_cases h2 : apD i k c j a b = true ∧ a < i + v.length
    · rw [if_pos h2, if_pos (this.1 h2)]
    · rw [if_neg h2, if_neg (fun hh => h2 (this.2 hh))]
theorem apply_at {c j : Nat} (hk : k ≤ c) (hj : j < v.length) : Pn (C : Int) l (i : Int) (k : Int) v t ((i + j : Nat) : Int) (c : Int) =
    Ep ((Dm (C : Int) l (c : Int) (i : Int) v.length).getD j 0) (Ed (Aae (C : Int) l (i : Int) v t (c : Int)) (v.getD j 0)) := by
  unfold Pn
  rw [if_pos ⟨by omega, by omega, by omega⟩]
  have e1 : (((i + j : Nat) : Int) - (i : Int)).toNat = j := by omega
  have e2 : (Dm (C : Int) l (c : Int) (i : Int) v.length).getD j 0 = Eg (C : Int) l ((i + j : Nat) : Int) (c : Int) := by
    unfold Dm
    rw [List.getD_eq_getElem?_getD, List.getElem?_map, List.getElem?_range hj]
    show Eg (C : Int) l ((i : Int) + (j : Int)) (c : Int) = _
    rw [← Int.natCast_add]
  rw [e1, e2]
theorem seg_take {c b i : Int} {l : List Int} {m n : Nat} (h : m ≤ n) : List.take m (Dm c l b i n) = Dm c l b i m := by
  unfold Dm
  rw [← List.map_take, List.take_range, Nat.min_eq_left h]
theorem apply_rows (N M0 : Nat) (r6 : R ≤ 6) (c6 : C ≤ 6) (al : An l = true) (av : An v = true) (hv : i + v.length ≤ R) {c : Nat} (hc : c < C) (hk : k ≤ c) : ∀ (cnt j F : Nat), j + cnt = v.length → cnt < F →
    Ao.Apply.L1 N M0 F (R : Int) (C : Int) l (i : Int) v t (j : Int) (apS R C l i k v t c j) (c : Int) (Aae (C : Int) l (i : Int) v t (c : Int)) (Dm (C : Int) l (c : Int) (i : Int) v.length) (v.length : Int) =
    Ao.Apply.L0 N M0 (R : Int) (C : Int) l (i : Int) v t ((c + 1 : Nat) : Int) (apS R C l i k v t (c + 1) 0) := by
  intro cnt
  induction cnt with
  | zero =>
    intro j F hj hF
    obtain ⟨F, rfl⟩ : ∃ G, F = G + 1 := ⟨F - 1, by omega⟩
    obtain rfl : j = v.length := by omega
    rw [Ao.Apply.Ch, Aw, decide_eq_false (by omega), cond_false, Ap (by omega) (by omega), apS_next]
    rfl
  | succ cnt ih =>
    intro j F hj hF
    obtain ⟨F, rfl⟩ : ∃ G, F = G + 1 := ⟨F - 1, by omega⟩
    have hm := K3 (a := ((i + j : Nat) : Int)) (b := (C : Int)) (by omega) (by omega) (by omega) (by omega)
    have hpl := K8 (show i + j < R by omega) hc
    have e1 : Ab ((i : Int) + (j : Int)) = ((i + j : Nat) : Int) := by rw [Ap (by omega) (by omega)]; omega
    have e2 : Ab (((i + j : Nat) : Int) * (C : Int)) = (((i + j) * C : Nat) : Int) := by rw [Ap (by omega) (by omega)]; exact (Int.natCast_mul _ _).symm
    have h36 := Nat.mul_le_mul r6 c6
    have e3 : Ab ((((i + j) * C : Nat) : Int) + (c : Int)) = (((i + j) * C + c : Nat) : Int) := by rw [Ap (by omega) (by omega)]; omega
    have hlen := apS_len (R := R) (C := C) (l := l) (i := i) (k := k) (v := v) (t := t) c j
    have sl := Jc (C : Int) (c : Int) (i : Int) v.length l
    rw [Ao.Apply.Ch, Aw, decide_eq_true (show (j : Int) < (v.length : Int) by omega), cond_true, e1, e2, e3, sl, decide_eq_true (show (0 : Int) ≤ (j : Int) by omega), decide_eq_true (show (j : Int) < (v.length : Int) by omega), Bool.and_self, cond_true, Int.toNat_natCast, Int.toNat_natCast]
    have a1 := Nl av j
    have a2 := Nl (Td (c := (C : Int)) (b := (c : Int)) (i := (i : Int)) (n := v.length) al) j
    have a3 : Ah (Aae (C : Int) l (i : Int) v t (c : Int)) = true := Ke _ _
    rw [cond_true, a3, a1, Bool.and_self, cond_true, a2, Ke, Bool.and_self, cond_true, decide_eq_true (by omega), decide_eq_true (by omega), Bool.and_self, cond_true, decide_eq_true (by omega), cond_true,
      apS_set hc hk (by omega) (apply_at hk (by omega)).symm, Ap (by omega) (by omega)]
    exact ih (j + 1) F (by omega) (by omega)
theorem apply_cols (N : Nat) (r6 : R ≤ 6) (c6 : C ≤ 6) (hN : 7 < N) (hr : Bn (R : Int) (C : Int) l = true) (al : An l = true) (av : An v = true) (ht : Ah t = true) (hv : i + v.length ≤ R) : ∀ (cnt c F : Nat), c + cnt = C → k ≤ c → cnt < F →
    Ao.Apply.L0 N F (R : Int) (C : Int) l (i : Int) v t (c : Int) (apS R C l i k v t c 0) =
    some (.tup [.agg [.int .i64 (R : Int), .int .i64 (C : Int), .ints (.own 114002 tB) .u64 (Fy R C l (i : Int) (k : Int) v t)], .int .i64 (0 : Int)]) := by
  intro cnt
  induction cnt with
  | zero =>
    intro c F hc hk hF
    obtain ⟨F, rfl⟩ : ∃ G, F = G + 1 := ⟨F - 1, by omega⟩
    obtain rfl : c = C := by omega
    rw [Ao.Apply.Az, Aw, decide_eq_false (by omega), cond_false, apS_all]
  | succ cnt ih =>
    intro c F hc hk hF
    obtain ⟨F, rfl⟩ : ∃ G, F = G + 1 := ⟨F - 1, by omega⟩
    have cp : Lm (R : Int) (C : Int) l (c : Int) = true := Ag.2 ⟨hr, Ar.2 (by omega)⟩
    have e0 : Int.toNat ((R : Int) - (i : Int)) = R - i := by omega
    have st := seg_take (c := (C : Int)) (b := (c : Int)) (i := (i : Int)) (l := l) (m := v.length) (n := R - i) (by omega)
    have sl := Jc (C : Int) (c : Int) (i : Int) v.length l
    have sl2 := Jc (C : Int) (c : Int) (i : Int) (R - i) l
    have sa := Td (c := (C : Int)) (b := (c : Int)) (i := (i : Int)) (n := v.length) al
    have ft : Tt v (Dm (C : Int) l (c : Int) (i : Int) v.length) = true := Z1.2 ⟨by omega, by omega⟩
    rw [Ao.Apply.Az, Aw, decide_eq_true (by omega), cond_true, cp, Ar.2 (show 0 ≤ (i : Int) ∧ (i : Int) ≤ (R : Int) by omega), Bool.and_self, cond_true, e0, Int.toNat_natCast, st, sl2, sl,
      decide_eq_true (show (0 : Int) ≤ (v.length : Int) by omega), decide_eq_true (show (v.length : Int) ≤ (v.length : Int) by omega), decide_eq_true (show (v.length : Int) ≤ ((R - i : Nat) : Int) by omega), Bool.and_self, Bool.and_self, cond_true, ft, av, sa, Bool.and_self, Bool.and_self, cond_true, ht, Z8, Bool.and_self, cond_true]
    have := apply_rows (t := t) N F r6 c6 al av hv (show c < C by omega) hk v.length 0 N (by omega) (by omega)
    exact this.trans (ih (c + 1) F (by omega) (by omega) (by omega))
end
theorem Ao.Apply.known : Ao.Apply.Kn := Ao.Apply.Ac (.cons Aa.Check.known (.cons Aa.C9.known (.cons Ae.Oi.known (.cons Ae.Mul.known (.cons Ae.Sub.known .nil))))) fun r c l i k v t hp => by
  obtain ⟨h1, ht⟩ := Ag.1 (show (((Bn r c l && Mn r c i k v) && (An l && An v)) && Ah t) = true from hp)
  obtain ⟨h2, h3⟩ := Ag.1 h1
  obtain ⟨hr, hb⟩ := Ag.1 h2
  obtain ⟨al, av⟩ := Ag.1 h3
  have hb := of_decide_eq_true hb
  have hc : Jm r c l = 0 := by unfold Jm; rw [if_pos hr]
  have h36 := Mz hr
  obtain ⟨R, C, rfl, rfl, r6, c6, hl⟩ := Da hr
  obtain ⟨i, rfl⟩ : ∃ j : Nat, i = j := ⟨i.toNat, by omega⟩
  obtain ⟨k, rfl⟩ : ∃ j : Nat, k = j := ⟨k.toNat, by omega⟩
  refine ⟨8, Ao.Apply.out [.i (R : Int), .i (C : Int), .l l, .i (i : Int), .i (k : Int), .l v, .i t], [], ?_, Wk.Gg (.cons (Wk.J7 (.cons .int (.cons .int (.cons (.keep _ _ _ _ List.not_mem_nil) .nil)))) (.cons .int .nil))⟩
  show _ = some (DV.tup [.agg [.int .i64 (R : Int), .int .i64 (C : Int), .ints (.own 114002 tB) .u64 (Fy (Int.toNat (R : Int)) (Int.toNat (C : Int)) l (i : Int) (k : Int) v t)], .int .i64 0])
  have hlt : (((((A5 (i : Int) (0 : Int)) || (A5 (R : Int) (List.length v : Int))) || (A5 (Ab ((R : Int) - (List.length v : Int))) (i : Int))) || (A5 (k : Int) (0 : Int))) || (A5 (C : Int) (k : Int))) = false := by
    rw [Aw, Aw, Aw, Aw, Aw, Ap (by omega) (by omega), decide_eq_false (by omega), decide_eq_false (by omega), decide_eq_false (by omega), decide_eq_false (by omega), decide_eq_false (by omega)]; rfl
  rw [Ao.Apply.ev, hc, show ((0 : Int) != (0 : Int)) = false from rfl, cond_false, hlt, cond_false, decide_eq_true (show 0 + l.length ≤ H0 by unfold H0; omega), cond_true, List.nil_append, Int.toNat_natCast, Int.toNat_natCast]
  have := apply_cols (R := R) (C := C) (i := i) (k := k) (l := l) (v := v) (t := t) 8 r6 c6 (by omega) hr al av ht (by omega) (C - k) k 8 (by omega) (by omega) (by omega)
  rw [apS_zero hl] at this
  exact this
end Go.Proofs.S1
end
