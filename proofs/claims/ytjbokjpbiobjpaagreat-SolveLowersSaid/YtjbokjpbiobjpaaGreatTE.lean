/- A verified evaluator of the program's form and its use for this seat: S1Env, Rnd, Flt, Words, NearL, IeeL, OrdL, MulL, Limb, DyL, DyV, ExactL, MulW, SumL, MatL, MatW. -/
import Derived.Test.YtjbokjpbiobjpaaGreatProg
import Derived.Test.YtjbokjpbiobjpaaGreatTD
set_option linter.unusedVariables false
set_option linter.unusedSimpArgs false
noncomputable section
namespace Go.Proofs.S1
open Go Go.Den Go.Proofs
set_option maxRecDepth 100000
abbrev tB : Nat := 37
abbrev tMR : Nat := 214
abbrev tW : Nat := 173
def tys : List (Nat × TI) := [
  (2, ⟨1, 8, (.int .i64), [.int .i64 (0 : Int)]⟩),
  (3, ⟨1, 8, (.int .i64), [.int .i64 (0 : Int)]⟩),
  (4, ⟨1, 1, .bool, [.bool false]⟩),
  (5, ⟨1, 1, (.int .u8), [.int .u8 (0 : Int)]⟩),
  (22, ⟨1, 24, (.slice 37), [.nil]⟩),
  (24, ⟨3, 40, (.struct [(0, 3), (1, 3), (2, 22)]), [.int .i64 (0 : Int), .int .i64 (0 : Int), .nil]⟩),
  (25, ⟨1, 8, (.int .i64), [.int .i64 (0 : Int)]⟩),
  (36, ⟨1, 8, (.int .u64), [.int .u64 (0 : Int)]⟩),
  (37, ⟨1, 8, (.int .u64), [.int .u64 (0 : Int)]⟩),
  (38, ⟨1, 24, (.slice 41), [.nil]⟩),
  (41, ⟨1, 1, (.int .i8), [.int .i8 (0 : Int)]⟩),
  (43, ⟨1, 24, (.slice 173), [.nil]⟩),
  (45, ⟨2, 32, (.struct [(0, 4), (1, 43)]), [.bool false, .nil]⟩),
  (47, ⟨3, 40, (.struct [(0, 45), (2, 3)]), [.bool false, .nil, .int .i64 (0 : Int)]⟩),
  (57, ⟨12, 160, (.struct [(0, 24), (3, 24), (6, 24), (9, 24)]), [.int .i64 (0 : Int), .int .i64 (0 : Int), .nil, .int .i64 (0 : Int), .int .i64 (0 : Int), .nil, .int .i64 (0 : Int), .int .i64 (0 : Int), .nil, .int .i64 (0 : Int), .int .i64 (0 : Int), .nil]⟩),
  (60, ⟨12, 160, (.struct [(0, 24), (3, 24), (6, 24), (9, 24)]), [.int .i64 (0 : Int), .int .i64 (0 : Int), .nil, .int .i64 (0 : Int), .int .i64 (0 : Int), .nil, .int .i64 (0 : Int), .int .i64 (0 : Int), .nil, .int .i64 (0 : Int), .int .i64 (0 : Int), .nil]⟩),
  (71, ⟨9, 120, (.struct [(0, 24), (3, 24), (6, 24)]), [.int .i64 (0 : Int), .int .i64 (0 : Int), .nil, .int .i64 (0 : Int), .int .i64 (0 : Int), .nil, .int .i64 (0 : Int), .int .i64 (0 : Int), .nil]⟩),
  (74, ⟨9, 120, (.struct [(0, 24), (3, 24), (6, 24)]), [.int .i64 (0 : Int), .int .i64 (0 : Int), .nil, .int .i64 (0 : Int), .int .i64 (0 : Int), .nil, .int .i64 (0 : Int), .int .i64 (0 : Int), .nil]⟩),
  (80, ⟨7, 88, (.struct [(0, 24), (3, 24), (6, 25)]), [.int .i64 (0 : Int), .int .i64 (0 : Int), .nil, .int .i64 (0 : Int), .int .i64 (0 : Int), .nil, .int .i64 (0 : Int)]⟩),
  (88, ⟨9, 120, (.struct [(0, 24), (3, 24), (6, 24)]), [.int .i64 (0 : Int), .int .i64 (0 : Int), .nil, .int .i64 (0 : Int), .int .i64 (0 : Int), .nil, .int .i64 (0 : Int), .int .i64 (0 : Int), .nil]⟩),
  (91, ⟨1, 24, (.slice 24), [.nil]⟩),
  (102, ⟨1, 8, (.int .i64), [.int .i64 (0 : Int)]⟩),
  (114, ⟨6, 80, (.array 2 24), [.int .i64 (0 : Int), .int .i64 (0 : Int), .nil, .int .i64 (0 : Int), .int .i64 (0 : Int), .nil]⟩),
  (118, ⟨7, 88, (.struct [(0, 24), (3, 24), (6, 4)]), [.int .i64 (0 : Int), .int .i64 (0 : Int), .nil, .int .i64 (0 : Int), .int .i64 (0 : Int), .nil, .bool false]⟩),
  (121, ⟨1, 8, .fl, [.fl 0]⟩),
  (131, ⟨1, 24, (.slice 47), [.nil]⟩),
  (134, ⟨1, 24, (.slice 135), [.nil]⟩),
  (135, ⟨1, 24, (.slice 45), [.nil]⟩),
  (145, ⟨9, 120, (.array 3 24), [.int .i64 (0 : Int), .int .i64 (0 : Int), .nil, .int .i64 (0 : Int), .int .i64 (0 : Int), .nil, .int .i64 (0 : Int), .int .i64 (0 : Int), .nil]⟩),
  (147, ⟨15, 200, (.struct [(0, 24), (3, 24), (6, 24), (9, 24), (12, 24)]), [.int .i64 (0 : Int), .int .i64 (0 : Int), .nil, .int .i64 (0 : Int), .int .i64 (0 : Int), .nil, .int .i64 (0 : Int), .int .i64 (0 : Int), .nil, .int .i64 (0 : Int), .int .i64 (0 : Int), .nil, .int .i64 (0 : Int), .int .i64 (0 : Int), .nil]⟩),
  (155, ⟨3, 40, (.struct [(0, 3), (1, 3), (2, 131)]), [.int .i64 (0 : Int), .int .i64 (0 : Int), .nil]⟩),
  (166, ⟨1, 1, (.int .u8), [.int .u8 (0 : Int)]⟩),
  (173, ⟨1, 4, (.int .u32), [.int .u32 (0 : Int)]⟩),
  (183, ⟨12, 160, (.array 4 24), [.int .i64 (0 : Int), .int .i64 (0 : Int), .nil, .int .i64 (0 : Int), .int .i64 (0 : Int), .nil, .int .i64 (0 : Int), .int .i64 (0 : Int), .nil, .int .i64 (0 : Int), .int .i64 (0 : Int), .nil]⟩),
  (188, ⟨2, 16, (.array 2 3), [.int .i64 (0 : Int), .int .i64 (0 : Int)]⟩),
  (189, ⟨1, 24, (.slice 191), [.nil]⟩),
  (191, ⟨3, 40, (.struct [(0, 22), (1, 37), (2, 37)]), [.nil, .int .u64 (0 : Int), .int .u64 (0 : Int)]⟩),
  (199, ⟨3, 24, (.struct [(0, 4), (1, 3), (2, 36)]), [.bool false, .int .i64 (0 : Int), .int .u64 (0 : Int)]⟩),
  (208, ⟨1, 24, (.slice 214), [.nil]⟩),
  (214, ⟨2, 32, (.struct [(0, 22), (1, 37)]), [.nil, .int .u64 (0 : Int)]⟩)]
theorem ty2 : Bv Tryz.prog 2 ⟨1, 8, (.int .i64), [.int .i64 (0 : Int)]⟩ := Bx (z := .int .i64 (0 : Int)) (by kernel_rfl) (fun c w => by simp [A4, Ak, Value.cells]) rfl (by simp [Value.cells, Value.oneCell']) (by simp only [B0]; exact Tryz.underlying2)
theorem ty3 : Bv Tryz.prog 3 ⟨1, 8, (.int .i64), [.int .i64 (0 : Int)]⟩ := Bx (z := .int .i64 (0 : Int)) (by kernel_rfl) (fun c w => by simp [A4, Ak, Value.cells]) rfl (by simp [Value.cells, Value.oneCell']) (by simp only [B0]; exact Tryz.underlying3)
theorem ty4 : Bv Tryz.prog 4 ⟨1, 1, .bool, [.bool false]⟩ := Bx (z := .bool false) (by kernel_rfl) (fun c w => by simp [A4, Ak, Value.cells]) rfl (by simp [Value.cells, Value.oneCell']) (by simp only [B0]; exact Tryz.underlying4)
theorem ty5 : Bv Tryz.prog 5 ⟨1, 1, (.int .u8), [.int .u8 (0 : Int)]⟩ := Bx (z := .int .u8 (0 : Int)) (by kernel_rfl) (fun c w => by simp [A4, Ak, Value.cells]) rfl (by simp [Value.cells, Value.oneCell']) (by simp only [B0]; exact Tryz.underlying5)
theorem ty22 : Bv Tryz.prog 22 ⟨1, 24, (.slice 37), [.nil]⟩ := Bx (z := .slice none 0 0) (by kernel_rfl) (fun c w => by simp [A4, Ak, Value.cells]) rfl (by simp [Value.cells, Value.oneCell']) (by simp only [B0]; exact Tryz.underlying22)
theorem ty24 : Bv Tryz.prog 24 ⟨3, 40, (.struct [(0, 3), (1, 3), (2, 22)]), [.int .i64 (0 : Int), .int .i64 (0 : Int), .nil]⟩ := Bx (z := .agg #[.int .i64 (0 : Int), .int .i64 (0 : Int), .slice none 0 0]) (by kernel_rfl) (fun c w => by simp [A4, Ak, Value.cells]) rfl (by simp [Value.cells, Value.oneCell']) (by simp only [B0]; exact ⟨_, Tryz.underlying24, by kernel_rfl⟩)
theorem ty25 : Bv Tryz.prog 25 ⟨1, 8, (.int .i64), [.int .i64 (0 : Int)]⟩ := Bx (z := .int .i64 (0 : Int)) (by kernel_rfl) (fun c w => by simp [A4, Ak, Value.cells]) rfl (by simp [Value.cells, Value.oneCell']) (by simp only [B0]; exact Tryz.underlying25)
theorem ty36 : Bv Tryz.prog 36 ⟨1, 8, (.int .u64), [.int .u64 (0 : Int)]⟩ := Bx (z := .int .u64 (0 : Int)) (by kernel_rfl) (fun c w => by simp [A4, Ak, Value.cells]) rfl (by simp [Value.cells, Value.oneCell']) (by simp only [B0]; exact Tryz.underlying36)
theorem ty37 : Bv Tryz.prog 37 ⟨1, 8, (.int .u64), [.int .u64 (0 : Int)]⟩ := Bx (z := .int .u64 (0 : Int)) (by kernel_rfl) (fun c w => by simp [A4, Ak, Value.cells]) rfl (by simp [Value.cells, Value.oneCell']) (by simp only [B0]; exact Tryz.underlying37)
theorem ty38 : Bv Tryz.prog 38 ⟨1, 24, (.slice 41), [.nil]⟩ := Bx (z := .slice none 0 0) (by kernel_rfl) (fun c w => by simp [A4, Ak, Value.cells]) rfl (by simp [Value.cells, Value.oneCell']) (by simp only [B0]; exact Tryz.underlying38)
theorem ty41 : Bv Tryz.prog 41 ⟨1, 1, (.int .i8), [.int .i8 (0 : Int)]⟩ := Bx (z := .int .i8 (0 : Int)) (by kernel_rfl) (fun c w => by simp [A4, Ak, Value.cells]) rfl (by simp [Value.cells, Value.oneCell']) (by simp only [B0]; exact Tryz.underlying41)
theorem ty43 : Bv Tryz.prog 43 ⟨1, 24, (.slice 173), [.nil]⟩ := Bx (z := .slice none 0 0) (by kernel_rfl) (fun c w => by simp [A4, Ak, Value.cells]) rfl (by simp [Value.cells, Value.oneCell']) (by simp only [B0]; exact Tryz.underlying43)
theorem ty45 : Bv Tryz.prog 45 ⟨2, 32, (.struct [(0, 4), (1, 43)]), [.bool false, .nil]⟩ := Bx (z := .agg #[.bool false, .slice none 0 0]) (by kernel_rfl) (fun c w => by simp [A4, Ak, Value.cells]) rfl (by simp [Value.cells, Value.oneCell']) (by simp only [B0]; exact ⟨_, Tryz.underlying45, by kernel_rfl⟩)
theorem ty47 : Bv Tryz.prog 47 ⟨3, 40, (.struct [(0, 45), (2, 3)]), [.bool false, .nil, .int .i64 (0 : Int)]⟩ := Bx (z := .agg #[.bool false, .slice none 0 0, .int .i64 (0 : Int)]) (by kernel_rfl) (fun c w => by simp [A4, Ak, Value.cells]) rfl (by simp [Value.cells, Value.oneCell']) (by simp only [B0]; exact ⟨_, Tryz.underlying47, by kernel_rfl⟩)
theorem ty57 : Bv Tryz.prog 57 ⟨12, 160, (.struct [(0, 24), (3, 24), (6, 24), (9, 24)]), [.int .i64 (0 : Int), .int .i64 (0 : Int), .nil, .int .i64 (0 : Int), .int .i64 (0 : Int), .nil, .int .i64 (0 : Int), .int .i64 (0 : Int), .nil, .int .i64 (0 : Int), .int .i64 (0 : Int), .nil]⟩ := Bx (z := .agg #[.int .i64 (0 : Int), .int .i64 (0 : Int), .slice none 0 0, .int .i64 (0 : Int), .int .i64 (0 : Int), .slice none 0 0, .int .i64 (0 : Int), .int .i64 (0 : Int), .slice none 0 0, .int .i64 (0 : Int), .int .i64 (0 : Int), .slice none 0 0]) (by kernel_rfl) (fun c w => by simp [A4, Ak, Value.cells]) rfl (by simp [Value.cells, Value.oneCell']) (by simp only [B0]; exact ⟨_, Tryz.underlying57, by kernel_rfl⟩)
theorem ty60 : Bv Tryz.prog 60 ⟨12, 160, (.struct [(0, 24), (3, 24), (6, 24), (9, 24)]), [.int .i64 (0 : Int), .int .i64 (0 : Int), .nil, .int .i64 (0 : Int), .int .i64 (0 : Int), .nil, .int .i64 (0 : Int), .int .i64 (0 : Int), .nil, .int .i64 (0 : Int), .int .i64 (0 : Int), .nil]⟩ := Bx (z := .agg #[.int .i64 (0 : Int), .int .i64 (0 : Int), .slice none 0 0, .int .i64 (0 : Int), .int .i64 (0 : Int), .slice none 0 0, .int .i64 (0 : Int), .int .i64 (0 : Int), .slice none 0 0, .int .i64 (0 : Int), .int .i64 (0 : Int), .slice none 0 0]) (by kernel_rfl) (fun c w => by simp [A4, Ak, Value.cells]) rfl (by simp [Value.cells, Value.oneCell']) (by simp only [B0]; exact ⟨_, Tryz.underlying60, by kernel_rfl⟩)
theorem ty71 : Bv Tryz.prog 71 ⟨9, 120, (.struct [(0, 24), (3, 24), (6, 24)]), [.int .i64 (0 : Int), .int .i64 (0 : Int), .nil, .int .i64 (0 : Int), .int .i64 (0 : Int), .nil, .int .i64 (0 : Int), .int .i64 (0 : Int), .nil]⟩ := Bx (z := .agg #[.int .i64 (0 : Int), .int .i64 (0 : Int), .slice none 0 0, .int .i64 (0 : Int), .int .i64 (0 : Int), .slice none 0 0, .int .i64 (0 : Int), .int .i64 (0 : Int), .slice none 0 0]) (by kernel_rfl) (fun c w => by simp [A4, Ak, Value.cells]) rfl (by simp [Value.cells, Value.oneCell']) (by simp only [B0]; exact ⟨_, Tryz.underlying71, by kernel_rfl⟩)
theorem ty74 : Bv Tryz.prog 74 ⟨9, 120, (.struct [(0, 24), (3, 24), (6, 24)]), [.int .i64 (0 : Int), .int .i64 (0 : Int), .nil, .int .i64 (0 : Int), .int .i64 (0 : Int), .nil, .int .i64 (0 : Int), .int .i64 (0 : Int), .nil]⟩ := Bx (z := .agg #[.int .i64 (0 : Int), .int .i64 (0 : Int), .slice none 0 0, .int .i64 (0 : Int), .int .i64 (0 : Int), .slice none 0 0, .int .i64 (0 : Int), .int .i64 (0 : Int), .slice none 0 0]) (by kernel_rfl) (fun c w => by simp [A4, Ak, Value.cells]) rfl (by simp [Value.cells, Value.oneCell']) (by simp only [B0]; exact ⟨_, Tryz.underlying74, by kernel_rfl⟩)
theorem ty80 : Bv Tryz.prog 80 ⟨7, 88, (.struct [(0, 24), (3, 24), (6, 25)]), [.int .i64 (0 : Int), .int .i64 (0 : Int), .nil, .int .i64 (0 : Int), .int .i64 (0 : Int), .nil, .int .i64 (0 : Int)]⟩ := Bx (z := .agg #[.int .i64 (0 : Int), .int .i64 (0 : Int), .slice none 0 0, .int .i64 (0 : Int), .int .i64 (0 : Int), .slice none 0 0, .int .i64 (0 : Int)]) (by kernel_rfl) (fun c w => by simp [A4, Ak, Value.cells]) rfl (by simp [Value.cells, Value.oneCell']) (by simp only [B0]; exact ⟨_, Tryz.underlying80, by kernel_rfl⟩)
theorem ty88 : Bv Tryz.prog 88 ⟨9, 120, (.struct [(0, 24), (3, 24), (6, 24)]), [.int .i64 (0 : Int), .int .i64 (0 : Int), .nil, .int .i64 (0 : Int), .int .i64 (0 : Int), .nil, .int .i64 (0 : Int), .int .i64 (0 : Int), .nil]⟩ := Bx (z := .agg #[.int .i64 (0 : Int), .int .i64 (0 : Int), .slice none 0 0, .int .i64 (0 : Int), .int .i64 (0 : Int), .slice none 0 0, .int .i64 (0 : Int), .int .i64 (0 : Int), .slice none 0 0]) (by kernel_rfl) (fun c w => by simp [A4, Ak, Value.cells]) rfl (by simp [Value.cells, Value.oneCell']) (by simp only [B0]; exact ⟨_, Tryz.underlying88, by kernel_rfl⟩)
theorem ty91 : Bv Tryz.prog 91 ⟨1, 24, (.slice 24), [.nil]⟩ := Bx (z := .slice none 0 0) (by kernel_rfl) (fun c w => by simp [A4, Ak, Value.cells]) rfl (by simp [Value.cells, Value.oneCell']) (by simp only [B0]; exact Tryz.underlying91)
theorem ty102 : Bv Tryz.prog 102 ⟨1, 8, (.int .i64), [.int .i64 (0 : Int)]⟩ := Bx (z := .int .i64 (0 : Int)) (by kernel_rfl) (fun c w => by simp [A4, Ak, Value.cells]) rfl (by simp [Value.cells, Value.oneCell']) (by simp only [B0]; exact Tryz.underlying102)
theorem ty114 : Bv Tryz.prog 114 ⟨6, 80, (.array 2 24), [.int .i64 (0 : Int), .int .i64 (0 : Int), .nil, .int .i64 (0 : Int), .int .i64 (0 : Int), .nil]⟩ := Bx (z := .agg #[.int .i64 (0 : Int), .int .i64 (0 : Int), .slice none 0 0, .int .i64 (0 : Int), .int .i64 (0 : Int), .slice none 0 0]) (by kernel_rfl) (fun c w => by simp [A4, Ak, Value.cells]) rfl (by simp [Value.cells, Value.oneCell']) (by simp only [B0]; exact Tryz.underlying114)
theorem ty118 : Bv Tryz.prog 118 ⟨7, 88, (.struct [(0, 24), (3, 24), (6, 4)]), [.int .i64 (0 : Int), .int .i64 (0 : Int), .nil, .int .i64 (0 : Int), .int .i64 (0 : Int), .nil, .bool false]⟩ := Bx (z := .agg #[.int .i64 (0 : Int), .int .i64 (0 : Int), .slice none 0 0, .int .i64 (0 : Int), .int .i64 (0 : Int), .slice none 0 0, .bool false]) (by kernel_rfl) (fun c w => by simp [A4, Ak, Value.cells]) rfl (by simp [Value.cells, Value.oneCell']) (by simp only [B0]; exact ⟨_, Tryz.underlying118, by kernel_rfl⟩)
theorem ty121 : Bv Tryz.prog 121 ⟨1, 8, .fl, [.fl 0]⟩ := Bx (z := .float .f64 0) (by kernel_rfl) (fun c w => by simp [A4, Ak, Value.cells, Oh]) rfl (by simp [Value.cells, Value.oneCell']) (by simp only [B0]; exact Tryz.underlying121)
theorem ty131 : Bv Tryz.prog 131 ⟨1, 24, (.slice 47), [.nil]⟩ := Bx (z := .slice none 0 0) (by kernel_rfl) (fun c w => by simp [A4, Ak, Value.cells]) rfl (by simp [Value.cells, Value.oneCell']) (by simp only [B0]; exact Tryz.underlying131)
theorem ty134 : Bv Tryz.prog 134 ⟨1, 24, (.slice 135), [.nil]⟩ := Bx (z := .slice none 0 0) (by kernel_rfl) (fun c w => by simp [A4, Ak, Value.cells]) rfl (by simp [Value.cells, Value.oneCell']) (by simp only [B0]; exact Tryz.underlying134)
theorem ty135 : Bv Tryz.prog 135 ⟨1, 24, (.slice 45), [.nil]⟩ := Bx (z := .slice none 0 0) (by kernel_rfl) (fun c w => by simp [A4, Ak, Value.cells]) rfl (by simp [Value.cells, Value.oneCell']) (by simp only [B0]; exact Tryz.underlying135)
theorem ty145 : Bv Tryz.prog 145 ⟨9, 120, (.array 3 24), [.int .i64 (0 : Int), .int .i64 (0 : Int), .nil, .int .i64 (0 : Int), .int .i64 (0 : Int), .nil, .int .i64 (0 : Int), .int .i64 (0 : Int), .nil]⟩ := Bx (z := .agg #[.int .i64 (0 : Int), .int .i64 (0 : Int), .slice none 0 0, .int .i64 (0 : Int), .int .i64 (0 : Int), .slice none 0 0, .int .i64 (0 : Int), .int .i64 (0 : Int), .slice none 0 0]) (by kernel_rfl) (fun c w => by simp [A4, Ak, Value.cells]) rfl (by simp [Value.cells, Value.oneCell']) (by simp only [B0]; exact Tryz.underlying145)
theorem ty147 : Bv Tryz.prog 147 ⟨15, 200, (.struct [(0, 24), (3, 24), (6, 24), (9, 24), (12, 24)]), [.int .i64 (0 : Int), .int .i64 (0 : Int), .nil, .int .i64 (0 : Int), .int .i64 (0 : Int), .nil, .int .i64 (0 : Int), .int .i64 (0 : Int), .nil, .int .i64 (0 : Int), .int .i64 (0 : Int), .nil, .int .i64 (0 : Int), .int .i64 (0 : Int), .nil]⟩ := Bx (z := .agg #[.int .i64 (0 : Int), .int .i64 (0 : Int), .slice none 0 0, .int .i64 (0 : Int), .int .i64 (0 : Int), .slice none 0 0, .int .i64 (0 : Int), .int .i64 (0 : Int), .slice none 0 0, .int .i64 (0 : Int), .int .i64 (0 : Int), .slice none 0 0, .int .i64 (0 : Int), .int .i64 (0 : Int), .slice none 0 0]) (by kernel_rfl) (fun c w => by simp [A4, Ak, Value.cells]) rfl (by simp [Value.cells, Value.oneCell']) (by simp only [B0]; exact ⟨_, Tryz.underlying147, by kernel_rfl⟩)
theorem ty155 : Bv Tryz.prog 155 ⟨3, 40, (.struct [(0, 3), (1, 3), (2, 131)]), [.int .i64 (0 : Int), .int .i64 (0 : Int), .nil]⟩ := Bx (z := .agg #[.int .i64 (0 : Int), .int .i64 (0 : Int), .slice none 0 0]) (by kernel_rfl) (fun c w => by simp [A4, Ak, Value.cells]) rfl (by simp [Value.cells, Value.oneCell']) (by simp only [B0]; exact ⟨_, Tryz.underlying155, by kernel_rfl⟩)
theorem ty166 : Bv Tryz.prog 166 ⟨1, 1, (.int .u8), [.int .u8 (0 : Int)]⟩ := Bx (z := .int .u8 (0 : Int)) (by kernel_rfl) (fun c w => by simp [A4, Ak, Value.cells]) rfl (by simp [Value.cells, Value.oneCell']) (by simp only [B0]; exact Tryz.underlying166)
theorem ty173 : Bv Tryz.prog 173 ⟨1, 4, (.int .u32), [.int .u32 (0 : Int)]⟩ := Bx (z := .int .u32 (0 : Int)) (by kernel_rfl) (fun c w => by simp [A4, Ak, Value.cells]) rfl (by simp [Value.cells, Value.oneCell']) (by simp only [B0]; exact Tryz.underlying173)
theorem ty183 : Bv Tryz.prog 183 ⟨12, 160, (.array 4 24), [.int .i64 (0 : Int), .int .i64 (0 : Int), .nil, .int .i64 (0 : Int), .int .i64 (0 : Int), .nil, .int .i64 (0 : Int), .int .i64 (0 : Int), .nil, .int .i64 (0 : Int), .int .i64 (0 : Int), .nil]⟩ := Bx (z := .agg #[.int .i64 (0 : Int), .int .i64 (0 : Int), .slice none 0 0, .int .i64 (0 : Int), .int .i64 (0 : Int), .slice none 0 0, .int .i64 (0 : Int), .int .i64 (0 : Int), .slice none 0 0, .int .i64 (0 : Int), .int .i64 (0 : Int), .slice none 0 0]) (by kernel_rfl) (fun c w => by simp [A4, Ak, Value.cells]) rfl (by simp [Value.cells, Value.oneCell']) (by simp only [B0]; exact Tryz.underlying183)
theorem ty188 : Bv Tryz.prog 188 ⟨2, 16, (.array 2 3), [.int .i64 (0 : Int), .int .i64 (0 : Int)]⟩ := Bx (z := .agg #[.int .i64 (0 : Int), .int .i64 (0 : Int)]) (by kernel_rfl) (fun c w => by simp [A4, Ak, Value.cells]) rfl (by simp [Value.cells, Value.oneCell']) (by simp only [B0]; exact Tryz.underlying188)
theorem ty189 : Bv Tryz.prog 189 ⟨1, 24, (.slice 191), [.nil]⟩ := Bx (z := .slice none 0 0) (by kernel_rfl) (fun c w => by simp [A4, Ak, Value.cells]) rfl (by simp [Value.cells, Value.oneCell']) (by simp only [B0]; exact Tryz.underlying189)
theorem ty191 : Bv Tryz.prog 191 ⟨3, 40, (.struct [(0, 22), (1, 37), (2, 37)]), [.nil, .int .u64 (0 : Int), .int .u64 (0 : Int)]⟩ := Bx (z := .agg #[.slice none 0 0, .int .u64 (0 : Int), .int .u64 (0 : Int)]) (by kernel_rfl) (fun c w => by simp [A4, Ak, Value.cells]) rfl (by simp [Value.cells, Value.oneCell']) (by simp only [B0]; exact ⟨_, Tryz.underlying191, by kernel_rfl⟩)
theorem ty199 : Bv Tryz.prog 199 ⟨3, 24, (.struct [(0, 4), (1, 3), (2, 36)]), [.bool false, .int .i64 (0 : Int), .int .u64 (0 : Int)]⟩ := Bx (z := .agg #[.bool false, .int .i64 (0 : Int), .int .u64 (0 : Int)]) (by kernel_rfl) (fun c w => by simp [A4, Ak, Value.cells]) rfl (by simp [Value.cells, Value.oneCell']) (by simp only [B0]; exact ⟨_, Tryz.underlying199, by kernel_rfl⟩)
theorem ty208 : Bv Tryz.prog 208 ⟨1, 24, (.slice 214), [.nil]⟩ := Bx (z := .slice none 0 0) (by kernel_rfl) (fun c w => by simp [A4, Ak, Value.cells]) rfl (by simp [Value.cells, Value.oneCell']) (by simp only [B0]; exact Tryz.underlying208)
theorem ty214 : Bv Tryz.prog 214 ⟨2, 32, (.struct [(0, 22), (1, 37)]), [.nil, .int .u64 (0 : Int)]⟩ := Bx (z := .agg #[.slice none 0 0, .int .u64 (0 : Int)]) (by kernel_rfl) (fun c w => by simp [A4, Ak, Value.cells]) rfl (by simp [Value.cells, Value.oneCell']) (by simp only [B0]; exact ⟨_, Tryz.underlying214, by kernel_rfl⟩)
theorem tys_ok : Qi Tryz.prog tys := .cons ty2 <| .cons ty3 <| .cons ty4 <| .cons ty5 <| .cons ty22 <| .cons ty24 <| .cons ty25 <| .cons ty36 <| .cons ty37 <| .cons ty38 <| .cons ty41 <| .cons ty43 <| .cons ty45 <| .cons ty47 <| .cons ty57 <| .cons ty60 <| .cons ty71 <| .cons ty74 <| .cons ty80 <| .cons ty88 <| .cons ty91 <| .cons ty102 <| .cons ty114 <| .cons ty118 <| .cons ty121 <| .cons ty131 <| .cons ty134 <| .cons ty135 <| .cons ty145 <| .cons ty147 <| .cons ty155 <| .cons ty166 <| .cons ty173 <| .cons ty183 <| .cons ty188 <| .cons ty189 <| .cons ty191 <| .cons ty199 <| .cons ty208 <| .cons ty214 <| .nil
def exts : List (Nat × Ext) := [(169, .bits), (210, .frombits), (263, .sqrt), (266, .sub64)]
def extOf : List (Nat × Ext) → Nat → Option Ext
  | [], _ => none
  | (m, e) :: l, n => bif Nat.beq m n then some e else extOf l n
theorem ext169 (args : Array Value) (w : World) : (callFunc 169 args).run Tryz.prog w = ((Rh .bits args).run Tryz.prog w).andThen fun v w' => .ok (.value v) w' := run_callFunc_extern (e := Extern.MathFloatBits.float64bits) Tryz.func169 (by kernel_rfl) (by kernel_rfl) (by kernel_rfl) (by kernel_rfl) args w
theorem ext210 (args : Array Value) (w : World) : (callFunc 210 args).run Tryz.prog w = ((Rh .frombits args).run Tryz.prog w).andThen fun v w' => .ok (.value v) w' := run_callFunc_extern (e := Extern.MathFloatBits.float64frombits) Tryz.func210 (by kernel_rfl) (by kernel_rfl) (by kernel_rfl) (by kernel_rfl) args w
theorem ext263 (args : Array Value) (w : World) : (callFunc 263 args).run Tryz.prog w = ((Rh .sqrt args).run Tryz.prog w).andThen fun v w' => .ok (.value v) w' := run_callFunc_extern (e := Extern.MathSqrt.sqrt) Tryz.func263 (by kernel_rfl) (by kernel_rfl) (by kernel_rfl) (by kernel_rfl) args w
theorem ext266 (args : Array Value) (w : World) : (callFunc 266 args).run Tryz.prog w = ((Rh .sub64 args).run Tryz.prog w).andThen fun v w' => .ok (.value v) w' := run_callFunc_extern (e := Vd) Tryz.func266 (by kernel_rfl) (by kernel_rfl) (by kernel_rfl) (by kernel_rfl) args w
def eqts : List Nat := [199, 188]
theorem eq199 : Aan Tryz.prog 199 ⟨3, 24, (.struct [(0, 4), (1, 3), (2, 36)]), [.bool false, .int .i64 (0 : Int), .int .u64 (0 : Int)]⟩ where
  guard := by kernel_rfl
  eq := by
    intro w c x y xs ys hx hy hlx hly
    obtain ⟨a0, x1, rfl, hx1⟩ := Vh hx
    obtain ⟨a1, x2, rfl, hx2⟩ := H9 hx1
    obtain ⟨a2, x3, rfl, hx3⟩ := H9 hx2
    obtain rfl := P2 hx3
    obtain ⟨b0, y1, rfl, hy1⟩ := Vh hy
    obtain ⟨b1, y2, rfl, hy2⟩ := H9 hy1
    obtain ⟨b2, y3, rfl, hy3⟩ := H9 hy2
    obtain rfl := P2 hy3
    obtain ⟨xs⟩ := xs
    obtain ⟨ys⟩ := ys
    simp only [A4.Ca, A4.Ff, Ak] at hlx hly
    obtain ⟨_, _, rfl, rfl, _, _, rfl, rfl, _, _, rfl, rfl, rfl⟩ := hlx
    obtain ⟨_, _, rfl, rfl, _, _, rfl, rfl, _, _, rfl, rfl, rfl⟩ := hly
    have hu : Tryz.prog.underlying 199 = some (.struct (Tryz.prog.fieldsOf 199)) := by kernel_rfl
    have hp : Tryz.prog.stoodInHeld 199 = false := by kernel_rfl
    unfold Op.equal Op.maxDepth
    rw [run_equalIn_struct w 9999 199 _ _ hu hp]
    have hfs : Tryz.prog.fieldsOf 199 = (match Tryz.prog.underlying 199 with | some (.struct fs) => fs | _ => #[]) := rfl
    rw [hfs, Tryz.underlying199]
    simp [Op.eqFields, Kp w ty3 rfl, Kp w ty4 rfl, Kp w ty36 rfl, run_equalIn_int w _ _ _ _ _ _ Tryz.underlying3, run_equalIn_bool w _ _ _ _ Tryz.underlying4, run_equalIn_int w _ _ _ _ _ _ Tryz.underlying36, Yf, Wr]
    by_cases h0 : a0 = b0 <;> by_cases h1 : a1 = b1 <;> by_cases h2 : a2 = b2 <;> simp [h0, h1, h2]
theorem eq188 : Aan Tryz.prog 188 ⟨2, 16, (.array 2 3), [.int .i64 (0 : Int), .int .i64 (0 : Int)]⟩ where
  guard := by kernel_rfl
  eq := by
    intro w c x y xs ys hx hy hlx hly
    obtain ⟨a0, x1, rfl, hx1⟩ := H9 hx
    obtain ⟨a1, x2, rfl, hx2⟩ := H9 hx1
    obtain rfl := P2 hx2
    obtain ⟨b0, y1, rfl, hy1⟩ := H9 hy
    obtain ⟨b1, y2, rfl, hy2⟩ := H9 hy1
    obtain rfl := P2 hy2
    obtain ⟨xs⟩ := xs
    obtain ⟨ys⟩ := ys
    simp only [A4.Ca, A4.Ff, Ak] at hlx hly
    obtain ⟨_, _, rfl, rfl, _, _, rfl, rfl, rfl⟩ := hlx
    obtain ⟨_, _, rfl, rfl, _, _, rfl, rfl, rfl⟩ := hly
    obtain ⟨i, _, hi, _⟩ := ty3.info
    have hc : Tryz.prog.cellsOf 3 = 1 := by kernel_rfl
    unfold Op.equal Op.maxDepth
    rw [run_equalIn_array w 9999 _ _ Tryz.underlying188 hi, hc]
    simp [Op.eqItems, List.range, List.range.loop, Kp w ty3 rfl, run_equalIn_int w _ _ _ _ _ _ Tryz.underlying3, Yf, Wr]
    by_cases h0 : a0 = b0 <;> by_cases h1 : a1 = b1 <;> simp [h0, h1]
def Bb (A9 : Nat → Option Entry) (adopt : Nat → Bool) (hint : Nat → Option Bf) (live : Nat → Option (List Nat)) : Env := { ty := tyOf tys, A9 := A9, ext := extOf exts, eqs := fun t => Kw t eqts, adopt := adopt, live := live, hint := hint }
theorem A2 {l : List (Nat × Entry)} (h : A0 Tryz.prog l) (adopt : Nat → Bool) (hint : Nat → Option Bf) (live : Nat → Option (List Nat)) : I6 Tryz.prog (Bb (A8 l) adopt hint live) where
  ty := fun t ti ht => tys_ok.get ht
  A9 := fun g e hg => (h.get hg).meets
  call := fun g e hg => (h.get hg).call
  ext := by
    intro g x hx args w
    simp only [Bb, exts, extOf] at hx
    cases hb : Nat.beq 169 g with
    | true =>
      rw [hb] at hx
      cases hx
      obtain rfl := Nat.eq_of_beq_eq_true hb
      exact ext169 args w
    | false =>
    rw [hb, cond_false] at hx
    clear hb
    cases hb : Nat.beq 210 g with
    | true =>
      rw [hb] at hx
      cases hx
      obtain rfl := Nat.eq_of_beq_eq_true hb
      exact ext210 args w
    | false =>
    rw [hb, cond_false] at hx
    clear hb
    cases hb : Nat.beq 263 g with
    | true =>
      rw [hb] at hx
      cases hx
      obtain rfl := Nat.eq_of_beq_eq_true hb
      exact ext263 args w
    | false =>
    rw [hb, cond_false] at hx
    clear hb
    cases hb : Nat.beq 266 g with
    | true =>
      rw [hb] at hx
      cases hx
      obtain rfl := Nat.eq_of_beq_eq_true hb
      exact ext266 args w
    | false =>
    rw [hb, cond_false] at hx
    clear hb
    cases hx
  eqs := by
    intro t ti ht hti
    simp only [Bb, eqts, Kw] at ht hti
    cases hb : Nat.beq t 199 with
    | true =>
      obtain rfl := Nat.eq_of_beq_eq_true hb
      cases hti
      exact eq199
    | false =>
    rw [hb, cond_false] at ht
    clear hb
    cases hb : Nat.beq t 188 with
    | true =>
      obtain rfl := Nat.eq_of_beq_eq_true hb
      cases hti
      exact eq188
    | false =>
    rw [hb, cond_false] at ht
    clear hb
    cases ht
  mixed := by kernel_rfl
def extsN : List (Nat × Ext) := [(169, .bitsN), (210, .frombits), (263, .sqrt), (266, .sub64)]
def advOf : List (Nat × List CK) → Nat → List CK
  | [], _ => []
  | (m, e) :: l, n => bif Nat.beq m n then e else advOf l n
def Ws (A9 : Nat → Option Entry) (adopt : Nat → Bool) (hint : Nat → Option Bf) (live : Nat → Option (List Nat)) (adv : Nat → List CK) : Env := { ty := tyOf tys, A9 := A9, ext := extOf extsN, eqs := fun t => Kw t eqts, adopt := adopt, live := live, hint := hint, adv := adv }
theorem Z5 {l : List (Nat × Entry)} (h : A0 Tryz.prog l) (adopt : Nat → Bool) (hint : Nat → Option Bf) (live : Nat → Option (List Nat)) (adv : Nat → List CK) : I6 Tryz.prog (Ws (A8 l) adopt hint live adv) :=
  have k := A2 h adopt hint live
  ⟨k.ty, k.A9, k.call, (by
    intro g x hx args w
    simp only [Ws, extsN, extOf] at hx
    cases hb : Nat.beq 169 g with
    | true =>
      rw [hb] at hx
      cases hx
      obtain rfl := Nat.eq_of_beq_eq_true hb
      exact ext169 args w
    | false =>
    rw [hb, cond_false] at hx
    clear hb
    cases hb : Nat.beq 210 g with
    | true =>
      rw [hb] at hx
      cases hx
      obtain rfl := Nat.eq_of_beq_eq_true hb
      exact ext210 args w
    | false =>
    rw [hb, cond_false] at hx
    clear hb
    cases hb : Nat.beq 263 g with
    | true =>
      rw [hb] at hx
      cases hx
      obtain rfl := Nat.eq_of_beq_eq_true hb
      exact ext263 args w
    | false =>
    rw [hb, cond_false] at hx
    clear hb
    cases hb : Nat.beq 266 g with
    | true =>
      rw [hb] at hx
      cases hx
      obtain rfl := Nat.eq_of_beq_eq_true hb
      exact ext266 args w
    | false =>
    rw [hb, cond_false] at hx
    clear hb
    cases hx), k.eqs, k.mixed, k.spoil⟩
end Go.Proofs.S1
namespace Go.Rnd
def Lf (V k : Nat) : Nat := V / 2 ^ k + (if 2 ^ k < 2 * (V % 2 ^ k) ∨ (2 * (V % 2 ^ k) = 2 ^ k ∧ V / 2 ^ k % 2 = 1) then 1 else 0)
def Iu (V : Nat) (s : Int) : Nat := Lf (V * 2 ^ (-s).toNat) s.toNat
def Lb (V : Nat) (s : Int) : Bool := decide (V * 2 ^ (-s).toNat % 2 ^ s.toNat = 0)
def B2 (M : Nat) (E : Int) : Int := max (E + M.log2 - 52) (-1074)
def kept (M : Nat) (E : Int) : Nat := Iu M (B2 M E - E)
def Dt : Nat := 2047 * 2 ^ 52
def B5 (M : Nat) (E : Int) : Nat := if M = 0 then 0 else min ((B2 M E + 1074).toNat * 2 ^ 52 + kept M E) Dt
def exact (M : Nat) (E : Int) : Bool := Lb M (B2 M E - E)
def flags (r : Nat) (ex : Bool) : Nat := if r = Dt then 5 else if ex then 0 else if 2 ^ 52 ≤ r then 1 else 3
def flagsOf (M : Nat) (E : Int) : Nat := if M = 0 then 0 else flags (B5 M E) (exact M E)
theorem B1 (k : Nat) : 0 < 2 ^ k := Nat.pow_pos (by decide)
theorem M4 (V : Nat) : Lf V 0 = V := by
  unfold Lf; simp [Nat.mod_one]
theorem R9 (V a k : Nat) : Lf (V * 2 ^ a) (a + k) = Lf V k := by
  unfold Lf
  have hA := B1 a
  have e : 2 ^ (a + k) = 2 ^ a * 2 ^ k := Nat.pow_add 2 a k
  have hd : V * 2 ^ a / 2 ^ (a + k) = V / 2 ^ k := by
    rw [e, Nat.mul_comm V, Nat.mul_div_mul_left _ _ hA]
  have hm : V * 2 ^ a % 2 ^ (a + k) = 2 ^ a * (V % 2 ^ k) := by
    rw [e, Nat.mul_comm V, Nat.mul_mod_mul_left]
  rw [hd, hm, e]
  have h1 : (2 ^ a * 2 ^ k < 2 * (2 ^ a * (V % 2 ^ k))) ↔ (2 ^ k < 2 * (V % 2 ^ k)) := by
    rw [Nat.mul_left_comm 2]
    exact Nat.mul_lt_mul_left hA
  have h2 : (2 * (2 ^ a * (V % 2 ^ k)) = 2 ^ a * 2 ^ k) ↔ (2 * (V % 2 ^ k) = 2 ^ k) := by
    rw [Nat.mul_left_comm 2]
    exact Nat.mul_right_inj (by omega)
  simp only [h1, h2]
theorem mod_mul (V a k : Nat) : (V * 2 ^ a % 2 ^ (a + k) = 0) ↔ (V % 2 ^ k = 0) := by
  have hA := B1 a
  rw [Nat.pow_add, Nat.mul_comm V, Nat.mul_mod_mul_left]
  constructor
  · intro h
    rcases Nat.mul_eq_zero.1 h with h | h
    · omega
    · exact h
  · intro h; rw [h]; rfl
theorem T7 (V k : Nat) (s : Int) : Iu (V * 2 ^ k) (s + k) = Iu V s ∧ Lb (V * 2 ^ k) (s + k) = Lb V s := by
  unfold Iu Lb
  by_cases h0 : 0 ≤ s
  · have e1 : (-(s + k)).toNat = 0 := by omega
    have e2 : (-s).toNat = 0 := by omega
    have e3 : (s + k).toNat = k + s.toNat := by omega
    rw [e1, e2, e3, Nat.pow_zero, Nat.mul_one, Nat.mul_one]
    exact ⟨R9 V k _, by simp only [mod_mul]⟩
  · by_cases h1 : 0 ≤ s + k
    · have e1 : (-(s + k)).toNat = 0 := by omega
      have e2 : s.toNat = 0 := by omega
      have e3 : k = (s + k).toNat + (-s).toNat := by omega
      rw [e1, e2, Nat.pow_zero, Nat.mul_one]
      have e4 : V * 2 ^ k = V * 2 ^ (-s).toNat * 2 ^ (s + k).toNat := by
        rw [Nat.mul_assoc, ← Nat.pow_add, Nat.add_comm (-s).toNat, ← e3]
      rw [e4]
      refine ⟨?_, ?_⟩
      · have := R9 (V * 2 ^ (-s).toNat) (s + k).toNat 0
        rw [Nat.add_zero] at this; exact this
      · have := mod_mul (V * 2 ^ (-s).toNat) (s + k).toNat 0
        rw [Nat.add_zero, Nat.pow_zero] at this
        simp only [this]
    · have e1 : (s + k).toNat = 0 := by omega
      have e2 : s.toNat = 0 := by omega
      have e3 : (-s).toNat = k + (-(s + k)).toNat := by omega
      rw [e1, e2, e3, Nat.pow_add, Nat.mul_assoc]
      exact ⟨rfl, rfl⟩
theorem Li (M k : Nat) (hM : M ≠ 0) : (M * 2 ^ k).log2 = M.log2 + k := by
  have hk := B1 k
  have hne : M * 2 ^ k ≠ 0 := by
    intro h
    rcases Nat.mul_eq_zero.1 h with h | h <;> omega
  have h1 := Nat.log2_self_le hM
  have h2 := Nat.lt_log2_self (n := M)
  have a : M.log2 + k ≤ (M * 2 ^ k).log2 := by
    rw [Nat.le_log2 hne, Nat.pow_add]
    exact Nat.mul_le_mul_right _ h1
  have b : (M * 2 ^ k).log2 < M.log2 + k + 1 := by
    rw [Nat.log2_lt hne, Nat.add_right_comm, Nat.pow_add]
    exact (Nat.mul_lt_mul_right hk).2 h2
  omega
theorem Sp {n a : Nat} (h1 : 2 ^ a ≤ n) (h2 : n < 2 ^ (a + 1)) : n.log2 = a := by
  have := B1 a
  have hn : n ≠ 0 := by omega
  have b1 := (Nat.le_log2 hn).2 h1
  have b2 := (Nat.log2_lt hn).2 h2
  omega
theorem last_shift (M k : Nat) (E : Int) (hM : M ≠ 0) : B2 (M * 2 ^ k) (E - k) = B2 M E := by
  unfold B2; rw [Li M k hM]; congr 1; omega
theorem Ha {M k : Nat} (hM : M ≠ 0) : M * 2 ^ k ≠ 0 := by
  have := B1 k
  intro h
  rcases Nat.mul_eq_zero.1 h with h | h <;> omega
theorem Dg (M k : Nat) (E : Int) : B5 (M * 2 ^ k) (E - k) = B5 M E ∧ flagsOf (M * 2 ^ k) (E - k) = flagsOf M E := by
  by_cases hM : M = 0
  · subst hM; simp [B5, flagsOf]
  · have hl := last_shift M k E hM
    have e : B2 M E - (E - k) = B2 M E - E + k := by omega
    have h1 : B5 (M * 2 ^ k) (E - k) = B5 M E := by
      unfold B5 kept
      rw [if_neg (Ha hM), if_neg hM, hl, e, (T7 M k _).1]
    refine ⟨h1, ?_⟩
    unfold flagsOf
    rw [if_neg (Ha hM), if_neg hM, h1]
    unfold exact
    rw [hl, e, (T7 M k _).2]
theorem rdiv_odd {V s d k : Nat} (hs : s % 2 = 1) (h1 : (s - 1) * 2 ^ d < V) (h2 : V < (s + 1) * 2 ^ d) (hk : 2 ≤ k) :
    Lf V (d + k) = Lf s k ∧ V % 2 ^ (d + k) ≠ 0 ∧ s % 2 ^ k ≠ 0 := by
  have hA := B1 d
  obtain ⟨j, rfl⟩ : ∃ j, k = j + 2 := ⟨k - 2, by omega⟩
  have hB : 2 ^ (j + 2) = 4 * 2 ^ j := by rw [Nat.pow_add]; omega
  have hBp := B1 (j + 2)
  have hC := B1 j
  have hsd := Nat.div_add_mod s (2 ^ (j + 2))
  have hr2 : s % 2 ^ (j + 2) % 2 = 1 := by
    rw [hB, show 4 * 2 ^ j = 2 * (2 * 2 ^ j) by omega, Nat.mod_mul_right_mod]; exact hs
  have hrlt := Nat.mod_lt s hBp
  generalize hq : s / 2 ^ (j + 2) = q at *
  generalize hr : s % 2 ^ (j + 2) = r at *
  have hAB : 2 ^ (d + (j + 2)) = 2 ^ d * 2 ^ (j + 2) := Nat.pow_add 2 d (j + 2)
  generalize hBB : 2 ^ (j + 2) = b at *
  generalize hAA : 2 ^ d = a at *
  have e1 : (s - 1) * a = q * (a * b) + (r - 1) * a := by
    have : s - 1 = b * q + (r - 1) := by omega
    rw [this, Nat.add_mul, Nat.mul_comm b q, Nat.mul_assoc, Nat.mul_comm b a]
  have e2 : (s + 1) * a = q * (a * b) + (r + 1) * a := by
    have : s + 1 = b * q + (r + 1) := by omega
    rw [this, Nat.add_mul, Nat.mul_comm b q, Nat.mul_assoc, Nat.mul_comm b a]
  have e3 : (r + 1) * a ≤ b * a := Nat.mul_le_mul_right a (by omega)
  rw [Nat.mul_comm b a] at e3
  rw [e1] at h1
  rw [e2] at h2
  have hdiv : V / (a * b) = q := Nat.div_eq_of_lt_le (by omega) (by rw [Nat.add_mul]; omega)
  have hmod : V % (a * b) = V - q * (a * b) := by
    have := Nat.div_add_mod V (a * b)
    rw [hdiv, Nat.mul_comm (a * b) q] at this; omega
  have hb2 : b = 2 * (2 * 2 ^ j) := by omega
  generalize hc : 2 ^ j = c at *
  have hR1 : (r - 1) * a < V - q * (a * b) := by omega
  have hR2 : V - q * (a * b) < (r + 1) * a := by omega
  generalize hR : V - q * (a * b) = R at *
  have hab : a * b = 2 * (2 * c * a) := by rw [hb2, Nat.mul_comm a, Nat.mul_assoc]
  have key : (a * b < 2 * R ∨ (2 * R = a * b ∧ q % 2 = 1)) ↔ (b < 2 * r ∨ (2 * r = b ∧ q % 2 = 1)) := by
    rw [hab, hb2]
    rcases Nat.lt_or_ge r (2 * c) with hlt | hge
    · have : (r + 1) * a ≤ 2 * c * a := Nat.mul_le_mul_right a (by omega)
      constructor <;> (intro h; omega)
    · have hgt : 2 * c + 1 ≤ r := by omega
      have : 2 * c * a ≤ (r - 1) * a := Nat.mul_le_mul_right a (by omega)
      constructor
      · intro _; left; omega
      · intro _; left; omega
  refine ⟨?_, ?_, ?_⟩
  · unfold Lf
    rw [hAB, hdiv, hmod, hBB, hq, hr]
    simp only [key]
  · rw [hAB, hmod]
    have := Nat.zero_le ((r - 1) * a)
    omega
  · omega
theorem Ou {V s d : Nat} {E : Int} (hs : s % 2 = 1) (h1 : (s - 1) * 2 ^ d < V) (h2 : V < (s + 1) * 2 ^ d) (hl : B2 V E = B2 s (E + d)) (hk : E + d + 2 ≤ B2 s (E + d)) :
    B5 V E = B5 s (E + d) ∧ flagsOf V E = flagsOf s (E + d) := by
  have hV : V ≠ 0 := by omega
  have hs0 : s ≠ 0 := by omega
  generalize hL : B2 s (E + d) = L at *
  obtain ⟨k, hk2⟩ : ∃ k : Nat, L - (E + d) = k + 2 := ⟨(L - (E + d) - 2).toNat, by omega⟩
  obtain ⟨a1, a2, a3⟩ := rdiv_odd (k := k + 2) hs h1 h2 (by omega)
  have e1 : (L - E).toNat = d + (k + 2) := by omega
  have e2 : (-(L - E)).toNat = 0 := by omega
  have e3 : (L - (E + d)).toNat = k + 2 := by omega
  have e4 : (-(L - (E + d))).toNat = 0 := by omega
  have hr : B5 V E = B5 s (E + d) := by
    unfold B5 kept Iu
    rw [if_neg hV, if_neg hs0, hl, hL, e1, e2, e3, e4]
    simp only [Nat.pow_zero, Nat.mul_one]
    rw [a1]
  refine ⟨hr, ?_⟩
  unfold flagsOf exact Lb
  rw [if_neg hV, if_neg hs0, hr, hl, hL, e1, e2, e3, e4]
  simp only [Nat.pow_zero, Nat.mul_one, a2, a3, decide_false]
theorem O4 {V s d : Nat} (hs : s % 2 = 1) (hs3 : 3 ≤ s) (h1 : (s - 1) * 2 ^ d < V) (h2 : V < (s + 1) * 2 ^ d) : V.log2 = s.log2 + d := by
  have hs0 : s ≠ 0 := by omega
  have a1 := Nat.log2_self_le hs0
  have a2 := Nat.lt_log2_self (n := s)
  have hl : 1 ≤ s.log2 := by rw [Nat.le_log2 hs0]; omega
  obtain ⟨t, ht⟩ : ∃ t, s.log2 = t + 1 := ⟨s.log2 - 1, by omega⟩
  rw [ht] at a1 a2 ⊢
  have ev1 : 2 ^ (t + 1) = 2 * 2 ^ t := by rw [Nat.pow_succ]; omega
  have ev2 : 2 ^ (t + 1 + 1) = 2 * (2 * 2 ^ t) := by rw [Nat.pow_succ, ev1]; omega
  refine Sp ?_ ?_
  · rw [Nat.pow_add]
    have : 2 ^ (t + 1) * 2 ^ d ≤ (s - 1) * 2 ^ d := Nat.mul_le_mul_right _ (by omega)
    omega
  · have e : t + 1 + d + 1 = (t + 1 + 1) + d := by omega
    rw [e, Nat.pow_add]
    have : (s + 1) * 2 ^ d ≤ 2 ^ (t + 1 + 1) * 2 ^ d := Nat.mul_le_mul_right _ (by omega)
    omega
end Go.Rnd
namespace Go.Rnd
def Bi (b : Nat) : Bool := decide (2 ^ 63 ≤ b)
def C5 (b : Nat) : Nat := b / 2 ^ 52 % 2048
def Cl (b : Nat) : Nat := b % 2 ^ 52
def Ai (b : Nat) : Nat := if C5 b = 2047 then (if Cl b = 0 then 3 else 4) else if 0 < C5 b then 2 else if 0 < Cl b then 1 else 0
def Jl (b : Nat) : Bool := decide (C5 b < 2047)
def F6 (b : Nat) : Nat := if 2 ^ 63 ≤ b then b - 2 ^ 63 else b + 2 ^ 63
def Aq (b : Nat) : Nat := if C5 b = 0 then Cl b else Cl b + 2 ^ 52
def Ay (b : Nat) : Int := if C5 b = 0 then -1074 else (C5 b : Int) - 1075
def Be (neg : Bool) (r : Nat) : Nat := if neg then 2 ^ 63 + r else r
def Gu (neg : Bool) (m : Nat) : Int := if neg then -(m : Int) else m
def Io (b : Nat) (e : Int) : Int := Gu (Bi b) (Aq b * 2 ^ (Ay b - e).toNat)
def Pu : Nat := 0x7ff8000000000000
def Nq (z : Nat) (S : Int) (e : Int) : Nat × Nat :=
  if S = 0 then (z, 0) else (Be (decide (S < 0)) (B5 S.natAbs e), flagsOf S.natAbs e)
def Kf (a b : Nat) : Nat × Nat :=
  if Ai a = 4 ∨ Ai b = 4 then (Pu, 0)
  else if Ai a = 3 then (if Ai b = 3 ∧ a ≠ b then (Pu, 16) else (a, 0))
  else if Ai b = 3 then (b, 0)
  else Nq (Be (Bi a && Bi b) 0) (Io a (min (Ay a) (Ay b)) + Io b (min (Ay a) (Ay b))) (min (Ay a) (Ay b))
def subN (a b : Nat) : Nat × Nat := Kf a (F6 b)
def Fg (neg : Bool) (m : Nat) (e : Int) (more : Bool) : Nat × Nat :=
  (Be neg (B5 (4 * m + more.toNat) (e - 2)), flagsOf (4 * m + more.toNat) (e - 2))
def C6 (x : Int) : Bool := Bi x.toNat
def Kc (x : Int) : Int := C5 x.toNat
def Cf (x : Int) : Int := Cl x.toNat
def A7 (x : Int) : Int := Ai x.toNat
def C8 (x : Int) : Bool := Jl x.toNat
def C0 (x : Int) : Int := F6 x.toNat
def Bk (x : Int) : Int := Aq x.toNat
def Ba (x : Int) : Int := Ay x.toNat
def Ea (neg : Bool) (m e : Int) (more : Bool) : Int := (Fg neg m.toNat e more).1
def D9 (neg : Bool) (m e : Int) (more : Bool) : Int := (Fg neg m.toNat e more).2
def Kk (a b : Int) : Int := (Kf a.toNat b.toNat).1
def Ul (a b : Int) : Int := (Kf a.toNat b.toNat).2
def Ep (a b : Int) : Int := (subN a.toNat b.toNat).1
def subFI (a b : Int) : Int := (subN a.toNat b.toNat).2
theorem Hy (b : Nat) : C5 b < 2048 := Nat.mod_lt _ (by decide)
theorem Iy (b : Nat) : Cl b < 4503599627370496 := Nat.mod_lt _ (by decide)
theorem El (b : Nat) : Aq b < 9007199254740992 := by
  have := Iy b
  unfold Aq; split <;> omega
theorem D7 (b : Nat) : -1074 ≤ Ay b ∧ Ay b ≤ 972 := by
  have := Hy b
  unfold Ay; split <;> omega
theorem K5 {m : Nat} {e : Int} (h1 : 2 ^ 52 ≤ m) (h2 : m < 2 ^ 53) (he : -1074 ≤ e) : B5 m e = min ((e + 1074).toNat * 2 ^ 52 + m) Dt := by
  have hl : m.log2 = 52 := Sp h1 h2
  have hm : m ≠ 0 := by omega
  have hle : B2 m e = e := by unfold B2; rw [hl]; omega
  unfold B5 kept
  rw [if_neg hm, hle, Int.sub_self]
  unfold Iu
  simp [M4]
theorem Vl {m : Nat} (h2 : m < 2 ^ 52) : B5 m (-1074) = m := by
  by_cases hm : m = 0
  · subst hm; rfl
  · have hl : m.log2 < 52 := (Nat.log2_lt hm).2 h2
    have hle : B2 m (-1074) = -1074 := by unfold B2; omega
    unfold B5 kept
    rw [if_neg hm, hle, Int.sub_self]
    unfold Iu Dt
    simp [M4]
    omega
theorem L4 (m : Nat) (e : Int) : B5 m e ≤ Dt := by
  unfold B5
  split
  · exact Nat.zero_le _
  · exact Nat.min_le_right _ _
theorem Gv : Dt = 9218868437227405312 := rfl
theorem Uw (m : Nat) (e : Int) : B5 m e < 2 ^ 63 := by
  have := L4 m e
  rw [Gv] at this
  omega
theorem Ry (n : Bool) (m : Nat) (e : Int) : Be n (B5 m e) < 2 ^ 64 := by
  have := Uw m e
  unfold Be; split <;> omega
theorem V3 {r : Nat} (h : r < 2 ^ 63) : F6 r = 2 ^ 63 + r := by
  unfold F6; rw [if_neg (by omega)]; omega
end Go.Rnd
namespace Go.Rnd
open Go.Den
def Jq (m e : Int) : Bool := C2 (0 ≤ m ∧ m ≤ 9007199254740992 ∧ -1074 ≤ e ∧ e + m / 9007199254740992 ≤ 100000)
def Nr (m e : Int) : Nat := if 9007199254740992 ≤ m then 1 else if m < 4503599627370496 then 2 + (e + 1074).toNat else 0
def Sc (n : Bool) (m e : Int) : Int := Be n (B5 m.toNat e)
def Dn (m e : Int) (r : Bool) : Bool :=
  C2 (0 ≤ m ∧ m < 18446744073709551616 ∧ e ≤ 50000 ∧ (-1137 ≤ e ∨ (m < 4611686018427387904 ∧ -1140 ≤ e)) ∧ (r = true → 4503599627370496 ≤ m ∨ e ≤ -1074))
def Ey (n D : Nat) : Nat := if n % 2 ^ D = 0 then n / 2 ^ D else 2 * (n / 2 ^ D / 2) + 1
def Eh (m d : Int) : Int := Ey m.toNat (min d.toNat 63)
def Di (l : List Int) : Bool := C2 (l.length < 4611686018427387904 ∧ ∀ x ∈ l, Ah x = true)
def Dj (x : Nat) : Nat := if Ai x = 4 then Pu else x
def Wy (x : Int) : Int := Dj x.toNat
def Gx (x : Nat) : Int := Dj x
def Mh (x : Int) : Bool := C2 (0 ≤ x)
theorem J0 (n : Nat) : Mh (n : Int) = true := Ar.2 (Int.natCast_nonneg n)
theorem Sk {x : Int} (h : Mh x = true) : ∃ n : Nat, x = n := ⟨x.toNat, by have := Ar.1 h; omega⟩
end Go.Rnd
namespace Go.Rnd
theorem step1 (a c : Nat) : (a + 1) * c + c = a * c + (c + c) := by rw [Nat.add_mul, Nat.one_mul, Nat.add_assoc]
theorem two52 : 2 ^ 52 + 2 ^ 52 = 2 ^ 53 := by decide
theorem step2 (a : Nat) : (a + 1) * 2 ^ 52 + 2 ^ 52 = a * 2 ^ 52 + 2 ^ 53 := (step1 a (2 ^ 52)).trans (congrArg (fun x => a * 2 ^ 52 + x) two52)
theorem two52' : 2 ^ 52 * 2 ^ 1 = 2 ^ 53 := by decide
theorem rung_53 {E : Int} : B5 (2 ^ 53) E = B5 (2 ^ 52) (E + 1) := by
  have := (Dg (2 ^ 52) 1 (E + 1)).1
  have e1 : E + 1 - ((1 : Nat) : Int) = E := by omega
  rw [e1, two52'] at this
  exact this
theorem rung_53' {E : Int} (hE : -1074 ≤ E) : B5 (2 ^ 53) E = min ((E + 1074).toNat * 2 ^ 52 + 2 ^ 53) Dt := by
  have e3 : (E + 1 + 1074).toNat = (E + 1074).toNat + 1 := by omega
  rw [rung_53, K5 (by decide) (by decide) (by omega), e3]
  exact congrArg (fun x => min x Dt) (step2 _)
theorem rung_pack {q : Nat} {E : Int} (h1 : q ≤ 2 ^ 53) (hE : -1074 ≤ E) (h2 : 2 ^ 52 ≤ q ∨ E = -1074) : B5 q E = min ((E + 1074).toNat * 2 ^ 52 + q) Dt := by
  by_cases ha : q = 2 ^ 53
  · rw [ha]; exact rung_53' hE
  · by_cases hb : 2 ^ 52 ≤ q
    · exact K5 hb (by omega) hE
    · obtain rfl : E = -1074 := h2.resolve_left hb
      rw [Vl (by omega)]
      unfold Dt
      simp
      omega
theorem rdiv_code {M D s : Nat} (hs : s ≤ 1) : Lf (4 * M + s) (D + 2) = M / 2 ^ D + (if 0 < D ∧ (2 ^ (D - 1) < M % 2 ^ D ∨ (M % 2 ^ D = 2 ^ (D - 1) ∧ (s = 1 ∨ M / 2 ^ D % 2 = 1))) then 1 else 0) ∧
    ((4 * M + s) % 2 ^ (D + 2) = 0 ↔ M % 2 ^ D = 0 ∧ s = 0) := by
  have hp : 2 ^ (D + 2) = 2 ^ D * 4 := by rw [Nat.pow_add]
  have hA := B1 D
  have hdm := Nat.div_add_mod M (2 ^ D)
  have hlt := Nat.mod_lt M hA
  have hdiv : (4 * M + s) / (2 ^ D * 4) = M / 2 ^ D := by
    rw [Nat.mul_comm (2 ^ D) 4, ← Nat.div_div_eq_div_mul]
    congr 1; omega
  have hmod : (4 * M + s) % (2 ^ D * 4) = 4 * (M % 2 ^ D) + s := by
    have h := Nat.div_add_mod (4 * M + s) (2 ^ D * 4)
    rw [hdiv] at h
    have e : 2 ^ D * 4 * (M / 2 ^ D) = 4 * (2 ^ D * (M / 2 ^ D)) := by rw [Nat.mul_comm (2 ^ D) 4, Nat.mul_assoc]
    rw [e] at h
    omega
  unfold Lf
  rw [hp, hdiv, hmod]
  generalize M % 2 ^ D = r at *
  generalize M / 2 ^ D = q at *
  refine ⟨?_, by omega⟩
  congr 1
  have key : (2 ^ D * 4 < 2 * (4 * r + s) ∨ 2 * (4 * r + s) = 2 ^ D * 4 ∧ q % 2 = 1) ↔ (0 < D ∧ (2 ^ (D - 1) < r ∨ (r = 2 ^ (D - 1) ∧ (s = 1 ∨ q % 2 = 1)))) := by
    cases D with
    | zero => simp only [Nat.pow_zero] at hlt ⊢; omega
    | succ d =>
      rw [Nat.pow_succ] at hlt ⊢
      simp only [Nat.add_sub_cancel]
      generalize 2 ^ d = c at *
      omega
  simp only [key]
structure Drop (M : Nat) (e : Int) (D : Nat) : Prop where
  le : D ≤ 63
  stop : D < 63 → M / 2 ^ D < 2 ^ 53 ∧ -1074 ≤ e + D
  least : ∀ d, d < D → 2 ^ 53 ≤ M / 2 ^ d ∨ e + d < -1074
def qOf (M D s : Nat) : Nat := M / 2 ^ D + (if 0 < D ∧ (2 ^ (D - 1) < M % 2 ^ D ∨ (M % 2 ^ D = 2 ^ (D - 1) ∧ (s = 1 ∨ M / 2 ^ D % 2 = 1))) then 1 else 0)
theorem qOf_le {M D s : Nat} (h : M / 2 ^ D < 2 ^ 53) : qOf M D s ≤ 2 ^ 53 := by
  unfold qOf; split <;> omega
theorem qOf_ge {M D s : Nat} : M / 2 ^ D ≤ qOf M D s := by unfold qOf; omega
theorem div_lt {M D : Nat} {c : Nat} (h : M / 2 ^ D < c) : M < c * 2 ^ D := (Nat.div_lt_iff_lt_mul (B1 D)).1 h
theorem le_div {M D : Nat} {c : Nat} (h : c ≤ M / 2 ^ D) : c * 2 ^ D ≤ M := (Nat.le_div_iff_mul_le (B1 D)).1 h
theorem We {V : Nat} {E L : Int} (h : (E + V.log2 - 52 = L ∧ -1074 ≤ L) ∨ (E + V.log2 - 52 ≤ L ∧ L = -1074)) : B2 V E = L := by unfold B2; omega
theorem log2_quad {M s : Nat} (hs : s ≤ 1) (hM : M ≠ 0) : (4 * M + s).log2 = M.log2 + 2 := by
  have h1 := Nat.log2_self_le hM
  have h2 := Nat.lt_log2_self (n := M)
  refine Sp ?_ ?_
  · rw [Nat.pow_add]; omega
  · have e : 2 ^ (M.log2 + 2 + 1) = 2 ^ (M.log2 + 1) * 4 := by rw [show M.log2 + 2 + 1 = M.log2 + 1 + 2 by omega, Nat.pow_add]
    omega
theorem near_drop {M D s : Nat} {e : Int} (hD : Drop M e D) (hs : s ≤ 1) (hV : 4 * M + s ≠ 0) (hM : M < 2 ^ 64) (he : -1137 ≤ e ∨ (M < 2 ^ 62 ∧ -1140 ≤ e)) (hr : s = 1 → 2 ^ 52 ≤ M ∨ e ≤ -1074) :
    B5 (4 * M + s) (e - 2) = B5 (if e + D < -1074 then 0 else qOf M D s) (max (e + D) (-1074)) ∧
    flagsOf (4 * M + s) (e - 2) = flags (B5 (4 * M + s) (e - 2)) (decide (M % 2 ^ D = 0 ∧ s = 0)) ∧
    (if e + D < -1074 then 0 else qOf M D s) ≤ 2 ^ 53 := by
  have hA := B1 D
  by_cases hlow : e + D < -1074
  ·
    have hD63 : D = 63 := by
      rcases Nat.lt_or_ge D 63 with h | h
      · have := (hD.stop h).2; omega
      · have := hD.le; omega
    subst hD63
    have hM62 : M < 2 ^ 62 := by rcases he with h | h; omega; exact h.1
    have he2 : -1140 ≤ e := by rcases he with h | h; omega; exact h.2
    have hV64 : 4 * M + s < 2 ^ 64 := by omega
    have hlog : (4 * M + s).log2 < 64 := (Nat.log2_lt hV).2 hV64
    have hl : B2 (4 * M + s) (e - 2) = -1074 := We (.inr ⟨by omega, rfl⟩)
    obtain ⟨k, hk⟩ : ∃ k : Nat, (-1074 - (e - 2)).toNat = 66 + k := ⟨(-1074 - (e - 2)).toNat - 66, by omega⟩
    have e2 : (-(-1074 - (e - 2))).toNat = 0 := by omega
    have hp : 2 ^ 66 ≤ 2 ^ (66 + k) := Nat.pow_le_pow_right (by decide) (by omega)
    have hsm : 4 * M + s < 2 ^ (66 + k) := by omega
    have hz : Iu (4 * M + s) (-1074 - (e - 2)) = 0 := by
      unfold Iu Lf
      rw [e2, hk, Nat.pow_zero, Nat.mul_one, Nat.div_eq_of_lt hsm, Nat.mod_eq_of_lt hsm, if_neg (by omega)]
    have hru : B5 (4 * M + s) (e - 2) = 0 := by
      unfold B5 kept
      rw [if_neg hV, hl, hz]
      simp
    refine ⟨?_, ?_, ?_⟩
    · rw [hru, if_pos hlow]; rfl
    · unfold flagsOf exact Lb
      rw [if_neg hV, hl, e2, hk, Nat.pow_zero, Nat.mul_one, Nat.mod_eq_of_lt hsm]
      congr 1
      have h63 : M % 2 ^ 63 = M := Nat.mod_eq_of_lt (by omega)
      rw [h63, Bool.eq_iff_iff]
      simp only [decide_eq_true_eq]
      omega
    · rw [if_pos hlow]; exact Nat.zero_le _
  · have hmax : max (e + D) (-1074) = e + D := by omega
    have hq : M / 2 ^ D < 2 ^ 53 := by
      rcases Nat.lt_or_ge D 63 with h | h
      · exact (hD.stop h).1
      · have : D = 63 := by have := hD.le; omega
        subst this
        exact Nat.lt_of_le_of_lt (Nat.div_le_of_le_mul (show M ≤ 2 ^ 63 * 2 by omega)) (by decide)
    obtain ⟨c1, c2⟩ := rdiv_code (M := M) (D := D) hs
    rw [if_neg hlow, hmax]
    refine ⟨?_, ?_, qOf_le hq⟩
    all_goals
      by_cases hD0 : D = 0 ∧ s = 0
      · obtain ⟨rfl, rfl⟩ := hD0
        have hM0 : M ≠ 0 := by omega
        obtain ⟨s1, s2⟩ := Dg M 2 e
        have e1 : M * 2 ^ 2 = 4 * M + 0 := by omega
        have e2 : e - ((2 : Nat) : Int) = e - 2 := by omega
        rw [e1, e2] at s1 s2
        have hq0 : qOf M 0 0 = M := by unfold qOf; simp
        have hle : B2 M e ≤ e := by
          have : M.log2 < 53 := (Nat.log2_lt hM0).2 (by simpa using hq)
          unfold B2; simp only [Int.natCast_zero, Int.add_zero] at hlow; omega
        first
        | (rw [s1, hq0]; simp; done)
        | (rw [s2, s1]
           unfold flagsOf exact Lb
           have z : (B2 M e - e).toNat = 0 := by omega
           rw [if_neg hM0, z]
           simp [Nat.mod_one])
      ·
        have hl : B2 (4 * M + s) (e - 2) = e + D := by
          by_cases hM0 : M = 0
          · subst hM0
            have hs1 : s = 1 := by omega
            subst hs1
            have hle : e + D = -1074 := by
              rcases Nat.eq_zero_or_pos D with rfl | hpos
              · have := hr rfl; omega
              · have h := hD.least (D - 1) (by omega)
                simp only [Nat.zero_div] at h
                omega
            refine We (.inr ⟨?_, hle⟩)
            have : (4 * 0 + 1 : Nat).log2 = 0 := by decide
            rw [this]; omega
          · have hlog := log2_quad hs hM0
            have hub : M.log2 < 53 + D := by
              rw [Nat.log2_lt hM0, Nat.pow_add]; exact div_lt hq
            have hcase : 52 + D ≤ M.log2 ∨ e + D = -1074 := by
              rcases Nat.eq_zero_or_pos D with rfl | hpos
              · have hs1 : s = 1 := by omega
                rcases hr hs1 with h | h
                · left; rw [Nat.le_log2 hM0]; simpa using h
                · right; simp only [Int.natCast_zero, Int.add_zero] at hlow ⊢; omega
              · rcases hD.least (D - 1) (by omega) with h | h
                · left
                  rw [Nat.le_log2 hM0]
                  have := le_div h
                  have e1 : 2 ^ (52 + D) = 2 ^ 53 * 2 ^ (D - 1) := by rw [← Nat.pow_add]; congr 1; omega
                  rw [e1]; exact this
                · right; omega
            refine We ?_
            rw [hlog]
            rcases hcase with h | h
            · left; omega
            · right; omega
        have e1 : (e + D - (e - 2)).toNat = D + 2 := by omega
        have e2 : (-(e + (D : Int) - (e - 2))).toNat = 0 := by omega
        have hkept : kept (4 * M + s) (e - 2) = qOf M D s := by
          unfold kept Iu
          rw [hl, e1, e2, Nat.pow_zero, Nat.mul_one, c1]; rfl
        first
        | (have hbig : 2 ^ 52 ≤ qOf M D s ∨ e + D = -1074 := by
             rcases Nat.eq_zero_or_pos D with rfl | hpos
             · have hs1 : s = 1 := by omega
               rcases hr hs1 with h | h
               · left; exact Nat.le_trans (by simpa using h) qOf_ge
               · right; simp only [Int.natCast_zero, Int.add_zero] at hlow ⊢; omega
             · rcases hD.least (D - 1) (by omega) with h | h
               · left
                 refine Nat.le_trans ?_ qOf_ge
                 rw [Nat.le_div_iff_mul_le hA]
                 have := le_div h
                 have e1 : 2 ^ 52 * 2 ^ D = 2 ^ 53 * 2 ^ (D - 1) := by rw [← Nat.pow_add, ← Nat.pow_add]; congr 1; omega
                 rw [e1]; exact this
               · right; omega
           rw [rung_pack (qOf_le hq) (by omega) hbig]
           unfold B5
           rw [if_neg hV, hl, hkept]; done)
        | (unfold flagsOf exact Lb
           rw [if_neg hV, hl, e1, e2, Nat.pow_zero, Nat.mul_one]
           congr 1
           rw [Bool.eq_iff_iff]
           simp only [decide_eq_true_eq]
           exact c2)
theorem Xw (n : Bool) {r : Nat} (h : r < 2 ^ 63) : C5 (Be n r) = r / 2 ^ 52 := by
  unfold C5 Be; cases n
  · simp only [Bool.false_eq_true, if_false]; omega
  · simp only [if_true]; omega
theorem Wn (n : Bool) (r : Nat) : Cl (Be n r) = r % 2 ^ 52 := by
  unfold Cl Be; cases n
  · rfl
  · simp only [if_true]; omega
theorem Ts (n : Bool) {r : Nat} (h : r ≤ Dt) : Ai (Be n r) = if r = Dt then 3 else if 2 ^ 52 ≤ r then 2 else if 0 < r then 1 else 0 := by
  rw [Gv] at *
  unfold Ai
  rw [Xw n (by omega), Wn]
  by_cases h1 : r = 9218868437227405312
  · subst h1; simp
  · rw [if_neg h1, if_neg (by omega)]
    by_cases h2 : 2 ^ 52 ≤ r
    · rw [if_pos h2, if_pos (by omega)]
    · rw [if_neg h2, if_neg (by omega)]
      by_cases h3 : 0 < r
      · rw [if_pos h3, if_pos (by omega)]
      · rw [if_neg h3, if_neg (by omega)]
end Go.Rnd
namespace Go.Rnd
open Ieee
theorem cut_eq (neg : Bool) (V k : Nat) : Toward.even.cut neg V k = Lf V k := by
  unfold Toward.cut Lf
  simp only [Nat.shiftLeft_eq, Nat.one_mul]
  by_cases h : k ≤ V.log2 + 2
  · rw [Nat.min_eq_left h]
    congr 1
    by_cases h1 : 2 ^ k < 2 * (V % 2 ^ k)
    · simp [h1]
    · by_cases h2 : 2 * (V % 2 ^ k) = 2 ^ k ∧ V / 2 ^ k % 2 = 1
      · simp [h2.1, h2.2]
      · simp [h1, h2]
        intro h3
        have := Nat.mod_lt (V / 2 ^ k) (show 0 < 2 by decide)
        omega
  · rw [Nat.min_eq_right (by omega)]
    have hV : V < 2 ^ (V.log2 + 1) := Nat.lt_log2_self
    have e : 2 ^ (V.log2 + 2) = 2 * 2 ^ (V.log2 + 1) := by rw [Nat.pow_succ, Nat.mul_comm]
    have hk : 2 ^ (V.log2 + 2) ≤ 2 ^ k := Nat.pow_le_pow_right (by decide) (by omega)
    have d1 : V / 2 ^ (V.log2 + 2) = 0 := Nat.div_eq_of_lt (by omega)
    have d2 : V / 2 ^ k = 0 := Nat.div_eq_of_lt (by omega)
    have m1 : V % 2 ^ (V.log2 + 2) = V := Nat.mod_eq_of_lt (by omega)
    have m2 : V % 2 ^ k = V := Nat.mod_eq_of_lt (by omega)
    rw [d1, d2, m1, m2]
    have c1 : ¬ (2 ^ (V.log2 + 2) < 2 * V) := by omega
    have c2 : ¬ (2 ^ k < 2 * V) := by omega
    simp [c1, c2]
theorem word_eq (neg : Bool) (r : Nat) : Ieee.double.word neg r = Be neg r := rfl
theorem nearest_eq (neg : Bool) (M : Nat) (E : Int) : Ieee.double.nearest neg M E = Be neg (B5 M E) := by
  unfold Format.nearest B5
  by_cases h : M = 0
  · rw [if_pos h, if_pos h]; rfl
  · rw [if_neg h, if_neg h, word_eq]
    have e1 : Ieee.double.leastPlace = -1074 := by decide
    have e2 : max (E + (M.log2 : Int) - (Ieee.double.fractionBits : Int)) Ieee.double.leastPlace = B2 M E := by rw [e1]; rfl
    rw [e2, e1, cut_eq, Nat.shiftLeft_eq]
    unfold kept Iu
    have e3 : (-(B2 M E - E)).toNat = (E - B2 M E).toNat := by congr 1; omega
    have e4 : B2 M E - -1074 = B2 M E + 1074 := by omega
    rw [e3, e4]
    rfl
theorem Gb (b : Nat) : (C5 b = 2047 ∧ Cl b = 0 ∧ Ai b = 3) ∨ (C5 b = 2047 ∧ Cl b ≠ 0 ∧ Ai b = 4) ∨ (C5 b < 2047 ∧ Ai b ≠ 3 ∧ Ai b ≠ 4) := by
  have := Hy b
  unfold Ai
  by_cases h1 : C5 b = 2047
  · by_cases h2 : Cl b = 0 <;> simp [h1, h2]
  · refine .inr (.inr ⟨by omega, ?_⟩)
    rw [if_neg h1]
    split
    · decide
    · split <;> decide
theorem Np (b : Nat) : b % 2 ^ 63 = C5 b * 2 ^ 52 + Cl b := by unfold C5 Cl; omega
def M3 (b : Nat) : Datum := if Ai b = 4 then .nan (Bi b) (Cl b) else if Ai b = 3 then .infinity (Bi b) else .number (Bi b) (Aq b) (Ay b)
theorem Jp {b : Nat} (h : b < 2 ^ 64) : Ieee.double.read b = M3 b := by
  unfold Format.read M3
  have e0 : Ieee.double.signWeight = 2 ^ 63 := rfl
  have e1 : Ieee.double.leastPlace = -1074 := by decide
  have e2 : Ieee.double.binade = 2 ^ 52 := rfl
  have e3 : Ieee.double.infRung = Dt := rfl
  have hn : (b / 2 ^ 63 % 2 == 1) = Bi b := by
    unfold Bi
    rw [Bool.eq_iff_iff]
    simp only [beq_iff_eq, decide_eq_true_eq]
    omega
  dsimp only
  rw [e0, e1, e2, e3, hn, Np, Gv]
  have hf : Cl b < 2 ^ 52 := Iy b
  rcases Gb b with ⟨h1, h2, h3⟩ | ⟨h1, h2, h3⟩ | ⟨h1, h2, h3⟩
  · rw [if_neg (by omega), if_neg (by omega), if_pos (by omega), if_neg (by omega), if_pos h3]
  · rw [if_neg (by omega), if_neg (by omega), if_neg (by omega), if_pos h3]
    have e : C5 b * 2 ^ 52 + Cl b - 9218868437227405312 = Cl b := by omega
    rw [e]
  · rw [if_neg h3, if_neg h2]
    by_cases h0 : C5 b = 0
    · rw [if_pos (by omega)]
      unfold Aq Ay
      rw [if_pos h0, if_pos h0, h0, Nat.zero_mul, Nat.zero_add]
    · rw [if_neg (by omega), if_pos (by omega)]
      unfold Aq Ay
      rw [if_neg h0, if_neg h0]
      have m1 : (C5 b * 2 ^ 52 + Cl b) % 2 ^ 52 = Cl b := by omega
      have m2 : (C5 b * 2 ^ 52 + Cl b) / 2 ^ 52 = C5 b := by omega
      have e : (-1074 : Int) + ((C5 b - 1 : Nat) : Int) = (C5 b : Int) - 1075 := by omega
      rw [m1, m2, Nat.add_comm (2 ^ 52), e]
theorem Px (s : Bool) (m : Nat) (e : Int) : Ieee.double.write (.number s m e) = Be s (B5 m e) := nearest_eq s m e
theorem Ok {b : Nat} (h : b < 2 ^ 64) (h3 : Ai b = 3) : Be (Bi b) Dt = b := by
  rcases Gb b with ⟨h1, h2, _⟩ | ⟨_, _, h4⟩ | ⟨_, h4, _⟩
  · have e := Np b
    rw [h1, h2] at e
    rw [Gv]
    unfold Be Bi
    by_cases hb : 2 ^ 63 ≤ b
    · simp [hb]; omega
    · simp [hb]; omega
  · omega
  · omega
theorem He (s : Bool) {r : Nat} (h : r ≤ Dt) : Dj (Be s r) = Be s r := by
  unfold Dj
  rw [if_neg]
  rw [Ts s h]
  split
  · decide
  · split
    · decide
    · split <;> decide
theorem P1 (s : Bool) (m up : Nat) : Ieee.signed s m up = Gu s (m * 2 ^ up) := by
  unfold Ieee.signed Gu
  rw [Nat.shiftLeft_eq]
theorem Gn {b : Nat} (h : Ai b = 4) : M3 b = .nan (Bi b) (Cl b) := if_pos h
theorem Dx {b : Nat} (h : Ai b = 3) : M3 b = .infinity (Bi b) := by unfold M3; rw [if_neg (by omega), if_pos h]
theorem Dw {b : Nat} (h3 : Ai b ≠ 3) (h4 : Ai b ≠ 4) : M3 b = .number (Bi b) (Aq b) (Ay b) := by unfold M3; rw [if_neg h4, if_neg h3]
theorem addN_nan {a b : Nat} (h : Ai a = 4 ∨ Ai b = 4) : Kf a b = (Pu, 0) := if_pos h
theorem addN_inf {a b : Nat} (h4 : ¬ (Ai a = 4 ∨ Ai b = 4)) (h : Ai a = 3) : Kf a b = (if Ai b = 3 ∧ a ≠ b then (Pu, 16) else (a, 0)) := by unfold Kf; rw [if_neg h4, if_pos h]
theorem addN_inf' {a b : Nat} (h4 : ¬ (Ai a = 4 ∨ Ai b = 4)) (h : Ai a ≠ 3) (h' : Ai b = 3) : Kf a b = (b, 0) := by unfold Kf; rw [if_neg h4, if_neg h, if_pos h']
theorem addN_num {a b : Nat} (h4 : ¬ (Ai a = 4 ∨ Ai b = 4)) (h : Ai a ≠ 3) (h' : Ai b ≠ 3) :
    Kf a b = Nq (Be (Bi a && Bi b) 0) (Io a (min (Ay a) (Ay b)) + Io b (min (Ay a) (Ay b))) (min (Ay a) (Ay b)) := by
  unfold Kf; rw [if_neg h4, if_neg h, if_neg h']
theorem sum_num (s : Bool) (m : Nat) (i : Int) (t : Bool) (n : Nat) (j : Int) : (Datum.number s m i).sum (Datum.number t n j) =
    some (.number (if Gu s (m * 2 ^ (i - min i j).toNat) + Gu t (n * 2 ^ (j - min i j).toNat) = 0 then s && t else Gu s (m * 2 ^ (i - min i j).toNat) + Gu t (n * 2 ^ (j - min i j).toNat) < 0)
      (Gu s (m * 2 ^ (i - min i j).toNat) + Gu t (n * 2 ^ (j - min i j).toNat)).natAbs (min i j)) := by
  rw [← P1, ← P1]
  rfl
theorem sum_ieee {a b : Nat} (ha : a < 2 ^ 64) (hb : b < 2 ^ 64) {d : Nat} (hd : Ai d = 4) :
    Dj ((((M3 a).sum (M3 b)).map Ieee.double.write).getD d) = (Kf a b).1 := by
  have cd : Dj d = Pu := if_pos hd
  by_cases h4 : Ai a = 4 ∨ Ai b = 4
  · rw [addN_nan h4]
    by_cases a4 : Ai a = 4
    · rw [Gn a4]; exact cd
    · have b4 := h4.resolve_left a4
      rw [Gn b4]
      by_cases a3 : Ai a = 3
      · rw [Dx a3]; exact cd
      · rw [Dw a3 a4]; exact cd
  · have a4 : Ai a ≠ 4 := fun h => h4 (.inl h)
    have b4 : Ai b ≠ 4 := fun h => h4 (.inr h)
    by_cases a3 : Ai a = 3
    · have wa := Ok ha a3
      rw [addN_inf h4 a3, Dx a3]
      by_cases b3 : Ai b = 3
      · have wb := Ok hb b3
        rw [Dx b3]
        by_cases hs : Bi a = Bi b
        · have hab : a = b := by rw [← wa, ← wb, hs]
          rw [if_neg (fun h => h.2 hab)]
          have : (Datum.infinity (Bi a)).sum (.infinity (Bi b)) = some (.infinity (Bi a)) := if_pos hs
          rw [this]
          show Dj (Be (Bi a) Dt) = a
          rw [He _ (Nat.le_refl _), wa]
        · have hab : a ≠ b := fun h => hs (by rw [h])
          have : (Datum.infinity (Bi a)).sum (.infinity (Bi b)) = none := if_neg hs
          rw [this, if_pos ⟨b3, hab⟩]
          exact cd
      · rw [Dw b3 b4, if_neg (fun h => b3 h.1)]
        show Dj (Be (Bi a) Dt) = a
        rw [He _ (Nat.le_refl _), wa]
    · rw [Dw a3 a4]
      by_cases b3 : Ai b = 3
      · have wb := Ok hb b3
        rw [addN_inf' h4 a3 b3, Dx b3]
        show Dj (Be (Bi b) Dt) = b
        rw [He _ (Nat.le_refl _), wb]
      · rw [addN_num h4 a3 b3, Dw b3 b4, sum_num]
        show Dj (Ieee.double.write (.number _ _ _)) = _
        rw [Px, He _ (L4 _ _)]
        unfold Nq Io
        by_cases h0 : Gu (Bi a) (Aq a * 2 ^ (Ay a - min (Ay a) (Ay b)).toNat) + Gu (Bi b) (Aq b * 2 ^ (Ay b - min (Ay a) (Ay b)).toNat) = 0
        · rw [if_pos h0, if_pos h0, h0]
          have : B5 (Int.natAbs 0) (min (Ay a) (Ay b)) = 0 := if_pos rfl
          rw [this]
        · rw [if_neg h0, if_neg h0]
theorem minus_parts {b : Nat} (h : b < 2 ^ 64) : Bi (F6 b) = !(Bi b) ∧ C5 (F6 b) = C5 b ∧ Cl (F6 b) = Cl b := by
  unfold Bi C5 Cl F6
  by_cases hb : 2 ^ 63 ≤ b
  · rw [if_pos hb]
    refine ⟨?_, by omega, by omega⟩
    have : ¬ 2 ^ 63 ≤ b - 2 ^ 63 := by omega
    simp [hb, this]
  · rw [if_neg hb]
    refine ⟨?_, by omega, by omega⟩
    have : 2 ^ 63 ≤ b + 2 ^ 63 := by omega
    simp [hb, this]
theorem minusN_lt' {b : Nat} (h : b < 2 ^ 64) : F6 b < 2 ^ 64 := by unfold F6; split <;> omega
theorem read_minus {b : Nat} (h : b < 2 ^ 64) : M3 (F6 b) = (M3 b).opposite := by
  obtain ⟨h1, h2, h3⟩ := minus_parts h
  have hk : Ai (F6 b) = Ai b := by unfold Ai; rw [h2, h3]
  have hm : Aq (F6 b) = Aq b := by unfold Aq; rw [h2, h3]
  have he : Ay (F6 b) = Ay b := by unfold Ay; rw [h2]
  by_cases b4 : Ai b = 4
  · rw [Gn b4, Gn (by omega), h1, h3]; rfl
  · by_cases b3 : Ai b = 3
    · rw [Dx b3, Dx (by omega), h1]; rfl
    · rw [Dw b3 b4, Dw (by omega) (by omega), h1, hm, he]; rfl
theorem sub_ieee {a b : Nat} (ha : a < 2 ^ 64) (hb : b < 2 ^ 64) {d : Nat} (hd : Ai d = 4) : Dj ((Ieee.double.sub a b).getD d) = (subN a b).1 := by
  unfold Format.sub
  rw [Jp ha, Jp hb, ← read_minus hb]
  exact sum_ieee ha (minusN_lt' hb) hd
theorem Vz (b : Nat) : (Ieee.double.read b).isNaN = decide (Ai b = 4) := by
  unfold Format.read
  have e0 : Ieee.double.signWeight = 2 ^ 63 := rfl
  have e2 : Ieee.double.binade = 2 ^ 52 := rfl
  have e3 : Ieee.double.infRung = Dt := rfl
  dsimp only
  rw [e0, e2, e3, Np, Gv]
  have hf : Cl b < 2 ^ 52 := Iy b
  rcases Gb b with ⟨h1, h2, h3⟩ | ⟨h1, h2, h3⟩ | ⟨h1, h2, h3⟩
  · rw [if_neg (by omega), if_neg (by omega), if_pos (by omega), decide_eq_false (by omega)]; rfl
  · rw [if_neg (by omega), if_neg (by omega), if_neg (by omega), decide_eq_true h3]; rfl
  · rw [decide_eq_false h3]
    by_cases h0 : C5 b = 0
    · rw [if_pos (by omega)]; rfl
    · rw [if_neg (by omega), if_pos (by omega)]; rfl
end Go.Rnd
namespace Go.Rnd
open Ieee
theorem Tg {V W k : Nat} (h : V ≤ W) : Lf V k ≤ Lf W k := by
  unfold Lf
  have hA := B1 k
  have hq : V / 2 ^ k ≤ W / 2 ^ k := Nat.div_le_div_right h
  rcases Nat.lt_or_ge (V / 2 ^ k) (W / 2 ^ k) with h1 | h1
  · split <;> split <;> omega
  · have he : V / 2 ^ k = W / 2 ^ k := by omega
    have v := Nat.div_add_mod V (2 ^ k)
    have w := Nat.div_add_mod W (2 ^ k)
    rw [he] at v ⊢
    have hr : V % 2 ^ k ≤ W % 2 ^ k := by omega
    by_cases hc : 2 ^ k < 2 * (V % 2 ^ k) ∨ 2 * (V % 2 ^ k) = 2 ^ k ∧ W / 2 ^ k % 2 = 1
    · have hc' : 2 ^ k < 2 * (W % 2 ^ k) ∨ 2 * (W % 2 ^ k) = 2 ^ k ∧ W / 2 ^ k % 2 = 1 := by
        rcases hc with hc | ⟨hc, hd⟩
        · exact .inl (by omega)
        · rcases Nat.lt_or_ge (2 ^ k) (2 * (W % 2 ^ k)) with h2 | h2
          · exact .inl h2
          · exact .inr ⟨by omega, hd⟩
      rw [if_pos hc, if_pos hc']
      exact Nat.le_refl _
    · rw [if_neg hc]
      exact Nat.le_add_right _ _
theorem rdiv_le {V c k : Nat} (h : V ≤ c * 2 ^ k) : Lf V k ≤ c := by
  have h1 := Tg (k := k) h
  have : Lf (c * 2 ^ k) k = c := by
    have := R9 c k 0
    rw [Nat.add_zero, M4] at this
    exact this
  omega
theorem le_rdiv {V c k : Nat} (h : c * 2 ^ k ≤ V) : c ≤ Lf V k := by
  have h1 := Tg (k := k) h
  have : Lf (c * 2 ^ k) k = c := by
    have := R9 c k 0
    rw [Nat.add_zero, M4] at this
    exact this
  omega
theorem rdivZ_mono {V W : Nat} {s : Int} (h : V ≤ W) : Iu V s ≤ Iu W s := Tg (Nat.mul_le_mul_right _ h)
theorem lastE_mono {V W : Nat} {E : Int} (hV : V ≠ 0) (h : V ≤ W) : B2 V E ≤ B2 W E := by
  have : V.log2 ≤ W.log2 := (Nat.le_log2 (by omega)).2 (Nat.le_trans (Nat.log2_self_le hV) h)
  unfold B2; omega
theorem kept_le {V : Nat} {E : Int} : kept V E ≤ 2 ^ 53 := by
  have hV : V < 2 ^ (V.log2 + 1) := Nat.lt_log2_self
  unfold kept Iu
  refine rdiv_le ?_
  have hl : E + V.log2 - 52 ≤ B2 V E := by unfold B2; omega
  rw [← Nat.pow_add]
  have h1 : V * 2 ^ (-(B2 V E - E)).toNat ≤ 2 ^ (V.log2 + 1) * 2 ^ (-(B2 V E - E)).toNat := Nat.mul_le_mul_right _ (Nat.le_of_lt hV)
  rw [← Nat.pow_add] at h1
  exact Nat.le_trans h1 (Nat.pow_le_pow_right (by decide) (by omega))
theorem Zw {V : Nat} {E : Int} (hV : V ≠ 0) (hl : B2 V E = E + V.log2 - 52) : 2 ^ 52 ≤ kept V E := by
  have h1 : 2 ^ V.log2 ≤ V := Nat.log2_self_le hV
  unfold kept Iu
  refine le_rdiv ?_
  rw [← Nat.pow_add]
  have h2 : 2 ^ V.log2 * 2 ^ (-(B2 V E - E)).toNat ≤ V * 2 ^ (-(B2 V E - E)).toNat := Nat.mul_le_mul_right _ h1
  rw [← Nat.pow_add] at h2
  exact Nat.le_trans (Nat.pow_le_pow_right (by decide) (by omega)) h2
theorem Xs {V W : Nat} {E : Int} (h : V ≤ W) : B5 V E ≤ B5 W E := by
  unfold B5
  by_cases hV : V = 0
  · rw [if_pos hV]; exact Nat.zero_le _
  · have hW : W ≠ 0 := by omega
    rw [if_neg hV, if_neg hW]
    have hl := lastE_mono (E := E) hV h
    have key : (B2 V E + 1074).toNat * 2 ^ 52 + kept V E ≤ (B2 W E + 1074).toNat * 2 ^ 52 + kept W E := by
      rcases Int.lt_or_eq_of_le hl with h1 | h1
      · have hb : -1074 ≤ B2 V E := by unfold B2; omega
        have hn : B2 W E = E + W.log2 - 52 := by unfold B2 at h1 hb ⊢; omega
        have k1 := kept_le (V := V) (E := E)
        have k2 := Zw hW hn
        have h2 : (B2 V E + 1074).toNat + 1 ≤ (B2 W E + 1074).toNat := by omega
        have h3 : ((B2 V E + 1074).toNat + 1) * 2 ^ 52 ≤ (B2 W E + 1074).toNat * 2 ^ 52 := Nat.mul_le_mul_right _ h2
        rw [Nat.add_mul (B2 V E + 1074).toNat 1 (2 ^ 52), Nat.one_mul] at h3
        omega
      · unfold kept
        rw [h1]
        exact Nat.add_le_add_left (rdivZ_mono h) _
    omega
theorem P5 {b : Nat} (h4 : Ai b ≠ 4) : B5 (Aq b) (Ay b) = b % 2 ^ 63 := by
  have hf : Cl b < 2 ^ 52 := Iy b
  have hr := Np b
  rw [hr]
  unfold Aq Ay
  by_cases h0 : C5 b = 0
  · rw [if_pos h0, if_pos h0, Vl hf, h0, Nat.zero_mul, Nat.zero_add]
  · rw [if_neg h0, if_neg h0, K5 (by omega) (by omega) (by omega), Gv]
    have e : ((C5 b : Int) - 1075 + 1074).toNat = C5 b - 1 := by omega
    rw [e]
    have h5 : (C5 b - 1) * 2 ^ 52 + (Cl b + 2 ^ 52) = C5 b * 2 ^ 52 + Cl b := by omega
    rw [h5]
    rcases Gb b with ⟨h1, h2, _⟩ | ⟨_, _, h⟩ | ⟨h1, _, _⟩
    · rw [h1, h2]; decide
    · exact absurd h h4
    · omega
def Gq (b : Nat) : Int := Gu (Bi b) (b % 2 ^ 63)
def Qv (b : Nat) (f : Int) : Nat := Aq b * 2 ^ (Ay b - f).toNat
theorem Sm {b : Nat} {f : Int} (h4 : Ai b ≠ 4) (hf : f ≤ Ay b) : B5 (Qv b f) f = b % 2 ^ 63 := by
  rw [← P5 h4]
  have h := (Dg (Aq b) (Ay b - f).toNat (Ay b)).1
  have e : Ay b - ((Ay b - f).toNat : Int) = f := by omega
  rw [e] at h
  exact h
theorem mag_same {a b : Nat} (h : a % 2 ^ 63 = b % 2 ^ 63) (f : Int) : Qv a f = Qv b f := by
  have h1 : C5 a = C5 b := by unfold C5; omega
  have h2 : Cl a = Cl b := by unfold Cl; omega
  unfold Qv Aq Ay
  rw [h1, h2]
theorem mag_lt {a b : Nat} {f : Int} (ha : Ai a ≠ 4) (hb : Ai b ≠ 4) (hfa : f ≤ Ay a) (hfb : f ≤ Ay b) : Qv a f < Qv b f ↔ a % 2 ^ 63 < b % 2 ^ 63 := by
  constructor
  · intro h
    have h1 := Xs (E := f) (Nat.le_of_lt h)
    rw [Sm ha hfa, Sm hb hfb] at h1
    rcases Nat.lt_or_eq_of_le h1 with h2 | h2
    · exact h2
    · have := mag_same h2 f; omega
  · intro h
    rcases Nat.lt_or_ge (Qv a f) (Qv b f) with h1 | h1
    · exact h1
    · have h1 := Xs (E := f) h1
      rw [Sm ha hfa, Sm hb hfb] at h1
      omega
theorem mag_zero (b : Nat) (f : Int) : Qv b f = 0 ↔ b % 2 ^ 63 = 0 := by
  have hp := B1 (Ay b - f).toNat
  unfold Qv
  rw [Nat.mul_eq_zero, Np]
  have h1 : ¬ (2 ^ (Ay b - f).toNat = 0) := by omega
  have h2 : Aq b = 0 ↔ C5 b * 2 ^ 52 + Cl b = 0 := by unfold Aq; split <;> omega
  rw [h2]
  exact ⟨fun h => h.resolve_right h1, .inl⟩
theorem sgn_lt {s t : Bool} {m n m' n' : Nat} (h1 : m < n ↔ m' < n') (h2 : n < m ↔ n' < m') (h3 : m = 0 ↔ m' = 0) (h4 : n = 0 ↔ n' = 0) : Gu s m < Gu t n ↔ Gu s m' < Gu t n' := by
  unfold Gu
  cases s <;> cases t <;> simp <;> omega
theorem Yy {a b : Nat} {f : Int} (ha : Ai a ≠ 4) (hb : Ai b ≠ 4) (hfa : f ≤ Ay a) (hfb : f ≤ Ay b) : Io a f < Io b f ↔ Gq a < Gq b :=
  sgn_lt (mag_lt ha hb hfa hfb) (mag_lt hb ha hfb hfa) (mag_zero a f) (mag_zero b f)
theorem cmp_congr {x y x' y' : Int} (h1 : x < y ↔ x' < y') (h2 : y < x ↔ y' < x') : compare x y = compare x' y' := by
  show compareOfLessAndEq x y = compareOfLessAndEq x' y'
  unfold compareOfLessAndEq
  by_cases h : x < y
  · rw [if_pos h, if_pos (h1.1 h)]
  · rw [if_neg h, if_neg (fun k => h (h1.2 k))]
    by_cases e : x = y
    · rw [if_pos e, if_pos (by omega)]
    · rw [if_neg e, if_neg (by omega)]
theorem key_le {b : Nat} (h4 : Ai b ≠ 4) : b % 2 ^ 63 ≤ Dt := by
  rw [← P5 h4]; exact L4 _ _
theorem Ss {b : Nat} (h : Ai b = 3) : b % 2 ^ 63 = Dt := by
  rw [Np]
  rcases Gb b with ⟨h1, h2, _⟩ | ⟨_, _, h4⟩ | ⟨_, h4, _⟩
  · rw [h1, h2]; rfl
  · omega
  · omega
theorem Su {b : Nat} (h3 : Ai b ≠ 3) (h4 : Ai b ≠ 4) : b % 2 ^ 63 < Dt := by
  have hf : Cl b < 2 ^ 52 := Iy b
  rw [Np, Gv]
  rcases Gb b with ⟨_, _, h⟩ | ⟨_, _, h⟩ | ⟨h1, _, _⟩
  · exact absurd h h3
  · exact absurd h h4
  · omega
theorem cmp_lt {x y : Int} (h : x < y) : compare x y = .lt := by
  show compareOfLessAndEq x y = _; unfold compareOfLessAndEq; rw [if_pos h]
theorem cmp_gt {x y : Int} (h : y < x) : compare x y = .gt := by
  show compareOfLessAndEq x y = _; unfold compareOfLessAndEq; rw [if_neg (by omega), if_neg (by omega)]
theorem M9 {a b : Nat} (ha : a < 2 ^ 64) (hb : b < 2 ^ 64) (a4 : Ai a ≠ 4) (b4 : Ai b ≠ 4) : Ieee.double.order a b = some (compare (Gq a) (Gq b)) := by
  unfold Format.order
  rw [Jp ha, Jp hb]
  have hpos : 0 < Dt := by decide
  by_cases a3 : Ai a = 3
  · have ka := Ss a3
    rw [Dx a3]
    by_cases b3 : Ai b = 3
    · have kb := Ss b3
      rw [Dx b3]
      show some (compare (Bi b).toNat (Bi a).toNat) = _
      unfold Gq
      rw [ka, kb]
      cases Bi a <;> cases Bi b <;> decide
    · have kb := Su b3 b4
      rw [Dw b3 b4]
      show some (if Bi a then Ordering.lt else .gt) = _
      unfold Gq Gu
      rw [ka]
      cases Bi a
      · rw [cmp_gt (by simp; split <;> omega)]; rfl
      · rw [cmp_lt (by simp; split <;> omega)]; rfl
  · have ka := Su a3 a4
    rw [Dw a3 a4]
    by_cases b3 : Ai b = 3
    · have kb := Ss b3
      rw [Dx b3]
      show some (if Bi b then Ordering.gt else .lt) = _
      unfold Gq Gu
      rw [kb]
      cases Bi b
      · rw [cmp_lt (by simp; split <;> omega)]; rfl
      · rw [cmp_gt (by simp; split <;> omega)]; rfl
    · rw [Dw b3 b4]
      show some (compare (Ieee.signed _ _ _) (Ieee.signed _ _ _)) = _
      rw [P1, P1]
      congr 1
      exact cmp_congr (Yy a4 b4 (Int.min_le_left _ _) (Int.min_le_right _ _)) (Yy b4 a4 (Int.min_le_right _ _) (Int.min_le_left _ _))
theorem Tm {a b : Nat} (ha : a < 2 ^ 64) (hb : b < 2 ^ 64) (h : Ai a = 4 ∨ Ai b = 4) : Ieee.double.order a b = none := by
  unfold Format.order
  rw [Jp ha, Jp hb]
  by_cases a4 : Ai a = 4
  · rw [Gn a4]; cases M3 b <;> rfl
  · rw [Gn (h.resolve_left a4)]; cases M3 a <;> rfl
theorem Nd (s : Bool) {r : Nat} (h : r < 2 ^ 63) : Gq (Be s r) = Gu s r := by
  unfold Gq Be Bi
  cases s
  · have h1 : ¬ 2 ^ 63 ≤ r := by omega
    have h2 : r % 2 ^ 63 = r := Nat.mod_eq_of_lt h
    simp only [Bool.false_eq_true, if_false, decide_eq_false h1, h2]
  · have h1 : 2 ^ 63 ≤ 2 ^ 63 + r := by omega
    have h2 : (2 ^ 63 + r) % 2 ^ 63 = r := by omega
    simp only [if_true, decide_eq_true h1, h2]
end Go.Rnd
namespace Go.Rnd
def Mi (a b : Nat) : Nat × Nat :=
  if Ai a = 4 ∨ Ai b = 4 then (Pu, 0)
  else if Ai a = 3 ∨ Ai b = 3 then (if Ai a = 0 ∨ Ai b = 0 then (Pu, 16) else (Be (Bi a != Bi b) Dt, 0))
  else (Be (Bi a != Bi b) (B5 (Aq a * Aq b) (Ay a + Ay b)), flagsOf (Aq a * Aq b) (Ay a + Ay b))
def Ei (X Y K : Nat) : Nat := 2 * (X * 2 ^ K / Y) + (if X * 2 ^ K % Y = 0 then 0 else 1)
def Uo (a b : Nat) : Nat × Nat :=
  if Ai a = 4 ∨ Ai b = 4 then (Pu, 0)
  else if Ai a = Ai b ∧ (Ai a = 3 ∨ Ai a = 0) then (Pu, 16)
  else if Ai a = 3 then (Be (Bi a != Bi b) Dt, 0)
  else if Ai b = 3 ∨ Ai a = 0 then (Be (Bi a != Bi b) 0, 0)
  else if Ai b = 0 then (Be (Bi a != Bi b) Dt, 8)
  else (Be (Bi a != Bi b) (B5 (Ei (Aq a) (Aq b) 120) (Ay a - Ay b - 121)), flagsOf (Ei (Aq a) (Aq b) 120) (Ay a - Ay b - 121))
theorem X2 (a b : Nat) : Mi a b = Mi b a := by
  have e : (Bi a != Bi b) = (Bi b != Bi a) := by cases Bi a <;> cases Bi b <;> rfl
  unfold Mi
  rw [e, Nat.mul_comm (Aq a), Int.add_comm (Ay a)]
  simp only [or_comm]
theorem near_stick {V k : Nat} {E : Int} (hm : 1 ≤ V / 2 ^ k) (hc : 2 ^ 53 ≤ V / 2 ^ k ∨ E + k + 1 ≤ -1074) :
    B5 (4 * (V / 2 ^ k) + (if V % 2 ^ k = 0 then 0 else 1)) (E + k - 2) = B5 V E ∧ flagsOf (4 * (V / 2 ^ k) + (if V % 2 ^ k = 0 then 0 else 1)) (E + k - 2) = flagsOf V E := by
  have hA := B1 k
  have h1 := Nat.div_add_mod V (2 ^ k)
  have h2 := Nat.mod_lt V hA
  generalize hq : V / 2 ^ k = q at *
  generalize hr : V % 2 ^ k = r at *
  by_cases h0 : r = 0
  · rw [if_pos h0]
    obtain ⟨a1, a2⟩ := Dg q k (E + k)
    obtain ⟨b1, b2⟩ := Dg q 2 (E + k)
    have e1 : E + (k : Int) - k = E := by omega
    have e2 : V = q * 2 ^ k := by rw [Nat.mul_comm]; omega
    have e3 : q * 2 ^ 2 = 4 * q + 0 := by omega
    have e4 : E + (k : Int) - ((2 : Nat) : Int) = E + k - 2 := by omega
    rw [e1, ← e2] at a1 a2
    rw [e3, e4] at b1 b2
    rw [a1, a2, b1, b2]
    exact ⟨rfl, rfl⟩
  · rw [if_neg h0]
    obtain ⟨d, rfl⟩ : ∃ d, k = d + 1 := by
      cases k with
      | zero => simp only [Nat.pow_zero] at h2; omega
      | succ d => exact ⟨d, rfl⟩
    have hD : 2 ^ (d + 1) = 2 * 2 ^ d := by rw [Nat.pow_succ]; omega
    rw [hD] at h1 h2
    generalize hc2 : 2 ^ d = c at *
    have p1 : (2 * q + 1 - 1) * c = 2 * c * q := by rw [Nat.add_sub_cancel, Nat.mul_comm, Nat.mul_left_comm, Nat.mul_assoc]
    have p2 : (2 * q + 1 + 1) * c = 2 * c * q + 2 * c := by
      rw [show 2 * q + 1 + 1 = 2 * (q + 1) by omega, Nat.mul_assoc, Nat.add_mul, Nat.mul_add, Nat.mul_comm q c, Nat.mul_assoc]; omega
    have lt1 : (2 * q + 1 - 1) * 2 ^ d < V := by rw [hc2, p1]; omega
    have lt2 : V < (2 * q + 1 + 1) * 2 ^ d := by rw [hc2, p2]; omega
    have od : (2 * q + 1) % 2 = 1 := by omega
    have lV := O4 od (by omega) lt1 lt2
    have l4 : (4 * q + 1).log2 = (2 * q + 1).log2 + 1 := O4 (d := 1) od (by omega) (by omega) (by omega)
    have hs : (2 * q + 1).log2 ≥ 54 ∨ E + d + 2 ≤ -1074 := by
      rcases hc with h | h
      · left; rw [ge_iff_le, Nat.le_log2 (by omega)]; omega
      · right; omega
    have hk : E + d + 2 ≤ B2 (2 * q + 1) (E + d) := by unfold B2; omega
    obtain ⟨a1, a2⟩ := Ou (E := E) od lt1 lt2 (by unfold B2; rw [lV]; omega) hk
    have ee : E + ((d + 1 : Nat) : Int) - 2 + ((1 : Nat) : Int) = E + d := by omega
    obtain ⟨b1, b2⟩ := Ou (V := 4 * q + 1) (d := 1) (E := E + ((d + 1 : Nat) : Int) - 2) od (by omega) (by omega) (by unfold B2; rw [l4]; omega) (by rw [ee]; unfold B2; omega)
    rw [ee] at b1 b2
    rw [a1, a2, b1, b2]
    exact ⟨rfl, rfl⟩
theorem Sj (n : Bool) {V k : Nat} {E e : Int} {s : Bool} (he : e = E + k) (hs : s = decide (V % 2 ^ k ≠ 0)) (hm : 1 ≤ V / 2 ^ k) (hc : 2 ^ 53 ≤ V / 2 ^ k ∨ E + k + 1 ≤ -1074) :
    Fg n (V / 2 ^ k) e s = (Be n (B5 V E), flagsOf V E) := by
  obtain ⟨a, b⟩ := near_stick hm hc
  have e1 : s.toNat = if V % 2 ^ k = 0 then 0 else 1 := by
    rw [hs]
    by_cases h : V % 2 ^ k = 0
    · rw [decide_eq_false (by omega), if_pos h]; rfl
    · rw [decide_eq_true h, if_neg h]; rfl
  unfold Fg
  rw [he, e1, a, b]
theorem Ve {X Y K : Nat} (d : Nat) (E : Int) (hY : 0 < Y) (h : 2 ^ 53 ≤ X * 2 ^ K / Y) :
    B5 (Ei X Y (K + d)) (E - d) = B5 (Ei X Y K) E ∧ flagsOf (Ei X Y (K + d)) (E - d) = flagsOf (Ei X Y K) E := by
  have hA := B1 d
  unfold Ei
  have e : X * 2 ^ (K + d) = X * 2 ^ K * 2 ^ d := by rw [Nat.pow_add, Nat.mul_assoc]
  rw [e]
  generalize X * 2 ^ K = Z at *
  have h1 := Nat.div_add_mod Z Y
  have h2 := Nat.mod_lt Z hY
  by_cases h0 : Z % Y = 0
  · obtain ⟨q, rfl⟩ := Nat.dvd_of_mod_eq_zero h0
    have e1 : Y * q * 2 ^ d = Y * (q * 2 ^ d) := Nat.mul_assoc _ _ _
    rw [e1, Nat.mul_mod_right, Nat.mul_mod_right, Nat.mul_div_cancel_left _ hY, Nat.mul_div_cancel_left _ hY, if_pos rfl]
    have := Dg (2 * q + 0) d E
    rw [show (2 * q + 0) * 2 ^ d = 2 * (q * 2 ^ d) + 0 by rw [Nat.add_zero, Nat.add_zero, Nat.mul_assoc]] at this
    exact this
  · have h3 := Nat.div_add_mod (Z * 2 ^ d) Y
    have h4 := Nat.mod_lt (Z * 2 ^ d) hY
    rw [if_neg h0]
    generalize hq : Z / Y = q at *
    generalize hr : Z % Y = r at *
    generalize hc : 2 ^ d = c at *
    have hz : Z * c = Y * (q * c) + r * c := by rw [← h1, Nat.add_mul, Nat.mul_assoc]
    have hrc : r * c < Y * c := (Nat.mul_lt_mul_right hA).2 h2
    have hrc0 : 0 < r * c := Nat.mul_pos (by omega) hA
    have q1 : q * c ≤ Z * c / Y := by rw [Nat.le_div_iff_mul_le hY, Nat.mul_comm (q * c)]; omega
    have q2 : Z * c / Y < (q + 1) * c := by
      rw [Nat.div_lt_iff_lt_mul hY, Nat.add_mul, Nat.add_mul, Nat.one_mul, Nat.mul_comm (q * c), Nat.mul_comm c Y]; omega
    have q3 : Z * c / Y = q * c → Z * c % Y ≠ 0 := fun h5 h6 => by rw [h5, h6] at h3; omega
    generalize hQ : Z * c / Y = Q at *
    have p1 : (2 * q + 1 - 1) * c = 2 * (q * c) := by rw [Nat.add_sub_cancel, Nat.mul_assoc]
    have p2 : (2 * q + 1 + 1) * c = 2 * ((q + 1) * c) := by rw [show 2 * q + 1 + 1 = 2 * (q + 1) by omega, Nat.mul_assoc]
    have od : (2 * q + 1) % 2 = 1 := by omega
    generalize hV : 2 * Q + (if Z * c % Y = 0 then 0 else 1) = V
    have v1 : (2 * q + 1 - 1) * 2 ^ d < V := by
      rw [hc, p1, ← hV]
      by_cases h5 : Q = q * c
      · rw [if_neg (q3 h5)]; omega
      · split <;> omega
    have v2 : V < (2 * q + 1 + 1) * 2 ^ d := by
      rw [hc, p2, ← hV]
      split <;> omega
    have lV := O4 od (by omega) v1 v2
    have hs : 54 ≤ (2 * q + 1).log2 := by rw [Nat.le_log2 (by omega)]; omega
    have ee : E - (d : Int) + d = E := by omega
    have := Ou (E := E - d) od v1 v2 (by unfold B2; rw [lV]; omega) (by unfold B2; omega)
    rw [ee] at this
    exact this
theorem Vf {X Y K L : Nat} {E F : Int} (hY : 0 < Y) (h1 : 2 ^ 53 ≤ X * 2 ^ K / Y) (h2 : 2 ^ 53 ≤ X * 2 ^ L / Y) (he : E + K = F + L) :
    B5 (Ei X Y K) E = B5 (Ei X Y L) F ∧ flagsOf (Ei X Y K) E = flagsOf (Ei X Y L) F := by
  rcases Nat.le_total K L with h | h
  · obtain ⟨d, rfl⟩ := Nat.exists_eq_add_of_le h
    have := Ve d E hY h1
    rw [show E - (d : Int) = F by omega] at this
    exact ⟨this.1.symm, this.2.symm⟩
  · obtain ⟨d, rfl⟩ := Nat.exists_eq_add_of_le h
    have := Ve d F hY h2
    rw [show F - (d : Int) = E by omega] at this
    exact this
theorem stick_left (X Y a K : Nat) : Ei (X * 2 ^ a) Y K = Ei X Y (K + a) := by
  unfold Ei
  have : X * 2 ^ a * 2 ^ K = X * 2 ^ (K + a) := by rw [Nat.mul_assoc, ← Nat.pow_add, Nat.add_comm a K]
  rw [this]
theorem stick_right (X Y b K : Nat) : Ei X (Y * 2 ^ b) (K + b) = Ei X Y K := by
  have hp := B1 b
  unfold Ei
  have : X * 2 ^ (K + b) = X * 2 ^ K * 2 ^ b := by rw [Nat.pow_add, Nat.mul_assoc]
  rw [this, Nat.mul_div_mul_right _ _ hp, Nat.mul_mod_mul_right]
  have : (X * 2 ^ K % Y * 2 ^ b = 0) ↔ (X * 2 ^ K % Y = 0) := by
    constructor
    · intro h
      rcases Nat.mul_eq_zero.1 h with h | h
      · exact h
      · omega
    · intro h; rw [h, Nat.zero_mul]
  simp only [this]
theorem quo_ge {X Y K t : Nat} (hX : 0 < X) (hY0 : 0 < Y) (hY : Y < 2 ^ t) (hK : 53 + t ≤ K) : 2 ^ 53 ≤ X * 2 ^ K / Y := by
  rw [Nat.le_div_iff_mul_le hY0]
  have h1 : 2 ^ 53 * Y ≤ 2 ^ 53 * 2 ^ t := Nat.mul_le_mul_left _ (by omega)
  have h2 : 2 ^ (53 + t) ≤ 2 ^ K := Nat.pow_le_pow_right (by decide) hK
  have h3 : 1 * 2 ^ K ≤ X * 2 ^ K := Nat.mul_le_mul_right _ (by omega)
  rw [Nat.pow_add] at h2
  omega
theorem nearN_quo (n : Bool) {X Y K : Nat} {e E : Int} {s : Bool} (hs : s = decide (X * 2 ^ K % Y ≠ 0)) (he : E = e - 1) (hq : 2 ^ 53 ≤ X * 2 ^ K / Y) :
    Fg n (X * 2 ^ K / Y) e s = (Be n (B5 (Ei X Y K) E), flagsOf (Ei X Y K) E) := by
  have e1 : Ei X Y K / 2 ^ 1 = X * 2 ^ K / Y := by
    unfold Ei
    split <;> omega
  have e2 : decide (Ei X Y K % 2 ^ 1 ≠ 0) = decide (X * 2 ^ K % Y ≠ 0) := by
    unfold Ei
    by_cases h : X * 2 ^ K % Y = 0
    · rw [if_pos h, decide_eq_false (by omega), decide_eq_false (by omega)]
    · rw [if_neg h, decide_eq_true (by omega), decide_eq_true h]
  have := Sj n (V := Ei X Y K) (k := 1) (E := E) (e := e) (s := s) (by omega) (by rw [e2]; exact hs) (by omega) (.inl (by omega))
  rw [e1] at this
  exact this
end Go.Rnd
namespace Go.Rnd
open Go.Den
def B7 : List Int → Nat
  | [] => 0
  | x :: l => x.toNat + 4294967296 * B7 l
def digits : Nat → Nat → List Int
  | 0, _ => []
  | k + 1, v => ((v % 4294967296 : Nat) : Int) :: digits k (v / 4294967296)
def Cz (n : Nat) : Nat := if n = 0 then 0 else n.log2 / 32 + 1
def O5 (n : Nat) : List Int := digits (Cz n) n
def Al (v : Int) : List Int := O5 v.natAbs
def Bc (v : Int) : Bool := decide (v < 0)
def wv (n : Bool) (l : List Int) : Int := Gu n (B7 l)
def Wm (l : List Int) : Prop := ∀ x ∈ l, 0 ≤ x ∧ x < 4294967296
def Gf (l : List Int) : Bool := C2 (l.length < 1073741824 ∧ Wm l)
def Ib (n : Bool) (l : List Int) : Bool := C2 (l.length < 268435456 ∧ l = O5 (B7 l) ∧ (n = true → l ≠ []))
def Uy (n : Bool) (l : List Int) : Bool := C2 (l.length < 134217728 ∧ l = O5 (B7 l) ∧ (n = true → l ≠ []))
def okSh (k : Int) : Bool := C2 (-1000000 ≤ k ∧ k ≤ 1000000)
def inI64 (k : Int) : Bool := C2 (-9223372036854775808 ≤ k ∧ k ≤ 9223372036854775807)
def Fx (l : List Int) (i : Int) : Int := if 0 ≤ i then l.getD i.toNat 0 else 0
def Iv (a b : List Int) : List Int := digits (max a.length b.length + 1) (B7 a + B7 b)
def F7 (a b : List Int) : List Int := digits a.length (B7 a - B7 b)
def leL (a b : List Int) : Bool := C2 (B7 a ≤ B7 b)
def Tx (a b : Nat) : Int := if a < b then -1 else if b < a then 1 else 0
def Uq (a b : Int) : Int := if a < b then -1 else if b < a then 1 else 0
def Jo (v : Int) (j : Nat) : Int := Gu (Bc v) (v.natAbs / 2 ^ j)
def Fp (v k : Int) : Int := if 0 ≤ k then v * ((2 ^ k.toNat : Nat) : Int) else Jo v (-k).toNat
def Xd (v : Int) : Int := if v = 0 then 0 else (v.natAbs.log2 : Int) + 1
def oddB (v : Int) : Bool := decide (v % 2 = 1)
theorem two32 : 2 ^ 32 = 4294967296 := by decide
theorem M5 (k : Nat) : 2 ^ (32 * (k + 1)) = 4294967296 * 2 ^ (32 * k) := by
  rw [Nat.mul_add, Nat.mul_one, Nat.pow_add, Nat.mul_comm, two32]
theorem Ek : ∀ (k v : Nat), (digits k v).length = k
  | 0, _ => rfl
  | k + 1, v => by rw [digits, List.length_cons, Ek k]
theorem Nj : ∀ (k v : Nat), Wm (digits k v)
  | 0, _ => fun x h => by cases h
  | k + 1, v => fun x h => by
    rw [digits, List.mem_cons] at h
    rcases h with rfl | h
    · omega
    · exact Nj k _ x h
theorem Ju : ∀ (k v : Nat), B7 (digits k v) = v % 2 ^ (32 * k)
  | 0, v => by rw [digits, B7, Nat.mul_zero, Nat.pow_zero, Nat.mod_one]
  | k + 1, v => by
    rw [digits, B7, Ju k, Int.toNat_natCast, M5, Nat.mod_mul]
theorem Lx : ∀ {l : List Int}, Wm l → B7 l < 2 ^ (32 * l.length)
  | [], _ => by decide
  | x :: l, h => by
    have h1 := h x (List.mem_cons_self ..)
    have h2 := Lx (l := l) (fun y hy => h y (List.mem_cons_of_mem _ hy))
    rw [B7, List.length_cons, M5]
    omega
theorem Pf : ∀ {l : List Int}, Wm l → digits l.length (B7 l) = l
  | [], _ => rfl
  | x :: l, h => by
    have h1 := h x (List.mem_cons_self ..)
    have h2 := Pf (l := l) (fun y hy => h y (List.mem_cons_of_mem _ hy))
    rw [B7, List.length_cons, digits]
    have e1 : (x.toNat + 4294967296 * B7 l) % 4294967296 = x.toNat := by omega
    have e2 : (x.toNat + 4294967296 * B7 l) / 4294967296 = B7 l := by omega
    rw [e1, e2, h2]
    congr 1
    omega
theorem Ky (n : Nat) : n < 2 ^ (32 * Cz n) := by
  unfold Cz
  by_cases h : n = 0
  · rw [if_pos h, h]; decide
  · rw [if_neg h]
    exact Nat.lt_of_lt_of_le Nat.lt_log2_self (Nat.pow_le_pow_right (by decide) (by omega))
theorem L7 {n k : Nat} (h : n < 2 ^ (32 * k)) : Cz n ≤ k := by
  unfold Cz
  by_cases h0 : n = 0
  · rw [if_pos h0]; exact Nat.zero_le _
  · rw [if_neg h0]
    have := (Nat.log2_lt h0).2 h
    omega
theorem lenN_ge {n k : Nat} (h : 2 ^ (32 * k) ≤ n) : k + 1 ≤ Cz n := by
  have hp := B1 (32 * k)
  unfold Cz
  rw [if_neg (by omega)]
  have := (Nat.le_log2 (by omega)).2 h
  omega
theorem K9 {n m : Nat} (h : n ≤ m) : Cz n ≤ Cz m := L7 (Nat.lt_of_le_of_lt h (Ky m))
theorem Q3 (n : Nat) : B7 (O5 n) = n := by
  unfold O5
  rw [Ju, Nat.mod_eq_of_lt (Ky n)]
theorem F9 (n : Nat) : (O5 n).length = Cz n := Ek _ _
theorem limbs_in (n : Nat) : Wm (O5 n) := Nj _ _
theorem Wv : ∀ (k v i : Nat), i < k → (digits k v).getD i 0 = ((v / 2 ^ (32 * i) % 4294967296 : Nat) : Int)
  | k + 1, v, 0, _ => by rw [digits, List.getD_cons_zero, Nat.mul_zero, Nat.pow_zero, Nat.div_one]
  | k + 1, v, i + 1, h => by
    rw [digits, List.getD_cons_succ, Wv k _ i (by omega), M5, Nat.div_div_eq_div_mul]
theorem Qe {l : List Int} (h : Wm l) (i : Nat) : l.getD i 0 = ((B7 l / 2 ^ (32 * i) % 4294967296 : Nat) : Int) := by
  by_cases hi : i < l.length
  · have := Wv l.length (B7 l) i hi
    rw [Pf h] at this
    exact this
  · have h1 := Lx h
    have h2 : 2 ^ (32 * l.length) ≤ 2 ^ (32 * i) := Nat.pow_le_pow_right (by decide) (by omega)
    rw [Nat.div_eq_of_lt (by omega), List.getD_eq_getElem?_getD, List.getElem?_eq_none (by omega)]
    rfl
theorem Ga {l : List Int} (h : Wm l) (i : Nat) : Fx l (i : Int) = ((B7 l / 2 ^ (32 * i) % 4294967296 : Nat) : Int) := by
  unfold Fx
  rw [if_pos (by omega), Int.toNat_natCast, Qe h]
theorem Ma : ∀ (k v : Nat), digits (k + 1) v = digits k v ++ [((v / 2 ^ (32 * k) % 4294967296 : Nat) : Int)]
  | 0, v => by rw [digits, digits, digits, Nat.mul_zero, Nat.pow_zero, Nat.div_one]; rfl
  | k + 1, v => by
    rw [digits, Ma k, M5, ← Nat.div_div_eq_div_mul]
    rfl
theorem Uf : ∀ (j k v : Nat), j ≤ k → (digits k v).take j = digits j v
  | 0, _, _, _ => by rw [List.take_zero, digits]
  | j + 1, k + 1, v, h => by rw [digits, List.take_succ_cons, Uf j k _ (by omega), digits]
theorem limbs_take {l : List Int} (h : Wm l) : l.take (Cz (B7 l)) = O5 (B7 l) := by
  have h1 := Uf (Cz (B7 l)) l.length (B7 l) (L7 (Lx h))
  rw [Pf h] at h1
  exact h1
theorem Hu {n : Nat} (h : n ≠ 0) : 0 < Cz n := by unfold Cz; rw [if_neg h]; omega
theorem Gt (v : Int) : wv (Bc v) (Al v) = v := by
  unfold wv Bc Al Gu
  rw [Q3]
  by_cases h : v < 0
  · rw [decide_eq_true h, if_pos rfl]; omega
  · rw [decide_eq_false h, if_neg (by decide)]; omega
theorem Mg {l : List Int} (h : l.length < 1073741824) (hi : Wm l) : Gf l = true := Ar.2 ⟨h, hi⟩
theorem Jr {l : List Int} (h : Gf l = true) : l.length < 1073741824 ∧ Wm l := Ar.1 h
theorem canon_of (v : Int) : Al v = O5 (B7 (Al v)) ∧ (Bc v = true → Al v ≠ []) := by
  unfold Al
  rw [Q3]
  refine ⟨rfl, fun h e => ?_⟩
  have h1 : v < 0 := of_decide_eq_true h
  have h2 := F9 v.natAbs
  rw [e] at h2
  have := Hu (n := v.natAbs) (by omega)
  rw [← h2] at this
  exact absurd this (by decide)
theorem H4 {v : Int} (h : Cz v.natAbs < 268435456) : Ib (Bc v) (Al v) = true :=
  Ar.2 ⟨by unfold Al; rw [F9]; exact h, canon_of v⟩
theorem okV_of {v : Int} (h : Cz v.natAbs < 134217728) : Uy (Bc v) (Al v) = true :=
  Ar.2 ⟨by unfold Al; rw [F9]; exact h, canon_of v⟩
theorem Yn {n : Bool} {l : List Int} (h1 : l = O5 (B7 l)) (h2 : n = true → l ≠ []) : n = Bc (wv n l) ∧ l = Al (wv n l) := by
  have e : (wv n l).natAbs = B7 l := by unfold wv Gu; split <;> omega
  refine ⟨?_, by unfold Al; rw [e]; exact h1⟩
  unfold Bc wv Gu
  cases n
  · simp
  · have h3 := h2 rfl
    have h4 : B7 l ≠ 0 := fun h => by
      rw [h] at h1
      exact h3 h1
    simp; omega
theorem Hz {n : Bool} {l : List Int} (h : Ib n l = true) : ∃ v, n = Bc v ∧ l = Al v ∧ Cz v.natAbs < 268435456 := by
  obtain ⟨h0, h1, h2⟩ := Ar.1 h
  obtain ⟨e1, e2⟩ := Yn h1 h2
  refine ⟨_, e1, e2, ?_⟩
  have := congrArg List.length e2
  unfold Al at this
  rw [F9] at this
  omega
theorem Nw {n : Bool} {l : List Int} (h : Uy n l = true) : ∃ v, n = Bc v ∧ l = Al v ∧ Cz v.natAbs < 134217728 := by
  obtain ⟨h0, h1, h2⟩ := Ar.1 h
  obtain ⟨e1, e2⟩ := Yn h1 h2
  refine ⟨_, e1, e2, ?_⟩
  have := congrArg List.length e2
  unfold Al at this
  rw [F9] at this
  omega
theorem Na {v : Int} (h : Cz v.natAbs < 1073741824) : Gf (Al v) = true :=
  Mg (by unfold Al; rw [F9]; exact h) (limbs_in _)
theorem Db (v : Int) : B7 (Al v) = v.natAbs := Q3 _
theorem B9 (v : Int) : (Al v).length = Cz v.natAbs := F9 _
theorem wv_neg (n : Bool) (l : List Int) : wv (!n) l = - wv n l := by
  unfold wv Gu
  cases n <;> simp
theorem plusL_val {a b : List Int} (ha : Wm a) (hb : Wm b) : B7 (Iv a b) = B7 a + B7 b := by
  unfold Iv
  rw [Ju, Nat.mod_eq_of_lt]
  have h1 := Lx ha
  have h2 := Lx hb
  have h3 : 2 ^ (32 * a.length) ≤ 2 ^ (32 * max a.length b.length) := Nat.pow_le_pow_right (by decide) (by omega)
  have h4 : 2 ^ (32 * b.length) ≤ 2 ^ (32 * max a.length b.length) := Nat.pow_le_pow_right (by decide) (by omega)
  rw [M5]
  omega
theorem Sa (a b : List Int) : (Iv a b).length = max a.length b.length + 1 := Ek _ _
theorem plusL_in (a b : List Int) : Wm (Iv a b) := Nj _ _
theorem minusL_val {a : List Int} (b : List Int) (ha : Wm a) : B7 (F7 a b) = B7 a - B7 b := by
  unfold F7
  rw [Ju, Nat.mod_eq_of_lt]
  have h1 := Lx ha
  omega
theorem Qu (a b : List Int) : (F7 a b).length = a.length := Ek _ _
theorem X4 (a b : List Int) : Wm (F7 a b) := Nj _ _
theorem Ko (v : Int) (j : Nat) : (Jo v j).natAbs = v.natAbs / 2 ^ j := by
  unfold Jo
  generalize v.natAbs / 2 ^ j = m
  unfold Gu; split <;> omega
theorem R1 {v : Int} (h : v < 0) (m : Nat) : Gu (Bc v) m = -(m : Int) := by
  unfold Gu Bc; rw [decide_eq_true h, if_pos rfl]
theorem R0 {v : Int} (h : ¬ v < 0) (m : Nat) : Gu (Bc v) m = (m : Int) := by
  unfold Gu Bc; rw [decide_eq_false h, if_neg (by decide)]
theorem Y9 (v : Int) (i j : Nat) : Jo (Jo v i) j = Jo v (i + j) := by
  have e : v.natAbs / 2 ^ (i + j) = v.natAbs / 2 ^ i / 2 ^ j := by rw [Nat.pow_add, Nat.div_div_eq_div_mul]
  have h1 := Ko v i
  by_cases hv : v < 0
  · have h2 : Jo v i = -((v.natAbs / 2 ^ i : Nat) : Int) := R1 hv _
    rw [show Jo v (i + j) = -((v.natAbs / 2 ^ (i + j) : Nat) : Int) from R1 hv _, e]
    by_cases h0 : v.natAbs / 2 ^ i = 0
    · rw [h2, h0]
      show Jo 0 j = _
      rw [Nat.zero_div]
      show Gu (Bc 0) (0 / 2 ^ j) = _
      rw [Nat.zero_div]; rfl
    · have h3 : Jo v i < 0 := by omega
      rw [show Jo (Jo v i) j = -(((Jo v i).natAbs / 2 ^ j : Nat) : Int) from R1 h3 _, h1]
  · have h2 : Jo v i = ((v.natAbs / 2 ^ i : Nat) : Int) := R0 hv _
    have h3 : ¬ Jo v i < 0 := by omega
    rw [show Jo (Jo v i) j = (((Jo v i).natAbs / 2 ^ j : Nat) : Int) from R0 h3 _, h1, show Jo v (i + j) = ((v.natAbs / 2 ^ (i + j) : Nat) : Int) from R0 hv _, e]
theorem shR_zero (v : Int) : Jo v 0 = v := by
  unfold Jo Gu Bc
  rw [Nat.pow_zero, Nat.div_one]
  by_cases h : v < 0
  · rw [decide_eq_true h, if_pos rfl]; omega
  · rw [decide_eq_false h, if_neg (by decide)]; omega
theorem P3 (j : Nat) : Jo 0 j = 0 := by
  unfold Jo
  rw [show (Int.natAbs 0) = 0 from rfl, Nat.zero_div]
  rfl
theorem valL_tail {l : List Int} (h : Wm l) : B7 (l.drop 1) = B7 l / 4294967296 := by
  cases l with
  | nil => rfl
  | cons x l =>
    have := h x (List.mem_cons_self ..)
    show B7 l = _
    rw [B7]; omega
theorem inL_tail {l : List Int} (h : Wm l) : Wm (l.drop 1) := fun x hx => h x (List.mem_of_mem_drop hx)
theorem inL_zero {l : List Int} (h : Wm l) : Wm ([(0 : Int)] ++ l) := fun x hx => by
  rcases List.mem_cons.1 hx with rfl | hx
  · omega
  · exact h x hx
theorem lenN_two (n : Nat) : Cz (2 * n) ≤ Cz n + 1 := by
  refine L7 ?_
  have h := Ky n
  rw [M5]
  omega
theorem lenN_up (n : Nat) : Cz (n * 4294967296) ≤ Cz n + 1 := by
  refine L7 ?_
  have h := Ky n
  rw [M5]
  omega
theorem log2_div {n m : Nat} (h : 2 ^ m ≤ n) : (n / 2 ^ m).log2 + m = n.log2 := by
  have hp := B1 m
  have h0 : n ≠ 0 := by omega
  have hm : m ≤ n.log2 := (Nat.le_log2 h0).2 h
  have e : (n / 2 ^ m).log2 = n.log2 - m := by
    refine Sp ?_ ?_
    · rw [Nat.le_div_iff_mul_le hp, ← Nat.pow_add]
      exact Nat.le_trans (Nat.pow_le_pow_right (by decide) (by omega)) (Nat.log2_self_le h0)
    · rw [Nat.div_lt_iff_lt_mul hp, ← Nat.pow_add]
      exact Nat.lt_of_lt_of_le Nat.lt_log2_self (Nat.pow_le_pow_right (by decide) (by omega))
  omega
end Go.Rnd
namespace Go.Rnd
open Go.Den
def Q5 (n : Nat) : Nat := if h : n = 0 ∨ n % 2 = 1 then 0 else Q5 (n / 2) + 1
termination_by n
decreasing_by omega
def mD (v : Int) : Int := Jo v (Q5 v.natAbs)
def eD (v e : Int) : Int := if v = 0 then 0 else e + Q5 v.natAbs
def Ck (v e w f : Int) : Int := if v = 0 then f else if w = 0 then e else min e f
def addS (v e w f : Int) : Int := Fp v (e - Ck v e w f) + Fp w (f - Ck v e w f)
def Pq (v e w f : Int) : Int := mD (addS v e w f)
def addE (v e w f : Int) : Int := eD (addS v e w f) (Ck v e w f)
def Hs (v e : Int) : Int := if v = 0 then 0 else Xd v + e
def Lt (v : Int) : Int := if v < 0 then -1 else if v = 0 then 0 else 1
def Ur (v e w f : Int) : Int := Uq (Fp v (e - Ck v e w f)) (Fp w (f - Ck v e w f))
def Xa (e : Int) : Bool := C2 (-2000000 ≤ e ∧ e ≤ 2000000)
def Uz (e : Int) : Bool := C2 (-400000 ≤ e ∧ e ≤ 400000)
def okLv (v e f : Int) : Bool := C2 (v = 0 ∨ (-1000000 ≤ e - f ∧ e - f ≤ 1000000)) && C2 (-400000 ≤ e ∧ e ≤ 400000 ∧ -1000000 ≤ f ∧ f ≤ 1000000)
theorem tz_odd {n : Nat} (h : n = 0 ∨ n % 2 = 1) : Q5 n = 0 := by rw [Q5, dif_pos h]
theorem tz_even {n : Nat} (h0 : n ≠ 0) (h : n % 2 = 0) : Q5 n = Q5 (n / 2) + 1 := by rw [Q5, dif_neg (by omega)]
theorem Y1 {n : Nat} (h : n ≠ 0) : ∀ k, Q5 (n * 2 ^ k) = k + Q5 n
  | 0 => by rw [Nat.pow_zero, Nat.mul_one, Nat.zero_add]
  | k + 1 => by
    have hp := B1 k
    have h1 : n * 2 ^ k ≠ 0 := by
      intro e
      rcases Nat.mul_eq_zero.1 e with e | e <;> omega
    have e : n * 2 ^ (k + 1) = n * 2 ^ k * 2 := by rw [Nat.pow_succ, Nat.mul_assoc]
    rw [e, tz_even (by omega) (by omega), Nat.mul_div_cancel _ (by decide), Y1 h k]
    omega
theorem tz_spec (n : Nat) (h : n ≠ 0) : ∃ m, n = m * 2 ^ Q5 n ∧ m % 2 = 1 := by
  induction n using Nat.strongRecOn with
  | _ n ih =>
    by_cases h2 : n % 2 = 1
    · refine ⟨n, ?_, h2⟩
      rw [tz_odd (.inr h2), Nat.pow_zero, Nat.mul_one]
    · obtain ⟨m, h3, h4⟩ := ih (n / 2) (by omega) (by omega)
      refine ⟨m, ?_, h4⟩
      rw [tz_even h (by omega), Nat.pow_succ, ← Nat.mul_assoc, ← h3]
      omega
theorem tz_lt {n : Nat} (h : n ≠ 0) : Q5 n ≤ n.log2 := by
  obtain ⟨m, h1, h2⟩ := tz_spec n h
  refine (Nat.le_log2 h).2 ?_
  have : 1 * 2 ^ Q5 n ≤ m * 2 ^ Q5 n := Nat.mul_le_mul_right _ (by omega)
  omega
theorem X6 {n : Nat} : n.log2 < 32 * Cz n + 1 := by
  unfold Cz
  by_cases h : n = 0
  · rw [h]; decide
  · rw [if_neg h]; omega
theorem mD_shR {v : Int} {k : Nat} (h : v.natAbs % 2 ^ k = 0) : mD (Jo v k) = mD v := by
  unfold mD
  by_cases h0 : v = 0
  · rw [h0, P3]
  · have hp := B1 k
    have hv := Nat.div_add_mod v.natAbs (2 ^ k)
    rw [h, Nat.add_zero, Nat.mul_comm] at hv
    have hq : v.natAbs / 2 ^ k ≠ 0 := by
      intro e; rw [e] at hv; omega
    have := Y1 hq k
    rw [hv] at this
    rw [Ko, Y9, this]
theorem eD_shR {v e : Int} {k : Nat} (h : v.natAbs % 2 ^ k = 0) (h0 : v ≠ 0) : eD (Jo v k) (e + k) = eD v e := by
  unfold eD
  have hp := B1 k
  have hv := Nat.div_add_mod v.natAbs (2 ^ k)
  rw [h, Nat.add_zero, Nat.mul_comm] at hv
  have hq : v.natAbs / 2 ^ k ≠ 0 := by
    intro e; rw [e] at hv; omega
  have ht := Y1 hq k
  rw [hv] at ht
  have ha := Ko v k
  rw [if_neg h0, if_neg (by omega), ha, ht]
  omega
theorem mD_odd {v : Int} (h : v % 2 = 1) : mD v = v := by
  unfold mD
  rw [tz_odd (.inr (by omega)), shR_zero]
theorem eD_odd {v : Int} (h : v % 2 = 1) (e : Int) : eD v e = e := by
  unfold eD
  rw [tz_odd (.inr (by omega)), if_neg (by omega)]
  omega
theorem mul_ne {v : Int} (h : v ≠ 0) (k : Nat) : v * ((2 ^ k : Nat) : Int) ≠ 0 := by
  have hp := B1 k
  intro e
  rcases Int.mul_eq_zero.1 e with e | e
  · exact h e
  · omega
theorem Zr (v : Int) : v = mD v * ((2 ^ Q5 v.natAbs : Nat) : Int) := by
  by_cases h : v = 0
  · rw [h]
    show (0 : Int) = Jo 0 _ * _
    rw [P3, Int.zero_mul]
  · obtain ⟨m, h1, h2⟩ := tz_spec v.natAbs (by omega)
    have hp := B1 (Q5 v.natAbs)
    have hq : v.natAbs / 2 ^ Q5 v.natAbs = m := Nat.div_eq_of_eq_mul_left hp h1
    unfold mD Jo
    rw [hq]
    by_cases hv : v < 0
    · rw [R1 hv, Int.neg_mul, ← Int.natCast_mul, ← h1]; omega
    · rw [R0 hv, ← Int.natCast_mul, ← h1]; omega
theorem U2 {v : Int} : mD v = 0 ↔ v = 0 := by
  constructor
  · intro h
    have := Zr v
    rw [h, Int.zero_mul] at this
    exact this
  · intro h
    rw [h]
    exact P3 _
theorem X5 (v : Int) : (mD v).natAbs ≤ v.natAbs := by
  unfold mD
  rw [Ko]
  exact Nat.div_le_self _ _
end Go.Rnd
namespace Go.Rnd
open Go.Den
def vAt (v e g : Int) : Int := v * ((2 ^ (e - g).toNat : Nat) : Int)
theorem G8 (e g : Int) : vAt 0 e g = 0 := Int.zero_mul _
theorem Xj {v e g h : Int} (h1 : h ≤ e) (h2 : g ≤ h) : vAt v e g = vAt v e h * ((2 ^ (h - g).toNat : Nat) : Int) := by
  unfold vAt
  rw [Int.mul_assoc, ← Int.natCast_mul, ← Nat.pow_add]
  have : (e - h).toNat + (h - g).toNat = (e - g).toNat := by omega
  rw [this]
theorem vAt_odd {S l g : Int} (h : g ≤ l) : vAt (mD S) (eD S l) g = vAt S l g := by
  by_cases h0 : S = 0
  · rw [h0, U2.2 rfl, G8, G8]
  · have e : eD S l = l + Q5 S.natAbs := by unfold eD; rw [if_neg h0]
    rw [e]
    unfold vAt
    have e1 : (l + (Q5 S.natAbs : Int) - g).toNat = Q5 S.natAbs + (l - g).toNat := by omega
    rw [e1, Nat.pow_add, Int.natCast_mul, ← Int.mul_assoc, ← Zr]
theorem shW_vAt {v e l : Int} (h : v ≠ 0 → l ≤ e) : Fp v (e - l) = vAt v e l := by
  by_cases h0 : v = 0
  · rw [h0, G8]
    unfold Fp
    split
    · exact Int.zero_mul _
    · exact P3 _
  · unfold Fp vAt
    rw [if_pos (by have := h h0; omega)]
theorem low_le {v e w f : Int} : (v ≠ 0 → Ck v e w f ≤ e) ∧ (w ≠ 0 → Ck v e w f ≤ f) := by
  unfold Ck
  constructor
  · intro h
    rw [if_neg h]
    split <;> omega
  · intro h
    split
    · omega
    · omega
theorem eD_ge {v e g : Int} (h : g ≤ e) (h0 : v ≠ 0) : g ≤ eD v e := by
  unfold eD
  rw [if_neg h0]
  omega
theorem cmpZ_mul (x y : Int) (k : Nat) : Uq (x * ((2 ^ k : Nat) : Int)) (y * ((2 ^ k : Nat) : Int)) = Uq x y := by
  have hp := B1 k
  have h1 : x * ((2 ^ k : Nat) : Int) < y * ((2 ^ k : Nat) : Int) ↔ x < y := Int.mul_lt_mul_right (by omega)
  have h2 : y * ((2 ^ k : Nat) : Int) < x * ((2 ^ k : Nat) : Int) ↔ y < x := Int.mul_lt_mul_right (by omega)
  unfold Uq
  simp only [h1, h2]
theorem cmp_vAt {v e w f g : Int} (h1 : v ≠ 0 → g ≤ e) (h2 : w ≠ 0 → g ≤ f) : Ur v e w f = Uq (vAt v e g) (vAt w f g) := by
  obtain ⟨l1, l2⟩ := low_le (v := v) (e := e) (w := w) (f := f)
  unfold Ur
  rw [shW_vAt l1, shW_vAt l2]
  by_cases h0 : v = 0 ∧ w = 0
  · rw [h0.1, h0.2, G8, G8, G8, G8]
  · have hg : g ≤ Ck v e w f := by
      unfold Ck
      split
      · rename_i hv
        exact h2 (fun k => h0 ⟨hv, k⟩)
      · split
        · exact h1 (by assumption)
        · have := h1 (by assumption); have := h2 (by assumption); omega
    have e1 : vAt v e g = vAt v e (Ck v e w f) * ((2 ^ (Ck v e w f - g).toNat : Nat) : Int) := by
      by_cases h0 : v = 0
      · rw [h0, G8, G8, Int.zero_mul]
      · exact Xj (l1 h0) hg
    have e2 : vAt w f g = vAt w f (Ck v e w f) * ((2 ^ (Ck v e w f - g).toNat : Nat) : Int) := by
      by_cases h0 : w = 0
      · rw [h0, G8, G8, Int.zero_mul]
      · exact Xj (l2 h0) hg
    rw [e1, e2, cmpZ_mul]
def An (l : List Int) : Bool := C2 (∀ x ∈ l, Ah x = true)
def Fs (x : Int) : Int := Gu (Bi x.toNat) (Aq x.toNat)
def Qq (n : Bool) (b : Int) : Int := if n then C0 b else b
end Go.Rnd
namespace Go.Rnd
open Go.Den
theorem word_parts (s : Bool) {q : Nat} {L : Int} (hq : q < 2 ^ 53) (hL : -1074 ≤ L) (h : 2 ^ 52 ≤ q ∨ L = -1074) (hr : (L + 1074).toNat * 2 ^ 52 + q < Dt) :
    Aq (Be s ((L + 1074).toNat * 2 ^ 52 + q)) = q ∧ Ay (Be s ((L + 1074).toNat * 2 ^ 52 + q)) = L := by
  rw [Gv] at hr
  obtain ⟨t, ht⟩ : ∃ t : Nat, L = t - 1074 := ⟨(L + 1074).toNat, by omega⟩
  have et : (L + 1074).toNat = t := by omega
  rw [et] at hr ⊢
  have hp := Xw s (r := t * 2 ^ 52 + q) (by omega)
  have hf := Wn s (t * 2 ^ 52 + q)
  unfold Aq Ay
  by_cases h52 : 2 ^ 52 ≤ q
  · have e1 : C5 (Be s (t * 2 ^ 52 + q)) = t + 1 := by rw [hp]; omega
    rw [e1, hf, if_neg (by omega), if_neg (by omega)]
    omega
  · have t0 : t = 0 := by omega
    subst t0
    have e1 : C5 (Be s (0 * 2 ^ 52 + q)) = 0 := by rw [hp]; omega
    rw [e1, hf, if_pos rfl, if_pos rfl]
    omega
theorem sign_neg (s : Bool) {r : Nat} (h : r < 2 ^ 63) : Bi (Be s r) = s := by
  unfold Bi Be
  cases s
  · simp only [Bool.false_eq_true, if_false, decide_eq_false_iff_not]; omega
  · simp only [if_true, decide_eq_true_eq]; omega
theorem exact_word (s : Bool) {V : Nat} {E : Int} (h0 : V ≠ 0) (hE : B2 V E ≤ E) (hi : B5 V E < Dt) :
    flagsOf V E = 0 ∧ ∃ k : Nat, Aq (Be s (B5 V E)) = V * 2 ^ k ∧ Ay (Be s (B5 V E)) = E - k := by
  have hl2 : V.log2 = V.log2 := rfl
  have ek : kept V E = V * 2 ^ (E - B2 V E).toNat := by
    unfold kept Iu
    have e1 : (B2 V E - E).toNat = 0 := by omega
    have e2 : (-(B2 V E - E)).toNat = (E - B2 V E).toNat := by omega
    rw [e1, e2, M4]
  have eex : exact V E = true := by
    unfold exact Lb
    have e1 : (B2 V E - E).toNat = 0 := by omega
    rw [e1, Nat.pow_zero, Nat.mod_one]; rfl
  constructor
  · unfold flagsOf flags
    rw [if_neg h0, if_neg (by omega), eex]; rfl
  · have hr : B5 V E = (B2 V E + 1074).toNat * 2 ^ 52 + kept V E := by
      unfold B5 at hi ⊢
      rw [if_neg h0] at hi ⊢
      omega
    have hk : kept V E < 2 ^ 53 := by
      rw [ek, ← Nat.log2_lt (Ha h0), Li V _ h0]
      unfold B2 at hE ⊢
      omega
    have hb : 2 ^ 52 ≤ kept V E ∨ B2 V E = -1074 := by
      by_cases h : B2 V E = -1074
      · exact .inr h
      · left
        refine Zw h0 ?_
        unfold B2 at h ⊢
        omega
    rw [hr] at hi
    obtain ⟨p1, p2⟩ := word_parts s hk (by unfold B2; omega) hb hi
    refine ⟨(E - B2 V E).toNat, ?_, ?_⟩
    · rw [hr, p1, ek]
    · rw [hr, p2]; omega
theorem lastE_small {V : Nat} {E : Int} (h : V < 2 ^ 53) (hE : -1074 ≤ E) : B2 V E ≤ E := by
  by_cases h0 : V = 0
  · subst h0; unfold B2; rw [Nat.log2_zero]; omega
  · have := (Nat.log2_lt h0).2 h
    unfold B2; omega
end Go.Rnd
namespace Go.Rnd
open Go.Den
def Eb (x : Int) : Int := if x = 0 then 0 else (x.toNat.log2 : Int) + 1
def Qt (x y : Int) : Int := ((x.toNat * y.toNat / 18446744073709551616 : Nat) : Int)
def L5 (x y : Int) : Int := ((x.toNat * y.toNat % 18446744073709551616 : Nat) : Int)
def nanI (a b : Int) : Bool := decide (A7 a = 4) || decide (A7 b = 4)
def Bz (b : Nat) : Nat := 52 - (Aq b).log2
def Ci (b : Int) : Int := ((Aq b.toNat * 2 ^ Bz b.toNat : Nat) : Int)
def F4 (b : Int) : Int := Ay b.toNat - Bz b.toNat
def Ku (b : Int) : Bool := C2 (Aq b.toNat ≠ 0)
def Nn (m e : Int) : Bool := C2 (1152921504606846976 ≤ m ∧ m < 4611686018427387904 ∧ -6000 ≤ e ∧ e ≤ 6000)
def Ed (a b : Int) : Int := (Mi a.toNat b.toNat).1
def mulFI (a b : Int) : Int := (Mi a.toNat b.toNat).2
def Et (a b : Int) : Int := (Uo a.toNat b.toNat).1
def divFI (a b : Int) : Int := (Uo a.toNat b.toNat).2
end Go.Rnd
namespace Go.Rnd
theorem addN_comm (a b : Nat) : Kf a b = Kf b a := by
  unfold Kf
  by_cases ha : Ai a = 4
  · simp only [ha, true_or, or_true, if_true]
  · by_cases hb : Ai b = 4
    · simp only [hb, true_or, or_true, if_true]
    · simp only [ha, hb, or_self, if_false]
      by_cases ha3 : Ai a = 3
      · by_cases hb3 : Ai b = 3
        · simp only [ha3, hb3, if_true, true_and]
          by_cases e : a = b
          · subst e; rfl
          · rw [if_pos e, if_pos (fun h => e h.symm)]
        · simp only [ha3, hb3, if_true, if_false, false_and]
      · by_cases hb3 : Ai b = 3
        · simp only [ha3, hb3, if_true, if_false, false_and]
        · simp only [ha3, hb3, if_false]
          rw [Bool.and_comm, Int.min_comm, Int.add_comm]
theorem rightN_zero {Y D : Nat} (h : Y % 2 ^ D = 0) : Ey Y D = Y / 2 ^ D := by unfold Ey; rw [if_pos h]
theorem rightN_odd {Y D : Nat} (h : Y % 2 ^ D ≠ 0) : Ey Y D % 2 = 1 := by unfold Ey; rw [if_neg h]; omega
theorem rightN_near {Y d : Nat} (hY : Y < 2 ^ 62) (h : Y % 2 ^ d ≠ 0) : (Ey Y (min d 63) - 1) * 2 ^ d < Y ∧ Y < (Ey Y (min d 63) + 1) * 2 ^ d ∧ Ey Y (min d 63) % 2 = 1 := by
  have hA := B1 d
  by_cases hd : d ≤ 63
  · rw [Nat.min_eq_left hd]
    refine ⟨?_, ?_, rightN_odd h⟩
    all_goals
      unfold Ey
      rw [if_neg h]
      have h1 := Nat.div_add_mod Y (2 ^ d)
      have h2 := Nat.mod_lt Y hA
      generalize Y / 2 ^ d = q at *
      generalize Y % 2 ^ d = r at *
      generalize 2 ^ d = c at *
      rw [Nat.mul_comm] at h1
    · have h3 : (2 * (q / 2) + 1 - 1) * c ≤ q * c := Nat.mul_le_mul_right c (by omega)
      omega
    · have h3 : (q + 1) * c ≤ (2 * (q / 2) + 1 + 1) * c := Nat.mul_le_mul_right c (by omega)
      rw [Nat.add_mul, Nat.one_mul] at h3
      omega
  · rw [Nat.min_eq_right (by omega)]
    have h63 : Y % 2 ^ 63 = Y := Nat.mod_eq_of_lt (by omega)
    have hd0 : Y / 2 ^ 63 = 0 := Nat.div_eq_of_lt (by omega)
    have hY0 : Y ≠ 0 := by intro e; rw [e] at h; simp at h
    have hr : Ey Y 63 = 1 := by unfold Ey; rw [h63, if_neg hY0, hd0]
    have hp : 2 ^ 62 ≤ 2 ^ d := Nat.pow_le_pow_right (by decide) (by omega)
    rw [hr]
    refine ⟨by simp; omega, by omega, rfl⟩
theorem pow9 {d M : Nat} (h : (M * 2 ^ 9) % 2 ^ d ≠ 0) : 10 ≤ d := by
  refine Nat.lt_of_not_le fun hle => h ?_
  obtain ⟨k, hk⟩ : ∃ k, 9 = d + k := ⟨9 - d, by omega⟩
  rw [hk, Nat.pow_add, Nat.mul_comm (2 ^ d), ← Nat.mul_assoc, Nat.mul_mod_left]
theorem Nm {V m d : Nat} {e f : Int} (hd : e = f + d) (h : V = m * 2 ^ d ∨ (m % 2 = 1 ∧ (m - 1) * 2 ^ d < V ∧ V < (m + 1) * 2 ^ d ∧ 2 ^ 60 ≤ m)) :
    B5 m (e - 9) = B5 V (f - 9) ∧ flagsOf m (e - 9) = flagsOf V (f - 9) := by
  rcases h with rfl | ⟨h1, h2, h3, h4⟩
  · have := Dg m d (e - 9)
    have e1 : e - 9 - (d : Int) = f - 9 := by omega
    rw [e1] at this
    exact ⟨this.1.symm, this.2.symm⟩
  · have hm0 : m ≠ 0 := by omega
    have hlog := O4 h1 (by omega) h2 h3
    have hl60 : 60 ≤ m.log2 := (Nat.le_log2 hm0).2 h4
    have e1 : f - 9 + (d : Int) = e - 9 := by omega
    have hle : B2 V (f - 9) = B2 m (f - 9 + d) := by unfold B2; rw [hlog]; congr 1; omega
    have hk : f - 9 + d + 2 ≤ B2 m (f - 9 + d) := by unfold B2; omega
    obtain ⟨a1, a2⟩ := Ou h1 h2 h3 hle hk
    rw [e1] at a1 a2
    exact ⟨a1.symm, a2.symm⟩
theorem shift9 (V : Nat) (f : Int) : B5 (V * 2 ^ 9) (f - 9) = B5 V f ∧ flagsOf (V * 2 ^ 9) (f - 9) = flagsOf V f := Dg V 9 f
structure AddCore (Mx My d : Nat) (e f : Int) (X r : Nat) : Prop where
  plus : B5 (X + r) (e - 9) = B5 (Mx * 2 ^ d + My) f ∧ flagsOf (X + r) (e - 9) = flagsOf (Mx * 2 ^ d + My) f
  less : r < X → My < Mx * 2 ^ d ∧ B5 (X - r) (e - 9) = B5 (Mx * 2 ^ d - My) f ∧ flagsOf (X - r) (e - 9) = flagsOf (Mx * 2 ^ d - My) f
  more : X < r → Mx * 2 ^ d < My ∧ B5 (r - X) (e - 9) = B5 (My - Mx * 2 ^ d) f ∧ flagsOf (r - X) (e - 9) = flagsOf (My - Mx * 2 ^ d) f
  same : X = r → Mx * 2 ^ d = My
  small : r ≤ 2 ^ 62
theorem add_odd {X My r d p : Nat} {e f : Int} (hd : e = f + d) (comm : X * 2 ^ d = p * 2 ^ 9) (n1 : (r - 1) * 2 ^ d < My * 2 ^ 9) (n2 : My * 2 ^ 9 < r * 2 ^ d + 2 ^ d) (n3 : r % 2 = 1) (hX2 : X % 2 = 0) (hX : 2 ^ 61 ≤ X) (hr : r ≤ 2 ^ 53) :
    (B5 (X + r) (e - 9) = B5 (p + My) f ∧ flagsOf (X + r) (e - 9) = flagsOf (p + My) f) ∧ My < p ∧ B5 (X - r) (e - 9) = B5 (p - My) f ∧ flagsOf (X - r) (e - 9) = flagsOf (p - My) f := by
  have e1 : (r - 1) * 2 ^ d + 2 ^ d = r * 2 ^ d := by
    obtain ⟨k, rfl⟩ : ∃ k, r = k + 1 := ⟨r - 1, by omega⟩
    rw [Nat.add_sub_cancel, Nat.add_mul, Nat.one_mul]
  have e2 : (r + 1) * 2 ^ d = r * 2 ^ d + 2 ^ d := by rw [Nat.add_mul, Nat.one_mul]
  have hXd : (r + 1) * 2 ^ d ≤ X * 2 ^ d := Nat.mul_le_mul_right _ (by omega)
  have hlt : My < p := by rw [e2, comm] at hXd; omega
  have a1 : B5 (X + r) (e - 9) = B5 ((p + My) * 2 ^ 9) (f - 9) ∧ flagsOf (X + r) (e - 9) = flagsOf ((p + My) * 2 ^ 9) (f - 9) := by
    refine Nm hd (.inr ⟨by omega, ?_, ?_, by omega⟩)
    · have h1 : X + r - 1 = X + (r - 1) := by omega
      rw [h1, Nat.add_mul X (r - 1) (2 ^ d), Nat.add_mul p My (2 ^ 9), comm]
      exact Nat.add_lt_add_left n1 _
    · have h1 : X + r + 1 = X + (r + 1) := by omega
      rw [h1, Nat.add_mul X (r + 1) (2 ^ d), Nat.add_mul p My (2 ^ 9), comm, e2]
      exact Nat.add_lt_add_left n2 _
  have a2 : B5 (X - r) (e - 9) = B5 ((p - My) * 2 ^ 9) (f - 9) ∧ flagsOf (X - r) (e - 9) = flagsOf ((p - My) * 2 ^ 9) (f - 9) := by
    rw [e2, comm] at hXd
    refine Nm hd (.inr ⟨by omega, ?_, ?_, by omega⟩)
    · have h1 : X - r - 1 = X - (r + 1) := by omega
      rw [h1, Nat.sub_mul X (r + 1) (2 ^ d), Nat.sub_mul p My (2 ^ 9), comm, e2]
      omega
    · have h1 : X - r + 1 = X - (r - 1) := by omega
      rw [h1, Nat.sub_mul X (r - 1) (2 ^ d), Nat.sub_mul p My (2 ^ 9), comm]
      omega
  rw [(shift9 _ f).1, (shift9 _ f).2] at a1 a2
  exact ⟨a1, hlt, a2⟩
theorem add_core {Mx My d : Nat} {e f : Int} (hd : e = f + d) (hx : Mx < 2 ^ 53) (hy : My < 2 ^ 53) (hbig : 10 ≤ d → 2 ^ 52 ≤ Mx) :
    AddCore Mx My d e f (Mx * 2 ^ 9) (Ey (My * 2 ^ 9) (min d 63)) := by
  have hA := B1 d
  have hY : My * 2 ^ 9 < 2 ^ 62 := by omega
  have comm : Mx * 2 ^ 9 * 2 ^ d = Mx * 2 ^ d * 2 ^ 9 := by rw [Nat.mul_assoc, Nat.mul_comm (2 ^ 9), ← Nat.mul_assoc]
  have s9 := fun V => shift9 V f
  by_cases hz : (My * 2 ^ 9) % 2 ^ d = 0
  ·
    have hr : ∃ r, Ey (My * 2 ^ 9) (min d 63) = r ∧ My * 2 ^ 9 = r * 2 ^ d := by
      by_cases hd63 : d ≤ 63
      · rw [Nat.min_eq_left hd63]
        exact ⟨_, rfl, by rw [rightN_zero hz]; exact (Nat.div_mul_cancel (Nat.dvd_of_mod_eq_zero hz)).symm⟩
      · have hp : 2 ^ 62 ≤ 2 ^ d := Nat.pow_le_pow_right (by decide) (by omega)
        have : My * 2 ^ 9 = 0 := by rw [Nat.mod_eq_of_lt (by omega)] at hz; exact hz
        rw [Nat.min_eq_right (by omega), this]
        exact ⟨0, by decide, by omega⟩
    obtain ⟨r, hr, hYr⟩ := hr
    rw [hr]
    have hle : r ≤ 2 ^ 62 := by
      have : r * 1 ≤ r * 2 ^ d := Nat.mul_le_mul_left r hA
      omega
    have cmp : ∀ x y : Nat, x * 2 ^ d < y * 2 ^ d ↔ x < y := fun x y => Nat.mul_lt_mul_right hA
    refine ⟨?_, fun h => ?_, fun h => ?_, fun h => ?_, hle⟩
    · rw [← (s9 _).1, ← (s9 _).2]
      exact Nm hd (.inl (by rw [Nat.add_mul (Mx * 2 ^ d) My (2 ^ 9), Nat.add_mul (Mx * 2 ^ 9) r (2 ^ d), comm, hYr]))
    · have h1 := (cmp r (Mx * 2 ^ 9)).2 h
      refine ⟨by omega, ?_⟩
      rw [← (s9 _).1, ← (s9 _).2]
      exact Nm hd (.inl (by first | rw [Nat.sub_mul (Mx * 2 ^ d) My (2 ^ 9), Nat.sub_mul (Mx * 2 ^ 9) r (2 ^ d), comm, hYr] | rw [Nat.sub_mul My (Mx * 2 ^ d) (2 ^ 9), Nat.sub_mul r (Mx * 2 ^ 9) (2 ^ d), comm, hYr]))
    · have h1 := (cmp (Mx * 2 ^ 9) r).2 h
      refine ⟨by omega, ?_⟩
      rw [← (s9 _).1, ← (s9 _).2]
      exact Nm hd (.inl (by first | rw [Nat.sub_mul (Mx * 2 ^ d) My (2 ^ 9), Nat.sub_mul (Mx * 2 ^ 9) r (2 ^ d), comm, hYr] | rw [Nat.sub_mul My (Mx * 2 ^ d) (2 ^ 9), Nat.sub_mul r (Mx * 2 ^ 9) (2 ^ d), comm, hYr]))
    · rw [← h] at hYr
      omega
  ·
    have hd10 := pow9 hz
    have hMx := hbig hd10
    obtain ⟨n1, n2, n3⟩ := rightN_near hY hz
    have hrle : Ey (My * 2 ^ 9) (min d 63) ≤ 2 ^ 53 := by
      refine Nat.le_of_not_lt fun h => ?_
      have h1 : 2 ^ 53 * 2 ^ d ≤ (Ey (My * 2 ^ 9) (min d 63) - 1) * 2 ^ d := Nat.mul_le_mul_right _ (by omega)
      have h2 : 2 ^ 10 ≤ 2 ^ d := Nat.pow_le_pow_right (by decide) hd10
      have h3 : 2 ^ 53 * 2 ^ 10 ≤ 2 ^ 53 * 2 ^ d := Nat.mul_le_mul_left _ h2
      omega
    generalize Ey (My * 2 ^ 9) (min d 63) = r at *
    have hr1 : 1 ≤ r := by omega
    have e1 : (r - 1) * 2 ^ d + 2 ^ d = r * 2 ^ d := by
      obtain ⟨k, rfl⟩ : ∃ k, r = k + 1 := ⟨r - 1, by omega⟩
      rw [Nat.add_sub_cancel, Nat.add_mul, Nat.one_mul]
    have e2 : (r + 1) * 2 ^ d = r * 2 ^ d + 2 ^ d := by rw [Nat.add_mul, Nat.one_mul]
    rw [e2] at n2
    have hXr : r < Mx * 2 ^ 9 := by omega
    have hXd : (r + 1) * 2 ^ d ≤ Mx * 2 ^ 9 * 2 ^ d := Nat.mul_le_mul_right _ (by omega)
    rw [e2, comm] at hXd
    obtain ⟨p1, p2, p3⟩ := add_odd hd comm n1 n2 n3 (by omega) (by omega) hrle
    exact ⟨p1, fun _ => ⟨p2, p3⟩, fun h => by omega, fun h => by omega, by omega⟩
theorem T9 (n : Bool) (m : Nat) (e : Int) : Fg n m e false = (Be n (B5 m e), flagsOf m e) := by
  unfold Fg
  have := Dg m 2 e
  have e1 : m * 2 ^ 2 = 4 * m + false.toNat := by simp; omega
  have e2 : e - ((2 : Nat) : Int) = e - 2 := by omega
  rw [e1, e2] at this
  rw [this.1, this.2]
theorem P4 (E : Int) : B5 0 E = 0 := if_pos rfl
theorem Nz (E : Int) : flagsOf 0 E = 0 := if_pos rfl
theorem Sy {b : Nat} (h : Jl b = true) : Ai b ≠ 4 ∧ Ai b ≠ 3 := by
  unfold Jl at h
  simp only [decide_eq_true_eq] at h
  unfold Ai
  rw [if_neg (by omega)]
  split
  · omega
  · split <;> omega
theorem Xy {b : Nat} (h : -1064 ≤ Ay b) : 2 ^ 52 ≤ Aq b := by
  unfold Ay at h
  unfold Aq
  split at h
  · omega
  · rw [if_neg (by assumption)]; omega
theorem Q6 (z : Nat) (s : Bool) {V : Nat} (hV : V ≠ 0) (f : Int) : Nq z (Gu s V) f = (Be s (B5 V f), flagsOf V f) := by
  unfold Nq Gu
  cases s
  · have h1 : ¬ (V : Int) = 0 := by omega
    have h2 : ¬ (V : Int) < 0 := by omega
    simp only [Bool.false_eq_true, if_false, h1, h2, decide_false, Int.natAbs_natCast]
  · have h1 : ¬ -(V : Int) = 0 := by omega
    have h2 : -(V : Int) < 0 := by omega
    simp only [if_true, h1, if_false, h2, decide_true, Int.natAbs_neg, Int.natAbs_natCast]
theorem add_aux {p q X r : Nat} {e f : Int} (s t : Bool)
    (plus : B5 (X + r) e = B5 (p + q) f ∧ flagsOf (X + r) e = flagsOf (p + q) f)
    (less : r < X → q < p ∧ B5 (X - r) e = B5 (p - q) f ∧ flagsOf (X - r) e = flagsOf (p - q) f)
    (more : X < r → p < q ∧ B5 (r - X) e = B5 (q - p) f ∧ flagsOf (r - X) e = flagsOf (q - p) f)
    (same : X = r → p = q) :
    Nq (Be (s && t) 0) (Gu s p + Gu t q) f = (if s = t then Fg s (X + r) e false
      else if r < X then Fg s (X - r) e false
      else if X < r then Fg t (r - X) e false
      else (0, 0)) := by
  simp only [T9]
  by_cases hs : s = t
  · rw [if_pos hs, ← hs]
    have hsum : Gu s p + Gu s q = Gu s (p + q) := by unfold Gu; cases s <;> simp <;> omega
    rw [hsum, plus.1, plus.2]
    by_cases h0 : p + q = 0
    · rw [h0, P4, Nz]
      unfold Nq
      have : Gu s 0 = 0 := by unfold Gu; cases s <;> rfl
      rw [if_pos this, Bool.and_self]
    · exact Q6 _ _ h0 _
  · rw [if_neg hs]
    by_cases h1 : r < X
    · obtain ⟨c1, c2, c3⟩ := less h1
      rw [if_pos h1, c2, c3]
      have hsum : Gu s p + Gu t q = Gu s (p - q) := by
        unfold Gu; cases s <;> cases t <;> simp at hs ⊢ <;> omega
      rw [hsum]
      exact Q6 _ _ (by omega) _
    · rw [if_neg h1]
      by_cases h2 : X < r
      · obtain ⟨c1, c2, c3⟩ := more h2
        rw [if_pos h2, c2, c3]
        have hsum : Gu s p + Gu t q = Gu t (q - p) := by
          unfold Gu; cases s <;> cases t <;> simp at hs ⊢ <;> omega
        rw [hsum]
        exact Q6 _ _ (by omega) _
      · rw [if_neg h2]
        have c := same (by omega)
        have hsum : Gu s p + Gu t q = 0 := by
          unfold Gu; cases s <;> cases t <;> simp at hs ⊢ <;> omega
        have hz : (s && t) = false := by cases s <;> cases t <;> simp at hs ⊢
        rw [hsum, hz]
        rfl
theorem addN_fin {a b : Nat} (ha : Jl a = true) (hb : Jl b = true) :
    Kf a b = Nq (Be (Bi a && Bi b) 0) (Io a (min (Ay a) (Ay b)) + Io b (min (Ay a) (Ay b))) (min (Ay a) (Ay b)) := by
  have k1 := Sy ha
  have k2 := Sy hb
  unfold Kf
  rw [if_neg (fun h => h.elim k1.1 k2.1), if_neg k1.2, if_neg k2.2]
theorem valAt_same (b : Nat) : Io b (Ay b) = Gu (Bi b) (Aq b) := by
  unfold Io; rw [Int.sub_self, Int.toNat_zero, Nat.pow_zero, Nat.mul_one]
theorem valAt_up {b : Nat} {f : Int} {d : Nat} (h : Ay b = f + d) : Io b f = Gu (Bi b) (Aq b * 2 ^ d) := by
  unfold Io
  have : (Ay b - f).toNat = d := by omega
  rw [this]
theorem add_ordered {a b : Nat} (ha : Jl a = true) (hb : Jl b = true) {d : Nat} (hd : Ay a = Ay b + d) :
    Kf a b = (if Bi a = Bi b then Fg (Bi a) (Aq a * 2 ^ 9 + Ey (Aq b * 2 ^ 9) (min d 63)) (Ay a - 9) false
      else if Ey (Aq b * 2 ^ 9) (min d 63) < Aq a * 2 ^ 9 then Fg (Bi a) (Aq a * 2 ^ 9 - Ey (Aq b * 2 ^ 9) (min d 63)) (Ay a - 9) false
      else if Aq a * 2 ^ 9 < Ey (Aq b * 2 ^ 9) (min d 63) then Fg (Bi b) (Ey (Aq b * 2 ^ 9) (min d 63) - Aq a * 2 ^ 9) (Ay a - 9) false
      else (0, 0)) := by
  have hx := El a
  have hy := El b
  have C := add_core (Mx := Aq a) (My := Aq b) hd hx hy (fun h => Xy (by have := D7 b; omega))
  rw [addN_fin ha hb, Int.min_eq_right (by omega), valAt_same, valAt_up hd]
  exact add_aux _ _ C.plus C.less C.more C.same
theorem Tp {b : Nat} (h : b < 2 ^ 64) : F6 b < 2 ^ 64 := by unfold F6; split <;> omega
theorem flagsOf_lt (m : Nat) (e : Int) : flagsOf m e < 32 := by
  unfold flagsOf flags
  split
  · decide
  · split
    · decide
    · split
      · decide
      · split <;> decide
theorem U6 {a b : Nat} (ha : a < 2 ^ 64) (hb : b < 2 ^ 64) : (Kf a b).1 < 2 ^ 64 ∧ (Kf a b).2 < 32 := by
  unfold Kf
  split
  · exact ⟨by decide, by decide⟩
  · split
    · split
      · decide
      · exact ⟨ha, (by decide : 0 < 32)⟩
    · split
      · exact ⟨hb, (by decide : 0 < 32)⟩
      · unfold Nq
        split
        · refine ⟨?_, (by decide : 0 < 32)⟩
          unfold Be; split <;> decide
        · exact ⟨Ry _ _ _, flagsOf_lt _ _⟩
end Go.Rnd
namespace Go.Rnd
open Go.Den
def Cx (r c : Nat) (f : Nat → Nat → Int) : List Int := (List.range (r * c)).map fun j => f (j / c) (j % c)
theorem Cd (r c : Nat) (f : Nat → Nat → Int) : (Cx r c f).length = r * c := by unfold Cx; rw [List.length_map, List.length_range]
theorem K8 {r c i k : Nat} (hi : i < r) (hk : k < c) : i * c + k < r * c := by
  have : (i + 1) * c ≤ r * c := Nat.mul_le_mul_right c hi
  rw [Nat.add_mul, Nat.one_mul] at this
  omega
theorem Ti {c i k : Nat} (hk : k < c) : (i * c + k) / c = i ∧ (i * c + k) % c = k := by
  constructor
  · rw [Nat.mul_comm, Nat.mul_add_div (by omega), Nat.div_eq_of_lt hk, Nat.add_zero]
  · rw [Nat.mul_comm, Nat.mul_add_mod, Nat.mod_eq_of_lt hk]
theorem Gp {r c : Nat} {f : Nat → Nat → Int} {j : Nat} (h : j < r * c) : (Cx r c f)[j]? = some (f (j / c) (j % c)) := by
  unfold Cx
  rw [List.getElem?_map, List.getElem?_range h]
  rfl
theorem grid_get {r c i k : Nat} {f : Nat → Nat → Int} (hi : i < r) (hk : k < c) : (Cx r c f).getD (i * c + k) 0 = f i k := by
  obtain ⟨d1, d2⟩ := Ti (i := i) hk
  rw [List.getD_eq_getElem?_getD, Gp (K8 hi hk), d1, d2]
  rfl
theorem Wa {l m : List Int} (h : l.length = m.length) (he : ∀ j, j < l.length → l[j]? = m[j]?) : l = m := by
  refine List.ext_getElem? fun j => ?_
  by_cases hj : j < l.length
  · exact he j hj
  · rw [List.getElem?_eq_none (by omega), List.getElem?_eq_none (by omega)]
theorem Dv {r c : Nat} {f g : Nat → Nat → Int} (h : ∀ i k, i < r → k < c → f i k = g i k) : Cx r c f = Cx r c g := by
  refine Wa (by rw [Cd, Cd]) fun j hj => ?_
  rw [Cd] at hj
  have hc : 0 < c := by
    rcases Nat.eq_zero_or_pos c with h0 | h0
    · subst h0; rw [Nat.mul_zero] at hj; omega
    · exact h0
  rw [Gp hj, Gp hj, h (j / c) (j % c) ((Nat.div_lt_iff_lt_mul hc).2 hj) (Nat.mod_lt _ hc)]
theorem grid_self {r c : Nat} {l : List Int} (h : l.length = r * c) : l = Cx r c fun i k => l.getD (i * c + k) 0 := by
  refine Wa (by rw [Cd, h]) fun j hj => ?_
  rw [Gp (by omega)]
  have e : j / c * c + j % c = j := by rw [Nat.mul_comm]; exact Nat.div_add_mod j c
  rw [e, List.getD_eq_getElem?_getD, List.getElem?_eq_getElem hj]
  rfl
theorem Sw {r c i k : Nat} {f : Nat → Nat → Int} (hk : k < c) (x : Int) :
    (Cx r c f).set (i * c + k) x = Cx r c fun a b => if a = i ∧ b = k then x else f a b := by
  refine Wa (by rw [List.length_set, Cd, Cd]) fun j hj => ?_
  rw [List.length_set, Cd] at hj
  obtain ⟨d1, d2⟩ := Ti (i := i) hk
  rw [Gp hj, List.getElem?_set]
  by_cases h : i * c + k = j
  · subst h
    rw [if_pos rfl, if_pos (by rw [Cd]; exact hj), d1, d2, if_pos ⟨rfl, rfl⟩]
  · rw [if_neg h, Gp hj, if_neg]
    rintro ⟨h1, h2⟩
    exact h (by rw [← h1, ← h2, Nat.mul_comm]; exact Nat.div_add_mod j c)
theorem Nh (r c : Nat) (f : Nat → Nat → Int) : Cx (r + 1) c f = Cx r c f ++ (List.range c).map (f r) := by
  unfold Cx
  rw [Nat.add_mul, Nat.one_mul, List.range_add, List.map_append, List.map_map]
  congr 1
  refine List.map_congr_left fun k hk => ?_
  have hk := List.mem_range.1 hk
  obtain ⟨d1, d2⟩ := Ti (i := r) hk
  show f ((r * c + k) / c) ((r * c + k) % c) = f r k
  rw [d1, d2]
theorem Ng (c : Nat) (f : Nat → Nat → Int) : Cx 0 c f = [] := by
  unfold Cx; rw [Nat.zero_mul]; rfl
theorem Jx (k : Nat) (g : Nat → Int) : (List.range (k + 1)).map g = (List.range k).map g ++ [g k] := by
  rw [List.range_succ, List.map_append]; rfl
theorem grid_const (r c : Nat) : Cx r c (fun _ _ => 0) = List.replicate (r * c) 0 := by
  unfold Cx
  rw [List.map_const', List.length_range]
def dotP : Nat → List Int → List Int → Nat
  | s, x :: xs, y :: ys => dotP (Kf s (Mi x.toNat y.toNat).1).1 xs ys
  | s, _, _ => s
def Qn (x y : List Int) : Int := dotP 0 x y
theorem U0 {a b : Nat} : (Mi a b).1 < 2 ^ 64 := by
  unfold Mi
  split
  · decide
  · split
    · split
      · decide
      · unfold Be; split <;> decide
    · exact Ry _ _ _
theorem Z7 : ∀ (x y : List Int) (s : Nat), s < 2 ^ 64 → dotP s x y < 2 ^ 64
  | x :: xs, y :: ys, s, h => Z7 xs ys _ (U6 h U0).1
  | [], _, _, h => by unfold dotP; exact h
  | _ :: _, [], _, h => by unfold dotP; exact h
end Go.Rnd
namespace Go.Rnd
open Go.Den
def Bs (n : Int) : Bool := decide (0 ≤ n) && decide (n ≤ 6)
def Bn (r c : Int) (l : List Int) : Bool := (Bs r && Bs c) && decide ((l.length : Int) = r * c)
def Jm (r c : Int) (l : List Int) : Int := if Bn r c l = true then 0 else 1
def Y2 (r c : Int) (l : List Int) (p q : Int) (m : List Int) : Int := if (Bn r c l && Bn p q m) = true then 0 else 1
def Ec (_r c : Int) (l : List Int) (i k : Int) : Bool := C2 (0 ≤ i ∧ i < 10 ∧ 0 ≤ k ∧ k < 10 ∧ 0 ≤ c ∧ c < 10 ∧ i * c + k < l.length ∧ l.length < 1000)
def Eg (c : Int) (l : List Int) (i k : Int) : Int := l.getD (i * c + k).toNat 0
def Tv (i k : Int) : Int := if i = k then 4607182418800017408 else 0
def Tc (x y i k : Int) : Bool := C2 (0 ≤ x ∧ x < 10 ∧ 0 ≤ y ∧ y < 10 ∧ 0 ≤ i ∧ i < 10 ∧ 0 ≤ k ∧ k < 10)
def Oa (r c x y a b : Int) : Bool := decide (0 ≤ x ∧ 0 ≤ y ∧ 0 ≤ a ∧ 0 ≤ b ∧ x ≤ r ∧ y ≤ c ∧ a ≤ r - x ∧ b ≤ c - y)
def Zc (r c : Int) (l : List Int) (i : Int) : Bool := Bn r c l && C2 (0 ≤ i ∧ i < r)
def Lm (r c : Int) (l : List Int) (k : Int) : Bool := Bn r c l && C2 (0 ≤ k ∧ k < c)
def Rb (r c : Int) (l : List Int) (p q : Int) (m : List Int) (i k : Int) : Bool := (Zc r c l i && Lm p q m k) && ((An l && An m) && C2 (c = p))
def Mf (c : Int) (l : List Int) (i : Int) : List Int := List.drop (i * c).toNat (List.take ((i + 1) * c).toNat l)
def Rk (r c : Int) (l : List Int) (k : Int) : List Int := (List.range r.toNat).map fun j : Nat => Eg c l (j : Int) k
abbrev MX := Int × Int × List Int × Int
def O0 (e : Int) : MX := (0, 0, [], e)
def Ll (n : Int) : MX := if Bs n = true then (n, n, Cx n.toNat n.toNat fun i k => Tv i k, 0) else O0 3
def Fi (r c : Int) (l : List Int) : MX := if Bn r c l = true then (c, r, Cx c.toNat r.toNat fun i k => Eg c l k i, 0) else O0 1
def Ia (r c : Int) (l : List Int) (x y a b : Int) : MX :=
  if Bn r c l = true then (if Oa r c x y a b = true then (a, b, Cx a.toNat b.toNat fun i k => Eg c l (x + i) (y + k), 0) else O0 3) else O0 1
def To (r c : Int) (l : List Int) (p q : Int) (m : List Int) : MX :=
  if (Bn r c l && Bn p q m) = true then (if c = p then (r, q, Cx r.toNat q.toNat fun i k => Qn (Mf c l i) (Rk p q m k), 0) else O0 3) else O0 1
def Tt (x y : List Int) : Bool := decide (x.length = y.length) && decide (x.length ≤ 64)
def R6 (x y : List Int) : Bool := decide (x = y)
def Ot (r c : Int) (l : List Int) (p q : Int) (m : List Int) : Bool := (decide (r = p) && decide (c = q)) && decide (l = m)
def Ob (l : List Int) : Bool := C2 (l.length ≤ 17592186044416)
theorem Ht {n : Int} : Bs n = true ↔ 0 ≤ n ∧ n ≤ 6 := by unfold Bs; simp
theorem K7 {r c : Int} {l : List Int} : Bn r c l = true ↔ (0 ≤ r ∧ r ≤ 6) ∧ (0 ≤ c ∧ c ≤ 6) ∧ (l.length : Int) = r * c := by
  unfold Bn
  rw [Bool.and_eq_true, Bool.and_eq_true, Ht, Ht, decide_eq_true_eq, and_assoc]
theorem Da {r c : Int} {l : List Int} (h : Bn r c l = true) : ∃ R C : Nat, r = R ∧ c = C ∧ R ≤ 6 ∧ C ≤ 6 ∧ l.length = R * C := by
  obtain ⟨h1, h2, h3⟩ := K7.1 h
  refine ⟨r.toNat, c.toNat, by omega, by omega, by omega, by omega, ?_⟩
  have : (((r.toNat * c.toNat : Nat)) : Int) = r * c := by rw [Int.natCast_mul, Int.toNat_of_nonneg h1.1, Int.toNat_of_nonneg h2.1]
  omega
theorem Gh {n : Int} (h : Bs n = true) : ∃ R : Nat, n = R ∧ R ≤ 6 := by
  have := Ht.1 h
  exact ⟨n.toNat, by omega, by omega⟩
theorem size_of {n : Nat} (h : n ≤ 6) : Bs (n : Int) = true := Ht.2 ⟨by omega, by omega⟩
theorem Ow {r c : Nat} {l : List Int} (hr : r ≤ 6) (hc : c ≤ 6) (hl : l.length = r * c) : Bn (r : Int) (c : Int) l = true :=
  K7.2 ⟨⟨by omega, by omega⟩, ⟨by omega, by omega⟩, by rw [hl, Int.natCast_mul]⟩
theorem atI_nat (c : Nat) (l : List Int) (i k : Nat) : Eg (c : Int) l (i : Int) (k : Int) = l.getD (i * c + k) 0 := by
  unfold Eg
  have : ((i : Int) * (c : Int) + (k : Int)).toNat = i * c + k := by
    rw [← Int.natCast_mul, ← Int.natCast_add, Int.toNat_natCast]
  rw [this]
theorem Dl {r c i k : Nat} {R : Int} {l : List Int} (hr : r ≤ 6) (hc : c ≤ 6) (hl : l.length = r * c) (hi : i < r) (hk : k < c) : Ec R (c : Int) l (i : Int) (k : Int) = true := by
  have := K8 hi hk
  have h36 := Nat.mul_le_mul hr hc
  refine Ar.2 ⟨by omega, by omega, by omega, by omega, by omega, by omega, ?_, by omega⟩
  rw [← Int.natCast_mul]
  omega
theorem grid_at {r c i k : Nat} {f : Nat → Nat → Int} (hi : i < r) (hk : k < c) : Eg (c : Int) (Cx r c f) (i : Int) (k : Int) = f i k := by
  rw [atI_nat, grid_get hi hk]
theorem Yb {r c : Nat} {l : List Int} (h : l.length = r * c) : (Cx r c fun i k => Eg (c : Int) l (i : Int) (k : Int)) = l := by
  conv => rhs; rw [grid_self h]
  exact Dv fun i k _ _ => atI_nat c l i k
theorem Aai {l : List Int} (h : An l = true) {j : Nat} (hj : j < l.length) : Ah (l.getD j 0) = true := by
  have h := Ar.1 h
  rw [List.getD_eq_getElem?_getD, List.getElem?_eq_getElem hj]
  exact h _ (List.getElem_mem hj)
end Go.Rnd
end
