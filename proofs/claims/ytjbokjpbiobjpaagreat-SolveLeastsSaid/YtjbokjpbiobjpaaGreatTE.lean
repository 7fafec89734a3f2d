/- A verified evaluator of the program's form and its use for this seat: S1Env, Rnd, Flt, Words, NearL, IeeL, OrdL, MulL, Limb, DyL, DyV, ExactL, MulW, SumL, MatL, MatW, PowL. -/
import Derived.Test.YtjbokjpbiobjpaaGreatProg
import Derived.Test.YtjbokjpbiobjpaaGreatTD
set_option linter.unusedVariables false
set_option linter.unusedSimpArgs false
noncomputable section
namespace Go.Proofs.S1
open Go Go.Den Go.Proofs
set_option maxRecDepth 100000
abbrev tB : Nat := 37
abbrev tMR : Nat := 214
abbrev tW : Nat := 173
def tys : List (Nat × TI) := [
  (2, ⟨1, 8, (.int .i64), [.int .i64 (0 : Int)]⟩),
  (3, ⟨1, 8, (.int .i64), [.int .i64 (0 : Int)]⟩),
  (4, ⟨1, 1, .bool, [.bool false]⟩),
  (5, ⟨1, 1, (.int .u8), [.int .u8 (0 : Int)]⟩),
  (22, ⟨1, 24, (.slice 37), [.nil]⟩),
  (24, ⟨3, 40, (.struct [(0, 3), (1, 3), (2, 22)]), [.int .i64 (0 : Int), .int .i64 (0 : Int), .nil]⟩),
  (25, ⟨1, 8, (.int .i64), [.int .i64 (0 : Int)]⟩),
  (36, ⟨1, 8, (.int .u64), [.int .u64 (0 : Int)]⟩),
  (37, ⟨1, 8, (.int .u64), [.int .u64 (0 : Int)]⟩),
  (38, ⟨1, 24, (.slice 41), [.nil]⟩),
  (41, ⟨1, 1, (.int .i8), [.int .i8 (0 : Int)]⟩),
  (43, ⟨1, 24, (.slice 173), [.nil]⟩),
  (45, ⟨2, 32, (.struct [(0, 4), (1, 43)]), [.bool false, .nil]⟩),
  (47, ⟨3, 40, (.struct [(0, 45), (2, 3)]), [.bool false, .nil, .int .i64 (0 : Int)]⟩),
  (57, ⟨12, 160, (.struct [(0, 24), (3, 24), (6, 24), (9, 24)]), [.int .i64 (0 : Int), .int .i64 (0 : Int), .nil, .int .i64 (0 : Int), .int .i64 (0 : Int), .nil, .int .i64 (0 : Int), .int .i64 (0 : Int), .nil, .int .i64 (0 : Int), .int .i64 (0 : Int), .nil]⟩),
  (60, ⟨12, 160, (.struct [(0, 24), (3, 24), (6, 24), (9, 24)]), [.int .i64 (0 : Int), .int .i64 (0 : Int), .nil, .int .i64 (0 : Int), .int .i64 (0 : Int), .nil, .int .i64 (0 : Int), .int .i64 (0 : Int), .nil, .int .i64 (0 : Int), .int .i64 (0 : Int), .nil]⟩),
  (71, ⟨9, 120, (.struct [(0, 24), (3, 24), (6, 24)]), [.int .i64 (0 : Int), .int .i64 (0 : Int), .nil, .int .i64 (0 : Int), .int .i64 (0 : Int), .nil, .int .i64 (0 : Int), .int .i64 (0 : Int), .nil]⟩),
  (74, ⟨9, 120, (.struct [(0, 24), (3, 24), (6, 24)]), [.int .i64 (0 : Int), .int .i64 (0 : Int), .nil, .int .i64 (0 : Int), .int .i64 (0 : Int), .nil, .int .i64 (0 : Int), .int .i64 (0 : Int), .nil]⟩),
  (80, ⟨7, 88, (.struct [(0, 24), (3, 24), (6, 25)]), [.int .i64 (0 : Int), .int .i64 (0 : Int), .nil, .int .i64 (0 : Int), .int .i64 (0 : Int), .nil, .int .i64 (0 : Int)]⟩),
  (88, ⟨9, 120, (.struct [(0, 24), (3, 24), (6, 24)]), [.int .i64 (0 : Int), .int .i64 (0 : Int), .nil, .int .i64 (0 : Int), .int .i64 (0 : Int), .nil, .int .i64 (0 : Int), .int .i64 (0 : Int), .nil]⟩),
  (91, ⟨1, 24, (.slice 24), [.nil]⟩),
  (102, ⟨1, 8, (.int .i64), [.int .i64 (0 : Int)]⟩),
  (114, ⟨6, 80, (.array 2 24), [.int .i64 (0 : Int), .int .i64 (0 : Int), .nil, .int .i64 (0 : Int), .int .i64 (0 : Int), .nil]⟩),
  (118, ⟨7, 88, (.struct [(0, 24), (3, 24), (6, 4)]), [.int .i64 (0 : Int), .int .i64 (0 : Int), .nil, .int .i64 (0 : Int), .int .i64 (0 : Int), .nil, .bool false]⟩),
  (121, ⟨1, 8, .fl, [.fl 0]⟩),
  (131, ⟨1, 24, (.slice 47), [.nil]⟩),
  (134, ⟨1, 24, (.slice 135), [.nil]⟩),
  (135, ⟨1, 24, (.slice 45), [.nil]⟩),
  (145, ⟨9, 120, (.array 3 24), [.int .i64 (0 : Int), .int .i64 (0 : Int), .nil, .int .i64 (0 : Int), .int .i64 (0 : Int), .nil, .int .i64 (0 : Int), .int .i64 (0 : Int), .nil]⟩),
  (147, ⟨15, 200, (.struct [(0, 24), (3, 24), (6, 24), (9, 24), (12, 24)]), [.int .i64 (0 : Int), .int .i64 (0 : Int), .nil, .int .i64 (0 : Int), .int .i64 (0 : Int), .nil, .int .i64 (0 : Int), .int .i64 (0 : Int), .nil, .int .i64 (0 : Int), .int .i64 (0 : Int), .nil, .int .i64 (0 : Int), .int .i64 (0 : Int), .nil]⟩),
  (155, ⟨3, 40, (.struct [(0, 3), (1, 3), (2, 131)]), [.int .i64 (0 : Int), .int .i64 (0 : Int), .nil]⟩),
  (166, ⟨1, 1, (.int .u8), [.int .u8 (0 : Int)]⟩),
  (173, ⟨1, 4, (.int .u32), [.int .u32 (0 : Int)]⟩),
  (183, ⟨12, 160, (.array 4 24), [.int .i64 (0 : Int), .int .i64 (0 : Int), .nil, .int .i64 (0 : Int), .int .i64 (0 : Int), .nil, .int .i64 (0 : Int), .int .i64 (0 : Int), .nil, .int .i64 (0 : Int), .int .i64 (0 : Int), .nil]⟩),
  (188, ⟨2, 16, (.array 2 3), [.int .i64 (0 : Int), .int .i64 (0 : Int)]⟩),
  (189, ⟨1, 24, (.slice 191), [.nil]⟩),
  (191, ⟨3, 40, (.struct [(0, 22), (1, 37), (2, 37)]), [.nil, .int .u64 (0 : Int), .int .u64 (0 : Int)]⟩),
  (199, ⟨3, 24, (.struct [(0, 4), (1, 3), (2, 36)]), [.bool false, .int .i64 (0 : Int), .int .u64 (0 : Int)]⟩),
  (208, ⟨1, 24, (.slice 214), [.nil]⟩),
  (214, ⟨2, 32, (.struct [(0, 22), (1, 37)]), [.nil, .int .u64 (0 : Int)]⟩)]
theorem ty2 : B8 Tryz.prog 2 ⟨1, 8, (.int .i64), [.int .i64 (0 : Int)]⟩ := Ca (z := .int .i64 (0 : Int)) (by kernel_rfl) (fun c w => by simp [A8, Ao, Value.cells]) rfl (by simp [Value.cells, Value.oneCell']) (by simp only [Cc]; exact Tryz.underlying2)
theorem ty3 : B8 Tryz.prog 3 ⟨1, 8, (.int .i64), [.int .i64 (0 : Int)]⟩ := Ca (z := .int .i64 (0 : Int)) (by kernel_rfl) (fun c w => by simp [A8, Ao, Value.cells]) rfl (by simp [Value.cells, Value.oneCell']) (by simp only [Cc]; exact Tryz.underlying3)
theorem ty4 : B8 Tryz.prog 4 ⟨1, 1, .bool, [.bool false]⟩ := Ca (z := .bool false) (by kernel_rfl) (fun c w => by simp [A8, Ao, Value.cells]) rfl (by simp [Value.cells, Value.oneCell']) (by simp only [Cc]; exact Tryz.underlying4)
theorem ty5 : B8 Tryz.prog 5 ⟨1, 1, (.int .u8), [.int .u8 (0 : Int)]⟩ := Ca (z := .int .u8 (0 : Int)) (by kernel_rfl) (fun c w => by simp [A8, Ao, Value.cells]) rfl (by simp [Value.cells, Value.oneCell']) (by simp only [Cc]; exact Tryz.underlying5)
theorem ty22 : B8 Tryz.prog 22 ⟨1, 24, (.slice 37), [.nil]⟩ := Ca (z := .slice none 0 0) (by kernel_rfl) (fun c w => by simp [A8, Ao, Value.cells]) rfl (by simp [Value.cells, Value.oneCell']) (by simp only [Cc]; exact Tryz.underlying22)
theorem ty24 : B8 Tryz.prog 24 ⟨3, 40, (.struct [(0, 3), (1, 3), (2, 22)]), [.int .i64 (0 : Int), .int .i64 (0 : Int), .nil]⟩ := Ca (z := .agg #[.int .i64 (0 : Int), .int .i64 (0 : Int), .slice none 0 0]) (by kernel_rfl) (fun c w => by simp [A8, Ao, Value.cells]) rfl (by simp [Value.cells, Value.oneCell']) (by simp only [Cc]; exact ⟨_, Tryz.underlying24, by kernel_rfl⟩)
theorem ty25 : B8 Tryz.prog 25 ⟨1, 8, (.int .i64), [.int .i64 (0 : Int)]⟩ := Ca (z := .int .i64 (0 : Int)) (by kernel_rfl) (fun c w => by simp [A8, Ao, Value.cells]) rfl (by simp [Value.cells, Value.oneCell']) (by simp only [Cc]; exact Tryz.underlying25)
theorem Arz : B8 Tryz.prog 36 ⟨1, 8, (.int .u64), [.int .u64 (0 : Int)]⟩ := Ca (z := .int .u64 (0 : Int)) (by kernel_rfl) (fun c w => by simp [A8, Ao, Value.cells]) rfl (by simp [Value.cells, Value.oneCell']) (by simp only [Cc]; exact Tryz.underlying36)
theorem ty37 : B8 Tryz.prog 37 ⟨1, 8, (.int .u64), [.int .u64 (0 : Int)]⟩ := Ca (z := .int .u64 (0 : Int)) (by kernel_rfl) (fun c w => by simp [A8, Ao, Value.cells]) rfl (by simp [Value.cells, Value.oneCell']) (by simp only [Cc]; exact Tryz.underlying37)
theorem ty38 : B8 Tryz.prog 38 ⟨1, 24, (.slice 41), [.nil]⟩ := Ca (z := .slice none 0 0) (by kernel_rfl) (fun c w => by simp [A8, Ao, Value.cells]) rfl (by simp [Value.cells, Value.oneCell']) (by simp only [Cc]; exact Tryz.underlying38)
theorem ty41 : B8 Tryz.prog 41 ⟨1, 1, (.int .i8), [.int .i8 (0 : Int)]⟩ := Ca (z := .int .i8 (0 : Int)) (by kernel_rfl) (fun c w => by simp [A8, Ao, Value.cells]) rfl (by simp [Value.cells, Value.oneCell']) (by simp only [Cc]; exact Tryz.underlying41)
theorem ty43 : B8 Tryz.prog 43 ⟨1, 24, (.slice 173), [.nil]⟩ := Ca (z := .slice none 0 0) (by kernel_rfl) (fun c w => by simp [A8, Ao, Value.cells]) rfl (by simp [Value.cells, Value.oneCell']) (by simp only [Cc]; exact Tryz.underlying43)
theorem ty45 : B8 Tryz.prog 45 ⟨2, 32, (.struct [(0, 4), (1, 43)]), [.bool false, .nil]⟩ := Ca (z := .agg #[.bool false, .slice none 0 0]) (by kernel_rfl) (fun c w => by simp [A8, Ao, Value.cells]) rfl (by simp [Value.cells, Value.oneCell']) (by simp only [Cc]; exact ⟨_, Tryz.underlying45, by kernel_rfl⟩)
theorem ty47 : B8 Tryz.prog 47 ⟨3, 40, (.struct [(0, 45), (2, 3)]), [.bool false, .nil, .int .i64 (0 : Int)]⟩ := Ca (z := .agg #[.bool false, .slice none 0 0, .int .i64 (0 : Int)]) (by kernel_rfl) (fun c w => by simp [A8, Ao, Value.cells]) rfl (by simp [Value.cells, Value.oneCell']) (by simp only [Cc]; exact ⟨_, Tryz.underlying47, by kernel_rfl⟩)
theorem ty57 : B8 Tryz.prog 57 ⟨12, 160, (.struct [(0, 24), (3, 24), (6, 24), (9, 24)]), [.int .i64 (0 : Int), .int .i64 (0 : Int), .nil, .int .i64 (0 : Int), .int .i64 (0 : Int), .nil, .int .i64 (0 : Int), .int .i64 (0 : Int), .nil, .int .i64 (0 : Int), .int .i64 (0 : Int), .nil]⟩ := Ca (z := .agg #[.int .i64 (0 : Int), .int .i64 (0 : Int), .slice none 0 0, .int .i64 (0 : Int), .int .i64 (0 : Int), .slice none 0 0, .int .i64 (0 : Int), .int .i64 (0 : Int), .slice none 0 0, .int .i64 (0 : Int), .int .i64 (0 : Int), .slice none 0 0]) (by kernel_rfl) (fun c w => by simp [A8, Ao, Value.cells]) rfl (by simp [Value.cells, Value.oneCell']) (by simp only [Cc]; exact ⟨_, Tryz.underlying57, by kernel_rfl⟩)
theorem ty60 : B8 Tryz.prog 60 ⟨12, 160, (.struct [(0, 24), (3, 24), (6, 24), (9, 24)]), [.int .i64 (0 : Int), .int .i64 (0 : Int), .nil, .int .i64 (0 : Int), .int .i64 (0 : Int), .nil, .int .i64 (0 : Int), .int .i64 (0 : Int), .nil, .int .i64 (0 : Int), .int .i64 (0 : Int), .nil]⟩ := Ca (z := .agg #[.int .i64 (0 : Int), .int .i64 (0 : Int), .slice none 0 0, .int .i64 (0 : Int), .int .i64 (0 : Int), .slice none 0 0, .int .i64 (0 : Int), .int .i64 (0 : Int), .slice none 0 0, .int .i64 (0 : Int), .int .i64 (0 : Int), .slice none 0 0]) (by kernel_rfl) (fun c w => by simp [A8, Ao, Value.cells]) rfl (by simp [Value.cells, Value.oneCell']) (by simp only [Cc]; exact ⟨_, Tryz.underlying60, by kernel_rfl⟩)
theorem ty71 : B8 Tryz.prog 71 ⟨9, 120, (.struct [(0, 24), (3, 24), (6, 24)]), [.int .i64 (0 : Int), .int .i64 (0 : Int), .nil, .int .i64 (0 : Int), .int .i64 (0 : Int), .nil, .int .i64 (0 : Int), .int .i64 (0 : Int), .nil]⟩ := Ca (z := .agg #[.int .i64 (0 : Int), .int .i64 (0 : Int), .slice none 0 0, .int .i64 (0 : Int), .int .i64 (0 : Int), .slice none 0 0, .int .i64 (0 : Int), .int .i64 (0 : Int), .slice none 0 0]) (by kernel_rfl) (fun c w => by simp [A8, Ao, Value.cells]) rfl (by simp [Value.cells, Value.oneCell']) (by simp only [Cc]; exact ⟨_, Tryz.underlying71, by kernel_rfl⟩)
theorem ty74 : B8 Tryz.prog 74 ⟨9, 120, (.struct [(0, 24), (3, 24), (6, 24)]), [.int .i64 (0 : Int), .int .i64 (0 : Int), .nil, .int .i64 (0 : Int), .int .i64 (0 : Int), .nil, .int .i64 (0 : Int), .int .i64 (0 : Int), .nil]⟩ := Ca (z := .agg #[.int .i64 (0 : Int), .int .i64 (0 : Int), .slice none 0 0, .int .i64 (0 : Int), .int .i64 (0 : Int), .slice none 0 0, .int .i64 (0 : Int), .int .i64 (0 : Int), .slice none 0 0]) (by kernel_rfl) (fun c w => by simp [A8, Ao, Value.cells]) rfl (by simp [Value.cells, Value.oneCell']) (by simp only [Cc]; exact ⟨_, Tryz.underlying74, by kernel_rfl⟩)
theorem ty80 : B8 Tryz.prog 80 ⟨7, 88, (.struct [(0, 24), (3, 24), (6, 25)]), [.int .i64 (0 : Int), .int .i64 (0 : Int), .nil, .int .i64 (0 : Int), .int .i64 (0 : Int), .nil, .int .i64 (0 : Int)]⟩ := Ca (z := .agg #[.int .i64 (0 : Int), .int .i64 (0 : Int), .slice none 0 0, .int .i64 (0 : Int), .int .i64 (0 : Int), .slice none 0 0, .int .i64 (0 : Int)]) (by kernel_rfl) (fun c w => by simp [A8, Ao, Value.cells]) rfl (by simp [Value.cells, Value.oneCell']) (by simp only [Cc]; exact ⟨_, Tryz.underlying80, by kernel_rfl⟩)
theorem ty88 : B8 Tryz.prog 88 ⟨9, 120, (.struct [(0, 24), (3, 24), (6, 24)]), [.int .i64 (0 : Int), .int .i64 (0 : Int), .nil, .int .i64 (0 : Int), .int .i64 (0 : Int), .nil, .int .i64 (0 : Int), .int .i64 (0 : Int), .nil]⟩ := Ca (z := .agg #[.int .i64 (0 : Int), .int .i64 (0 : Int), .slice none 0 0, .int .i64 (0 : Int), .int .i64 (0 : Int), .slice none 0 0, .int .i64 (0 : Int), .int .i64 (0 : Int), .slice none 0 0]) (by kernel_rfl) (fun c w => by simp [A8, Ao, Value.cells]) rfl (by simp [Value.cells, Value.oneCell']) (by simp only [Cc]; exact ⟨_, Tryz.underlying88, by kernel_rfl⟩)
theorem ty91 : B8 Tryz.prog 91 ⟨1, 24, (.slice 24), [.nil]⟩ := Ca (z := .slice none 0 0) (by kernel_rfl) (fun c w => by simp [A8, Ao, Value.cells]) rfl (by simp [Value.cells, Value.oneCell']) (by simp only [Cc]; exact Tryz.underlying91)
theorem Asi : B8 Tryz.prog 102 ⟨1, 8, (.int .i64), [.int .i64 (0 : Int)]⟩ := Ca (z := .int .i64 (0 : Int)) (by kernel_rfl) (fun c w => by simp [A8, Ao, Value.cells]) rfl (by simp [Value.cells, Value.oneCell']) (by simp only [Cc]; exact Tryz.underlying102)
theorem Ash : B8 Tryz.prog 114 ⟨6, 80, (.array 2 24), [.int .i64 (0 : Int), .int .i64 (0 : Int), .nil, .int .i64 (0 : Int), .int .i64 (0 : Int), .nil]⟩ := Ca (z := .agg #[.int .i64 (0 : Int), .int .i64 (0 : Int), .slice none 0 0, .int .i64 (0 : Int), .int .i64 (0 : Int), .slice none 0 0]) (by kernel_rfl) (fun c w => by simp [A8, Ao, Value.cells]) rfl (by simp [Value.cells, Value.oneCell']) (by simp only [Cc]; exact Tryz.underlying114)
theorem Asg : B8 Tryz.prog 118 ⟨7, 88, (.struct [(0, 24), (3, 24), (6, 4)]), [.int .i64 (0 : Int), .int .i64 (0 : Int), .nil, .int .i64 (0 : Int), .int .i64 (0 : Int), .nil, .bool false]⟩ := Ca (z := .agg #[.int .i64 (0 : Int), .int .i64 (0 : Int), .slice none 0 0, .int .i64 (0 : Int), .int .i64 (0 : Int), .slice none 0 0, .bool false]) (by kernel_rfl) (fun c w => by simp [A8, Ao, Value.cells]) rfl (by simp [Value.cells, Value.oneCell']) (by simp only [Cc]; exact ⟨_, Tryz.underlying118, by kernel_rfl⟩)
theorem Asf : B8 Tryz.prog 121 ⟨1, 8, .fl, [.fl 0]⟩ := Ca (z := .float .f64 0) (by kernel_rfl) (fun c w => by simp [A8, Ao, Value.cells, Pj]) rfl (by simp [Value.cells, Value.oneCell']) (by simp only [Cc]; exact Tryz.underlying121)
theorem Ase : B8 Tryz.prog 131 ⟨1, 24, (.slice 47), [.nil]⟩ := Ca (z := .slice none 0 0) (by kernel_rfl) (fun c w => by simp [A8, Ao, Value.cells]) rfl (by simp [Value.cells, Value.oneCell']) (by simp only [Cc]; exact Tryz.underlying131)
theorem Asd : B8 Tryz.prog 134 ⟨1, 24, (.slice 135), [.nil]⟩ := Ca (z := .slice none 0 0) (by kernel_rfl) (fun c w => by simp [A8, Ao, Value.cells]) rfl (by simp [Value.cells, Value.oneCell']) (by simp only [Cc]; exact Tryz.underlying134)
theorem Asc : B8 Tryz.prog 135 ⟨1, 24, (.slice 45), [.nil]⟩ := Ca (z := .slice none 0 0) (by kernel_rfl) (fun c w => by simp [A8, Ao, Value.cells]) rfl (by simp [Value.cells, Value.oneCell']) (by simp only [Cc]; exact Tryz.underlying135)
theorem Asb : B8 Tryz.prog 145 ⟨9, 120, (.array 3 24), [.int .i64 (0 : Int), .int .i64 (0 : Int), .nil, .int .i64 (0 : Int), .int .i64 (0 : Int), .nil, .int .i64 (0 : Int), .int .i64 (0 : Int), .nil]⟩ := Ca (z := .agg #[.int .i64 (0 : Int), .int .i64 (0 : Int), .slice none 0 0, .int .i64 (0 : Int), .int .i64 (0 : Int), .slice none 0 0, .int .i64 (0 : Int), .int .i64 (0 : Int), .slice none 0 0]) (by kernel_rfl) (fun c w => by simp [A8, Ao, Value.cells]) rfl (by simp [Value.cells, Value.oneCell']) (by simp only [Cc]; exact Tryz.underlying145)
theorem Asa : B8 Tryz.prog 147 ⟨15, 200, (.struct [(0, 24), (3, 24), (6, 24), (9, 24), (12, 24)]), [.int .i64 (0 : Int), .int .i64 (0 : Int), .nil, .int .i64 (0 : Int), .int .i64 (0 : Int), .nil, .int .i64 (0 : Int), .int .i64 (0 : Int), .nil, .int .i64 (0 : Int), .int .i64 (0 : Int), .nil, .int .i64 (0 : Int), .int .i64 (0 : Int), .nil]⟩ := Ca (z := .agg #[.int .i64 (0 : Int), .int .i64 (0 : Int), .slice none 0 0, .int .i64 (0 : Int), .int .i64 (0 : Int), .slice none 0 0, .int .i64 (0 : Int), .int .i64 (0 : Int), .slice none 0 0, .int .i64 (0 : Int), .int .i64 (0 : Int), .slice none 0 0, .int .i64 (0 : Int), .int .i64 (0 : Int), .slice none 0 0]) (by kernel_rfl) (fun c w => by simp [A8, Ao, Value.cells]) rfl (by simp [Value.cells, Value.oneCell']) (by simp only [Cc]; exact ⟨_, Tryz.underlying147, by kernel_rfl⟩)
theorem Ar9 : B8 Tryz.prog 155 ⟨3, 40, (.struct [(0, 3), (1, 3), (2, 131)]), [.int .i64 (0 : Int), .int .i64 (0 : Int), .nil]⟩ := Ca (z := .agg #[.int .i64 (0 : Int), .int .i64 (0 : Int), .slice none 0 0]) (by kernel_rfl) (fun c w => by simp [A8, Ao, Value.cells]) rfl (by simp [Value.cells, Value.oneCell']) (by simp only [Cc]; exact ⟨_, Tryz.underlying155, by kernel_rfl⟩)
theorem Ar8 : B8 Tryz.prog 166 ⟨1, 1, (.int .u8), [.int .u8 (0 : Int)]⟩ := Ca (z := .int .u8 (0 : Int)) (by kernel_rfl) (fun c w => by simp [A8, Ao, Value.cells]) rfl (by simp [Value.cells, Value.oneCell']) (by simp only [Cc]; exact Tryz.underlying166)
theorem Ar7 : B8 Tryz.prog 173 ⟨1, 4, (.int .u32), [.int .u32 (0 : Int)]⟩ := Ca (z := .int .u32 (0 : Int)) (by kernel_rfl) (fun c w => by simp [A8, Ao, Value.cells]) rfl (by simp [Value.cells, Value.oneCell']) (by simp only [Cc]; exact Tryz.underlying173)
theorem Ar6 : B8 Tryz.prog 183 ⟨12, 160, (.array 4 24), [.int .i64 (0 : Int), .int .i64 (0 : Int), .nil, .int .i64 (0 : Int), .int .i64 (0 : Int), .nil, .int .i64 (0 : Int), .int .i64 (0 : Int), .nil, .int .i64 (0 : Int), .int .i64 (0 : Int), .nil]⟩ := Ca (z := .agg #[.int .i64 (0 : Int), .int .i64 (0 : Int), .slice none 0 0, .int .i64 (0 : Int), .int .i64 (0 : Int), .slice none 0 0, .int .i64 (0 : Int), .int .i64 (0 : Int), .slice none 0 0, .int .i64 (0 : Int), .int .i64 (0 : Int), .slice none 0 0]) (by kernel_rfl) (fun c w => by simp [A8, Ao, Value.cells]) rfl (by simp [Value.cells, Value.oneCell']) (by simp only [Cc]; exact Tryz.underlying183)
theorem Ar5 : B8 Tryz.prog 188 ⟨2, 16, (.array 2 3), [.int .i64 (0 : Int), .int .i64 (0 : Int)]⟩ := Ca (z := .agg #[.int .i64 (0 : Int), .int .i64 (0 : Int)]) (by kernel_rfl) (fun c w => by simp [A8, Ao, Value.cells]) rfl (by simp [Value.cells, Value.oneCell']) (by simp only [Cc]; exact Tryz.underlying188)
theorem Ar4 : B8 Tryz.prog 189 ⟨1, 24, (.slice 191), [.nil]⟩ := Ca (z := .slice none 0 0) (by kernel_rfl) (fun c w => by simp [A8, Ao, Value.cells]) rfl (by simp [Value.cells, Value.oneCell']) (by simp only [Cc]; exact Tryz.underlying189)
theorem Ar3 : B8 Tryz.prog 191 ⟨3, 40, (.struct [(0, 22), (1, 37), (2, 37)]), [.nil, .int .u64 (0 : Int), .int .u64 (0 : Int)]⟩ := Ca (z := .agg #[.slice none 0 0, .int .u64 (0 : Int), .int .u64 (0 : Int)]) (by kernel_rfl) (fun c w => by simp [A8, Ao, Value.cells]) rfl (by simp [Value.cells, Value.oneCell']) (by simp only [Cc]; exact ⟨_, Tryz.underlying191, by kernel_rfl⟩)
theorem Ar2 : B8 Tryz.prog 199 ⟨3, 24, (.struct [(0, 4), (1, 3), (2, 36)]), [.bool false, .int .i64 (0 : Int), .int .u64 (0 : Int)]⟩ := Ca (z := .agg #[.bool false, .int .i64 (0 : Int), .int .u64 (0 : Int)]) (by kernel_rfl) (fun c w => by simp [A8, Ao, Value.cells]) rfl (by simp [Value.cells, Value.oneCell']) (by simp only [Cc]; exact ⟨_, Tryz.underlying199, by kernel_rfl⟩)
theorem Ar1 : B8 Tryz.prog 208 ⟨1, 24, (.slice 214), [.nil]⟩ := Ca (z := .slice none 0 0) (by kernel_rfl) (fun c w => by simp [A8, Ao, Value.cells]) rfl (by simp [Value.cells, Value.oneCell']) (by simp only [Cc]; exact Tryz.underlying208)
theorem Ar0 : B8 Tryz.prog 214 ⟨2, 32, (.struct [(0, 22), (1, 37)]), [.nil, .int .u64 (0 : Int)]⟩ := Ca (z := .agg #[.slice none 0 0, .int .u64 (0 : Int)]) (by kernel_rfl) (fun c w => by simp [A8, Ao, Value.cells]) rfl (by simp [Value.cells, Value.oneCell']) (by simp only [Cc]; exact ⟨_, Tryz.underlying214, by kernel_rfl⟩)
theorem Aqj : Rd Tryz.prog tys := .cons ty2 <| .cons ty3 <| .cons ty4 <| .cons ty5 <| .cons ty22 <| .cons ty24 <| .cons ty25 <| .cons Arz <| .cons ty37 <| .cons ty38 <| .cons ty41 <| .cons ty43 <| .cons ty45 <| .cons ty47 <| .cons ty57 <| .cons ty60 <| .cons ty71 <| .cons ty74 <| .cons ty80 <| .cons ty88 <| .cons ty91 <| .cons Asi <| .cons Ash <| .cons Asg <| .cons Asf <| .cons Ase <| .cons Asd <| .cons Asc <| .cons Asb <| .cons Asa <| .cons Ar9 <| .cons Ar8 <| .cons Ar7 <| .cons Ar6 <| .cons Ar5 <| .cons Ar4 <| .cons Ar3 <| .cons Ar2 <| .cons Ar1 <| .cons Ar0 <| .nil
def exts : List (Nat × Ext) := [(169, .bits), (210, .frombits), (263, .sqrt), (266, .sub64)]
def Aef : List (Nat × Ext) → Nat → Option Ext
  | [], _ => none
  | (m, e) :: l, n => bif Nat.beq m n then some e else Aef l n
theorem Amy (args : Array Value) (w : World) : (callFunc 169 args).run Tryz.prog w = ((Se .bits args).run Tryz.prog w).andThen fun v w' => .ok (.value v) w' := run_callFunc_extern (e := Extern.MathFloatBits.float64bits) Tryz.func169 (by kernel_rfl) (by kernel_rfl) (by kernel_rfl) (by kernel_rfl) args w
theorem Amx (args : Array Value) (w : World) : (callFunc 210 args).run Tryz.prog w = ((Se .frombits args).run Tryz.prog w).andThen fun v w' => .ok (.value v) w' := run_callFunc_extern (e := Extern.MathFloatBits.float64frombits) Tryz.func210 (by kernel_rfl) (by kernel_rfl) (by kernel_rfl) (by kernel_rfl) args w
theorem Amw (args : Array Value) (w : World) : (callFunc 263 args).run Tryz.prog w = ((Se .sqrt args).run Tryz.prog w).andThen fun v w' => .ok (.value v) w' := run_callFunc_extern (e := Extern.MathSqrt.sqrt) Tryz.func263 (by kernel_rfl) (by kernel_rfl) (by kernel_rfl) (by kernel_rfl) args w
theorem Amv (args : Array Value) (w : World) : (callFunc 266 args).run Tryz.prog w = ((Se .sub64 args).run Tryz.prog w).andThen fun v w' => .ok (.value v) w' := run_callFunc_extern (e := Wl) Tryz.func266 (by kernel_rfl) (by kernel_rfl) (by kernel_rfl) (by kernel_rfl) args w
def Arj : List Nat := [199, 188]
theorem Asv : Aca Tryz.prog 199 ⟨3, 24, (.struct [(0, 4), (1, 3), (2, 36)]), [.bool false, .int .i64 (0 : Int), .int .u64 (0 : Int)]⟩ where
  guard := by kernel_rfl
  eq := by
    intro w c x y xs ys hx hy hlx hly
    obtain ⟨a0, x1, rfl, hx1⟩ := Wq hx
    obtain ⟨a1, x2, rfl, hx2⟩ := I8 hx1
    obtain ⟨a2, x3, rfl, hx3⟩ := I8 hx2
    obtain rfl := Qv hx3
    obtain ⟨b0, y1, rfl, hy1⟩ := Wq hy
    obtain ⟨b1, y2, rfl, hy2⟩ := I8 hy1
    obtain ⟨b2, y3, rfl, hy3⟩ := I8 hy2
    obtain rfl := Qv hy3
    obtain ⟨xs⟩ := xs
    obtain ⟨ys⟩ := ys
    simp only [A8.Co, A8.Fy, Ao] at hlx hly
    obtain ⟨_, _, rfl, rfl, _, _, rfl, rfl, _, _, rfl, rfl, rfl⟩ := hlx
    obtain ⟨_, _, rfl, rfl, _, _, rfl, rfl, _, _, rfl, rfl, rfl⟩ := hly
    have hu : Tryz.prog.underlying 199 = some (.struct (Tryz.prog.fieldsOf 199)) := by kernel_rfl
    have hp : Tryz.prog.stoodInHeld 199 = false := by kernel_rfl
    unfold Op.equal Op.maxDepth
    rw [run_equalIn_struct w 9999 199 _ _ hu hp]
    have hfs : Tryz.prog.fieldsOf 199 = (match Tryz.prog.underlying 199 with | some (.struct fs) => fs | _ => #[]) := rfl
    rw [hfs, Tryz.underlying199]
    simp [Op.eqFields, Ll w ty3 rfl, Ll w ty4 rfl, Ll w Arz rfl, run_equalIn_int w _ _ _ _ _ _ Tryz.underlying3, run_equalIn_bool w _ _ _ _ Tryz.underlying4, run_equalIn_int w _ _ _ _ _ _ Tryz.underlying36, Z5, Yb]
    by_cases h0 : a0 = b0 <;> by_cases h1 : a1 = b1 <;> by_cases h2 : a2 = b2 <;> simp [h0, h1, h2]
theorem Asw : Aca Tryz.prog 188 ⟨2, 16, (.array 2 3), [.int .i64 (0 : Int), .int .i64 (0 : Int)]⟩ where
  guard := by kernel_rfl
  eq := by
    intro w c x y xs ys hx hy hlx hly
    obtain ⟨a0, x1, rfl, hx1⟩ := I8 hx
    obtain ⟨a1, x2, rfl, hx2⟩ := I8 hx1
    obtain rfl := Qv hx2
    obtain ⟨b0, y1, rfl, hy1⟩ := I8 hy
    obtain ⟨b1, y2, rfl, hy2⟩ := I8 hy1
    obtain rfl := Qv hy2
    obtain ⟨xs⟩ := xs
    obtain ⟨ys⟩ := ys
    simp only [A8.Co, A8.Fy, Ao] at hlx hly
    obtain ⟨_, _, rfl, rfl, _, _, rfl, rfl, rfl⟩ := hlx
    obtain ⟨_, _, rfl, rfl, _, _, rfl, rfl, rfl⟩ := hly
    obtain ⟨i, _, hi, _⟩ := ty3.info
    have hc : Tryz.prog.cellsOf 3 = 1 := by kernel_rfl
    unfold Op.equal Op.maxDepth
    rw [run_equalIn_array w 9999 _ _ Tryz.underlying188 hi, hc]
    simp [Op.eqItems, List.range, List.range.loop, Ll w ty3 rfl, run_equalIn_int w _ _ _ _ _ _ Tryz.underlying3, Z5, Yb]
    by_cases h0 : a0 = b0 <;> by_cases h1 : a1 = b1 <;> simp [h0, h1]
def Bb (A7 : Nat → Option Entry) (adopt : Nat → Bool) (hint : Nat → Option Ba) (live : Nat → Option (List Nat)) : Env := { ty := Akp tys, A7 := A7, ext := Aef exts, eqs := fun t => Lq t Arj, adopt := adopt, live := live, hint := hint }
theorem Az {l : List (Nat × Entry)} (h : Ay Tryz.prog l) (adopt : Nat → Bool) (hint : Nat → Option Ba) (live : Nat → Option (List Nat)) : J6 Tryz.prog (Bb (A5 l) adopt hint live) where
  ty := fun t ti ht => Aqj.get ht
  A7 := fun g e hg => (h.get hg).meets
  call := fun g e hg => (h.get hg).call
  ext := by
    intro g x hx args w
    simp only [Bb, exts, Aef] at hx
    cases hb : Nat.beq 169 g with
    | true =>
      rw [hb] at hx
      cases hx
      obtain rfl := Atk hb
      exact Amy args w
    | false =>
    rw [hb, As6] at hx
    clear hb
    cases hb : Nat.beq 210 g with
    | true =>
      rw [hb] at hx
      cases hx
      obtain rfl := Atk hb
      exact Amx args w
    | false =>
    rw [hb, As6] at hx
    clear hb
    cases hb : Nat.beq 263 g with
    | true =>
      rw [hb] at hx
      cases hx
      obtain rfl := Atk hb
      exact Amw args w
    | false =>
    rw [hb, As6] at hx
    clear hb
    cases hb : Nat.beq 266 g with
    | true =>
      rw [hb] at hx
      cases hx
      obtain rfl := Atk hb
      exact Amv args w
    | false =>
    rw [hb, As6] at hx
    clear hb
    cases hx
  eqs := by
    intro t ti ht hti
    simp only [Bb, Arj, Lq] at ht hti
    cases hb : Nat.beq t 199 with
    | true =>
      obtain rfl := Atk hb
      cases hti
      exact Asv
    | false =>
    rw [hb, As6] at ht
    clear hb
    cases hb : Nat.beq t 188 with
    | true =>
      obtain rfl := Atk hb
      cases hti
      exact Asw
    | false =>
    rw [hb, As6] at ht
    clear hb
    cases ht
  mixed := by kernel_rfl
def Aqb : List (Nat × Ext) := [(169, .bitsN), (210, .frombits), (263, .sqrt), (266, .sub64)]
def Aev : List (Nat × List CK) → Nat → List CK
  | [], _ => []
  | (m, e) :: l, n => bif Nat.beq m n then e else Aev l n
def Uz (A7 : Nat → Option Entry) (adopt : Nat → Bool) (hint : Nat → Option Ba) (live : Nat → Option (List Nat)) (adv : Nat → List CK) : Env := { ty := Akp tys, A7 := A7, ext := Aef Aqb, eqs := fun t => Lq t Arj, adopt := adopt, live := live, hint := hint, adv := adv }
theorem Wa {l : List (Nat × Entry)} (h : Ay Tryz.prog l) (adopt : Nat → Bool) (hint : Nat → Option Ba) (live : Nat → Option (List Nat)) (adv : Nat → List CK) : J6 Tryz.prog (Uz (A5 l) adopt hint live adv) :=
  have k := Az h adopt hint live
  ⟨k.ty, k.A7, k.call, (by
    intro g x hx args w
    simp only [Uz, Aqb, Aef] at hx
    cases hb : Nat.beq 169 g with
    | true =>
      rw [hb] at hx
      cases hx
      obtain rfl := Atk hb
      exact Amy args w
    | false =>
    rw [hb, As6] at hx
    clear hb
    cases hb : Nat.beq 210 g with
    | true =>
      rw [hb] at hx
      cases hx
      obtain rfl := Atk hb
      exact Amx args w
    | false =>
    rw [hb, As6] at hx
    clear hb
    cases hb : Nat.beq 263 g with
    | true =>
      rw [hb] at hx
      cases hx
      obtain rfl := Atk hb
      exact Amw args w
    | false =>
    rw [hb, As6] at hx
    clear hb
    cases hb : Nat.beq 266 g with
    | true =>
      rw [hb] at hx
      cases hx
      obtain rfl := Atk hb
      exact Amv args w
    | false =>
    rw [hb, As6] at hx
    clear hb
    cases hx), k.eqs, k.mixed, k.spoil⟩
end Go.Proofs.S1
namespace Go.Rnd
def Md (V k : Nat) : Nat := V / 2 ^ k + (if 2 ^ k < 2 * (V % 2 ^ k) ∨ (2 * (V % 2 ^ k) = 2 ^ k ∧ V / 2 ^ k % 2 = 1) then 1 else 0)
def Jr (V : Nat) (s : Int) : Nat := Md (V * 2 ^ (-s).toNat) s.toNat
def L9 (V : Nat) (s : Int) : Bool := decide (V * 2 ^ (-s).toNat % 2 ^ s.toNat = 0)
def Cf (M : Nat) (E : Int) : Int := max (E + M.log2 - 52) (-1074)
def kept (M : Nat) (E : Int) : Nat := Jr M (Cf M E - E)
def Dv : Nat := 2047 * 2 ^ 52
def Cg (M : Nat) (E : Int) : Nat := if M = 0 then 0 else min ((Cf M E + 1074).toNat * 2 ^ 52 + kept M E) Dv
def exact (M : Nat) (E : Int) : Bool := L9 M (Cf M E - E)
def flags (r : Nat) (ex : Bool) : Nat := if r = Dv then 5 else if ex then 0 else if 2 ^ 52 ≤ r then 1 else 3
def flagsOf (M : Nat) (E : Int) : Nat := if M = 0 then 0 else flags (Cg M E) (exact M E)
theorem Ch (k : Nat) : 0 < 2 ^ k := Nat.pow_pos (by decide)
theorem Nv (V : Nat) : Md V 0 = V := by
  unfold Md; simp [Nat.mod_one]
theorem S9 (V a k : Nat) : Md (V * 2 ^ a) (a + k) = Md V k := by
  unfold Md
  have hA := Ch a
  have e : 2 ^ (a + k) = 2 ^ a * 2 ^ k := Nat.pow_add 2 a k
  have hd : V * 2 ^ a / 2 ^ (a + k) = V / 2 ^ k := by
    rw [e, Nat.mul_comm V, Nat.mul_div_mul_left _ _ hA]
  have hm : V * 2 ^ a % 2 ^ (a + k) = 2 ^ a * (V % 2 ^ k) := by
    rw [e, Nat.mul_comm V, Nat.mul_mod_mul_left]
  rw [hd, hm, e]
  have h1 : (2 ^ a * 2 ^ k < 2 * (2 ^ a * (V % 2 ^ k))) ↔ (2 ^ k < 2 * (V % 2 ^ k)) := by
    rw [Nat.mul_left_comm 2]
    exact Nat.mul_lt_mul_left hA
  have h2 : (2 * (2 ^ a * (V % 2 ^ k)) = 2 ^ a * 2 ^ k) ↔ (2 * (V % 2 ^ k) = 2 ^ k) := by
    rw [Nat.mul_left_comm 2]
    exact Nat.mul_right_inj (by omega)
  simp only [h1, h2]
theorem mod_mul (V a k : Nat) : (V * 2 ^ a % 2 ^ (a + k) = 0) ↔ (V % 2 ^ k = 0) := by
  have hA := Ch a
  rw [Nat.pow_add, Nat.mul_comm V, Nat.mul_mod_mul_left]
  constructor
  · intro h
    rcases Nat.mul_eq_zero.1 h with h | h
    · omega
    · exact h
  · intro h; rw [h]; rfl
theorem Vc (V k : Nat) (s : Int) : Jr (V * 2 ^ k) (s + k) = Jr V s ∧ L9 (V * 2 ^ k) (s + k) = L9 V s := by
  unfold Jr L9
  by_cases h0 : 0 ≤ s
  · have e1 : (-(s + k)).toNat = 0 := by omega
    have e2 : (-s).toNat = 0 := by omega
    have e3 : (s + k).toNat = k + s.toNat := by omega
    rw [e1, e2, e3, Nat.pow_zero, Nat.mul_one, Nat.mul_one]
    exact ⟨S9 V k _, by simp only [mod_mul]⟩
  · by_cases h1 : 0 ≤ s + k
    · have e1 : (-(s + k)).toNat = 0 := by omega
      have e2 : s.toNat = 0 := by omega
      have e3 : k = (s + k).toNat + (-s).toNat := by omega
      rw [e1, e2, Nat.pow_zero, Nat.mul_one]
      have e4 : V * 2 ^ k = V * 2 ^ (-s).toNat * 2 ^ (s + k).toNat := by
        rw [Nat.mul_assoc, ← Nat.pow_add, Nat.add_comm (-s).toNat, ← e3]
      rw [e4]
      refine ⟨?_, ?_⟩
      · have := S9 (V * 2 ^ (-s).toNat) (s + k).toNat 0
        rw [Nat.add_zero] at this; exact this
      · have := mod_mul (V * 2 ^ (-s).toNat) (s + k).toNat 0
        rw [Nat.add_zero, Nat.pow_zero] at this
        simp only [this]
    · have e1 : (s + k).toNat = 0 := by omega
      have e2 : s.toNat = 0 := by omega
      have e3 : (-s).toNat = k + (-(s + k)).toNat := by omega
      rw [e1, e2, e3, Nat.pow_add, Nat.mul_assoc]
      exact ⟨rfl, rfl⟩
theorem K1 (M k : Nat) (hM : M ≠ 0) : (M * 2 ^ k).log2 = M.log2 + k := by
  have hk := Ch k
  have hne : M * 2 ^ k ≠ 0 := by
    intro h
    rcases Nat.mul_eq_zero.1 h with h | h <;> omega
  have h1 := Nat.log2_self_le hM
  have h2 := Nat.lt_log2_self (n := M)
  have a : M.log2 + k ≤ (M * 2 ^ k).log2 := by
    rw [Nat.le_log2 hne, Nat.pow_add]
    exact Ate _ h1
  have b : (M * 2 ^ k).log2 < M.log2 + k + 1 := by
    rw [Nat.log2_lt hne, Nat.add_right_comm, Nat.pow_add]
    exact (Nat.mul_lt_mul_right hk).2 h2
  omega
theorem Ts {n a : Nat} (h1 : 2 ^ a ≤ n) (h2 : n < 2 ^ (a + 1)) : n.log2 = a := by
  have := Ch a
  have hn : n ≠ 0 := by omega
  have b1 := (Nat.le_log2 hn).2 h1
  have b2 := (Nat.log2_lt hn).2 h2
  omega
theorem Af3 (M k : Nat) (E : Int) (hM : M ≠ 0) : Cf (M * 2 ^ k) (E - k) = Cf M E := by
  unfold Cf; rw [K1 M k hM]; congr 1; omega
theorem H2 {M k : Nat} (hM : M ≠ 0) : M * 2 ^ k ≠ 0 := by
  have := Ch k
  intro h
  rcases Nat.mul_eq_zero.1 h with h | h <;> omega
theorem Dy (M k : Nat) (E : Int) : Cg (M * 2 ^ k) (E - k) = Cg M E ∧ flagsOf (M * 2 ^ k) (E - k) = flagsOf M E := by
  by_cases hM : M = 0
  · subst hM; simp [Cg, flagsOf]
  · have hl := Af3 M k E hM
    have e : Cf M E - (E - k) = Cf M E - E + k := by omega
    have h1 : Cg (M * 2 ^ k) (E - k) = Cg M E := by
      unfold Cg kept
      rw [if_neg (H2 hM), if_neg hM, hl, e, (Vc M k _).1]
    refine ⟨h1, ?_⟩
    unfold flagsOf
    rw [if_neg (H2 hM), if_neg hM, h1]
    unfold exact
    rw [hl, e, (Vc M k _).2]
theorem Ak9 {V s d k : Nat} (hs : s % 2 = 1) (h1 : (s - 1) * 2 ^ d < V) (h2 : V < (s + 1) * 2 ^ d) (hk : 2 ≤ k) :
    Md V (d + k) = Md s k ∧ V % 2 ^ (d + k) ≠ 0 ∧ s % 2 ^ k ≠ 0 := by
  have hA := Ch d
  obtain ⟨j, rfl⟩ : ∃ j, k = j + 2 := ⟨k - 2, by omega⟩
  have hB : 2 ^ (j + 2) = 4 * 2 ^ j := by rw [Nat.pow_add]; omega
  have hBp := Ch (j + 2)
  have hC := Ch j
  have hsd := Nat.div_add_mod s (2 ^ (j + 2))
  have hr2 : s % 2 ^ (j + 2) % 2 = 1 := by
    rw [hB, show 4 * 2 ^ j = 2 * (2 * 2 ^ j) by omega, Nat.mod_mul_right_mod]; exact hs
  have hrlt := Nat.mod_lt s hBp
  generalize hq : s / 2 ^ (j + 2) = q at *
  generalize hr : s % 2 ^ (j + 2) = r at *
  have hAB : 2 ^ (d + (j + 2)) = 2 ^ d * 2 ^ (j + 2) := Nat.pow_add 2 d (j + 2)
  generalize hBB : 2 ^ (j + 2) = b at *
  generalize hAA : 2 ^ d = a at *
  have e1 : (s - 1) * a = q * (a * b) + (r - 1) * a := by
    have : s - 1 = b * q + (r - 1) := by omega
    rw [this, Nat.add_mul, Nat.mul_comm b q, Nat.mul_assoc, Nat.mul_comm b a]
  have e2 : (s + 1) * a = q * (a * b) + (r + 1) * a := by
    have : s + 1 = b * q + (r + 1) := by omega
    rw [this, Nat.add_mul, Nat.mul_comm b q, Nat.mul_assoc, Nat.mul_comm b a]
  have e3 : (r + 1) * a ≤ b * a := Ate a (by omega)
  rw [Nat.mul_comm b a] at e3
  rw [e1] at h1
  rw [e2] at h2
  have hdiv : V / (a * b) = q := Nat.div_eq_of_lt_le (by omega) (by rw [Nat.add_mul]; omega)
  have hmod : V % (a * b) = V - q * (a * b) := by
    have := Nat.div_add_mod V (a * b)
    rw [hdiv, Nat.mul_comm (a * b) q] at this; omega
  have hb2 : b = 2 * (2 * 2 ^ j) := by omega
  generalize hc : 2 ^ j = c at *
  have hR1 : (r - 1) * a < V - q * (a * b) := by omega
  have hR2 : V - q * (a * b) < (r + 1) * a := by omega
  generalize hR : V - q * (a * b) = R at *
  have hab : a * b = 2 * (2 * c * a) := by rw [hb2, Nat.mul_comm a, Nat.mul_assoc]
  have key : (a * b < 2 * R ∨ (2 * R = a * b ∧ q % 2 = 1)) ↔ (b < 2 * r ∨ (2 * r = b ∧ q % 2 = 1)) := by
    rw [hab, hb2]
    rcases Nat.lt_or_ge r (2 * c) with hlt | hge
    · have : (r + 1) * a ≤ 2 * c * a := Ate a (by omega)
      constructor <;> (intro h; omega)
    · have hgt : 2 * c + 1 ≤ r := by omega
      have : 2 * c * a ≤ (r - 1) * a := Ate a (by omega)
      constructor
      · intro _; left; omega
      · intro _; left; omega
  refine ⟨?_, ?_, ?_⟩
  · unfold Md
    rw [hAB, hdiv, hmod, hBB, hq, hr]
    simp only [key]
  · rw [hAB, hmod]
    have := Nat.zero_le ((r - 1) * a)
    omega
  · omega
theorem Pq {V s d : Nat} {E : Int} (hs : s % 2 = 1) (h1 : (s - 1) * 2 ^ d < V) (h2 : V < (s + 1) * 2 ^ d) (hl : Cf V E = Cf s (E + d)) (hk : E + d + 2 ≤ Cf s (E + d)) :
    Cg V E = Cg s (E + d) ∧ flagsOf V E = flagsOf s (E + d) := by
  have hV : V ≠ 0 := by omega
  have hs0 : s ≠ 0 := by omega
  generalize hL : Cf s (E + d) = L at *
  obtain ⟨k, hk2⟩ : ∃ k : Nat, L - (E + d) = k + 2 := ⟨(L - (E + d) - 2).toNat, by omega⟩
  obtain ⟨a1, a2, a3⟩ := Ak9 (k := k + 2) hs h1 h2 (by omega)
  have e1 : (L - E).toNat = d + (k + 2) := by omega
  have e2 : (-(L - E)).toNat = 0 := by omega
  have e3 : (L - (E + d)).toNat = k + 2 := by omega
  have e4 : (-(L - (E + d))).toNat = 0 := by omega
  have hr : Cg V E = Cg s (E + d) := by
    unfold Cg kept Jr
    rw [if_neg hV, if_neg hs0, hl, hL, e1, e2, e3, e4]
    simp only [Nat.pow_zero, Nat.mul_one]
    rw [a1]
  refine ⟨hr, ?_⟩
  unfold flagsOf exact L9
  rw [if_neg hV, if_neg hs0, hr, hl, hL, e1, e2, e3, e4]
  simp only [Nat.pow_zero, Nat.mul_one, a2, a3, decide_false]
theorem Py {V s d : Nat} (hs : s % 2 = 1) (hs3 : 3 ≤ s) (h1 : (s - 1) * 2 ^ d < V) (h2 : V < (s + 1) * 2 ^ d) : V.log2 = s.log2 + d := by
  have hs0 : s ≠ 0 := by omega
  have a1 := Nat.log2_self_le hs0
  have a2 := Nat.lt_log2_self (n := s)
  have hl : 1 ≤ s.log2 := by rw [Nat.le_log2 hs0]; omega
  obtain ⟨t, ht⟩ : ∃ t, s.log2 = t + 1 := ⟨s.log2 - 1, by omega⟩
  rw [ht] at a1 a2 ⊢
  have ev1 : 2 ^ (t + 1) = 2 * 2 ^ t := by rw [Nat.pow_succ]; omega
  have ev2 : 2 ^ (t + 1 + 1) = 2 * (2 * 2 ^ t) := by rw [Nat.pow_succ, ev1]; omega
  refine Ts ?_ ?_
  · rw [Nat.pow_add]
    have : 2 ^ (t + 1) * 2 ^ d ≤ (s - 1) * 2 ^ d := Ate _ (by omega)
    omega
  · have e : t + 1 + d + 1 = (t + 1 + 1) + d := by omega
    rw [e, Nat.pow_add]
    have : (s + 1) * 2 ^ d ≤ 2 ^ (t + 1 + 1) * 2 ^ d := Ate _ (by omega)
    omega
end Go.Rnd
namespace Go.Rnd
def Bq (b : Nat) : Bool := decide (2 ^ 63 ≤ b)
def Dp (b : Nat) : Nat := b / 2 ^ 52 % 2048
def Cw (b : Nat) : Nat := b % 2 ^ 52
def Aj (b : Nat) : Nat := if Dp b = 2047 then (if Cw b = 0 then 3 else 4) else if 0 < Dp b then 2 else if 0 < Cw b then 1 else 0
def Jy (b : Nat) : Bool := decide (Dp b < 2047)
def Gw (b : Nat) : Nat := if 2 ^ 63 ≤ b then b - 2 ^ 63 else b + 2 ^ 63
def Au (b : Nat) : Nat := if Dp b = 0 then Cw b else Cw b + 2 ^ 52
def A0 (b : Nat) : Int := if Dp b = 0 then -1074 else (Dp b : Int) - 1075
def Bi (neg : Bool) (r : Nat) : Nat := if neg then 2 ^ 63 + r else r
def Hh (neg : Bool) (m : Nat) : Int := if neg then -(m : Int) else m
def Jm (b : Nat) (e : Int) : Int := Hh (Bq b) (Au b * 2 ^ (A0 b - e).toNat)
def Ph : Nat := 0x7ff8000000000000
def Ot (z : Nat) (S : Int) (e : Int) : Nat × Nat :=
  if S = 0 then (z, 0) else (Bi (decide (S < 0)) (Cg S.natAbs e), flagsOf S.natAbs e)
def Kj (a b : Nat) : Nat × Nat :=
  if Aj a = 4 ∨ Aj b = 4 then (Ph, 0)
  else if Aj a = 3 then (if Aj b = 3 ∧ a ≠ b then (Ph, 16) else (a, 0))
  else if Aj b = 3 then (b, 0)
  else Ot (Bi (Bq a && Bq b) 0) (Jm a (min (A0 a) (A0 b)) + Jm b (min (A0 a) (A0 b))) (min (A0 a) (A0 b))
def Aqs (a b : Nat) : Nat × Nat := Kj a (Gw b)
def Fz (neg : Bool) (m : Nat) (e : Int) (more : Bool) : Nat × Nat :=
  (Bi neg (Cg (4 * m + more.toNat) (e - 2)), flagsOf (4 * m + more.toNat) (e - 2))
def Dh (x : Int) : Bool := Bq x.toNat
def K9 (x : Int) : Int := Dp x.toNat
def Cr (x : Int) : Int := Cw x.toNat
def Bd (x : Int) : Int := Aj x.toNat
def Cv (x : Int) : Bool := Jy x.toNat
def Cz (x : Int) : Int := Gw x.toNat
def Br (x : Int) : Int := Au x.toNat
def Bf (x : Int) : Int := A0 x.toNat
def En (neg : Bool) (m e : Int) (more : Bool) : Int := (Fz neg m.toNat e more).1
def Em (neg : Bool) (m e : Int) (more : Bool) : Int := (Fz neg m.toNat e more).2
def Jf (a b : Int) : Int := (Kj a.toNat b.toNat).1
def Vp (a b : Int) : Int := (Kj a.toNat b.toNat).2
def Ei (a b : Int) : Int := (Aqs a.toNat b.toNat).1
def Asm (a b : Int) : Int := (Aqs a.toNat b.toNat).2
theorem Ix (b : Nat) : Dp b < 2048 := Nat.mod_lt _ (by decide)
theorem Jw (b : Nat) : Cw b < 4503599627370496 := Nat.mod_lt _ (by decide)
theorem Ev (b : Nat) : Au b < 9007199254740992 := by
  have := Jw b
  unfold Au; split <;> omega
theorem D8 (b : Nat) : -1074 ≤ A0 b ∧ A0 b ≤ 972 := by
  have := Ix b
  unfold A0; split <;> omega
theorem L4 {m : Nat} {e : Int} (h1 : 2 ^ 52 ≤ m) (h2 : m < 2 ^ 53) (he : -1074 ≤ e) : Cg m e = min ((e + 1074).toNat * 2 ^ 52 + m) Dv := by
  have hl : m.log2 = 52 := Ts h1 h2
  have hm : m ≠ 0 := by omega
  have hle : Cf m e = e := by unfold Cf; rw [hl]; omega
  unfold Cg kept
  rw [if_neg hm, hle, Int.sub_self]
  unfold Jr
  simp [Nv]
theorem Wu {m : Nat} (h2 : m < 2 ^ 52) : Cg m (-1074) = m := by
  by_cases hm : m = 0
  · subst hm; rfl
  · have hl : m.log2 < 52 := (Nat.log2_lt hm).2 h2
    have hle : Cf m (-1074) = -1074 := by unfold Cf; omega
    unfold Cg kept
    rw [if_neg hm, hle, Int.sub_self]
    unfold Jr Dv
    simp [Nv]
    omega
theorem Kl (m : Nat) (e : Int) : Cg m e ≤ Dv := by
  unfold Cg
  split
  · exact Nat.zero_le _
  · exact Nat.min_le_right _ _
theorem Hk : Dv = 9218868437227405312 := rfl
theorem V0 (m : Nat) (e : Int) : Cg m e < 2 ^ 63 := by
  have := Kl m e
  rw [Hk] at this
  omega
theorem Sy (n : Bool) (m : Nat) (e : Int) : Bi n (Cg m e) < 2 ^ 64 := by
  have := V0 m e
  unfold Bi; split <;> omega
theorem Xi {r : Nat} (h : r < 2 ^ 63) : Gw r = 2 ^ 63 + r := by
  unfold Gw; rw [if_neg (by omega)]; omega
end Go.Rnd
namespace Go.Rnd
open Go.Den
def Km (m e : Int) : Bool := C3 (0 ≤ m ∧ m ≤ 9007199254740992 ∧ -1074 ≤ e ∧ e + m / 9007199254740992 ≤ 100000)
def Ou (m e : Int) : Nat := if 9007199254740992 ≤ m then 1 else if m < 4503599627370496 then 2 + (e + 1074).toNat else 0
def Tc (n : Bool) (m e : Int) : Int := Bi n (Cg m.toNat e)
def D1 (m e : Int) (r : Bool) : Bool :=
  C3 (0 ≤ m ∧ m < 18446744073709551616 ∧ e ≤ 50000 ∧ (-1137 ≤ e ∨ (m < 4611686018427387904 ∧ -1140 ≤ e)) ∧ (r = true → 4503599627370496 ≤ m ∨ e ≤ -1074))
def Fa (n D : Nat) : Nat := if n % 2 ^ D = 0 then n / 2 ^ D else 2 * (n / 2 ^ D / 2) + 1
def Ew (m d : Int) : Int := Fa m.toNat (min d.toNat 63)
def Cp (l : List Int) : Bool := C3 (l.length < 4611686018427387904 ∧ ∀ x ∈ l, Ag x = true)
def Dm (x : Nat) : Nat := if Aj x = 4 then Ph else x
def Yj (x : Int) : Int := Dm x.toNat
def Fb (x : Nat) : Int := Dm x
def Kd (x : Int) : Bool := C3 (0 ≤ x)
theorem H0 (n : Nat) : Kd (n : Int) = true := Av.2 (Int.natCast_nonneg n)
theorem Tk {x : Int} (h : Kd x = true) : ∃ n : Nat, x = n := ⟨x.toNat, by have := Av.1 h; omega⟩
end Go.Rnd
namespace Go.Rnd
theorem Asp (a c : Nat) : (a + 1) * c + c = a * c + (c + c) := by rw [Nat.add_mul, Nat.one_mul, Nat.add_assoc]
theorem Asj : 2 ^ 52 + 2 ^ 52 = 2 ^ 53 := by decide
theorem Aso (a : Nat) : (a + 1) * 2 ^ 52 + 2 ^ 52 = a * 2 ^ 52 + 2 ^ 53 := (Asp a (2 ^ 52)).trans (congrArg (fun x => a * 2 ^ 52 + x) Asj)
theorem Aql : 2 ^ 52 * 2 ^ 1 = 2 ^ 53 := by decide
theorem Aoe {E : Int} : Cg (2 ^ 53) E = Cg (2 ^ 52) (E + 1) := by
  have := (Dy (2 ^ 52) 1 (E + 1)).1
  have e1 : E + 1 - ((1 : Nat) : Int) = E := by omega
  rw [e1, Aql] at this
  exact this
theorem Ak5 {E : Int} (hE : -1074 ≤ E) : Cg (2 ^ 53) E = min ((E + 1074).toNat * 2 ^ 52 + 2 ^ 53) Dv := by
  have e3 : (E + 1 + 1074).toNat = (E + 1074).toNat + 1 := by omega
  rw [Aoe, L4 (by decide) (by decide) (by omega), e3]
  exact congrArg (fun x => min x Dv) (Aso _)
theorem Aih {q : Nat} {E : Int} (h1 : q ≤ 2 ^ 53) (hE : -1074 ≤ E) (h2 : 2 ^ 52 ≤ q ∨ E = -1074) : Cg q E = min ((E + 1074).toNat * 2 ^ 52 + q) Dv := by
  by_cases ha : q = 2 ^ 53
  · rw [ha]; exact Ak5 hE
  · by_cases hb : 2 ^ 52 ≤ q
    · exact L4 hb (by omega) hE
    · obtain rfl : E = -1074 := h2.resolve_left hb
      rw [Wu (by omega)]
      unfold Dv
      simp
      omega
theorem Aiq {M D s : Nat} (hs : s ≤ 1) : Md (4 * M + s) (D + 2) = M / 2 ^ D + (if 0 < D ∧ (2 ^ (D - 1) < M % 2 ^ D ∨ (M % 2 ^ D = 2 ^ (D - 1) ∧ (s = 1 ∨ M / 2 ^ D % 2 = 1))) then 1 else 0) ∧
    ((4 * M + s) % 2 ^ (D + 2) = 0 ↔ M % 2 ^ D = 0 ∧ s = 0) := by
  have hp : 2 ^ (D + 2) = 2 ^ D * 4 := by rw [Nat.pow_add]
  have hA := Ch D
  have hdm := Nat.div_add_mod M (2 ^ D)
  have hlt := Nat.mod_lt M hA
  have hdiv : (4 * M + s) / (2 ^ D * 4) = M / 2 ^ D := by
    rw [Nat.mul_comm (2 ^ D) 4, ← Nat.div_div_eq_div_mul]
    congr 1; omega
  have hmod : (4 * M + s) % (2 ^ D * 4) = 4 * (M % 2 ^ D) + s := by
    have h := Nat.div_add_mod (4 * M + s) (2 ^ D * 4)
    rw [hdiv] at h
    have e : 2 ^ D * 4 * (M / 2 ^ D) = 4 * (2 ^ D * (M / 2 ^ D)) := by rw [Nat.mul_comm (2 ^ D) 4, Nat.mul_assoc]
    rw [e] at h
    omega
  unfold Md
  rw [hp, hdiv, hmod]
  generalize M % 2 ^ D = r at *
  generalize M / 2 ^ D = q at *
  refine ⟨?_, by omega⟩
  congr 1
  have key : (2 ^ D * 4 < 2 * (4 * r + s) ∨ 2 * (4 * r + s) = 2 ^ D * 4 ∧ q % 2 = 1) ↔ (0 < D ∧ (2 ^ (D - 1) < r ∨ (r = 2 ^ (D - 1) ∧ (s = 1 ∨ q % 2 = 1)))) := by
    cases D with
    | zero => simp only [Nat.pow_zero] at hlt ⊢; omega
    | succ d =>
      rw [Nat.pow_succ] at hlt ⊢
      simp only [Nat.add_sub_cancel]
      generalize 2 ^ d = c at *
      omega
  simp only [key]
structure Drop (M : Nat) (e : Int) (D : Nat) : Prop where
  le : D ≤ 63
  stop : D < 63 → M / 2 ^ D < 2 ^ 53 ∧ -1074 ≤ e + D
  least : ∀ d, d < D → 2 ^ 53 ≤ M / 2 ^ d ∨ e + d < -1074
def qOf (M D s : Nat) : Nat := M / 2 ^ D + (if 0 < D ∧ (2 ^ (D - 1) < M % 2 ^ D ∨ (M % 2 ^ D = 2 ^ (D - 1) ∧ (s = 1 ∨ M / 2 ^ D % 2 = 1))) then 1 else 0)
theorem Ale {M D s : Nat} (h : M / 2 ^ D < 2 ^ 53) : qOf M D s ≤ 2 ^ 53 := by
  unfold qOf; split <;> omega
theorem Alf {M D s : Nat} : M / 2 ^ D ≤ qOf M D s := by unfold qOf; omega
theorem Arm {M D : Nat} {c : Nat} (h : M / 2 ^ D < c) : M < c * 2 ^ D := (Nat.div_lt_iff_lt_mul (Ch D)).1 h
theorem Ame {M D : Nat} {c : Nat} (h : c ≤ M / 2 ^ D) : c * 2 ^ D ≤ M := (Nat.le_div_iff_mul_le (Ch D)).1 h
theorem Xt {V : Nat} {E L : Int} (h : (E + V.log2 - 52 = L ∧ -1074 ≤ L) ∨ (E + V.log2 - 52 ≤ L ∧ L = -1074)) : Cf V E = L := by unfold Cf; omega
theorem Ajf {M s : Nat} (hs : s ≤ 1) (hM : M ≠ 0) : (4 * M + s).log2 = M.log2 + 2 := by
  have h1 := Nat.log2_self_le hM
  have h2 := Nat.lt_log2_self (n := M)
  refine Ts ?_ ?_
  · rw [Nat.pow_add]; omega
  · have e : 2 ^ (M.log2 + 2 + 1) = 2 ^ (M.log2 + 1) * 4 := by rw [show M.log2 + 2 + 1 = M.log2 + 1 + 2 by omega, Nat.pow_add]
    omega
theorem Ai6 {M D s : Nat} {e : Int} (hD : Drop M e D) (hs : s ≤ 1) (hV : 4 * M + s ≠ 0) (hM : M < 2 ^ 64) (he : -1137 ≤ e ∨ (M < 2 ^ 62 ∧ -1140 ≤ e)) (hr : s = 1 → 2 ^ 52 ≤ M ∨ e ≤ -1074) :
    Cg (4 * M + s) (e - 2) = Cg (if e + D < -1074 then 0 else qOf M D s) (max (e + D) (-1074)) ∧
    flagsOf (4 * M + s) (e - 2) = flags (Cg (4 * M + s) (e - 2)) (decide (M % 2 ^ D = 0 ∧ s = 0)) ∧
    (if e + D < -1074 then 0 else qOf M D s) ≤ 2 ^ 53 := by
  have hA := Ch D
  by_cases hlow : e + D < -1074
  ·
    have hD63 : D = 63 := by
      rcases Nat.lt_or_ge D 63 with h | h
      · have := (hD.stop h).2; omega
      · have := hD.le; omega
    subst hD63
    have hM62 : M < 2 ^ 62 := by rcases he with h | h; omega; exact h.1
    have he2 : -1140 ≤ e := by rcases he with h | h; omega; exact h.2
    have hV64 : 4 * M + s < 2 ^ 64 := by omega
    have hlog : (4 * M + s).log2 < 64 := (Nat.log2_lt hV).2 hV64
    have hl : Cf (4 * M + s) (e - 2) = -1074 := Xt (.inr ⟨by omega, rfl⟩)
    obtain ⟨k, hk⟩ : ∃ k : Nat, (-1074 - (e - 2)).toNat = 66 + k := ⟨(-1074 - (e - 2)).toNat - 66, by omega⟩
    have e2 : (-(-1074 - (e - 2))).toNat = 0 := by omega
    have hp : 2 ^ 66 ≤ 2 ^ (66 + k) := Ath (by decide) (by omega)
    have hsm : 4 * M + s < 2 ^ (66 + k) := by omega
    have hz : Jr (4 * M + s) (-1074 - (e - 2)) = 0 := by
      unfold Jr Md
      rw [e2, hk, Nat.pow_zero, Nat.mul_one, Nat.div_eq_of_lt hsm, Atf hsm, if_neg (by omega)]
    have hru : Cg (4 * M + s) (e - 2) = 0 := by
      unfold Cg kept
      rw [if_neg hV, hl, hz]
      simp
    refine ⟨?_, ?_, ?_⟩
    · rw [hru, if_pos hlow]; rfl
    · unfold flagsOf exact L9
      rw [if_neg hV, hl, e2, hk, Nat.pow_zero, Nat.mul_one, Atf hsm]
      congr 1
      have h63 : M % 2 ^ 63 = M := Atf (by omega)
      rw [h63, Ati]
      simp only [As9]
      omega
    · rw [if_pos hlow]; exact Nat.zero_le _
  · have hmax : max (e + D) (-1074) = e + D := by omega
    have hq : M / 2 ^ D < 2 ^ 53 := by
      rcases Nat.lt_or_ge D 63 with h | h
      · exact (hD.stop h).1
      · have : D = 63 := by have := hD.le; omega
        subst this
        exact Nat.lt_of_le_of_lt (Nat.div_le_of_le_mul (show M ≤ 2 ^ 63 * 2 by omega)) (by decide)
    obtain ⟨c1, c2⟩ := Aiq (M := M) (D := D) hs
    rw [if_neg hlow, hmax]
    refine ⟨?_, ?_, Ale hq⟩
    all_goals
      by_cases hD0 : D = 0 ∧ s = 0
      · obtain ⟨rfl, rfl⟩ := hD0
        have hM0 : M ≠ 0 := by omega
        obtain ⟨s1, s2⟩ := Dy M 2 e
        have e1 : M * 2 ^ 2 = 4 * M + 0 := by omega
        have e2 : e - ((2 : Nat) : Int) = e - 2 := by omega
        rw [e1, e2] at s1 s2
        have hq0 : qOf M 0 0 = M := by unfold qOf; simp
        have hle : Cf M e ≤ e := by
          have : M.log2 < 53 := (Nat.log2_lt hM0).2 (by simpa using hq)
          unfold Cf; simp only [Int.natCast_zero, Int.add_zero] at hlow; omega
        first
        | (rw [s1, hq0]; simp; done)
        | (rw [s2, s1]
           unfold flagsOf exact L9
           have z : (Cf M e - e).toNat = 0 := by omega
           rw [if_neg hM0, z]
           simp [Nat.mod_one])
      ·
        have hl : Cf (4 * M + s) (e - 2) = e + D := by
          by_cases hM0 : M = 0
          · subst hM0
            have hs1 : s = 1 := by omega
            subst hs1
            have hle : e + D = -1074 := by
              rcases Nat.eq_zero_or_pos D with rfl | hpos
              · have := hr rfl; omega
              · have h := hD.least (D - 1) (by omega)
                simp only [Nat.zero_div] at h
                omega
            refine Xt (.inr ⟨?_, hle⟩)
            have : (4 * 0 + 1 : Nat).log2 = 0 := by decide
            rw [this]; omega
          · have hlog := Ajf hs hM0
            have hub : M.log2 < 53 + D := by
              rw [Nat.log2_lt hM0, Nat.pow_add]; exact Arm hq
            have hcase : 52 + D ≤ M.log2 ∨ e + D = -1074 := by
              rcases Nat.eq_zero_or_pos D with rfl | hpos
              · have hs1 : s = 1 := by omega
                rcases hr hs1 with h | h
                · left; rw [Nat.le_log2 hM0]; simpa using h
                · right; simp only [Int.natCast_zero, Int.add_zero] at hlow ⊢; omega
              · rcases hD.least (D - 1) (by omega) with h | h
                · left
                  rw [Nat.le_log2 hM0]
                  have := Ame h
                  have e1 : 2 ^ (52 + D) = 2 ^ 53 * 2 ^ (D - 1) := by rw [← Nat.pow_add]; congr 1; omega
                  rw [e1]; exact this
                · right; omega
            refine Xt ?_
            rw [hlog]
            rcases hcase with h | h
            · left; omega
            · right; omega
        have e1 : (e + D - (e - 2)).toNat = D + 2 := by omega
        have e2 : (-(e + (D : Int) - (e - 2))).toNat = 0 := by omega
        have hkept : kept (4 * M + s) (e - 2) = qOf M D s := by
          unfold kept Jr
          rw [hl, e1, e2, Nat.pow_zero, Nat.mul_one, c1]; rfl
        first
        | (have hbig : 2 ^ 52 ≤ qOf M D s ∨ e + D = -1074 := by
             rcases Nat.eq_zero_or_pos D with rfl | hpos
             · have hs1 : s = 1 := by omega
               rcases hr hs1 with h | h
               · left; exact Nat.le_trans (by simpa using h) Alf
               · right; simp only [Int.natCast_zero, Int.add_zero] at hlow ⊢; omega
             · rcases hD.least (D - 1) (by omega) with h | h
               · left
                 refine Nat.le_trans ?_ Alf
                 rw [Nat.le_div_iff_mul_le hA]
                 have := Ame h
                 have e1 : 2 ^ 52 * 2 ^ D = 2 ^ 53 * 2 ^ (D - 1) := by rw [← Nat.pow_add, ← Nat.pow_add]; congr 1; omega
                 rw [e1]; exact this
               · right; omega
           rw [Aih (Ale hq) (by omega) hbig]
           unfold Cg
           rw [if_neg hV, hl, hkept]; done)
        | (unfold flagsOf exact L9
           rw [if_neg hV, hl, e1, e2, Nat.pow_zero, Nat.mul_one]
           congr 1
           rw [Ati]
           simp only [As9]
           exact c2)
theorem Zn (n : Bool) {r : Nat} (h : r < 2 ^ 63) : Dp (Bi n r) = r / 2 ^ 52 := by
  unfold Dp Bi; cases n
  · simp only [Bool.false_eq_true, if_false]; omega
  · simp only [if_true]; omega
theorem X1 (n : Bool) (r : Nat) : Cw (Bi n r) = r % 2 ^ 52 := by
  unfold Cw Bi; cases n
  · rfl
  · simp only [if_true]; omega
theorem Ux (n : Bool) {r : Nat} (h : r ≤ Dv) : Aj (Bi n r) = if r = Dv then 3 else if 2 ^ 52 ≤ r then 2 else if 0 < r then 1 else 0 := by
  rw [Hk] at *
  unfold Aj
  rw [Zn n (by omega), X1]
  by_cases h1 : r = 9218868437227405312
  · subst h1; simp
  · rw [if_neg h1, if_neg (by omega)]
    by_cases h2 : 2 ^ 52 ≤ r
    · rw [if_pos h2, if_pos (by omega)]
    · rw [if_neg h2, if_neg (by omega)]
      by_cases h3 : 0 < r
      · rw [if_pos h3, if_pos (by omega)]
      · rw [if_neg h3, if_neg (by omega)]
end Go.Rnd
namespace Go.Rnd
open Ieee
theorem Arn (neg : Bool) (V k : Nat) : Toward.even.cut neg V k = Md V k := by
  unfold Toward.cut Md
  simp only [Nat.shiftLeft_eq, Nat.one_mul]
  by_cases h : k ≤ V.log2 + 2
  · rw [Nat.min_eq_left h]
    congr 1
    by_cases h1 : 2 ^ k < 2 * (V % 2 ^ k)
    · simp [h1]
    · by_cases h2 : 2 * (V % 2 ^ k) = 2 ^ k ∧ V / 2 ^ k % 2 = 1
      · simp [h2.1, h2.2]
      · simp [h1, h2]
        intro h3
        have := Nat.mod_lt (V / 2 ^ k) (show 0 < 2 by decide)
        omega
  · rw [Nat.min_eq_right (by omega)]
    have hV : V < 2 ^ (V.log2 + 1) := Nat.lt_log2_self
    have e : 2 ^ (V.log2 + 2) = 2 * 2 ^ (V.log2 + 1) := by rw [Nat.pow_succ, Nat.mul_comm]
    have hk : 2 ^ (V.log2 + 2) ≤ 2 ^ k := Ath (by decide) (by omega)
    have d1 : V / 2 ^ (V.log2 + 2) = 0 := Nat.div_eq_of_lt (by omega)
    have d2 : V / 2 ^ k = 0 := Nat.div_eq_of_lt (by omega)
    have m1 : V % 2 ^ (V.log2 + 2) = V := Atf (by omega)
    have m2 : V % 2 ^ k = V := Atf (by omega)
    rw [d1, d2, m1, m2]
    have c1 : ¬ (2 ^ (V.log2 + 2) < 2 * V) := by omega
    have c2 : ¬ (2 ^ k < 2 * V) := by omega
    simp [c1, c2]
theorem Anz (neg : Bool) (r : Nat) : Ieee.double.word neg r = Bi neg r := rfl
theorem Afp (neg : Bool) (M : Nat) (E : Int) : Ieee.double.nearest neg M E = Bi neg (Cg M E) := by
  unfold Format.nearest Cg
  by_cases h : M = 0
  · rw [if_pos h, if_pos h]; rfl
  · rw [if_neg h, if_neg h, Anz]
    have e1 : Ieee.double.leastPlace = -1074 := by decide
    have e2 : max (E + (M.log2 : Int) - (Ieee.double.fractionBits : Int)) Ieee.double.leastPlace = Cf M E := by rw [e1]; rfl
    rw [e2, e1, Arn, Nat.shiftLeft_eq]
    unfold kept Jr
    have e3 : (-(Cf M E - E)).toNat = (E - Cf M E).toNat := by congr 1; omega
    have e4 : Cf M E - -1074 = Cf M E + 1074 := by omega
    rw [e3, e4]
    rfl
theorem G1 (b : Nat) : (Dp b = 2047 ∧ Cw b = 0 ∧ Aj b = 3) ∨ (Dp b = 2047 ∧ Cw b ≠ 0 ∧ Aj b = 4) ∨ (Dp b < 2047 ∧ Aj b ≠ 3 ∧ Aj b ≠ 4) := by
  have := Ix b
  unfold Aj
  by_cases h1 : Dp b = 2047
  · by_cases h2 : Cw b = 0 <;> simp [h1, h2]
  · refine .inr (.inr ⟨by omega, ?_⟩)
    rw [if_neg h1]
    split
    · decide
    · split <;> decide
theorem Om (b : Nat) : b % 2 ^ 63 = Dp b * 2 ^ 52 + Cw b := by unfold Dp Cw; omega
def Nu (b : Nat) : Datum := if Aj b = 4 then .nan (Bq b) (Cw b) else if Aj b = 3 then .infinity (Bq b) else .number (Bq b) (Au b) (A0 b)
theorem Ib {b : Nat} (h : b < 2 ^ 64) : Ieee.double.read b = Nu b := by
  unfold Format.read Nu
  have e0 : Ieee.double.signWeight = 2 ^ 63 := rfl
  have e1 : Ieee.double.leastPlace = -1074 := by decide
  have e2 : Ieee.double.binade = 2 ^ 52 := rfl
  have e3 : Ieee.double.infRung = Dv := rfl
  have hn : (b / 2 ^ 63 % 2 == 1) = Bq b := by
    unfold Bq
    rw [Ati]
    simp only [beq_iff_eq, As9]
    omega
  dsimp only
  rw [e0, e1, e2, e3, hn, Om, Hk]
  have hf : Cw b < 2 ^ 52 := Jw b
  rcases G1 b with ⟨h1, h2, h3⟩ | ⟨h1, h2, h3⟩ | ⟨h1, h2, h3⟩
  · rw [if_neg (by omega), if_neg (by omega), if_pos (by omega), if_neg (by omega), if_pos h3]
  · rw [if_neg (by omega), if_neg (by omega), if_neg (by omega), if_pos h3]
    have e : Dp b * 2 ^ 52 + Cw b - 9218868437227405312 = Cw b := by omega
    rw [e]
  · rw [if_neg h3, if_neg h2]
    by_cases h0 : Dp b = 0
    · rw [if_pos (by omega)]
      unfold Au A0
      rw [if_pos h0, if_pos h0, h0, Nat.zero_mul, Nat.zero_add]
    · rw [if_neg (by omega), if_pos (by omega)]
      unfold Au A0
      rw [if_neg h0, if_neg h0]
      have m1 : (Dp b * 2 ^ 52 + Cw b) % 2 ^ 52 = Cw b := by omega
      have m2 : (Dp b * 2 ^ 52 + Cw b) / 2 ^ 52 = Dp b := by omega
      have e : (-1074 : Int) + ((Dp b - 1 : Nat) : Int) = (Dp b : Int) - 1075 := by omega
      rw [m1, m2, Nat.add_comm (2 ^ 52), e]
theorem Ah4 (s : Bool) : Ieee.double.write (.infinity s) = Bi s Dv := rfl
theorem Lw (s : Bool) (m : Nat) (e : Int) : Ieee.double.write (.number s m e) = Bi s (Cg m e) := Afp s m e
theorem Mv {b : Nat} (h : b < 2 ^ 64) (h3 : Aj b = 3) : Bi (Bq b) Dv = b := by
  rcases G1 b with ⟨h1, h2, _⟩ | ⟨_, _, h4⟩ | ⟨_, h4, _⟩
  · have e := Om b
    rw [h1, h2] at e
    rw [Hk]
    unfold Bi Bq
    by_cases hb : 2 ^ 63 ≤ b
    · simp [hb]; omega
    · simp [hb]; omega
  · omega
  · omega
theorem F8 (s : Bool) {r : Nat} (h : r ≤ Dv) : Dm (Bi s r) = Bi s r := by
  unfold Dm
  rw [if_neg]
  rw [Ux s h]
  split
  · decide
  · split
    · decide
    · split <;> decide
theorem Qt (s : Bool) (m up : Nat) : Ieee.signed s m up = Hh s (m * 2 ^ up) := by
  unfold Ieee.signed Hh
  rw [Nat.shiftLeft_eq]
theorem Gg {b : Nat} (h : Aj b = 4) : Nu b = .nan (Bq b) (Cw b) := if_pos h
theorem D4 {b : Nat} (h : Aj b = 3) : Nu b = .infinity (Bq b) := by unfold Nu; rw [if_neg (by omega), if_pos h]
theorem D3 {b : Nat} (h3 : Aj b ≠ 3) (h4 : Aj b ≠ 4) : Nu b = .number (Bq b) (Au b) (A0 b) := by unfold Nu; rw [if_neg h4, if_neg h3]
theorem Anp {a b : Nat} (h : Aj a = 4 ∨ Aj b = 4) : Kj a b = (Ph, 0) := if_pos h
theorem Anq {a b : Nat} (h4 : ¬ (Aj a = 4 ∨ Aj b = 4)) (h : Aj a = 3) : Kj a b = (if Aj b = 3 ∧ a ≠ b then (Ph, 16) else (a, 0)) := by unfold Kj; rw [if_neg h4, if_pos h]
theorem Aj7 {a b : Nat} (h4 : ¬ (Aj a = 4 ∨ Aj b = 4)) (h : Aj a ≠ 3) (h' : Aj b = 3) : Kj a b = (b, 0) := by unfold Kj; rw [if_neg h4, if_neg h, if_pos h']
theorem Ano {a b : Nat} (h4 : ¬ (Aj a = 4 ∨ Aj b = 4)) (h : Aj a ≠ 3) (h' : Aj b ≠ 3) :
    Kj a b = Ot (Bi (Bq a && Bq b) 0) (Jm a (min (A0 a) (A0 b)) + Jm b (min (A0 a) (A0 b))) (min (A0 a) (A0 b)) := by
  unfold Kj; rw [if_neg h4, if_neg h, if_neg h']
theorem An8 (s : Bool) (m : Nat) (i : Int) (t : Bool) (n : Nat) (j : Int) : (Datum.number s m i).sum (Datum.number t n j) =
    some (.number (if Hh s (m * 2 ^ (i - min i j).toNat) + Hh t (n * 2 ^ (j - min i j).toNat) = 0 then s && t else Hh s (m * 2 ^ (i - min i j).toNat) + Hh t (n * 2 ^ (j - min i j).toNat) < 0)
      (Hh s (m * 2 ^ (i - min i j).toNat) + Hh t (n * 2 ^ (j - min i j).toNat)).natAbs (min i j)) := by
  rw [← Qt, ← Qt]
  rfl
theorem Acn {a b : Nat} (ha : a < 2 ^ 64) (hb : b < 2 ^ 64) {d : Nat} (hd : Aj d = 4) :
    Dm ((((Nu a).sum (Nu b)).map Ieee.double.write).getD d) = (Kj a b).1 := by
  have cd : Dm d = Ph := if_pos hd
  by_cases h4 : Aj a = 4 ∨ Aj b = 4
  · rw [Anp h4]
    by_cases a4 : Aj a = 4
    · rw [Gg a4]; exact cd
    · have b4 := h4.resolve_left a4
      rw [Gg b4]
      by_cases a3 : Aj a = 3
      · rw [D4 a3]; exact cd
      · rw [D3 a3 a4]; exact cd
  · have a4 : Aj a ≠ 4 := fun h => h4 (.inl h)
    have b4 : Aj b ≠ 4 := fun h => h4 (.inr h)
    by_cases a3 : Aj a = 3
    · have wa := Mv ha a3
      rw [Anq h4 a3, D4 a3]
      by_cases b3 : Aj b = 3
      · have wb := Mv hb b3
        rw [D4 b3]
        by_cases hs : Bq a = Bq b
        · have hab : a = b := by rw [← wa, ← wb, hs]
          rw [if_neg (fun h => h.2 hab)]
          have : (Datum.infinity (Bq a)).sum (.infinity (Bq b)) = some (.infinity (Bq a)) := if_pos hs
          rw [this]
          show Dm (Bi (Bq a) Dv) = a
          rw [F8 _ (Nat.le_refl _), wa]
        · have hab : a ≠ b := fun h => hs (by rw [h])
          have : (Datum.infinity (Bq a)).sum (.infinity (Bq b)) = none := if_neg hs
          rw [this, if_pos ⟨b3, hab⟩]
          exact cd
      · rw [D3 b3 b4, if_neg (fun h => b3 h.1)]
        show Dm (Bi (Bq a) Dv) = a
        rw [F8 _ (Nat.le_refl _), wa]
    · rw [D3 a3 a4]
      by_cases b3 : Aj b = 3
      · have wb := Mv hb b3
        rw [Aj7 h4 a3 b3, D4 b3]
        show Dm (Bi (Bq b) Dv) = b
        rw [F8 _ (Nat.le_refl _), wb]
      · rw [Ano h4 a3 b3, D3 b3 b4, An8]
        show Dm (Ieee.double.write (.number _ _ _)) = _
        rw [Lw, F8 _ (Kl _ _)]
        unfold Ot Jm
        by_cases h0 : Hh (Bq a) (Au a * 2 ^ (A0 a - min (A0 a) (A0 b)).toNat) + Hh (Bq b) (Au b * 2 ^ (A0 b - min (A0 a) (A0 b)).toNat) = 0
        · rw [if_pos h0, if_pos h0, h0]
          have : Cg (Int.natAbs 0) (min (A0 a) (A0 b)) = 0 := if_pos rfl
          rw [this]
        · rw [if_neg h0, if_neg h0]
theorem Anm {a b : Nat} (ha : a < 2 ^ 64) (hb : b < 2 ^ 64) {d : Nat} (hd : Aj d = 4) : Dm ((Ieee.double.add a b).getD d) = (Kj a b).1 := by
  unfold Format.add
  rw [Ib ha, Ib hb]
  exact Acn ha hb hd
theorem Adl {b : Nat} (h : b < 2 ^ 64) : Bq (Gw b) = !(Bq b) ∧ Dp (Gw b) = Dp b ∧ Cw (Gw b) = Cw b := by
  unfold Bq Dp Cw Gw
  by_cases hb : 2 ^ 63 ≤ b
  · rw [if_pos hb]
    refine ⟨?_, by omega, by omega⟩
    have : ¬ 2 ^ 63 ≤ b - 2 ^ 63 := by omega
    simp [hb, this]
  · rw [if_neg hb]
    refine ⟨?_, by omega, by omega⟩
    have : 2 ^ 63 ≤ b + 2 ^ 63 := by omega
    simp [hb, this]
theorem Afu {b : Nat} (h : b < 2 ^ 64) : Gw b < 2 ^ 64 := by unfold Gw; split <;> omega
theorem Afl {b : Nat} (h : b < 2 ^ 64) : Nu (Gw b) = (Nu b).opposite := by
  obtain ⟨h1, h2, h3⟩ := Adl h
  have hk : Aj (Gw b) = Aj b := by unfold Aj; rw [h2, h3]
  have hm : Au (Gw b) = Au b := by unfold Au; rw [h2, h3]
  have he : A0 (Gw b) = A0 b := by unfold A0; rw [h2]
  by_cases b4 : Aj b = 4
  · rw [Gg b4, Gg (by omega), h1, h3]; rfl
  · by_cases b3 : Aj b = 3
    · rw [D4 b3, D4 (by omega), h1]; rfl
    · rw [D3 b3 b4, D3 (by omega) (by omega), h1, hm, he]; rfl
theorem Akv {a b : Nat} (ha : a < 2 ^ 64) (hb : b < 2 ^ 64) {d : Nat} (hd : Aj d = 4) : Dm ((Ieee.double.sub a b).getD d) = (Aqs a b).1 := by
  unfold Format.sub
  rw [Ib ha, Ib hb, ← Afl hb]
  exact Acn ha (Afu hb) hd
theorem Xd (b : Nat) : (Ieee.double.read b).isNaN = decide (Aj b = 4) := by
  unfold Format.read
  have e0 : Ieee.double.signWeight = 2 ^ 63 := rfl
  have e2 : Ieee.double.binade = 2 ^ 52 := rfl
  have e3 : Ieee.double.infRung = Dv := rfl
  dsimp only
  rw [e0, e2, e3, Om, Hk]
  have hf : Cw b < 2 ^ 52 := Jw b
  rcases G1 b with ⟨h1, h2, h3⟩ | ⟨h1, h2, h3⟩ | ⟨h1, h2, h3⟩
  · rw [if_neg (by omega), if_neg (by omega), if_pos (by omega), As7 (by omega)]; rfl
  · rw [if_neg (by omega), if_neg (by omega), if_neg (by omega), As3 h3]; rfl
  · rw [As7 h3]
    by_cases h0 : Dp b = 0
    · rw [if_pos (by omega)]; rfl
    · rw [if_neg (by omega), if_pos (by omega)]; rfl
end Go.Rnd
namespace Go.Rnd
open Ieee
theorem Ul {V W k : Nat} (h : V ≤ W) : Md V k ≤ Md W k := by
  unfold Md
  have hA := Ch k
  have hq : V / 2 ^ k ≤ W / 2 ^ k := Nat.div_le_div_right h
  rcases Nat.lt_or_ge (V / 2 ^ k) (W / 2 ^ k) with h1 | h1
  · split <;> split <;> omega
  · have he : V / 2 ^ k = W / 2 ^ k := by omega
    have v := Nat.div_add_mod V (2 ^ k)
    have w := Nat.div_add_mod W (2 ^ k)
    rw [he] at v ⊢
    have hr : V % 2 ^ k ≤ W % 2 ^ k := by omega
    by_cases hc : 2 ^ k < 2 * (V % 2 ^ k) ∨ 2 * (V % 2 ^ k) = 2 ^ k ∧ W / 2 ^ k % 2 = 1
    · have hc' : 2 ^ k < 2 * (W % 2 ^ k) ∨ 2 * (W % 2 ^ k) = 2 ^ k ∧ W / 2 ^ k % 2 = 1 := by
        rcases hc with hc | ⟨hc, hd⟩
        · exact .inl (by omega)
        · rcases Nat.lt_or_ge (2 ^ k) (2 * (W % 2 ^ k)) with h2 | h2
          · exact .inl h2
          · exact .inr ⟨by omega, hd⟩
      rw [if_pos hc, if_pos hc']
      exact Nat.le_refl _
    · rw [if_neg hc]
      exact Nat.le_add_right _ _
theorem Aog {V c k : Nat} (h : V ≤ c * 2 ^ k) : Md V k ≤ c := by
  have h1 := Ul (k := k) h
  have : Md (c * 2 ^ k) k = c := by
    have := S9 c k 0
    rw [Nat.add_zero, Nv] at this
    exact this
  omega
theorem Ao5 {V c k : Nat} (h : c * 2 ^ k ≤ V) : c ≤ Md V k := by
  have h1 := Ul (k := k) h
  have : Md (c * 2 ^ k) k = c := by
    have := S9 c k 0
    rw [Nat.add_zero, Nv] at this
    exact this
  omega
theorem Afm {V W : Nat} {s : Int} (h : V ≤ W) : Jr V s ≤ Jr W s := Ul (Ate _ h)
theorem Af4 {V W : Nat} {E : Int} (hV : V ≠ 0) (h : V ≤ W) : Cf V E ≤ Cf W E := by
  have : V.log2 ≤ W.log2 := (Nat.le_log2 (by omega)).2 (Nat.le_trans (Nat.log2_self_le hV) h)
  unfold Cf; omega
theorem Ao6 {V : Nat} {E : Int} : kept V E ≤ 2 ^ 53 := by
  have hV : V < 2 ^ (V.log2 + 1) := Nat.lt_log2_self
  unfold kept Jr
  refine Aog ?_
  have hl : E + V.log2 - 52 ≤ Cf V E := by unfold Cf; omega
  rw [← Nat.pow_add]
  have h1 : V * 2 ^ (-(Cf V E - E)).toNat ≤ 2 ^ (V.log2 + 1) * 2 ^ (-(Cf V E - E)).toNat := Ate _ (Nat.le_of_lt hV)
  rw [← Nat.pow_add] at h1
  exact Nat.le_trans h1 (Ath (by decide) (by omega))
theorem Abn {V : Nat} {E : Int} (hV : V ≠ 0) (hl : Cf V E = E + V.log2 - 52) : 2 ^ 52 ≤ kept V E := by
  have h1 : 2 ^ V.log2 ≤ V := Nat.log2_self_le hV
  unfold kept Jr
  refine Ao5 ?_
  rw [← Nat.pow_add]
  have h2 : 2 ^ V.log2 * 2 ^ (-(Cf V E - E)).toNat ≤ V * 2 ^ (-(Cf V E - E)).toNat := Ate _ h1
  rw [← Nat.pow_add] at h2
  exact Nat.le_trans (Ath (by decide) (by omega)) h2
theorem Zh {V W : Nat} {E : Int} (h : V ≤ W) : Cg V E ≤ Cg W E := by
  unfold Cg
  by_cases hV : V = 0
  · rw [if_pos hV]; exact Nat.zero_le _
  · have hW : W ≠ 0 := by omega
    rw [if_neg hV, if_neg hW]
    have hl := Af4 (E := E) hV h
    have key : (Cf V E + 1074).toNat * 2 ^ 52 + kept V E ≤ (Cf W E + 1074).toNat * 2 ^ 52 + kept W E := by
      rcases Int.lt_or_eq_of_le hl with h1 | h1
      · have hb : -1074 ≤ Cf V E := by unfold Cf; omega
        have hn : Cf W E = E + W.log2 - 52 := by unfold Cf at h1 hb ⊢; omega
        have k1 := Ao6 (V := V) (E := E)
        have k2 := Abn hW hn
        have h2 : (Cf V E + 1074).toNat + 1 ≤ (Cf W E + 1074).toNat := by omega
        have h3 : ((Cf V E + 1074).toNat + 1) * 2 ^ 52 ≤ (Cf W E + 1074).toNat * 2 ^ 52 := Ate _ h2
        rw [Nat.add_mul (Cf V E + 1074).toNat 1 (2 ^ 52), Nat.one_mul] at h3
        omega
      · unfold kept
        rw [h1]
        exact Nat.add_le_add_left (Afm h) _
    omega
theorem Qy {b : Nat} (h4 : Aj b ≠ 4) : Cg (Au b) (A0 b) = b % 2 ^ 63 := by
  have hf : Cw b < 2 ^ 52 := Jw b
  have hr := Om b
  rw [hr]
  unfold Au A0
  by_cases h0 : Dp b = 0
  · rw [if_pos h0, if_pos h0, Wu hf, h0, Nat.zero_mul, Nat.zero_add]
  · rw [if_neg h0, if_neg h0, L4 (by omega) (by omega) (by omega), Hk]
    have e : ((Dp b : Int) - 1075 + 1074).toNat = Dp b - 1 := by omega
    rw [e]
    have h5 : (Dp b - 1) * 2 ^ 52 + (Cw b + 2 ^ 52) = Dp b * 2 ^ 52 + Cw b := by omega
    rw [h5]
    rcases G1 b with ⟨h1, h2, _⟩ | ⟨_, _, h⟩ | ⟨h1, _, _⟩
    · rw [h1, h2]; decide
    · exact absurd h h4
    · omega
def He (b : Nat) : Int := Hh (Bq b) (b % 2 ^ 63)
def Rq (b : Nat) (f : Int) : Nat := Au b * 2 ^ (A0 b - f).toNat
theorem Tp {b : Nat} {f : Int} (h4 : Aj b ≠ 4) (hf : f ≤ A0 b) : Cg (Rq b f) f = b % 2 ^ 63 := by
  rw [← Qy h4]
  have h := (Dy (Au b) (A0 b - f).toNat (A0 b)).1
  have e : A0 b - ((A0 b - f).toNat : Int) = f := by omega
  rw [e] at h
  exact h
theorem Al3 {a b : Nat} (h : a % 2 ^ 63 = b % 2 ^ 63) (f : Int) : Rq a f = Rq b f := by
  have h1 : Dp a = Dp b := by unfold Dp; omega
  have h2 : Cw a = Cw b := by unfold Cw; omega
  unfold Rq Au A0
  rw [h1, h2]
theorem Al4 {a b : Nat} {f : Int} (ha : Aj a ≠ 4) (hb : Aj b ≠ 4) (hfa : f ≤ A0 a) (hfb : f ≤ A0 b) : Rq a f < Rq b f ↔ a % 2 ^ 63 < b % 2 ^ 63 := by
  constructor
  · intro h
    have h1 := Zh (E := f) (Nat.le_of_lt h)
    rw [Tp ha hfa, Tp hb hfb] at h1
    rcases Nat.lt_or_eq_of_le h1 with h2 | h2
    · exact h2
    · have := Al3 h2 f; omega
  · intro h
    rcases Nat.lt_or_ge (Rq a f) (Rq b f) with h1 | h1
    · exact h1
    · have h1 := Zh (E := f) h1
      rw [Tp ha hfa, Tp hb hfb] at h1
      omega
theorem Adp (b : Nat) (f : Int) : Rq b f = 0 ↔ b % 2 ^ 63 = 0 := by
  have hp := Ch (A0 b - f).toNat
  unfold Rq
  rw [Nat.mul_eq_zero, Om]
  have h1 : ¬ (2 ^ (A0 b - f).toNat = 0) := by omega
  have h2 : Au b = 0 ↔ Dp b * 2 ^ 52 + Cw b = 0 := by unfold Au; split <;> omega
  rw [h2]
  exact ⟨fun h => h.resolve_right h1, .inl⟩
theorem Aqx {s t : Bool} {m n m' n' : Nat} (h1 : m < n ↔ m' < n') (h2 : n < m ↔ n' < m') (h3 : m = 0 ↔ m' = 0) (h4 : n = 0 ↔ n' = 0) : Hh s m < Hh t n ↔ Hh s m' < Hh t n' := by
  unfold Hh
  cases s <;> cases t <;> simp <;> omega
theorem Aap {a b : Nat} {f : Int} (ha : Aj a ≠ 4) (hb : Aj b ≠ 4) (hfa : f ≤ A0 a) (hfb : f ≤ A0 b) : Jm a f < Jm b f ↔ He a < He b :=
  Aqx (Al4 ha hb hfa hfb) (Al4 hb ha hfb hfa) (Adp a f) (Adp b f)
theorem Ajw {x y x' y' : Int} (h1 : x < y ↔ x' < y') (h2 : y < x ↔ y' < x') : compare x y = compare x' y' := by
  show compareOfLessAndEq x y = compareOfLessAndEq x' y'
  unfold compareOfLessAndEq
  by_cases h : x < y
  · rw [if_pos h, if_pos (h1.1 h)]
  · rw [if_neg h, if_neg (fun k => h (h1.2 k))]
    by_cases e : x = y
    · rw [if_pos e, if_pos (by omega)]
    · rw [if_neg e, if_neg (by omega)]
theorem Arc {b : Nat} (h4 : Aj b ≠ 4) : b % 2 ^ 63 ≤ Dv := by
  rw [← Qy h4]; exact Kl _ _
theorem Tv {b : Nat} (h : Aj b = 3) : b % 2 ^ 63 = Dv := by
  rw [Om]
  rcases G1 b with ⟨h1, h2, _⟩ | ⟨_, _, h4⟩ | ⟨_, h4, _⟩
  · rw [h1, h2]; rfl
  · omega
  · omega
theorem Tw {b : Nat} (h3 : Aj b ≠ 3) (h4 : Aj b ≠ 4) : b % 2 ^ 63 < Dv := by
  have hf : Cw b < 2 ^ 52 := Jw b
  rw [Om, Hk]
  rcases G1 b with ⟨_, _, h⟩ | ⟨_, _, h⟩ | ⟨h1, _, _⟩
  · exact absurd h h3
  · exact absurd h h4
  · omega
theorem Age {x y : Int} (h : x < y) : compare x y = .lt := by
  show compareOfLessAndEq x y = _; unfold compareOfLessAndEq; rw [if_pos h]
theorem Agf {x y : Int} (h : y < x) : compare x y = .gt := by
  show compareOfLessAndEq x y = _; unfold compareOfLessAndEq; rw [if_neg (by omega), if_neg (by omega)]
theorem N0 {a b : Nat} (ha : a < 2 ^ 64) (hb : b < 2 ^ 64) (a4 : Aj a ≠ 4) (b4 : Aj b ≠ 4) : Ieee.double.order a b = some (compare (He a) (He b)) := by
  unfold Format.order
  rw [Ib ha, Ib hb]
  have hpos : 0 < Dv := by decide
  by_cases a3 : Aj a = 3
  · have ka := Tv a3
    rw [D4 a3]
    by_cases b3 : Aj b = 3
    · have kb := Tv b3
      rw [D4 b3]
      show some (compare (Bq b).toNat (Bq a).toNat) = _
      unfold He
      rw [ka, kb]
      cases Bq a <;> cases Bq b <;> decide
    · have kb := Tw b3 b4
      rw [D3 b3 b4]
      show some (if Bq a then Ordering.lt else .gt) = _
      unfold He Hh
      rw [ka]
      cases Bq a
      · rw [Agf (by simp; split <;> omega)]; rfl
      · rw [Age (by simp; split <;> omega)]; rfl
  · have ka := Tw a3 a4
    rw [D3 a3 a4]
    by_cases b3 : Aj b = 3
    · have kb := Tv b3
      rw [D4 b3]
      show some (if Bq b then Ordering.gt else .lt) = _
      unfold He Hh
      rw [kb]
      cases Bq b
      · rw [Age (by simp; split <;> omega)]; rfl
      · rw [Agf (by simp; split <;> omega)]; rfl
    · rw [D3 b3 b4]
      show some (compare (Ieee.signed _ _ _) (Ieee.signed _ _ _)) = _
      rw [Qt, Qt]
      congr 1
      exact Ajw (Aap a4 b4 (Int.min_le_left _ _) (Int.min_le_right _ _)) (Aap b4 a4 (Int.min_le_right _ _) (Int.min_le_left _ _))
theorem Ur {a b : Nat} (ha : a < 2 ^ 64) (hb : b < 2 ^ 64) (h : Aj a = 4 ∨ Aj b = 4) : Ieee.double.order a b = none := by
  unfold Format.order
  rw [Ib ha, Ib hb]
  by_cases a4 : Aj a = 4
  · rw [Gg a4]; cases Nu b <;> rfl
  · rw [Gg (h.resolve_left a4)]; cases Nu a <;> rfl
theorem N7 (s : Bool) {r : Nat} (h : r < 2 ^ 63) : He (Bi s r) = Hh s r := by
  unfold He Bi Bq
  cases s
  · have h1 : ¬ 2 ^ 63 ≤ r := by omega
    have h2 : r % 2 ^ 63 = r := Atf h
    simp only [Bool.false_eq_true, if_false, As7 h1, h2]
  · have h1 : 2 ^ 63 ≤ 2 ^ 63 + r := by omega
    have h2 : (2 ^ 63 + r) % 2 ^ 63 = r := by omega
    simp only [if_true, As3 h1, h2]
end Go.Rnd
namespace Go.Rnd
def Ms (a b : Nat) : Nat × Nat :=
  if Aj a = 4 ∨ Aj b = 4 then (Ph, 0)
  else if Aj a = 3 ∨ Aj b = 3 then (if Aj a = 0 ∨ Aj b = 0 then (Ph, 16) else (Bi (Bq a != Bq b) Dv, 0))
  else (Bi (Bq a != Bq b) (Cg (Au a * Au b) (A0 a + A0 b)), flagsOf (Au a * Au b) (A0 a + A0 b))
def E4 (X Y K : Nat) : Nat := 2 * (X * 2 ^ K / Y) + (if X * 2 ^ K % Y = 0 then 0 else 1)
def Aby (a b : Nat) : Nat × Nat :=
  if Aj a = 4 ∨ Aj b = 4 then (Ph, 0)
  else if Aj a = Aj b ∧ (Aj a = 3 ∨ Aj a = 0) then (Ph, 16)
  else if Aj a = 3 then (Bi (Bq a != Bq b) Dv, 0)
  else if Aj b = 3 ∨ Aj a = 0 then (Bi (Bq a != Bq b) 0, 0)
  else if Aj b = 0 then (Bi (Bq a != Bq b) Dv, 8)
  else (Bi (Bq a != Bq b) (Cg (E4 (Au a) (Au b) 120) (A0 a - A0 b - 121)), flagsOf (E4 (Au a) (Au b) 120) (A0 a - A0 b - 121))
theorem Zt (a b : Nat) : Ms a b = Ms b a := by
  have e : (Bq a != Bq b) = (Bq b != Bq a) := by cases Bq a <;> cases Bq b <;> rfl
  unfold Ms
  rw [e, Nat.mul_comm (Au a), Int.add_comm (A0 a)]
  simp only [or_comm]
theorem Afq {V k : Nat} {E : Int} (hm : 1 ≤ V / 2 ^ k) (hc : 2 ^ 53 ≤ V / 2 ^ k ∨ E + k + 1 ≤ -1074) :
    Cg (4 * (V / 2 ^ k) + (if V % 2 ^ k = 0 then 0 else 1)) (E + k - 2) = Cg V E ∧ flagsOf (4 * (V / 2 ^ k) + (if V % 2 ^ k = 0 then 0 else 1)) (E + k - 2) = flagsOf V E := by
  have hA := Ch k
  have h1 := Nat.div_add_mod V (2 ^ k)
  have h2 := Nat.mod_lt V hA
  generalize hq : V / 2 ^ k = q at *
  generalize hr : V % 2 ^ k = r at *
  by_cases h0 : r = 0
  · rw [if_pos h0]
    obtain ⟨a1, a2⟩ := Dy q k (E + k)
    obtain ⟨b1, b2⟩ := Dy q 2 (E + k)
    have e1 : E + (k : Int) - k = E := by omega
    have e2 : V = q * 2 ^ k := by rw [Nat.mul_comm]; omega
    have e3 : q * 2 ^ 2 = 4 * q + 0 := by omega
    have e4 : E + (k : Int) - ((2 : Nat) : Int) = E + k - 2 := by omega
    rw [e1, ← e2] at a1 a2
    rw [e3, e4] at b1 b2
    rw [a1, a2, b1, b2]
    exact ⟨rfl, rfl⟩
  · rw [if_neg h0]
    obtain ⟨d, rfl⟩ : ∃ d, k = d + 1 := by
      cases k with
      | zero => simp only [Nat.pow_zero] at h2; omega
      | succ d => exact ⟨d, rfl⟩
    have hD : 2 ^ (d + 1) = 2 * 2 ^ d := by rw [Nat.pow_succ]; omega
    rw [hD] at h1 h2
    generalize hc2 : 2 ^ d = c at *
    have p1 : (2 * q + 1 - 1) * c = 2 * c * q := by rw [Nat.add_sub_cancel, Nat.mul_comm, Nat.mul_left_comm, Nat.mul_assoc]
    have p2 : (2 * q + 1 + 1) * c = 2 * c * q + 2 * c := by
      rw [show 2 * q + 1 + 1 = 2 * (q + 1) by omega, Nat.mul_assoc, Nat.add_mul, Nat.mul_add, Nat.mul_comm q c, Nat.mul_assoc]; omega
    have lt1 : (2 * q + 1 - 1) * 2 ^ d < V := by rw [hc2, p1]; omega
    have lt2 : V < (2 * q + 1 + 1) * 2 ^ d := by rw [hc2, p2]; omega
    have od : (2 * q + 1) % 2 = 1 := by omega
    have lV := Py od (by omega) lt1 lt2
    have l4 : (4 * q + 1).log2 = (2 * q + 1).log2 + 1 := Py (d := 1) od (by omega) (by omega) (by omega)
    have hs : (2 * q + 1).log2 ≥ 54 ∨ E + d + 2 ≤ -1074 := by
      rcases hc with h | h
      · left; rw [ge_iff_le, Nat.le_log2 (by omega)]; omega
      · right; omega
    have hk : E + d + 2 ≤ Cf (2 * q + 1) (E + d) := by unfold Cf; omega
    obtain ⟨a1, a2⟩ := Pq (E := E) od lt1 lt2 (by unfold Cf; rw [lV]; omega) hk
    have ee : E + ((d + 1 : Nat) : Int) - 2 + ((1 : Nat) : Int) = E + d := by omega
    obtain ⟨b1, b2⟩ := Pq (V := 4 * q + 1) (d := 1) (E := E + ((d + 1 : Nat) : Int) - 2) od (by omega) (by omega) (by unfold Cf; rw [l4]; omega) (by rw [ee]; unfold Cf; omega)
    rw [ee] at b1 b2
    rw [a1, a2, b1, b2]
    exact ⟨rfl, rfl⟩
theorem Tj (n : Bool) {V k : Nat} {E e : Int} {s : Bool} (he : e = E + k) (hs : s = decide (V % 2 ^ k ≠ 0)) (hm : 1 ≤ V / 2 ^ k) (hc : 2 ^ 53 ≤ V / 2 ^ k ∨ E + k + 1 ≤ -1074) :
    Fz n (V / 2 ^ k) e s = (Bi n (Cg V E), flagsOf V E) := by
  obtain ⟨a, b⟩ := Afq hm hc
  have e1 : s.toNat = if V % 2 ^ k = 0 then 0 else 1 := by
    rw [hs]
    by_cases h : V % 2 ^ k = 0
    · rw [As7 (by omega), if_pos h]; rfl
    · rw [As3 h, if_neg h]; rfl
  unfold Fz
  rw [he, e1, a, b]
theorem Wm {X Y K : Nat} (d : Nat) (E : Int) (hY : 0 < Y) (h : 2 ^ 53 ≤ X * 2 ^ K / Y) :
    Cg (E4 X Y (K + d)) (E - d) = Cg (E4 X Y K) E ∧ flagsOf (E4 X Y (K + d)) (E - d) = flagsOf (E4 X Y K) E := by
  have hA := Ch d
  unfold E4
  have e : X * 2 ^ (K + d) = X * 2 ^ K * 2 ^ d := by rw [Nat.pow_add, Nat.mul_assoc]
  rw [e]
  generalize X * 2 ^ K = Z at *
  have h1 := Nat.div_add_mod Z Y
  have h2 := Nat.mod_lt Z hY
  by_cases h0 : Z % Y = 0
  · obtain ⟨q, rfl⟩ := Nat.dvd_of_mod_eq_zero h0
    have e1 : Y * q * 2 ^ d = Y * (q * 2 ^ d) := Nat.mul_assoc _ _ _
    rw [e1, Nat.mul_mod_right, Nat.mul_mod_right, Nat.mul_div_cancel_left _ hY, Nat.mul_div_cancel_left _ hY, if_pos rfl]
    have := Dy (2 * q + 0) d E
    rw [show (2 * q + 0) * 2 ^ d = 2 * (q * 2 ^ d) + 0 by rw [Nat.add_zero, Nat.add_zero, Nat.mul_assoc]] at this
    exact this
  · have h3 := Nat.div_add_mod (Z * 2 ^ d) Y
    have h4 := Nat.mod_lt (Z * 2 ^ d) hY
    rw [if_neg h0]
    generalize hq : Z / Y = q at *
    generalize hr : Z % Y = r at *
    generalize hc : 2 ^ d = c at *
    have hz : Z * c = Y * (q * c) + r * c := by rw [← h1, Nat.add_mul, Nat.mul_assoc]
    have hrc : r * c < Y * c := (Nat.mul_lt_mul_right hA).2 h2
    have hrc0 : 0 < r * c := Nat.mul_pos (by omega) hA
    have q1 : q * c ≤ Z * c / Y := by rw [Nat.le_div_iff_mul_le hY, Nat.mul_comm (q * c)]; omega
    have q2 : Z * c / Y < (q + 1) * c := by
      rw [Nat.div_lt_iff_lt_mul hY, Nat.add_mul, Nat.add_mul, Nat.one_mul, Nat.mul_comm (q * c), Nat.mul_comm c Y]; omega
    have q3 : Z * c / Y = q * c → Z * c % Y ≠ 0 := fun h5 h6 => by rw [h5, h6] at h3; omega
    generalize hQ : Z * c / Y = Q at *
    have p1 : (2 * q + 1 - 1) * c = 2 * (q * c) := by rw [Nat.add_sub_cancel, Nat.mul_assoc]
    have p2 : (2 * q + 1 + 1) * c = 2 * ((q + 1) * c) := by rw [show 2 * q + 1 + 1 = 2 * (q + 1) by omega, Nat.mul_assoc]
    have od : (2 * q + 1) % 2 = 1 := by omega
    generalize hV : 2 * Q + (if Z * c % Y = 0 then 0 else 1) = V
    have v1 : (2 * q + 1 - 1) * 2 ^ d < V := by
      rw [hc, p1, ← hV]
      by_cases h5 : Q = q * c
      · rw [if_neg (q3 h5)]; omega
      · split <;> omega
    have v2 : V < (2 * q + 1 + 1) * 2 ^ d := by
      rw [hc, p2, ← hV]
      split <;> omega
    have lV := Py od (by omega) v1 v2
    have hs : 54 ≤ (2 * q + 1).log2 := by rw [Nat.le_log2 (by omega)]; omega
    have ee : E - (d : Int) + d = E := by omega
    have := Pq (E := E - d) od v1 v2 (by unfold Cf; rw [lV]; omega) (by unfold Cf; omega)
    rw [ee] at this
    exact this
theorem Wn {X Y K L : Nat} {E F : Int} (hY : 0 < Y) (h1 : 2 ^ 53 ≤ X * 2 ^ K / Y) (h2 : 2 ^ 53 ≤ X * 2 ^ L / Y) (he : E + K = F + L) :
    Cg (E4 X Y K) E = Cg (E4 X Y L) F ∧ flagsOf (E4 X Y K) E = flagsOf (E4 X Y L) F := by
  rcases Nat.le_total K L with h | h
  · obtain ⟨d, rfl⟩ := Nat.exists_eq_add_of_le h
    have := Wm d E hY h1
    rw [show E - (d : Int) = F by omega] at this
    exact ⟨this.1.symm, this.2.symm⟩
  · obtain ⟨d, rfl⟩ := Nat.exists_eq_add_of_le h
    have := Wm d F hY h2
    rw [show F - (d : Int) = E by omega] at this
    exact this
theorem Afb (X Y a K : Nat) : E4 (X * 2 ^ a) Y K = E4 X Y (K + a) := by
  unfold E4
  have : X * 2 ^ a * 2 ^ K = X * 2 ^ (K + a) := by rw [Nat.mul_assoc, ← Nat.pow_add, Nat.add_comm a K]
  rw [this]
theorem Acp (X Y b K : Nat) : E4 X (Y * 2 ^ b) (K + b) = E4 X Y K := by
  have hp := Ch b
  unfold E4
  have : X * 2 ^ (K + b) = X * 2 ^ K * 2 ^ b := by rw [Nat.pow_add, Nat.mul_assoc]
  rw [this, Nat.mul_div_mul_right _ _ hp, Nat.mul_mod_mul_right]
  have : (X * 2 ^ K % Y * 2 ^ b = 0) ↔ (X * 2 ^ K % Y = 0) := by
    constructor
    · intro h
      rcases Nat.mul_eq_zero.1 h with h | h
      · exact h
      · omega
    · intro h; rw [h, Nat.zero_mul]
  simp only [this]
theorem Alc {X Y K t : Nat} (hX : 0 < X) (hY0 : 0 < Y) (hY : Y < 2 ^ t) (hK : 53 + t ≤ K) : 2 ^ 53 ≤ X * 2 ^ K / Y := by
  rw [Nat.le_div_iff_mul_le hY0]
  have h1 : 2 ^ 53 * Y ≤ 2 ^ 53 * 2 ^ t := Nat.mul_le_mul_left _ (by omega)
  have h2 : 2 ^ (53 + t) ≤ 2 ^ K := Ath (by decide) hK
  have h3 : 1 * 2 ^ K ≤ X * 2 ^ K := Ate _ (by omega)
  rw [Nat.pow_add] at h2
  omega
theorem Ai7 (n : Bool) {X Y K : Nat} {e E : Int} {s : Bool} (hs : s = decide (X * 2 ^ K % Y ≠ 0)) (he : E = e - 1) (hq : 2 ^ 53 ≤ X * 2 ^ K / Y) :
    Fz n (X * 2 ^ K / Y) e s = (Bi n (Cg (E4 X Y K) E), flagsOf (E4 X Y K) E) := by
  have e1 : E4 X Y K / 2 ^ 1 = X * 2 ^ K / Y := by
    unfold E4
    split <;> omega
  have e2 : decide (E4 X Y K % 2 ^ 1 ≠ 0) = decide (X * 2 ^ K % Y ≠ 0) := by
    unfold E4
    by_cases h : X * 2 ^ K % Y = 0
    · rw [if_pos h, As7 (by omega), As7 (by omega)]
    · rw [if_neg h, As3 (by omega), As3 h]
  have := Tj n (V := E4 X Y K) (k := 1) (E := E) (e := e) (s := s) (by omega) (by rw [e2]; exact hs) (by omega) (.inl (by omega))
  rw [e1] at this
  exact this
end Go.Rnd
namespace Go.Rnd
open Go.Den
def Ck : List Int → Nat
  | [] => 0
  | x :: l => x.toNat + 4294967296 * Ck l
def digits : Nat → Nat → List Int
  | 0, _ => []
  | k + 1, v => ((v % 4294967296 : Nat) : Int) :: digits k (v / 4294967296)
def Dg (n : Nat) : Nat := if n = 0 then 0 else n.log2 / 32 + 1
def Pz (n : Nat) : List Int := digits (Dg n) n
def Ap (v : Int) : List Int := Pz v.natAbs
def Bg (v : Int) : Bool := decide (v < 0)
def wv (n : Bool) (l : List Int) : Int := Hh n (Ck l)
def X0 (l : List Int) : Prop := ∀ x ∈ l, 0 ≤ x ∧ x < 4294967296
def G7 (l : List Int) : Bool := C3 (l.length < 1073741824 ∧ X0 l)
def I3 (n : Bool) (l : List Int) : Bool := C3 (l.length < 268435456 ∧ l = Pz (Ck l) ∧ (n = true → l ≠ []))
def V4 (n : Bool) (l : List Int) : Bool := C3 (l.length < 134217728 ∧ l = Pz (Ck l) ∧ (n = true → l ≠ []))
def Aq5 (k : Int) : Bool := C3 (-1000000 ≤ k ∧ k ≤ 1000000)
def Ahm (k : Int) : Bool := C3 (-9223372036854775808 ≤ k ∧ k ≤ 9223372036854775807)
def Gi (l : List Int) (i : Int) : Int := if 0 ≤ i then l.getD i.toNat 0 else 0
def Js (a b : List Int) : List Int := digits (max a.length b.length + 1) (Ck a + Ck b)
def Gx (a b : List Int) : List Int := digits a.length (Ck a - Ck b)
def leL (a b : List Int) : Bool := C3 (Ck a ≤ Ck b)
def U1 (a b : Nat) : Int := if a < b then -1 else if b < a then 1 else 0
def Vt (a b : Int) : Int := if a < b then -1 else if b < a then 1 else 0
def Kk (v : Int) (j : Nat) : Int := Hh (Bg v) (v.natAbs / 2 ^ j)
def Gc (v k : Int) : Int := if 0 ≤ k then v * ((2 ^ k.toNat : Nat) : Int) else Kk v (-k).toNat
def Xr (v : Int) : Int := if v = 0 then 0 else (v.natAbs.log2 : Int) + 1
def Aix (v : Int) : Bool := decide (v % 2 = 1)
theorem two32 : 2 ^ 32 = 4294967296 := by decide
theorem Nw (k : Nat) : 2 ^ (32 * (k + 1)) = 4294967296 * 2 ^ (32 * k) := by
  rw [Nat.mul_add, Nat.mul_one, Nat.pow_add, Nat.mul_comm, two32]
theorem Ey : ∀ (k v : Nat), (digits k v).length = k
  | 0, _ => rfl
  | k + 1, v => by rw [digits, List.length_cons, Ey k]
theorem Od : ∀ (k v : Nat), X0 (digits k v)
  | 0, _ => fun x h => by cases h
  | k + 1, v => fun x h => by
    rw [digits, List.mem_cons] at h
    rcases h with rfl | h
    · omega
    · exact Od k _ x h
theorem Kt : ∀ (k v : Nat), Ck (digits k v) = v % 2 ^ (32 * k)
  | 0, v => by rw [digits, Ck, Nat.mul_zero, Nat.pow_zero, Nat.mod_one]
  | k + 1, v => by
    rw [digits, Ck, Kt k, As4, Nw, Nat.mod_mul]
theorem Mw : ∀ {l : List Int}, X0 l → Ck l < 2 ^ (32 * l.length)
  | [], _ => by decide
  | x :: l, h => by
    have h1 := h x (List.mem_cons_self ..)
    have h2 := Mw (l := l) (fun y hy => h y (List.mem_cons_of_mem _ hy))
    rw [Ck, List.length_cons, Nw]
    omega
theorem Qb : ∀ {l : List Int}, X0 l → digits l.length (Ck l) = l
  | [], _ => rfl
  | x :: l, h => by
    have h1 := h x (List.mem_cons_self ..)
    have h2 := Qb (l := l) (fun y hy => h y (List.mem_cons_of_mem _ hy))
    rw [Ck, List.length_cons, digits]
    have e1 : (x.toNat + 4294967296 * Ck l) % 4294967296 = x.toNat := by omega
    have e2 : (x.toNat + 4294967296 * Ck l) / 4294967296 = Ck l := by omega
    rw [e1, e2, h2]
    congr 1
    omega
theorem Lr (n : Nat) : n < 2 ^ (32 * Dg n) := by
  unfold Dg
  by_cases h : n = 0
  · rw [if_pos h, h]; decide
  · rw [if_neg h]
    exact Nat.lt_of_lt_of_le Nat.lt_log2_self (Ath (by decide) (by omega))
theorem M7 {n k : Nat} (h : n < 2 ^ (32 * k)) : Dg n ≤ k := by
  unfold Dg
  by_cases h0 : n = 0
  · rw [if_pos h0]; exact Nat.zero_le _
  · rw [if_neg h0]
    have := (Nat.log2_lt h0).2 h
    omega
theorem Ao2 {n k : Nat} (h : 2 ^ (32 * k) ≤ n) : k + 1 ≤ Dg n := by
  have hp := Ch (32 * k)
  unfold Dg
  rw [if_neg (by omega)]
  have := (Nat.le_log2 (by omega)).2 h
  omega
theorem L7 {n m : Nat} (h : n ≤ m) : Dg n ≤ Dg m := M7 (Nat.lt_of_le_of_lt h (Lr m))
theorem Rz (n : Nat) : Ck (Pz n) = n := by
  unfold Pz
  rw [Kt, Atf (Lr n)]
theorem Gz (n : Nat) : (Pz n).length = Dg n := Ey _ _
theorem Adu (n : Nat) : X0 (Pz n) := Od _ _
theorem Yf : ∀ (k v i : Nat), i < k → (digits k v).getD i 0 = ((v / 2 ^ (32 * i) % 4294967296 : Nat) : Int)
  | k + 1, v, 0, _ => by rw [digits, List.getD_cons_zero, Nat.mul_zero, Nat.pow_zero, Nat.div_one]
  | k + 1, v, i + 1, h => by
    rw [digits, List.getD_cons_succ, Yf k _ i (by omega), Nw, Nat.div_div_eq_div_mul]
theorem Q6 {l : List Int} (h : X0 l) (i : Nat) : l.getD i 0 = ((Ck l / 2 ^ (32 * i) % 4294967296 : Nat) : Int) := by
  by_cases hi : i < l.length
  · have := Yf l.length (Ck l) i hi
    rw [Qb h] at this
    exact this
  · have h1 := Mw h
    have h2 : 2 ^ (32 * l.length) ≤ 2 ^ (32 * i) := Ath (by decide) (by omega)
    rw [Nat.div_eq_of_lt (by omega), Atc, List.getElem?_eq_none (by omega)]
    rfl
theorem G0 {l : List Int} (h : X0 l) (i : Nat) : Gi l (i : Int) = ((Ck l / 2 ^ (32 * i) % 4294967296 : Nat) : Int) := by
  unfold Gi
  rw [if_pos (by omega), As4, Q6 h]
theorem Na : ∀ (k v : Nat), digits (k + 1) v = digits k v ++ [((v / 2 ^ (32 * k) % 4294967296 : Nat) : Int)]
  | 0, v => by rw [digits, digits, digits, Nat.mul_zero, Nat.pow_zero, Nat.div_one]; rfl
  | k + 1, v => by
    rw [digits, Na k, Nw, ← Nat.div_div_eq_div_mul]
    rfl
theorem Vk : ∀ (j k v : Nat), j ≤ k → (digits k v).take j = digits j v
  | 0, _, _, _ => by rw [List.take_zero, digits]
  | j + 1, k + 1, v, h => by rw [digits, List.take_succ_cons, Vk j k _ (by omega), digits]
theorem Af1 {l : List Int} (h : X0 l) : l.take (Dg (Ck l)) = Pz (Ck l) := by
  have h1 := Vk (Dg (Ck l)) l.length (Ck l) (M7 (Mw h))
  rw [Qb h] at h1
  exact h1
theorem Is {n : Nat} (h : n ≠ 0) : 0 < Dg n := by unfold Dg; rw [if_neg h]; omega
theorem G8 (v : Int) : wv (Bg v) (Ap v) = v := by
  unfold wv Bg Ap Hh
  rw [Rz]
  by_cases h : v < 0
  · rw [As3 h, if_pos rfl]; omega
  · rw [As7 h, if_neg (by decide)]; omega
theorem Ng {l : List Int} (h : l.length < 1073741824) (hi : X0 l) : G7 l = true := Av.2 ⟨h, hi⟩
theorem Ko {l : List Int} (h : G7 l = true) : l.length < 1073741824 ∧ X0 l := Av.1 h
theorem Aen (v : Int) : Ap v = Pz (Ck (Ap v)) ∧ (Bg v = true → Ap v ≠ []) := by
  unfold Ap
  rw [Rz]
  refine ⟨rfl, fun h e => ?_⟩
  have h1 : v < 0 := of_decide_eq_true h
  have h2 := Gz v.natAbs
  rw [e] at h2
  have := Is (n := v.natAbs) (by omega)
  rw [← h2] at this
  exact absurd this (by decide)
theorem I2 {v : Int} (h : Dg v.natAbs < 268435456) : I3 (Bg v) (Ap v) = true :=
  Av.2 ⟨by unfold Ap; rw [Gz]; exact h, Aen v⟩
theorem Alm {v : Int} (h : Dg v.natAbs < 134217728) : V4 (Bg v) (Ap v) = true :=
  Av.2 ⟨by unfold Ap; rw [Gz]; exact h, Aen v⟩
theorem Aac {n : Bool} {l : List Int} (h1 : l = Pz (Ck l)) (h2 : n = true → l ≠ []) : n = Bg (wv n l) ∧ l = Ap (wv n l) := by
  have e : (wv n l).natAbs = Ck l := by unfold wv Hh; split <;> omega
  refine ⟨?_, by unfold Ap; rw [e]; exact h1⟩
  unfold Bg wv Hh
  cases n
  · simp
  · have h3 := h2 rfl
    have h4 : Ck l ≠ 0 := fun h => by
      rw [h] at h1
      exact h3 h1
    simp; omega
theorem Iy {n : Bool} {l : List Int} (h : I3 n l = true) : ∃ v, n = Bg v ∧ l = Ap v ∧ Dg v.natAbs < 268435456 := by
  obtain ⟨h0, h1, h2⟩ := Av.1 h
  obtain ⟨e1, e2⟩ := Aac h1 h2
  refine ⟨_, e1, e2, ?_⟩
  have := congrArg List.length e2
  unfold Ap at this
  rw [Gz] at this
  omega
theorem Oz {n : Bool} {l : List Int} (h : V4 n l = true) : ∃ v, n = Bg v ∧ l = Ap v ∧ Dg v.natAbs < 134217728 := by
  obtain ⟨h0, h1, h2⟩ := Av.1 h
  obtain ⟨e1, e2⟩ := Aac h1 h2
  refine ⟨_, e1, e2, ?_⟩
  have := congrArg List.length e2
  unfold Ap at this
  rw [Gz] at this
  omega
theorem N1 {v : Int} (h : Dg v.natAbs < 1073741824) : G7 (Ap v) = true :=
  Ng (by unfold Ap; rw [Gz]; exact h) (Adu _)
theorem Ds (v : Int) : Ck (Ap v) = v.natAbs := Rz _
theorem Cm (v : Int) : (Ap v).length = Dg v.natAbs := Gz _
theorem Aqd (n : Bool) (l : List Int) : wv (!n) l = - wv n l := by
  unfold wv Hh
  cases n <;> simp
theorem Aiu {a b : List Int} (ha : X0 a) (hb : X0 b) : Ck (Js a b) = Ck a + Ck b := by
  unfold Js
  rw [Kt, Atf]
  have h1 := Mw ha
  have h2 := Mw hb
  have h3 : 2 ^ (32 * a.length) ≤ 2 ^ (32 * max a.length b.length) := Ath (by decide) (by omega)
  have h4 : 2 ^ (32 * b.length) ≤ 2 ^ (32 * max a.length b.length) := Ath (by decide) (by omega)
  rw [Nw]
  omega
theorem Ta (a b : List Int) : (Js a b).length = max a.length b.length + 1 := Ey _ _
theorem Adg (a b : List Int) : X0 (Js a b) := Od _ _
theorem Afv {a : List Int} (b : List Int) (ha : X0 a) : Ck (Gx a b) = Ck a - Ck b := by
  unfold Gx
  rw [Kt, Atf]
  have h1 := Mw ha
  omega
theorem Rp (a b : List Int) : (Gx a b).length = a.length := Ey _ _
theorem Zv (a b : List Int) : X0 (Gx a b) := Od _ _
theorem Lk (v : Int) (j : Nat) : (Kk v j).natAbs = v.natAbs / 2 ^ j := by
  unfold Kk
  generalize v.natAbs / 2 ^ j = m
  unfold Hh; split <;> omega
theorem S3 {v : Int} (h : v < 0) (m : Nat) : Hh (Bg v) m = -(m : Int) := by
  unfold Hh Bg; rw [As3 h, if_pos rfl]
theorem S2 {v : Int} (h : ¬ v < 0) (m : Nat) : Hh (Bg v) m = (m : Int) := by
  unfold Hh Bg; rw [As7 h, if_neg (by decide)]
theorem Aa1 (v : Int) (i j : Nat) : Kk (Kk v i) j = Kk v (i + j) := by
  have e : v.natAbs / 2 ^ (i + j) = v.natAbs / 2 ^ i / 2 ^ j := by rw [Nat.pow_add, Nat.div_div_eq_div_mul]
  have h1 := Lk v i
  by_cases hv : v < 0
  · have h2 : Kk v i = -((v.natAbs / 2 ^ i : Nat) : Int) := S3 hv _
    rw [show Kk v (i + j) = -((v.natAbs / 2 ^ (i + j) : Nat) : Int) from S3 hv _, e]
    by_cases h0 : v.natAbs / 2 ^ i = 0
    · rw [h2, h0]
      show Kk 0 j = _
      rw [Nat.zero_div]
      show Hh (Bg 0) (0 / 2 ^ j) = _
      rw [Nat.zero_div]; rfl
    · have h3 : Kk v i < 0 := by omega
      rw [show Kk (Kk v i) j = -(((Kk v i).natAbs / 2 ^ j : Nat) : Int) from S3 h3 _, h1]
  · have h2 : Kk v i = ((v.natAbs / 2 ^ i : Nat) : Int) := S2 hv _
    have h3 : ¬ Kk v i < 0 := by omega
    rw [show Kk (Kk v i) j = (((Kk v i).natAbs / 2 ^ j : Nat) : Int) from S2 h3 _, h1, show Kk v (i + j) = ((v.natAbs / 2 ^ (i + j) : Nat) : Int) from S2 hv _, e]
theorem Ac0 (v : Int) : Kk v 0 = v := by
  unfold Kk Hh Bg
  rw [Nat.pow_zero, Nat.div_one]
  by_cases h : v < 0
  · rw [As3 h, if_pos rfl]; omega
  · rw [As7 h, if_neg (by decide)]; omega
theorem Qw (j : Nat) : Kk 0 j = 0 := by
  unfold Kk
  rw [show (Int.natAbs 0) = 0 from rfl, Nat.zero_div]
  rfl
theorem Ah6 {l : List Int} (h : X0 l) : Ck (l.drop 1) = Ck l / 4294967296 := by
  cases l with
  | nil => rfl
  | cons x l =>
    have := h x (List.mem_cons_self ..)
    show Ck l = _
    rw [Ck]; omega
theorem Ad4 {l : List Int} (h : X0 l) : X0 (l.drop 1) := fun x hx => h x (List.mem_of_mem_drop hx)
theorem Amk {l : List Int} (h : X0 l) : X0 ([(0 : Int)] ++ l) := fun x hx => by
  rcases List.mem_cons.1 hx with rfl | hx
  · omega
  · exact h x hx
theorem Ama (n : Nat) : Dg (2 * n) ≤ Dg n + 1 := by
  refine M7 ?_
  have h := Lr n
  rw [Nw]
  omega
theorem Ao1 (n : Nat) : Dg (n * 4294967296) ≤ Dg n + 1 := by
  refine M7 ?_
  have h := Lr n
  rw [Nw]
  omega
theorem Ads {n m : Nat} (h : 2 ^ m ≤ n) : (n / 2 ^ m).log2 + m = n.log2 := by
  have hp := Ch m
  have h0 : n ≠ 0 := by omega
  have hm : m ≤ n.log2 := (Nat.le_log2 h0).2 h
  have e : (n / 2 ^ m).log2 = n.log2 - m := by
    refine Ts ?_ ?_
    · rw [Nat.le_div_iff_mul_le hp, ← Nat.pow_add]
      exact Nat.le_trans (Ath (by decide) (by omega)) (Nat.log2_self_le h0)
    · rw [Nat.div_lt_iff_lt_mul hp, ← Nat.pow_add]
      exact Nat.lt_of_lt_of_le Nat.lt_log2_self (Ath (by decide) (by omega))
  omega
end Go.Rnd
namespace Go.Rnd
open Go.Den
def Rg (n : Nat) : Nat := if h : n = 0 ∨ n % 2 = 1 then 0 else Rg (n / 2) + 1
termination_by n
decreasing_by omega
def mD (v : Int) : Int := Kk v (Rg v.natAbs)
def eD (v e : Int) : Int := if v = 0 then 0 else e + Rg v.natAbs
def Cu (v e w f : Int) : Int := if v = 0 then f else if w = 0 then e else min e f
def Ann (v e w f : Int) : Int := Gc v (e - Cu v e w f) + Gc w (f - Cu v e w f)
def Ql (v e w f : Int) : Int := mD (Ann v e w f)
def Ant (v e w f : Int) : Int := eD (Ann v e w f) (Cu v e w f)
def Hy (v e : Int) : Int := if v = 0 then 0 else Xr v + e
def Mq (v : Int) : Int := if v < 0 then -1 else if v = 0 then 0 else 1
def Vu (v e w f : Int) : Int := Vt (Gc v (e - Cu v e w f)) (Gc w (f - Cu v e w f))
def Y0 (e : Int) : Bool := C3 (-2000000 ≤ e ∧ e ≤ 2000000)
def Vs (e : Int) : Bool := C3 (-400000 ≤ e ∧ e ≤ 400000)
def Adj (v e f : Int) : Bool := C3 (v = 0 ∨ (-1000000 ≤ e - f ∧ e - f ≤ 1000000)) && C3 (-400000 ≤ e ∧ e ≤ 400000 ∧ -1000000 ≤ f ∧ f ≤ 1000000)
theorem Ae7 {n : Nat} (h : n = 0 ∨ n % 2 = 1) : Rg n = 0 := by rw [Rg, dif_pos h]
theorem Agy {n : Nat} (h0 : n ≠ 0) (h : n % 2 = 0) : Rg n = Rg (n / 2) + 1 := by rw [Rg, dif_neg (by omega)]
theorem Aar {n : Nat} (h : n ≠ 0) : ∀ k, Rg (n * 2 ^ k) = k + Rg n
  | 0 => by rw [Nat.pow_zero, Nat.mul_one, Nat.zero_add]
  | k + 1 => by
    have hp := Ch k
    have h1 : n * 2 ^ k ≠ 0 := by
      intro e
      rcases Nat.mul_eq_zero.1 e with e | e <;> omega
    have e : n * 2 ^ (k + 1) = n * 2 ^ k * 2 := by rw [Nat.pow_succ, Nat.mul_assoc]
    rw [e, Agy (by omega) (by omega), Nat.mul_div_cancel _ (by decide), Aar h k]
    omega
theorem Agx (n : Nat) (h : n ≠ 0) : ∃ m, n = m * 2 ^ Rg n ∧ m % 2 = 1 := by
  induction n using Nat.strongRecOn with
  | _ n ih =>
    by_cases h2 : n % 2 = 1
    · refine ⟨n, ?_, h2⟩
      rw [Ae7 (.inr h2), Nat.pow_zero, Nat.mul_one]
    · obtain ⟨m, h3, h4⟩ := ih (n / 2) (by omega) (by omega)
      refine ⟨m, ?_, h4⟩
      rw [Agy h (by omega), Nat.pow_succ, ← Nat.mul_assoc, ← h3]
      omega
theorem Ap2 {n : Nat} (h : n ≠ 0) : Rg n ≤ n.log2 := by
  obtain ⟨m, h1, h2⟩ := Agx n h
  refine (Nat.le_log2 h).2 ?_
  have : 1 * 2 ^ Rg n ≤ m * 2 ^ Rg n := Ate _ (by omega)
  omega
theorem Zx {n : Nat} : n.log2 < 32 * Dg n + 1 := by
  unfold Dg
  by_cases h : n = 0
  · rw [h]; decide
  · rw [if_neg h]; omega
theorem Al5 {v : Int} {k : Nat} (h : v.natAbs % 2 ^ k = 0) : mD (Kk v k) = mD v := by
  unfold mD
  by_cases h0 : v = 0
  · rw [h0, Qw]
  · have hp := Ch k
    have hv := Nat.div_add_mod v.natAbs (2 ^ k)
    rw [h, Nat.add_zero, Nat.mul_comm] at hv
    have hq : v.natAbs / 2 ^ k ≠ 0 := by
      intro e; rw [e] at hv; omega
    have := Aar hq k
    rw [hv] at this
    rw [Lk, Aa1, this]
theorem Am0 {v e : Int} {k : Nat} (h : v.natAbs % 2 ^ k = 0) (h0 : v ≠ 0) : eD (Kk v k) (e + k) = eD v e := by
  unfold eD
  have hp := Ch k
  have hv := Nat.div_add_mod v.natAbs (2 ^ k)
  rw [h, Nat.add_zero, Nat.mul_comm] at hv
  have hq : v.natAbs / 2 ^ k ≠ 0 := by
    intro e; rw [e] at hv; omega
  have ht := Aar hq k
  rw [hv] at ht
  have ha := Lk v k
  rw [if_neg h0, if_neg (by omega), ha, ht]
  omega
theorem Aq9 {v : Int} (h : v % 2 = 1) : mD v = v := by
  unfold mD
  rw [Ae7 (.inr (by omega)), Ac0]
theorem Ark {v : Int} (h : v % 2 = 1) (e : Int) : eD v e = e := by
  unfold eD
  rw [Ae7 (.inr (by omega)), if_neg (by omega)]
  omega
theorem Aly {v : Int} (h : v ≠ 0) (k : Nat) : v * ((2 ^ k : Nat) : Int) ≠ 0 := by
  have hp := Ch k
  intro e
  rcases Int.mul_eq_zero.1 e with e | e
  · exact h e
  · omega
theorem V7 (v : Int) : v = mD v * ((2 ^ Rg v.natAbs : Nat) : Int) := by
  by_cases h : v = 0
  · rw [h]
    show (0 : Int) = Kk 0 _ * _
    rw [Qw, Int.zero_mul]
  · obtain ⟨m, h1, h2⟩ := Agx v.natAbs (by omega)
    have hp := Ch (Rg v.natAbs)
    have hq : v.natAbs / 2 ^ Rg v.natAbs = m := Nat.div_eq_of_eq_mul_left hp h1
    unfold mD Kk
    rw [hq]
    by_cases hv : v < 0
    · rw [S3 hv, Int.neg_mul, ← Atn, ← h1]; omega
    · rw [S2 hv, ← Atn, ← h1]; omega
theorem O0 {v : Int} : mD v = 0 ↔ v = 0 := by
  constructor
  · intro h
    have := V7 v
    rw [h, Int.zero_mul] at this
    exact this
  · intro h
    rw [h]
    exact Qw _
theorem Zw (v : Int) : (mD v).natAbs ≤ v.natAbs := by
  unfold mD
  rw [Lk]
  exact Nat.div_le_self _ _
end Go.Rnd
namespace Go.Rnd
open Go.Den
def vAt (v e g : Int) : Int := v * ((2 ^ (e - g).toNat : Nat) : Int)
theorem Hw (e g : Int) : vAt 0 e g = 0 := Int.zero_mul _
theorem Y7 {v e g h : Int} (h1 : h ≤ e) (h2 : g ≤ h) : vAt v e g = vAt v e h * ((2 ^ (h - g).toNat : Nat) : Int) := by
  unfold vAt
  rw [Int.mul_assoc, ← Atn, ← Nat.pow_add]
  have : (e - h).toNat + (h - g).toNat = (e - g).toNat := by omega
  rw [this]
theorem Ags {S l g : Int} (h : g ≤ l) : vAt (mD S) (eD S l) g = vAt S l g := by
  by_cases h0 : S = 0
  · rw [h0, O0.2 rfl, Hw, Hw]
  · have e : eD S l = l + Rg S.natAbs := by unfold eD; rw [if_neg h0]
    rw [e]
    unfold vAt
    have e1 : (l + (Rg S.natAbs : Int) - g).toNat = Rg S.natAbs + (l - g).toNat := by omega
    rw [e1, Nat.pow_add, Atn, ← Int.mul_assoc, ← V7]
theorem Ag1 {v e l : Int} (h : v ≠ 0 → l ≤ e) : Gc v (e - l) = vAt v e l := by
  by_cases h0 : v = 0
  · rw [h0, Hw]
    unfold Gc
    split
    · exact Int.zero_mul _
    · exact Qw _
  · unfold Gc vAt
    rw [if_pos (by have := h h0; omega)]
theorem Ara {v e w f : Int} : (v ≠ 0 → Cu v e w f ≤ e) ∧ (w ≠ 0 → Cu v e w f ≤ f) := by
  unfold Cu
  constructor
  · intro h
    rw [if_neg h]
    split <;> omega
  · intro h
    split
    · omega
    · omega
theorem Aqc {v e g : Int} (h : g ≤ e) (h0 : v ≠ 0) : g ≤ eD v e := by
  unfold eD
  rw [if_neg h0]
  omega
theorem Ana (x y : Int) (k : Nat) : Vt (x * ((2 ^ k : Nat) : Int)) (y * ((2 ^ k : Nat) : Int)) = Vt x y := by
  have hp := Ch k
  have h1 : x * ((2 ^ k : Nat) : Int) < y * ((2 ^ k : Nat) : Int) ↔ x < y := Int.mul_lt_mul_right (by omega)
  have h2 : y * ((2 ^ k : Nat) : Int) < x * ((2 ^ k : Nat) : Int) ↔ y < x := Int.mul_lt_mul_right (by omega)
  unfold Vt
  simp only [h1, h2]
theorem Apl {v e w f g : Int} (h1 : v ≠ 0 → g ≤ e) (h2 : w ≠ 0 → g ≤ f) : Vu v e w f = Vt (vAt v e g) (vAt w f g) := by
  obtain ⟨l1, l2⟩ := Ara (v := v) (e := e) (w := w) (f := f)
  unfold Vu
  rw [Ag1 l1, Ag1 l2]
  by_cases h0 : v = 0 ∧ w = 0
  · rw [h0.1, h0.2, Hw, Hw, Hw, Hw]
  · have hg : g ≤ Cu v e w f := by
      unfold Cu
      split
      · rename_i hv
        exact h2 (fun k => h0 ⟨hv, k⟩)
      · split
        · exact h1 (by assumption)
        · have := h1 (by assumption); have := h2 (by assumption); omega
    have e1 : vAt v e g = vAt v e (Cu v e w f) * ((2 ^ (Cu v e w f - g).toNat : Nat) : Int) := by
      by_cases h0 : v = 0
      · rw [h0, Hw, Hw, Int.zero_mul]
      · exact Y7 (l1 h0) hg
    have e2 : vAt w f g = vAt w f (Cu v e w f) * ((2 ^ (Cu v e w f - g).toNat : Nat) : Int) := by
      by_cases h0 : w = 0
      · rw [h0, Hw, Hw, Int.zero_mul]
      · exact Y7 (l2 h0) hg
    rw [e1, e2, Ana]
def Al (l : List Int) : Bool := C3 (∀ x ∈ l, Ag x = true)
def Eu (x : Int) : Int := Hh (Bq x.toNat) (Au x.toNat)
def Rl (n : Bool) (b : Int) : Int := if n then Cz b else b
end Go.Rnd
namespace Go.Rnd
open Go.Den
theorem Ae3 (s : Bool) {q : Nat} {L : Int} (hq : q < 2 ^ 53) (hL : -1074 ≤ L) (h : 2 ^ 52 ≤ q ∨ L = -1074) (hr : (L + 1074).toNat * 2 ^ 52 + q < Dv) :
    Au (Bi s ((L + 1074).toNat * 2 ^ 52 + q)) = q ∧ A0 (Bi s ((L + 1074).toNat * 2 ^ 52 + q)) = L := by
  rw [Hk] at hr
  obtain ⟨t, ht⟩ : ∃ t : Nat, L = t - 1074 := ⟨(L + 1074).toNat, by omega⟩
  have et : (L + 1074).toNat = t := by omega
  rw [et] at hr ⊢
  have hp := Zn s (r := t * 2 ^ 52 + q) (by omega)
  have hf := X1 s (t * 2 ^ 52 + q)
  unfold Au A0
  by_cases h52 : 2 ^ 52 ≤ q
  · have e1 : Dp (Bi s (t * 2 ^ 52 + q)) = t + 1 := by rw [hp]; omega
    rw [e1, hf, if_neg (by omega), if_neg (by omega)]
    omega
  · have t0 : t = 0 := by omega
    subst t0
    have e1 : Dp (Bi s (0 * 2 ^ 52 + q)) = 0 := by rw [hp]; omega
    rw [e1, hf, if_pos rfl, if_pos rfl]
    omega
theorem sign_neg (s : Bool) {r : Nat} (h : r < 2 ^ 63) : Bq (Bi s r) = s := by
  unfold Bq Bi
  cases s
  · simp only [Bool.false_eq_true, if_false, Atl]; omega
  · simp only [if_true, As9]; omega
theorem Af9 (s : Bool) {V : Nat} {E : Int} (h0 : V ≠ 0) (hE : Cf V E ≤ E) (hi : Cg V E < Dv) :
    flagsOf V E = 0 ∧ ∃ k : Nat, Au (Bi s (Cg V E)) = V * 2 ^ k ∧ A0 (Bi s (Cg V E)) = E - k := by
  have hl2 : V.log2 = V.log2 := rfl
  have ek : kept V E = V * 2 ^ (E - Cf V E).toNat := by
    unfold kept Jr
    have e1 : (Cf V E - E).toNat = 0 := by omega
    have e2 : (-(Cf V E - E)).toNat = (E - Cf V E).toNat := by omega
    rw [e1, e2, Nv]
  have eex : exact V E = true := by
    unfold exact L9
    have e1 : (Cf V E - E).toNat = 0 := by omega
    rw [e1, Nat.pow_zero, Nat.mod_one]; rfl
  constructor
  · unfold flagsOf flags
    rw [if_neg h0, if_neg (by omega), eex]; rfl
  · have hr : Cg V E = (Cf V E + 1074).toNat * 2 ^ 52 + kept V E := by
      unfold Cg at hi ⊢
      rw [if_neg h0] at hi ⊢
      omega
    have hk : kept V E < 2 ^ 53 := by
      rw [ek, ← Nat.log2_lt (H2 h0), K1 V _ h0]
      unfold Cf at hE ⊢
      omega
    have hb : 2 ^ 52 ≤ kept V E ∨ Cf V E = -1074 := by
      by_cases h : Cf V E = -1074
      · exact .inr h
      · left
        refine Abn h0 ?_
        unfold Cf at h ⊢
        omega
    rw [hr] at hi
    obtain ⟨p1, p2⟩ := Ae3 s hk (by unfold Cf; omega) hb hi
    refine ⟨(E - Cf V E).toNat, ?_, ?_⟩
    · rw [hr, p1, ek]
    · rw [hr, p2]; omega
theorem Ad1 {V : Nat} {E : Int} (h : V < 2 ^ 53) (hE : -1074 ≤ E) : Cf V E ≤ E := by
  by_cases h0 : V = 0
  · subst h0; unfold Cf; rw [Nat.log2_zero]; omega
  · have := (Nat.log2_lt h0).2 h
    unfold Cf; omega
end Go.Rnd
namespace Go.Rnd
open Go.Den
def Eo (x : Int) : Int := if x = 0 then 0 else (x.toNat.log2 : Int) + 1
def Ro (x y : Int) : Int := ((x.toNat * y.toNat / 18446744073709551616 : Nat) : Int)
def M4 (x y : Int) : Int := ((x.toNat * y.toNat % 18446744073709551616 : Nat) : Int)
def Alw (a b : Int) : Bool := decide (Bd a = 4) || decide (Bd b = 4)
def Cb (b : Nat) : Nat := 52 - (Au b).log2
def Ct (b : Int) : Int := ((Au b.toNat * 2 ^ Cb b.toNat : Nat) : Int)
def Gs (b : Int) : Int := A0 b.toNat - Cb b.toNat
def Lo (b : Int) : Bool := C3 (Au b.toNat ≠ 0)
def Oh (m e : Int) : Bool := C3 (1152921504606846976 ≤ m ∧ m < 4611686018427387904 ∧ -6000 ≤ e ∧ e ≤ 6000)
def Ea (a b : Int) : Int := (Ms a.toNat b.toNat).1
def Ass (a b : Int) : Int := (Ms a.toNat b.toNat).2
def Ex (a b : Int) : Int := (Aby a.toNat b.toNat).1
def Asx (a b : Int) : Int := (Aby a.toNat b.toNat).2
end Go.Rnd
namespace Go.Rnd
theorem Aj8 (a b : Nat) : Kj a b = Kj b a := by
  unfold Kj
  by_cases ha : Aj a = 4
  · simp only [ha, true_or, or_true, if_true]
  · by_cases hb : Aj b = 4
    · simp only [hb, true_or, or_true, if_true]
    · simp only [ha, hb, or_self, if_false]
      by_cases ha3 : Aj a = 3
      · by_cases hb3 : Aj b = 3
        · simp only [ha3, hb3, if_true, true_and]
          by_cases e : a = b
          · subst e; rfl
          · rw [if_pos e, if_pos (fun h => e h.symm)]
        · simp only [ha3, hb3, if_true, if_false, false_and]
      · by_cases hb3 : Aj b = 3
        · simp only [ha3, hb3, if_true, if_false, false_and]
        · simp only [ha3, hb3, if_false]
          rw [Bool.and_comm, Int.min_comm, Int.add_comm]
theorem Ac8 {Y D : Nat} (h : Y % 2 ^ D = 0) : Fa Y D = Y / 2 ^ D := by unfold Fa; rw [if_pos h]
theorem Afk {Y D : Nat} (h : Y % 2 ^ D ≠ 0) : Fa Y D % 2 = 1 := by unfold Fa; rw [if_neg h]; omega
theorem Ac9 {Y d : Nat} (hY : Y < 2 ^ 62) (h : Y % 2 ^ d ≠ 0) : (Fa Y (min d 63) - 1) * 2 ^ d < Y ∧ Y < (Fa Y (min d 63) + 1) * 2 ^ d ∧ Fa Y (min d 63) % 2 = 1 := by
  have hA := Ch d
  by_cases hd : d ≤ 63
  · rw [Nat.min_eq_left hd]
    refine ⟨?_, ?_, Afk h⟩
    all_goals
      unfold Fa
      rw [if_neg h]
      have h1 := Nat.div_add_mod Y (2 ^ d)
      have h2 := Nat.mod_lt Y hA
      generalize Y / 2 ^ d = q at *
      generalize Y % 2 ^ d = r at *
      generalize 2 ^ d = c at *
      rw [Nat.mul_comm] at h1
    · have h3 : (2 * (q / 2) + 1 - 1) * c ≤ q * c := Ate c (by omega)
      omega
    · have h3 : (q + 1) * c ≤ (2 * (q / 2) + 1 + 1) * c := Ate c (by omega)
      rw [Nat.add_mul, Nat.one_mul] at h3
      omega
  · rw [Nat.min_eq_right (by omega)]
    have h63 : Y % 2 ^ 63 = Y := Atf (by omega)
    have hd0 : Y / 2 ^ 63 = 0 := Nat.div_eq_of_lt (by omega)
    have hY0 : Y ≠ 0 := by intro e; rw [e] at h; simp at h
    have hr : Fa Y 63 = 1 := by unfold Fa; rw [h63, if_neg hY0, hd0]
    have hp : 2 ^ 62 ≤ 2 ^ d := Ath (by decide) (by omega)
    rw [hr]
    refine ⟨by simp; omega, by omega, rfl⟩
theorem pow9 {d M : Nat} (h : (M * 2 ^ 9) % 2 ^ d ≠ 0) : 10 ≤ d := by
  refine Nat.lt_of_not_le fun hle => h ?_
  obtain ⟨k, hk⟩ : ∃ k, 9 = d + k := ⟨9 - d, by omega⟩
  rw [hk, Nat.pow_add, Nat.mul_comm (2 ^ d), ← Nat.mul_assoc, Nat.mul_mod_left]
theorem Og {V m d : Nat} {e f : Int} (hd : e = f + d) (h : V = m * 2 ^ d ∨ (m % 2 = 1 ∧ (m - 1) * 2 ^ d < V ∧ V < (m + 1) * 2 ^ d ∧ 2 ^ 60 ≤ m)) :
    Cg m (e - 9) = Cg V (f - 9) ∧ flagsOf m (e - 9) = flagsOf V (f - 9) := by
  rcases h with rfl | ⟨h1, h2, h3, h4⟩
  · have := Dy m d (e - 9)
    have e1 : e - 9 - (d : Int) = f - 9 := by omega
    rw [e1] at this
    exact ⟨this.1.symm, this.2.symm⟩
  · have hm0 : m ≠ 0 := by omega
    have hlog := Py h1 (by omega) h2 h3
    have hl60 : 60 ≤ m.log2 := (Nat.le_log2 hm0).2 h4
    have e1 : f - 9 + (d : Int) = e - 9 := by omega
    have hle : Cf V (f - 9) = Cf m (f - 9 + d) := by unfold Cf; rw [hlog]; congr 1; omega
    have hk : f - 9 + d + 2 ≤ Cf m (f - 9 + d) := by unfold Cf; omega
    obtain ⟨a1, a2⟩ := Pq h1 h2 h3 hle hk
    rw [e1] at a1 a2
    exact ⟨a1.symm, a2.symm⟩
theorem Afd (V : Nat) (f : Int) : Cg (V * 2 ^ 9) (f - 9) = Cg V f ∧ flagsOf (V * 2 ^ 9) (f - 9) = flagsOf V f := Dy V 9 f
structure Ap0 (Mx My d : Nat) (e f : Int) (X r : Nat) : Prop where
  plus : Cg (X + r) (e - 9) = Cg (Mx * 2 ^ d + My) f ∧ flagsOf (X + r) (e - 9) = flagsOf (Mx * 2 ^ d + My) f
  less : r < X → My < Mx * 2 ^ d ∧ Cg (X - r) (e - 9) = Cg (Mx * 2 ^ d - My) f ∧ flagsOf (X - r) (e - 9) = flagsOf (Mx * 2 ^ d - My) f
  more : X < r → Mx * 2 ^ d < My ∧ Cg (r - X) (e - 9) = Cg (My - Mx * 2 ^ d) f ∧ flagsOf (r - X) (e - 9) = flagsOf (My - Mx * 2 ^ d) f
  same : X = r → Mx * 2 ^ d = My
  small : r ≤ 2 ^ 62
theorem Apx {X My r d p : Nat} {e f : Int} (hd : e = f + d) (comm : X * 2 ^ d = p * 2 ^ 9) (n1 : (r - 1) * 2 ^ d < My * 2 ^ 9) (n2 : My * 2 ^ 9 < r * 2 ^ d + 2 ^ d) (n3 : r % 2 = 1) (hX2 : X % 2 = 0) (hX : 2 ^ 61 ≤ X) (hr : r ≤ 2 ^ 53) :
    (Cg (X + r) (e - 9) = Cg (p + My) f ∧ flagsOf (X + r) (e - 9) = flagsOf (p + My) f) ∧ My < p ∧ Cg (X - r) (e - 9) = Cg (p - My) f ∧ flagsOf (X - r) (e - 9) = flagsOf (p - My) f := by
  have e1 : (r - 1) * 2 ^ d + 2 ^ d = r * 2 ^ d := by
    obtain ⟨k, rfl⟩ : ∃ k, r = k + 1 := ⟨r - 1, by omega⟩
    rw [Nat.add_sub_cancel, Nat.add_mul, Nat.one_mul]
  have e2 : (r + 1) * 2 ^ d = r * 2 ^ d + 2 ^ d := by rw [Nat.add_mul, Nat.one_mul]
  have hXd : (r + 1) * 2 ^ d ≤ X * 2 ^ d := Ate _ (by omega)
  have hlt : My < p := by rw [e2, comm] at hXd; omega
  have a1 : Cg (X + r) (e - 9) = Cg ((p + My) * 2 ^ 9) (f - 9) ∧ flagsOf (X + r) (e - 9) = flagsOf ((p + My) * 2 ^ 9) (f - 9) := by
    refine Og hd (.inr ⟨by omega, ?_, ?_, by omega⟩)
    · have h1 : X + r - 1 = X + (r - 1) := by omega
      rw [h1, Nat.add_mul X (r - 1) (2 ^ d), Nat.add_mul p My (2 ^ 9), comm]
      exact Nat.add_lt_add_left n1 _
    · have h1 : X + r + 1 = X + (r + 1) := by omega
      rw [h1, Nat.add_mul X (r + 1) (2 ^ d), Nat.add_mul p My (2 ^ 9), comm, e2]
      exact Nat.add_lt_add_left n2 _
  have a2 : Cg (X - r) (e - 9) = Cg ((p - My) * 2 ^ 9) (f - 9) ∧ flagsOf (X - r) (e - 9) = flagsOf ((p - My) * 2 ^ 9) (f - 9) := by
    rw [e2, comm] at hXd
    refine Og hd (.inr ⟨by omega, ?_, ?_, by omega⟩)
    · have h1 : X - r - 1 = X - (r + 1) := by omega
      rw [h1, Nat.sub_mul X (r + 1) (2 ^ d), Nat.sub_mul p My (2 ^ 9), comm, e2]
      omega
    · have h1 : X - r + 1 = X - (r - 1) := by omega
      rw [h1, Nat.sub_mul X (r - 1) (2 ^ d), Nat.sub_mul p My (2 ^ 9), comm]
      omega
  rw [(Afd _ f).1, (Afd _ f).2] at a1 a2
  exact ⟨a1, hlt, a2⟩
theorem Aex {Mx My d : Nat} {e f : Int} (hd : e = f + d) (hx : Mx < 2 ^ 53) (hy : My < 2 ^ 53) (hbig : 10 ≤ d → 2 ^ 52 ≤ Mx) :
    Ap0 Mx My d e f (Mx * 2 ^ 9) (Fa (My * 2 ^ 9) (min d 63)) := by
  have hA := Ch d
  have hY : My * 2 ^ 9 < 2 ^ 62 := by omega
  have comm : Mx * 2 ^ 9 * 2 ^ d = Mx * 2 ^ d * 2 ^ 9 := by rw [Nat.mul_assoc, Nat.mul_comm (2 ^ 9), ← Nat.mul_assoc]
  have s9 := fun V => Afd V f
  by_cases hz : (My * 2 ^ 9) % 2 ^ d = 0
  ·
    have hr : ∃ r, Fa (My * 2 ^ 9) (min d 63) = r ∧ My * 2 ^ 9 = r * 2 ^ d := by
      by_cases hd63 : d ≤ 63
      · rw [Nat.min_eq_left hd63]
        exact ⟨_, rfl, by rw [Ac8 hz]; exact (Nat.div_mul_cancel (Nat.dvd_of_mod_eq_zero hz)).symm⟩
      · have hp : 2 ^ 62 ≤ 2 ^ d := Ath (by decide) (by omega)
        have : My * 2 ^ 9 = 0 := by rw [Atf (by omega)] at hz; exact hz
        rw [Nat.min_eq_right (by omega), this]
        exact ⟨0, by decide, by omega⟩
    obtain ⟨r, hr, hYr⟩ := hr
    rw [hr]
    have hle : r ≤ 2 ^ 62 := by
      have : r * 1 ≤ r * 2 ^ d := Nat.mul_le_mul_left r hA
      omega
    have cmp : ∀ x y : Nat, x * 2 ^ d < y * 2 ^ d ↔ x < y := fun x y => Nat.mul_lt_mul_right hA
    refine ⟨?_, fun h => ?_, fun h => ?_, fun h => ?_, hle⟩
    · rw [← (s9 _).1, ← (s9 _).2]
      exact Og hd (.inl (by rw [Nat.add_mul (Mx * 2 ^ d) My (2 ^ 9), Nat.add_mul (Mx * 2 ^ 9) r (2 ^ d), comm, hYr]))
    · have h1 := (cmp r (Mx * 2 ^ 9)).2 h
      refine ⟨by omega, ?_⟩
      rw [← (s9 _).1, ← (s9 _).2]
      exact Og hd (.inl (by first | rw [Nat.sub_mul (Mx * 2 ^ d) My (2 ^ 9), Nat.sub_mul (Mx * 2 ^ 9) r (2 ^ d), comm, hYr] | rw [Nat.sub_mul My (Mx * 2 ^ d) (2 ^ 9), Nat.sub_mul r (Mx * 2 ^ 9) (2 ^ d), comm, hYr]))
    · have h1 := (cmp (Mx * 2 ^ 9) r).2 h
      refine ⟨by omega, ?_⟩
      rw [← (s9 _).1, ← (s9 _).2]
      exact Og hd (.inl (by first | rw [Nat.sub_mul (Mx * 2 ^ d) My (2 ^ 9), Nat.sub_mul (Mx * 2 ^ 9) r (2 ^ d), comm, hYr] | rw [Nat.sub_mul My (Mx * 2 ^ d) (2 ^ 9), Nat.sub_mul r (Mx * 2 ^ 9) (2 ^ d), comm, hYr]))
    · rw [← h] at hYr
      omega
  ·
    have hd10 := pow9 hz
    have hMx := hbig hd10
    obtain ⟨n1, n2, n3⟩ := Ac9 hY hz
    have hrle : Fa (My * 2 ^ 9) (min d 63) ≤ 2 ^ 53 := by
      refine Nat.le_of_not_lt fun h => ?_
      have h1 : 2 ^ 53 * 2 ^ d ≤ (Fa (My * 2 ^ 9) (min d 63) - 1) * 2 ^ d := Ate _ (by omega)
      have h2 : 2 ^ 10 ≤ 2 ^ d := Ath (by decide) hd10
      have h3 : 2 ^ 53 * 2 ^ 10 ≤ 2 ^ 53 * 2 ^ d := Nat.mul_le_mul_left _ h2
      omega
    generalize Fa (My * 2 ^ 9) (min d 63) = r at *
    have hr1 : 1 ≤ r := by omega
    have e1 : (r - 1) * 2 ^ d + 2 ^ d = r * 2 ^ d := by
      obtain ⟨k, rfl⟩ : ∃ k, r = k + 1 := ⟨r - 1, by omega⟩
      rw [Nat.add_sub_cancel, Nat.add_mul, Nat.one_mul]
    have e2 : (r + 1) * 2 ^ d = r * 2 ^ d + 2 ^ d := by rw [Nat.add_mul, Nat.one_mul]
    rw [e2] at n2
    have hXr : r < Mx * 2 ^ 9 := by omega
    have hXd : (r + 1) * 2 ^ d ≤ Mx * 2 ^ 9 * 2 ^ d := Ate _ (by omega)
    rw [e2, comm] at hXd
    obtain ⟨p1, p2, p3⟩ := Apx hd comm n1 n2 n3 (by omega) (by omega) hrle
    exact ⟨p1, fun _ => ⟨p2, p3⟩, fun h => by omega, fun h => by omega, by omega⟩
theorem Ve (n : Bool) (m : Nat) (e : Int) : Fz n m e false = (Bi n (Cg m e), flagsOf m e) := by
  unfold Fz
  have := Dy m 2 e
  have e1 : m * 2 ^ 2 = 4 * m + false.toNat := by simp; omega
  have e2 : e - ((2 : Nat) : Int) = e - 2 := by omega
  rw [e1, e2] at this
  rw [this.1, this.2]
theorem Qx (E : Int) : Cg 0 E = 0 := if_pos rfl
theorem O4 (E : Int) : flagsOf 0 E = 0 := if_pos rfl
theorem P9 {b : Nat} (h : Jy b = true) : Aj b ≠ 4 ∧ Aj b ≠ 3 := by
  unfold Jy at h
  simp only [As9] at h
  unfold Aj
  rw [if_neg (by omega)]
  split
  · omega
  · split <;> omega
theorem Zp {b : Nat} (h : -1064 ≤ A0 b) : 2 ^ 52 ≤ Au b := by
  unfold A0 at h
  unfold Au
  split at h
  · omega
  · rw [if_neg (by assumption)]; omega
theorem R0 (z : Nat) (s : Bool) {V : Nat} (hV : V ≠ 0) (f : Int) : Ot z (Hh s V) f = (Bi s (Cg V f), flagsOf V f) := by
  unfold Ot Hh
  cases s
  · have h1 : ¬ (V : Int) = 0 := by omega
    have h2 : ¬ (V : Int) < 0 := by omega
    simp only [Bool.false_eq_true, if_false, h1, h2, decide_false, Int.natAbs_natCast]
  · have h1 : ¬ -(V : Int) = 0 := by omega
    have h2 : -(V : Int) < 0 := by omega
    simp only [if_true, h1, if_false, h2, decide_true, Int.natAbs_neg, Int.natAbs_natCast]
theorem Apy {p q X r : Nat} {e f : Int} (s t : Bool)
    (plus : Cg (X + r) e = Cg (p + q) f ∧ flagsOf (X + r) e = flagsOf (p + q) f)
    (less : r < X → q < p ∧ Cg (X - r) e = Cg (p - q) f ∧ flagsOf (X - r) e = flagsOf (p - q) f)
    (more : X < r → p < q ∧ Cg (r - X) e = Cg (q - p) f ∧ flagsOf (r - X) e = flagsOf (q - p) f)
    (same : X = r → p = q) :
    Ot (Bi (s && t) 0) (Hh s p + Hh t q) f = (if s = t then Fz s (X + r) e false
      else if r < X then Fz s (X - r) e false
      else if X < r then Fz t (r - X) e false
      else (0, 0)) := by
  simp only [Ve]
  by_cases hs : s = t
  · rw [if_pos hs, ← hs]
    have hsum : Hh s p + Hh s q = Hh s (p + q) := by unfold Hh; cases s <;> simp <;> omega
    rw [hsum, plus.1, plus.2]
    by_cases h0 : p + q = 0
    · rw [h0, Qx, O4]
      unfold Ot
      have : Hh s 0 = 0 := by unfold Hh; cases s <;> rfl
      rw [if_pos this, As8]
    · exact R0 _ _ h0 _
  · rw [if_neg hs]
    by_cases h1 : r < X
    · obtain ⟨c1, c2, c3⟩ := less h1
      rw [if_pos h1, c2, c3]
      have hsum : Hh s p + Hh t q = Hh s (p - q) := by
        unfold Hh; cases s <;> cases t <;> simp at hs ⊢ <;> omega
      rw [hsum]
      exact R0 _ _ (by omega) _
    · rw [if_neg h1]
      by_cases h2 : X < r
      · obtain ⟨c1, c2, c3⟩ := more h2
        rw [if_pos h2, c2, c3]
        have hsum : Hh s p + Hh t q = Hh t (q - p) := by
          unfold Hh; cases s <;> cases t <;> simp at hs ⊢ <;> omega
        rw [hsum]
        exact R0 _ _ (by omega) _
      · rw [if_neg h2]
        have c := same (by omega)
        have hsum : Hh s p + Hh t q = 0 := by
          unfold Hh; cases s <;> cases t <;> simp at hs ⊢ <;> omega
        have hz : (s && t) = false := by cases s <;> cases t <;> simp at hs ⊢
        rw [hsum, hz]
        rfl
theorem Anr {a b : Nat} (ha : Jy a = true) (hb : Jy b = true) :
    Kj a b = Ot (Bi (Bq a && Bq b) 0) (Jm a (min (A0 a) (A0 b)) + Jm b (min (A0 a) (A0 b))) (min (A0 a) (A0 b)) := by
  have k1 := P9 ha
  have k2 := P9 hb
  unfold Kj
  rw [if_neg (fun h => h.elim k1.1 k2.1), if_neg k1.2, if_neg k2.2]
theorem Ae5 (b : Nat) : Jm b (A0 b) = Hh (Bq b) (Au b) := by
  unfold Jm; rw [Int.sub_self, Int.toNat_zero, Nat.pow_zero, Nat.mul_one]
theorem Akh {b : Nat} {f : Int} {d : Nat} (h : A0 b = f + d) : Jm b f = Hh (Bq b) (Au b * 2 ^ d) := by
  unfold Jm
  have : (A0 b - f).toNat = d := by omega
  rw [this]
theorem Aew {a b : Nat} (ha : Jy a = true) (hb : Jy b = true) {d : Nat} (hd : A0 a = A0 b + d) :
    Kj a b = (if Bq a = Bq b then Fz (Bq a) (Au a * 2 ^ 9 + Fa (Au b * 2 ^ 9) (min d 63)) (A0 a - 9) false
      else if Fa (Au b * 2 ^ 9) (min d 63) < Au a * 2 ^ 9 then Fz (Bq a) (Au a * 2 ^ 9 - Fa (Au b * 2 ^ 9) (min d 63)) (A0 a - 9) false
      else if Au a * 2 ^ 9 < Fa (Au b * 2 ^ 9) (min d 63) then Fz (Bq b) (Fa (Au b * 2 ^ 9) (min d 63) - Au a * 2 ^ 9) (A0 a - 9) false
      else (0, 0)) := by
  have hx := Ev a
  have hy := Ev b
  have C := Aex (Mx := Au a) (My := Au b) hd hx hy (fun h => Zp (by have := D8 b; omega))
  rw [Anr ha hb, Int.min_eq_right (by omega), Ae5, Akh hd]
  exact Apy _ _ C.plus C.less C.more C.same
theorem Uu {b : Nat} (h : b < 2 ^ 64) : Gw b < 2 ^ 64 := by unfold Gw; split <;> omega
theorem Af7 (m : Nat) (e : Int) : flagsOf m e < 32 := by
  unfold flagsOf flags
  split
  · decide
  · split
    · decide
    · split
      · decide
      · split <;> decide
theorem Ua {a b : Nat} (ha : a < 2 ^ 64) (hb : b < 2 ^ 64) : (Kj a b).1 < 2 ^ 64 ∧ (Kj a b).2 < 32 := by
  unfold Kj
  split
  · exact ⟨by decide, by decide⟩
  · split
    · split
      · decide
      · exact ⟨ha, (by decide : 0 < 32)⟩
    · split
      · exact ⟨hb, (by decide : 0 < 32)⟩
      · unfold Ot
        split
        · refine ⟨?_, (by decide : 0 < 32)⟩
          unfold Bi; split <;> decide
        · exact ⟨Sy _ _ _, Af7 _ _⟩
end Go.Rnd
namespace Go.Rnd
open Go.Den
def Cd (r c : Nat) (f : Nat → Nat → Int) : List Int := (List.range (r * c)).map fun j => f (j / c) (j % c)
theorem Ci (r c : Nat) (f : Nat → Nat → Int) : (Cd r c f).length = r * c := by unfold Cd; rw [List.length_map, List.length_range]
theorem L6 {r c i k : Nat} (hi : i < r) (hk : k < c) : i * c + k < r * c := by
  have : (i + 1) * c ≤ r * c := Ate c hi
  rw [Nat.add_mul, Nat.one_mul] at this
  omega
theorem Un {c i k : Nat} (hk : k < c) : (i * c + k) / c = i ∧ (i * c + k) % c = k := by
  constructor
  · rw [Nat.mul_comm, Nat.mul_add_div (by omega), Nat.div_eq_of_lt hk, Nat.add_zero]
  · rw [Nat.mul_comm, Nat.mul_add_mod, Atf hk]
theorem Hd {r c : Nat} {f : Nat → Nat → Int} {j : Nat} (h : j < r * c) : (Cd r c f)[j]? = some (f (j / c) (j % c)) := by
  unfold Cd
  rw [List.getElem?_map, List.getElem?_range h]
  rfl
theorem Amo {r c i k : Nat} {f : Nat → Nat → Int} (hi : i < r) (hk : k < c) : (Cd r c f).getD (i * c + k) 0 = f i k := by
  obtain ⟨d1, d2⟩ := Un (i := i) hk
  rw [Atc, Hd (L6 hi hk), d1, d2]
  rfl
theorem Xo {l m : List Int} (h : l.length = m.length) (he : ∀ j, j < l.length → l[j]? = m[j]?) : l = m := by
  refine List.ext_getElem? fun j => ?_
  by_cases hj : j < l.length
  · exact he j hj
  · rw [List.getElem?_eq_none (by omega), List.getElem?_eq_none (by omega)]
theorem Dz {r c : Nat} {f g : Nat → Nat → Int} (h : ∀ i k, i < r → k < c → f i k = g i k) : Cd r c f = Cd r c g := by
  refine Xo (by rw [Ci, Ci]) fun j hj => ?_
  rw [Ci] at hj
  have hc : 0 < c := by
    rcases Nat.eq_zero_or_pos c with h0 | h0
    · subst h0; rw [Nat.mul_zero] at hj; omega
    · exact h0
  rw [Hd hj, Hd hj, h (j / c) (j % c) ((Nat.div_lt_iff_lt_mul hc).2 hj) (Nat.mod_lt _ hc)]
theorem Ajl {r c : Nat} {l : List Int} (h : l.length = r * c) : l = Cd r c fun i k => l.getD (i * c + k) 0 := by
  refine Xo (by rw [Ci, h]) fun j hj => ?_
  rw [Hd (by omega)]
  have e : j / c * c + j % c = j := by rw [Nat.mul_comm]; exact Nat.div_add_mod j c
  rw [e, Atc, Atj hj]
  rfl
theorem Ty {r c i k : Nat} {f : Nat → Nat → Int} (hk : k < c) (x : Int) :
    (Cd r c f).set (i * c + k) x = Cd r c fun a b => if a = i ∧ b = k then x else f a b := by
  refine Xo (by rw [List.length_set, Ci, Ci]) fun j hj => ?_
  rw [List.length_set, Ci] at hj
  obtain ⟨d1, d2⟩ := Un (i := i) hk
  rw [Hd hj, List.getElem?_set]
  by_cases h : i * c + k = j
  · subst h
    rw [if_pos rfl, if_pos (by rw [Ci]; exact hj), d1, d2, if_pos ⟨rfl, rfl⟩]
  · rw [if_neg h, Hd hj, if_neg]
    rintro ⟨h1, h2⟩
    exact h (by rw [← h1, ← h2, Nat.mul_comm]; exact Nat.div_add_mod j c)
theorem Oa (r c : Nat) (f : Nat → Nat → Int) : Cd (r + 1) c f = Cd r c f ++ (List.range c).map (f r) := by
  unfold Cd
  rw [Nat.add_mul, Nat.one_mul, List.range_add, List.map_append, List.map_map]
  congr 1
  refine List.map_congr_left fun k hk => ?_
  have hk := List.mem_range.1 hk
  obtain ⟨d1, d2⟩ := Un (i := r) hk
  show f ((r * c + k) / c) ((r * c + k) % c) = f r k
  rw [d1, d2]
theorem N9 (c : Nat) (f : Nat → Nat → Int) : Cd 0 c f = [] := by
  unfold Cd; rw [Nat.zero_mul]; rfl
theorem Io (k : Nat) (g : Nat → Int) : (List.range (k + 1)).map g = (List.range k).map g ++ [g k] := by
  rw [List.range_succ, List.map_append]; rfl
theorem Af5 (r c : Nat) : Cd r c (fun _ _ => 0) = List.replicate (r * c) 0 := by
  unfold Cd
  rw [List.map_const', List.length_range]
def Abx : Nat → List Int → List Int → Nat
  | s, x :: xs, y :: ys => Abx (Kj s (Ms x.toNat y.toNat).1).1 xs ys
  | s, _, _ => s
def It (x y : List Int) : Int := Abx 0 x y
theorem Q1 {a b : Nat} : (Ms a b).1 < 2 ^ 64 := by
  unfold Ms
  split
  · decide
  · split
    · split
      · decide
      · unfold Bi; split <;> decide
    · exact Sy _ _ _
theorem Abw : ∀ (x y : List Int) (s : Nat), s < 2 ^ 64 → Abx s x y < 2 ^ 64
  | x :: xs, y :: ys, s, h => Abw xs ys _ (Ua h Q1).1
  | [], _, _, h => by unfold Abx; exact h
  | _ :: _, [], _, h => by unfold Abx; exact h
end Go.Rnd
namespace Go.Rnd
open Go.Den
def Bw (n : Int) : Bool := decide (0 ≤ n) && decide (n ≤ 6)
def A9 (r c : Int) (l : List Int) : Bool := (Bw r && Bw c) && decide ((l.length : Int) = r * c)
def Kh (r c : Int) (l : List Int) : Int := if A9 r c l = true then 0 else 1
def Aas (r c : Int) (l : List Int) (p q : Int) (m : List Int) : Int := if (A9 r c l && A9 p q m) = true then 0 else 1
def Cy (_r c : Int) (l : List Int) (i k : Int) : Bool := C3 (0 ≤ i ∧ i < 10 ∧ 0 ≤ k ∧ k < 10 ∧ 0 ≤ c ∧ c < 10 ∧ i * c + k < l.length ∧ l.length < 1000)
def D0 (c : Int) (l : List Int) (i k : Int) : Int := l.getD (i * c + k).toNat 0
def Mt (i k : Int) : Int := if i = k then 4607182418800017408 else 0
def Ug (x y i k : Int) : Bool := C3 (0 ≤ x ∧ x < 10 ∧ 0 ≤ y ∧ y < 10 ∧ 0 ≤ i ∧ i < 10 ∧ 0 ≤ k ∧ k < 10)
def Hi (r c x y a b : Int) : Bool := decide (0 ≤ x ∧ 0 ≤ y ∧ 0 ≤ a ∧ 0 ≤ b ∧ x ≤ r ∧ y ≤ c ∧ a ≤ r - x ∧ b ≤ c - y)
def Oq (r c : Int) (l : List Int) (i : Int) : Bool := A9 r c l && C3 (0 ≤ i ∧ i < r)
def Gk (r c : Int) (l : List Int) (k : Int) : Bool := A9 r c l && C3 (0 ≤ k ∧ k < c)
def R6 (r c : Int) (l : List Int) (p q : Int) (m : List Int) (i k : Int) : Bool := (Oq r c l i && Gk p q m k) && ((Al l && Al m) && C3 (c = p))
def Gn (c : Int) (l : List Int) (i : Int) : List Int := List.drop (i * c).toNat (List.take ((i + 1) * c).toNat l)
def J7 (r c : Int) (l : List Int) (k : Int) : List Int := (List.range r.toNat).map fun j : Nat => D0 c l (j : Int) k
abbrev MX := Int × Int × List Int × Int
def Nh (e : Int) : MX := (0, 0, [], e)
def Mi (n : Int) : MX := if Bw n = true then (n, n, Cd n.toNat n.toNat fun i k => Mt i k, 0) else Nh 3
def Ft (r c : Int) (l : List Int) : MX := if A9 r c l = true then (c, r, Cd c.toNat r.toNat fun i k => D0 c l k i, 0) else Nh 1
def Jb (r c : Int) (l : List Int) (x y a b : Int) : MX :=
  if A9 r c l = true then (if Hi r c x y a b = true then (a, b, Cd a.toNat b.toNat fun i k => D0 c l (x + i) (y + k), 0) else Nh 3) else Nh 1
def Tm (r c : Int) (l : List Int) (p q : Int) (m : List Int) : MX :=
  if (A9 r c l && A9 p q m) = true then (if c = p then (r, q, Cd r.toNat q.toNat fun i k => It (Gn c l i) (J7 p q m k), 0) else Nh 3) else Nh 1
def Oc (x y : List Int) : Bool := decide (x.length = y.length) && decide (x.length ≤ 64)
def S7 (x y : List Int) : Bool := decide (x = y)
def Im (r c : Int) (l : List Int) (p q : Int) (m : List Int) : Bool := (decide (r = p) && decide (c = q)) && decide (l = m)
def Gr (l : List Int) : Bool := C3 (l.length ≤ 17592186044416)
theorem Il {n : Int} : Bw n = true ↔ 0 ≤ n ∧ n ≤ 6 := by unfold Bw; simp
theorem Ka {r c : Int} {l : List Int} : A9 r c l = true ↔ (0 ≤ r ∧ r ≤ 6) ∧ (0 ≤ c ∧ c ≤ 6) ∧ (l.length : Int) = r * c := by
  unfold A9
  rw [Atd, Atd, Il, Il, As9, and_assoc]
theorem C0 {r c : Int} {l : List Int} (h : A9 r c l = true) : ∃ R C : Nat, r = R ∧ c = C ∧ R ≤ 6 ∧ C ≤ 6 ∧ l.length = R * C := by
  obtain ⟨h1, h2, h3⟩ := Ka.1 h
  refine ⟨r.toNat, c.toNat, by omega, by omega, by omega, by omega, ?_⟩
  have : (((r.toNat * c.toNat : Nat)) : Int) = r * c := by rw [Atn, Int.toNat_of_nonneg h1.1, Int.toNat_of_nonneg h2.1]
  omega
theorem Fu {n : Int} (h : Bw n = true) : ∃ R : Nat, n = R ∧ R ≤ 6 := by
  have := Il.1 h
  exact ⟨n.toNat, by omega, by omega⟩
theorem Qs {n : Nat} (h : n ≤ 6) : Bw (n : Int) = true := Il.2 ⟨by omega, by omega⟩
theorem Iq {r c : Nat} {l : List Int} (hr : r ≤ 6) (hc : c ≤ 6) (hl : l.length = r * c) : A9 (r : Int) (c : Int) l = true :=
  Ka.2 ⟨⟨by omega, by omega⟩, ⟨by omega, by omega⟩, by rw [hl, Atn]⟩
theorem Ahy (c : Nat) (l : List Int) (i k : Nat) : D0 (c : Int) l (i : Int) (k : Int) = l.getD (i * c + k) 0 := by
  unfold D0
  have : ((i : Int) * (c : Int) + (k : Int)).toNat = i * c + k := by
    rw [← Atn, ← Int.natCast_add, As4]
  rw [this]
theorem Di {r c i k : Nat} {R : Int} {l : List Int} (hr : r ≤ 6) (hc : c ≤ 6) (hl : l.length = r * c) (hi : i < r) (hk : k < c) : Cy R (c : Int) l (i : Int) (k : Int) = true := by
  have := L6 hi hk
  have h36 := Nat.mul_le_mul hr hc
  refine Av.2 ⟨by omega, by omega, by omega, by omega, by omega, by omega, ?_, by omega⟩
  rw [← Atn]
  omega
theorem Apa {r c i k : Nat} {f : Nat → Nat → Int} (hi : i < r) (hk : k < c) : D0 (c : Int) (Cd r c f) (i : Int) (k : Int) = f i k := by
  rw [Ahy, Amo hi hk]
theorem O2 {r c : Nat} (f : Nat → Nat → Int) (hr : r ≤ 6) (hc : c ≤ 6) : A9 (r : Int) (c : Int) (Cd r c f) = true := Iq hr hc (Ci r c f)
theorem Z2 {r c : Nat} {l : List Int} (h : l.length = r * c) : (Cd r c fun i k => D0 (c : Int) l (i : Int) (k : Int)) = l := by
  conv => rhs; rw [Ajl h]
  exact Dz fun i k _ _ => Ahy c l i k
theorem T8 {l : List Int} (h : Al l = true) {j : Nat} (hj : j < l.length) : Ag (l.getD j 0) = true := by
  have h := Av.1 h
  rw [Atc, Atj hj]
  exact h _ (List.getElem_mem hj)
end Go.Rnd
namespace Go.Rnd
theorem Lz {b : Nat} (h : b < 2 ^ 64) : Bi (Bq b) (b % 2 ^ 63) = b := by
  unfold Bi Bq
  by_cases hb : 2 ^ 63 ≤ b
  · simp only [hb, decide_true, if_true]; omega
  · simp only [hb, decide_false, Bool.false_eq_true, if_false]; omega
theorem Aeb {b : Nat} (h : b < 2 ^ 64) (h4 : Aj b ≠ 4) : Bi (Bq b) (Cg (Au b) (A0 b)) = b := by
  rw [Qy h4, Lz h]
theorem Ajo {b : Nat} (h3 : Aj b ≠ 3) (h4 : Aj b ≠ 4) : flagsOf (Au b) (A0 b) = 0 := by
  by_cases h0 : Au b = 0
  · rw [h0]; exact O4 _
  · have h1 := Ev b
    have h2 := D8 b
    have h5 := Tw h3 h4
    exact (Af9 false h0 (Ad1 (by omega) h2.1) (by rw [Qy h4]; exact h5)).1
theorem mul_pow {a p : Nat} (a3 : Aj a ≠ 3) (a4 : Aj a ≠ 4) (p3 : Aj p ≠ 3) (p4 : Aj p ≠ 4) (hp : Au p = 2 ^ 52) (hn : Bq p = false) :
    Ms a p = (Bi (Bq a) (Cg (Au a) (A0 a + A0 p + 52)), flagsOf (Au a) (A0 a + A0 p + 52)) := by
  obtain ⟨s1, s2⟩ := Dy (Au a) 52 (A0 a + A0 p + 52)
  have e : A0 a + A0 p + 52 - ((52 : Nat) : Int) = A0 a + A0 p := by omega
  rw [e] at s1 s2
  have e2 : (Bq a != false) = Bq a := by cases Bq a <;> rfl
  unfold Ms
  rw [if_neg (by omega), if_neg (by omega), hp, hn, s1, s2, e2]
theorem Ali : Au 4607182418800017408 = 2 ^ 52 ∧ A0 4607182418800017408 = -52 ∧ Aj 4607182418800017408 = 2 ∧ Bq 4607182418800017408 = false := by decide +kernel
theorem mul_one {a : Nat} (h : a < 2 ^ 64) (a3 : Aj a ≠ 3) (a4 : Aj a ≠ 4) : Ms a 4607182418800017408 = (a, 0) := by
  obtain ⟨o1, o2, o3, o4⟩ := Ali
  have e : A0 a + -52 + 52 = A0 a := by omega
  rw [mul_pow a3 a4 (by omega) (by omega) o1 o4, o2, e, Aeb h a4, Ajo a3 a4]
end Go.Rnd
end
