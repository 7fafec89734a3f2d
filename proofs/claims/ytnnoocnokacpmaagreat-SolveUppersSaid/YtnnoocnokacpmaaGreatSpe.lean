/- Spe of the verified evaluator and its use for this seat (of my texts S1Env, S1Specs). -/
import Derived.Test.YtnnoocnokacpmaaGreatFlo
import Derived.Test.YtnnoocnokacpmaaGreatProg
import Derived.Test.YtnnoocnokacpmaaGreatMat

/- The seat's types and its environment. -/
namespace Go.Proofs.S1
open Go Go.Den Go.Proofs
set_option maxRecDepth 100000
def tys : List (Nat × TI) := [
  (2, ⟨1, 8, (.int .i64), [.int .i64 (0 : Int)]⟩),
  (3, ⟨1, 8, (.int .i64), [.int .i64 (0 : Int)]⟩),
  (4, ⟨1, 1, .bool, [.bool false]⟩),
  (5, ⟨1, 1, (.int .u8), [.int .u8 (0 : Int)]⟩),
  (22, ⟨1, 24, (.slice 37), [.nil]⟩),
  (24, ⟨3, 40, (.struct [(0, 3), (1, 3), (2, 22)]), [.int .i64 (0 : Int), .int .i64 (0 : Int), .nil]⟩),
  (25, ⟨1, 8, (.int .i64), [.int .i64 (0 : Int)]⟩),
  (36, ⟨1, 8, (.int .u64), [.int .u64 (0 : Int)]⟩),
  (37, ⟨1, 8, (.int .u64), [.int .u64 (0 : Int)]⟩),
  (38, ⟨1, 24, (.slice 41), [.nil]⟩),
  (41, ⟨1, 1, (.int .i8), [.int .i8 (0 : Int)]⟩),
  (43, ⟨1, 24, (.slice 185), [.nil]⟩),
  (45, ⟨2, 32, (.struct [(0, 4), (1, 43)]), [.bool false, .nil]⟩),
  (47, ⟨3, 40, (.struct [(0, 45), (2, 3)]), [.bool false, .nil, .int .i64 (0 : Int)]⟩),
  (51, ⟨12, 160, (.struct [(0, 24), (3, 24), (6, 24), (9, 24)]), [.int .i64 (0 : Int), .int .i64 (0 : Int), .nil, .int .i64 (0 : Int), .int .i64 (0 : Int), .nil, .int .i64 (0 : Int), .int .i64 (0 : Int), .nil, .int .i64 (0 : Int), .int .i64 (0 : Int), .nil]⟩),
  (54, ⟨12, 160, (.struct [(0, 24), (3, 24), (6, 24), (9, 24)]), [.int .i64 (0 : Int), .int .i64 (0 : Int), .nil, .int .i64 (0 : Int), .int .i64 (0 : Int), .nil, .int .i64 (0 : Int), .int .i64 (0 : Int), .nil, .int .i64 (0 : Int), .int .i64 (0 : Int), .nil]⟩),
  (58, ⟨9, 120, (.struct [(0, 24), (3, 24), (6, 24)]), [.int .i64 (0 : Int), .int .i64 (0 : Int), .nil, .int .i64 (0 : Int), .int .i64 (0 : Int), .nil, .int .i64 (0 : Int), .int .i64 (0 : Int), .nil]⟩),
  (61, ⟨9, 120, (.struct [(0, 24), (3, 24), (6, 24)]), [.int .i64 (0 : Int), .int .i64 (0 : Int), .nil, .int .i64 (0 : Int), .int .i64 (0 : Int), .nil, .int .i64 (0 : Int), .int .i64 (0 : Int), .nil]⟩),
  (67, ⟨7, 88, (.struct [(0, 24), (3, 24), (6, 25)]), [.int .i64 (0 : Int), .int .i64 (0 : Int), .nil, .int .i64 (0 : Int), .int .i64 (0 : Int), .nil, .int .i64 (0 : Int)]⟩),
  (71, ⟨9, 120, (.struct [(0, 24), (3, 24), (6, 24)]), [.int .i64 (0 : Int), .int .i64 (0 : Int), .nil, .int .i64 (0 : Int), .int .i64 (0 : Int), .nil, .int .i64 (0 : Int), .int .i64 (0 : Int), .nil]⟩),
  (74, ⟨1, 24, (.slice 24), [.nil]⟩),
  (82, ⟨1, 8, (.int .i64), [.int .i64 (0 : Int)]⟩),
  (95, ⟨6, 80, (.array 2 24), [.int .i64 (0 : Int), .int .i64 (0 : Int), .nil, .int .i64 (0 : Int), .int .i64 (0 : Int), .nil]⟩),
  (99, ⟨7, 88, (.struct [(0, 24), (3, 24), (6, 4)]), [.int .i64 (0 : Int), .int .i64 (0 : Int), .nil, .int .i64 (0 : Int), .int .i64 (0 : Int), .nil, .bool false]⟩),
  (103, ⟨1, 8, .fl, [.fl 0]⟩),
  (116, ⟨9, 120, (.array 3 24), [.int .i64 (0 : Int), .int .i64 (0 : Int), .nil, .int .i64 (0 : Int), .int .i64 (0 : Int), .nil, .int .i64 (0 : Int), .int .i64 (0 : Int), .nil]⟩),
  (120, ⟨15, 200, (.struct [(0, 24), (3, 24), (6, 24), (9, 24), (12, 24)]), [.int .i64 (0 : Int), .int .i64 (0 : Int), .nil, .int .i64 (0 : Int), .int .i64 (0 : Int), .nil, .int .i64 (0 : Int), .int .i64 (0 : Int), .nil, .int .i64 (0 : Int), .int .i64 (0 : Int), .nil, .int .i64 (0 : Int), .int .i64 (0 : Int), .nil]⟩),
  (134, ⟨1, 1, (.int .u8), [.int .u8 (0 : Int)]⟩),
  (148, ⟨12, 160, (.array 4 24), [.int .i64 (0 : Int), .int .i64 (0 : Int), .nil, .int .i64 (0 : Int), .int .i64 (0 : Int), .nil, .int .i64 (0 : Int), .int .i64 (0 : Int), .nil, .int .i64 (0 : Int), .int .i64 (0 : Int), .nil]⟩),
  (153, ⟨2, 16, (.array 2 3), [.int .i64 (0 : Int), .int .i64 (0 : Int)]⟩),
  (154, ⟨1, 24, (.slice 156), [.nil]⟩),
  (156, ⟨3, 40, (.struct [(0, 22), (1, 37), (2, 37)]), [.nil, .int .u64 (0 : Int), .int .u64 (0 : Int)]⟩),
  (167, ⟨3, 24, (.struct [(0, 4), (1, 3), (2, 36)]), [.bool false, .int .i64 (0 : Int), .int .u64 (0 : Int)]⟩),
  (177, ⟨1, 24, (.slice 183), [.nil]⟩),
  (183, ⟨2, 32, (.struct [(0, 22), (1, 37)]), [.nil, .int .u64 (0 : Int)]⟩),
  (185, ⟨1, 4, (.int .u32), [.int .u32 (0 : Int)]⟩)]
theorem ty2 : TyFact Tryz.prog 2 ⟨1, 8, (.int .i64), [.int .i64 (0 : Int)]⟩ := tyFact_mk (z := .int .i64 (0 : Int)) (by kernel_rfl) (fun c w => by simp [LRel, VRel, Value.cells]) rfl (by simp [Value.cells, Value.oneCell']) (by simp only [descOk]; exact Tryz.underlying2)
theorem ty3 : TyFact Tryz.prog 3 ⟨1, 8, (.int .i64), [.int .i64 (0 : Int)]⟩ := tyFact_mk (z := .int .i64 (0 : Int)) (by kernel_rfl) (fun c w => by simp [LRel, VRel, Value.cells]) rfl (by simp [Value.cells, Value.oneCell']) (by simp only [descOk]; exact Tryz.underlying3)
theorem ty4 : TyFact Tryz.prog 4 ⟨1, 1, .bool, [.bool false]⟩ := tyFact_mk (z := .bool false) (by kernel_rfl) (fun c w => by simp [LRel, VRel, Value.cells]) rfl (by simp [Value.cells, Value.oneCell']) (by simp only [descOk]; exact Tryz.underlying4)
theorem ty5 : TyFact Tryz.prog 5 ⟨1, 1, (.int .u8), [.int .u8 (0 : Int)]⟩ := tyFact_mk (z := .int .u8 (0 : Int)) (by kernel_rfl) (fun c w => by simp [LRel, VRel, Value.cells]) rfl (by simp [Value.cells, Value.oneCell']) (by simp only [descOk]; exact Tryz.underlying5)
theorem ty22 : TyFact Tryz.prog 22 ⟨1, 24, (.slice 37), [.nil]⟩ := tyFact_mk (z := .slice none 0 0) (by kernel_rfl) (fun c w => by simp [LRel, VRel, Value.cells]) rfl (by simp [Value.cells, Value.oneCell']) (by simp only [descOk]; exact Tryz.underlying22)
theorem ty24 : TyFact Tryz.prog 24 ⟨3, 40, (.struct [(0, 3), (1, 3), (2, 22)]), [.int .i64 (0 : Int), .int .i64 (0 : Int), .nil]⟩ := tyFact_mk (z := .agg #[.int .i64 (0 : Int), .int .i64 (0 : Int), .slice none 0 0]) (by kernel_rfl) (fun c w => by simp [LRel, VRel, Value.cells]) rfl (by simp [Value.cells, Value.oneCell']) (by simp only [descOk]; exact ⟨_, Tryz.underlying24, by kernel_rfl⟩)
theorem ty25 : TyFact Tryz.prog 25 ⟨1, 8, (.int .i64), [.int .i64 (0 : Int)]⟩ := tyFact_mk (z := .int .i64 (0 : Int)) (by kernel_rfl) (fun c w => by simp [LRel, VRel, Value.cells]) rfl (by simp [Value.cells, Value.oneCell']) (by simp only [descOk]; exact Tryz.underlying25)
theorem ty36 : TyFact Tryz.prog 36 ⟨1, 8, (.int .u64), [.int .u64 (0 : Int)]⟩ := tyFact_mk (z := .int .u64 (0 : Int)) (by kernel_rfl) (fun c w => by simp [LRel, VRel, Value.cells]) rfl (by simp [Value.cells, Value.oneCell']) (by simp only [descOk]; exact Tryz.underlying36)
theorem ty37 : TyFact Tryz.prog 37 ⟨1, 8, (.int .u64), [.int .u64 (0 : Int)]⟩ := tyFact_mk (z := .int .u64 (0 : Int)) (by kernel_rfl) (fun c w => by simp [LRel, VRel, Value.cells]) rfl (by simp [Value.cells, Value.oneCell']) (by simp only [descOk]; exact Tryz.underlying37)
theorem ty38 : TyFact Tryz.prog 38 ⟨1, 24, (.slice 41), [.nil]⟩ := tyFact_mk (z := .slice none 0 0) (by kernel_rfl) (fun c w => by simp [LRel, VRel, Value.cells]) rfl (by simp [Value.cells, Value.oneCell']) (by simp only [descOk]; exact Tryz.underlying38)
theorem ty41 : TyFact Tryz.prog 41 ⟨1, 1, (.int .i8), [.int .i8 (0 : Int)]⟩ := tyFact_mk (z := .int .i8 (0 : Int)) (by kernel_rfl) (fun c w => by simp [LRel, VRel, Value.cells]) rfl (by simp [Value.cells, Value.oneCell']) (by simp only [descOk]; exact Tryz.underlying41)
theorem ty43 : TyFact Tryz.prog 43 ⟨1, 24, (.slice 185), [.nil]⟩ := tyFact_mk (z := .slice none 0 0) (by kernel_rfl) (fun c w => by simp [LRel, VRel, Value.cells]) rfl (by simp [Value.cells, Value.oneCell']) (by simp only [descOk]; exact Tryz.underlying43)
theorem ty45 : TyFact Tryz.prog 45 ⟨2, 32, (.struct [(0, 4), (1, 43)]), [.bool false, .nil]⟩ := tyFact_mk (z := .agg #[.bool false, .slice none 0 0]) (by kernel_rfl) (fun c w => by simp [LRel, VRel, Value.cells]) rfl (by simp [Value.cells, Value.oneCell']) (by simp only [descOk]; exact ⟨_, Tryz.underlying45, by kernel_rfl⟩)
theorem ty47 : TyFact Tryz.prog 47 ⟨3, 40, (.struct [(0, 45), (2, 3)]), [.bool false, .nil, .int .i64 (0 : Int)]⟩ := tyFact_mk (z := .agg #[.bool false, .slice none 0 0, .int .i64 (0 : Int)]) (by kernel_rfl) (fun c w => by simp [LRel, VRel, Value.cells]) rfl (by simp [Value.cells, Value.oneCell']) (by simp only [descOk]; exact ⟨_, Tryz.underlying47, by kernel_rfl⟩)
theorem ty51 : TyFact Tryz.prog 51 ⟨12, 160, (.struct [(0, 24), (3, 24), (6, 24), (9, 24)]), [.int .i64 (0 : Int), .int .i64 (0 : Int), .nil, .int .i64 (0 : Int), .int .i64 (0 : Int), .nil, .int .i64 (0 : Int), .int .i64 (0 : Int), .nil, .int .i64 (0 : Int), .int .i64 (0 : Int), .nil]⟩ := tyFact_mk (z := .agg #[.int .i64 (0 : Int), .int .i64 (0 : Int), .slice none 0 0, .int .i64 (0 : Int), .int .i64 (0 : Int), .slice none 0 0, .int .i64 (0 : Int), .int .i64 (0 : Int), .slice none 0 0, .int .i64 (0 : Int), .int .i64 (0 : Int), .slice none 0 0]) (by kernel_rfl) (fun c w => by simp [LRel, VRel, Value.cells]) rfl (by simp [Value.cells, Value.oneCell']) (by simp only [descOk]; exact ⟨_, Tryz.underlying51, by kernel_rfl⟩)
theorem ty54 : TyFact Tryz.prog 54 ⟨12, 160, (.struct [(0, 24), (3, 24), (6, 24), (9, 24)]), [.int .i64 (0 : Int), .int .i64 (0 : Int), .nil, .int .i64 (0 : Int), .int .i64 (0 : Int), .nil, .int .i64 (0 : Int), .int .i64 (0 : Int), .nil, .int .i64 (0 : Int), .int .i64 (0 : Int), .nil]⟩ := tyFact_mk (z := .agg #[.int .i64 (0 : Int), .int .i64 (0 : Int), .slice none 0 0, .int .i64 (0 : Int), .int .i64 (0 : Int), .slice none 0 0, .int .i64 (0 : Int), .int .i64 (0 : Int), .slice none 0 0, .int .i64 (0 : Int), .int .i64 (0 : Int), .slice none 0 0]) (by kernel_rfl) (fun c w => by simp [LRel, VRel, Value.cells]) rfl (by simp [Value.cells, Value.oneCell']) (by simp only [descOk]; exact ⟨_, Tryz.underlying54, by kernel_rfl⟩)
theorem ty58 : TyFact Tryz.prog 58 ⟨9, 120, (.struct [(0, 24), (3, 24), (6, 24)]), [.int .i64 (0 : Int), .int .i64 (0 : Int), .nil, .int .i64 (0 : Int), .int .i64 (0 : Int), .nil, .int .i64 (0 : Int), .int .i64 (0 : Int), .nil]⟩ := tyFact_mk (z := .agg #[.int .i64 (0 : Int), .int .i64 (0 : Int), .slice none 0 0, .int .i64 (0 : Int), .int .i64 (0 : Int), .slice none 0 0, .int .i64 (0 : Int), .int .i64 (0 : Int), .slice none 0 0]) (by kernel_rfl) (fun c w => by simp [LRel, VRel, Value.cells]) rfl (by simp [Value.cells, Value.oneCell']) (by simp only [descOk]; exact ⟨_, Tryz.underlying58, by kernel_rfl⟩)
theorem ty61 : TyFact Tryz.prog 61 ⟨9, 120, (.struct [(0, 24), (3, 24), (6, 24)]), [.int .i64 (0 : Int), .int .i64 (0 : Int), .nil, .int .i64 (0 : Int), .int .i64 (0 : Int), .nil, .int .i64 (0 : Int), .int .i64 (0 : Int), .nil]⟩ := tyFact_mk (z := .agg #[.int .i64 (0 : Int), .int .i64 (0 : Int), .slice none 0 0, .int .i64 (0 : Int), .int .i64 (0 : Int), .slice none 0 0, .int .i64 (0 : Int), .int .i64 (0 : Int), .slice none 0 0]) (by kernel_rfl) (fun c w => by simp [LRel, VRel, Value.cells]) rfl (by simp [Value.cells, Value.oneCell']) (by simp only [descOk]; exact ⟨_, Tryz.underlying61, by kernel_rfl⟩)
theorem ty67 : TyFact Tryz.prog 67 ⟨7, 88, (.struct [(0, 24), (3, 24), (6, 25)]), [.int .i64 (0 : Int), .int .i64 (0 : Int), .nil, .int .i64 (0 : Int), .int .i64 (0 : Int), .nil, .int .i64 (0 : Int)]⟩ := tyFact_mk (z := .agg #[.int .i64 (0 : Int), .int .i64 (0 : Int), .slice none 0 0, .int .i64 (0 : Int), .int .i64 (0 : Int), .slice none 0 0, .int .i64 (0 : Int)]) (by kernel_rfl) (fun c w => by simp [LRel, VRel, Value.cells]) rfl (by simp [Value.cells, Value.oneCell']) (by simp only [descOk]; exact ⟨_, Tryz.underlying67, by kernel_rfl⟩)
theorem ty71 : TyFact Tryz.prog 71 ⟨9, 120, (.struct [(0, 24), (3, 24), (6, 24)]), [.int .i64 (0 : Int), .int .i64 (0 : Int), .nil, .int .i64 (0 : Int), .int .i64 (0 : Int), .nil, .int .i64 (0 : Int), .int .i64 (0 : Int), .nil]⟩ := tyFact_mk (z := .agg #[.int .i64 (0 : Int), .int .i64 (0 : Int), .slice none 0 0, .int .i64 (0 : Int), .int .i64 (0 : Int), .slice none 0 0, .int .i64 (0 : Int), .int .i64 (0 : Int), .slice none 0 0]) (by kernel_rfl) (fun c w => by simp [LRel, VRel, Value.cells]) rfl (by simp [Value.cells, Value.oneCell']) (by simp only [descOk]; exact ⟨_, Tryz.underlying71, by kernel_rfl⟩)
theorem ty74 : TyFact Tryz.prog 74 ⟨1, 24, (.slice 24), [.nil]⟩ := tyFact_mk (z := .slice none 0 0) (by kernel_rfl) (fun c w => by simp [LRel, VRel, Value.cells]) rfl (by simp [Value.cells, Value.oneCell']) (by simp only [descOk]; exact Tryz.underlying74)
theorem ty82 : TyFact Tryz.prog 82 ⟨1, 8, (.int .i64), [.int .i64 (0 : Int)]⟩ := tyFact_mk (z := .int .i64 (0 : Int)) (by kernel_rfl) (fun c w => by simp [LRel, VRel, Value.cells]) rfl (by simp [Value.cells, Value.oneCell']) (by simp only [descOk]; exact Tryz.underlying82)
theorem ty95 : TyFact Tryz.prog 95 ⟨6, 80, (.array 2 24), [.int .i64 (0 : Int), .int .i64 (0 : Int), .nil, .int .i64 (0 : Int), .int .i64 (0 : Int), .nil]⟩ := tyFact_mk (z := .agg #[.int .i64 (0 : Int), .int .i64 (0 : Int), .slice none 0 0, .int .i64 (0 : Int), .int .i64 (0 : Int), .slice none 0 0]) (by kernel_rfl) (fun c w => by simp [LRel, VRel, Value.cells]) rfl (by simp [Value.cells, Value.oneCell']) (by simp only [descOk]; exact Tryz.underlying95)
theorem ty99 : TyFact Tryz.prog 99 ⟨7, 88, (.struct [(0, 24), (3, 24), (6, 4)]), [.int .i64 (0 : Int), .int .i64 (0 : Int), .nil, .int .i64 (0 : Int), .int .i64 (0 : Int), .nil, .bool false]⟩ := tyFact_mk (z := .agg #[.int .i64 (0 : Int), .int .i64 (0 : Int), .slice none 0 0, .int .i64 (0 : Int), .int .i64 (0 : Int), .slice none 0 0, .bool false]) (by kernel_rfl) (fun c w => by simp [LRel, VRel, Value.cells]) rfl (by simp [Value.cells, Value.oneCell']) (by simp only [descOk]; exact ⟨_, Tryz.underlying99, by kernel_rfl⟩)
theorem ty103 : TyFact Tryz.prog 103 ⟨1, 8, .fl, [.fl 0]⟩ := tyFact_mk (z := .float .f64 0) (by kernel_rfl) (fun c w => by simp [LRel, VRel, Value.cells, FEq]) rfl (by simp [Value.cells, Value.oneCell']) (by simp only [descOk]; exact Tryz.underlying103)
theorem ty116 : TyFact Tryz.prog 116 ⟨9, 120, (.array 3 24), [.int .i64 (0 : Int), .int .i64 (0 : Int), .nil, .int .i64 (0 : Int), .int .i64 (0 : Int), .nil, .int .i64 (0 : Int), .int .i64 (0 : Int), .nil]⟩ := tyFact_mk (z := .agg #[.int .i64 (0 : Int), .int .i64 (0 : Int), .slice none 0 0, .int .i64 (0 : Int), .int .i64 (0 : Int), .slice none 0 0, .int .i64 (0 : Int), .int .i64 (0 : Int), .slice none 0 0]) (by kernel_rfl) (fun c w => by simp [LRel, VRel, Value.cells]) rfl (by simp [Value.cells, Value.oneCell']) (by simp only [descOk]; exact Tryz.underlying116)
theorem ty120 : TyFact Tryz.prog 120 ⟨15, 200, (.struct [(0, 24), (3, 24), (6, 24), (9, 24), (12, 24)]), [.int .i64 (0 : Int), .int .i64 (0 : Int), .nil, .int .i64 (0 : Int), .int .i64 (0 : Int), .nil, .int .i64 (0 : Int), .int .i64 (0 : Int), .nil, .int .i64 (0 : Int), .int .i64 (0 : Int), .nil, .int .i64 (0 : Int), .int .i64 (0 : Int), .nil]⟩ := tyFact_mk (z := .agg #[.int .i64 (0 : Int), .int .i64 (0 : Int), .slice none 0 0, .int .i64 (0 : Int), .int .i64 (0 : Int), .slice none 0 0, .int .i64 (0 : Int), .int .i64 (0 : Int), .slice none 0 0, .int .i64 (0 : Int), .int .i64 (0 : Int), .slice none 0 0, .int .i64 (0 : Int), .int .i64 (0 : Int), .slice none 0 0]) (by kernel_rfl) (fun c w => by simp [LRel, VRel, Value.cells]) rfl (by simp [Value.cells, Value.oneCell']) (by simp only [descOk]; exact ⟨_, Tryz.underlying120, by kernel_rfl⟩)
theorem ty134 : TyFact Tryz.prog 134 ⟨1, 1, (.int .u8), [.int .u8 (0 : Int)]⟩ := tyFact_mk (z := .int .u8 (0 : Int)) (by kernel_rfl) (fun c w => by simp [LRel, VRel, Value.cells]) rfl (by simp [Value.cells, Value.oneCell']) (by simp only [descOk]; exact Tryz.underlying134)
theorem ty148 : TyFact Tryz.prog 148 ⟨12, 160, (.array 4 24), [.int .i64 (0 : Int), .int .i64 (0 : Int), .nil, .int .i64 (0 : Int), .int .i64 (0 : Int), .nil, .int .i64 (0 : Int), .int .i64 (0 : Int), .nil, .int .i64 (0 : Int), .int .i64 (0 : Int), .nil]⟩ := tyFact_mk (z := .agg #[.int .i64 (0 : Int), .int .i64 (0 : Int), .slice none 0 0, .int .i64 (0 : Int), .int .i64 (0 : Int), .slice none 0 0, .int .i64 (0 : Int), .int .i64 (0 : Int), .slice none 0 0, .int .i64 (0 : Int), .int .i64 (0 : Int), .slice none 0 0]) (by kernel_rfl) (fun c w => by simp [LRel, VRel, Value.cells]) rfl (by simp [Value.cells, Value.oneCell']) (by simp only [descOk]; exact Tryz.underlying148)
theorem ty153 : TyFact Tryz.prog 153 ⟨2, 16, (.array 2 3), [.int .i64 (0 : Int), .int .i64 (0 : Int)]⟩ := tyFact_mk (z := .agg #[.int .i64 (0 : Int), .int .i64 (0 : Int)]) (by kernel_rfl) (fun c w => by simp [LRel, VRel, Value.cells]) rfl (by simp [Value.cells, Value.oneCell']) (by simp only [descOk]; exact Tryz.underlying153)
theorem ty154 : TyFact Tryz.prog 154 ⟨1, 24, (.slice 156), [.nil]⟩ := tyFact_mk (z := .slice none 0 0) (by kernel_rfl) (fun c w => by simp [LRel, VRel, Value.cells]) rfl (by simp [Value.cells, Value.oneCell']) (by simp only [descOk]; exact Tryz.underlying154)
theorem ty156 : TyFact Tryz.prog 156 ⟨3, 40, (.struct [(0, 22), (1, 37), (2, 37)]), [.nil, .int .u64 (0 : Int), .int .u64 (0 : Int)]⟩ := tyFact_mk (z := .agg #[.slice none 0 0, .int .u64 (0 : Int), .int .u64 (0 : Int)]) (by kernel_rfl) (fun c w => by simp [LRel, VRel, Value.cells]) rfl (by simp [Value.cells, Value.oneCell']) (by simp only [descOk]; exact ⟨_, Tryz.underlying156, by kernel_rfl⟩)
theorem ty167 : TyFact Tryz.prog 167 ⟨3, 24, (.struct [(0, 4), (1, 3), (2, 36)]), [.bool false, .int .i64 (0 : Int), .int .u64 (0 : Int)]⟩ := tyFact_mk (z := .agg #[.bool false, .int .i64 (0 : Int), .int .u64 (0 : Int)]) (by kernel_rfl) (fun c w => by simp [LRel, VRel, Value.cells]) rfl (by simp [Value.cells, Value.oneCell']) (by simp only [descOk]; exact ⟨_, Tryz.underlying167, by kernel_rfl⟩)
theorem ty177 : TyFact Tryz.prog 177 ⟨1, 24, (.slice 183), [.nil]⟩ := tyFact_mk (z := .slice none 0 0) (by kernel_rfl) (fun c w => by simp [LRel, VRel, Value.cells]) rfl (by simp [Value.cells, Value.oneCell']) (by simp only [descOk]; exact Tryz.underlying177)
theorem ty183 : TyFact Tryz.prog 183 ⟨2, 32, (.struct [(0, 22), (1, 37)]), [.nil, .int .u64 (0 : Int)]⟩ := tyFact_mk (z := .agg #[.slice none 0 0, .int .u64 (0 : Int)]) (by kernel_rfl) (fun c w => by simp [LRel, VRel, Value.cells]) rfl (by simp [Value.cells, Value.oneCell']) (by simp only [descOk]; exact ⟨_, Tryz.underlying183, by kernel_rfl⟩)
theorem ty185 : TyFact Tryz.prog 185 ⟨1, 4, (.int .u32), [.int .u32 (0 : Int)]⟩ := tyFact_mk (z := .int .u32 (0 : Int)) (by kernel_rfl) (fun c w => by simp [LRel, VRel, Value.cells]) rfl (by simp [Value.cells, Value.oneCell']) (by simp only [descOk]; exact Tryz.underlying185)
theorem tys_ok : TyFacts Tryz.prog tys := .cons ty2 <| .cons ty3 <| .cons ty4 <| .cons ty5 <| .cons ty22 <| .cons ty24 <| .cons ty25 <| .cons ty36 <| .cons ty37 <| .cons ty38 <| .cons ty41 <| .cons ty43 <| .cons ty45 <| .cons ty47 <| .cons ty51 <| .cons ty54 <| .cons ty58 <| .cons ty61 <| .cons ty67 <| .cons ty71 <| .cons ty74 <| .cons ty82 <| .cons ty95 <| .cons ty99 <| .cons ty103 <| .cons ty116 <| .cons ty120 <| .cons ty134 <| .cons ty148 <| .cons ty153 <| .cons ty154 <| .cons ty156 <| .cons ty167 <| .cons ty177 <| .cons ty183 <| .cons ty185 <| .nil
def exts : List (Nat × Ext) := [(134, .bits), (170, .frombits), (234, .sqrt)]
def extOf : List (Nat × Ext) → Nat → Option Ext
  | [], _ => none
  | (m, e) :: l, n => bif Nat.beq m n then some e else extOf l n
theorem ext134 (args : Array Value) (w : World) : (callFunc 134 args).run Tryz.prog w = ((extSem .bits args).run Tryz.prog w).andThen fun v w' => .ok (.value v) w' := run_callFunc_extern (e := Extern.MathFloatBits.float64bits) Tryz.func134 (by kernel_rfl) (by kernel_rfl) (by kernel_rfl) (by kernel_rfl) args w
theorem ext170 (args : Array Value) (w : World) : (callFunc 170 args).run Tryz.prog w = ((extSem .frombits args).run Tryz.prog w).andThen fun v w' => .ok (.value v) w' := run_callFunc_extern (e := Extern.MathFloatBits.float64frombits) Tryz.func170 (by kernel_rfl) (by kernel_rfl) (by kernel_rfl) (by kernel_rfl) args w
theorem ext234 (args : Array Value) (w : World) : (callFunc 234 args).run Tryz.prog w = ((extSem .sqrt args).run Tryz.prog w).andThen fun v w' => .ok (.value v) w' := run_callFunc_extern (e := Extern.MathSqrt.sqrt) Tryz.func234 (by kernel_rfl) (by kernel_rfl) (by kernel_rfl) (by kernel_rfl) args w
def eqts : List Nat := [167, 153]
theorem eq167 : EqFact Tryz.prog 167 ⟨3, 24, (.struct [(0, 4), (1, 3), (2, 36)]), [.bool false, .int .i64 (0 : Int), .int .u64 (0 : Int)]⟩ where
  guard := by kernel_rfl
  eq := by
    intro w c x y xs ys hx hy hlx hly
    obtain ⟨a0, x1, rfl, hx1⟩ := shape_bool hx
    obtain ⟨a1, x2, rfl, hx2⟩ := shape_int hx1
    obtain ⟨a2, x3, rfl, hx3⟩ := shape_int hx2
    obtain rfl := shape_nil hx3
    obtain ⟨b0, y1, rfl, hy1⟩ := shape_bool hy
    obtain ⟨b1, y2, rfl, hy2⟩ := shape_int hy1
    obtain ⟨b2, y3, rfl, hy3⟩ := shape_int hy2
    obtain rfl := shape_nil hy3
    obtain ⟨xs⟩ := xs
    obtain ⟨ys⟩ := ys
    simp only [LRel.cons_iff, LRel.nil_iff, VRel] at hlx hly
    obtain ⟨_, _, rfl, rfl, _, _, rfl, rfl, _, _, rfl, rfl, rfl⟩ := hlx
    obtain ⟨_, _, rfl, rfl, _, _, rfl, rfl, _, _, rfl, rfl, rfl⟩ := hly
    have hu : Tryz.prog.underlying 167 = some (.struct (Tryz.prog.fieldsOf 167)) := by kernel_rfl
    have hp : Tryz.prog.stoodInHeld 167 = false := by kernel_rfl
    unfold Op.equal Op.maxDepth
    rw [run_equalIn_struct w 9999 167 _ _ hu hp]
    have hfs : Tryz.prog.fieldsOf 167 = (match Tryz.prog.underlying 167 with | some (.struct fs) => fs | _ => #[]) := rfl
    rw [hfs, Tryz.underlying167]
    simp [Op.eqFields, run_part_one w ty3 rfl, run_part_one w ty4 rfl, run_part_one w ty36 rfl, run_equalIn_int w _ _ _ _ _ _ Tryz.underlying3, run_equalIn_bool w _ _ _ _ Tryz.underlying4, run_equalIn_int w _ _ _ _ _ _ Tryz.underlying36, eqAll, eqScalar]
    by_cases h0 : a0 = b0 <;> by_cases h1 : a1 = b1 <;> by_cases h2 : a2 = b2 <;> simp [h0, h1, h2]
theorem eq153 : EqFact Tryz.prog 153 ⟨2, 16, (.array 2 3), [.int .i64 (0 : Int), .int .i64 (0 : Int)]⟩ where
  guard := by kernel_rfl
  eq := by
    intro w c x y xs ys hx hy hlx hly
    obtain ⟨a0, x1, rfl, hx1⟩ := shape_int hx
    obtain ⟨a1, x2, rfl, hx2⟩ := shape_int hx1
    obtain rfl := shape_nil hx2
    obtain ⟨b0, y1, rfl, hy1⟩ := shape_int hy
    obtain ⟨b1, y2, rfl, hy2⟩ := shape_int hy1
    obtain rfl := shape_nil hy2
    obtain ⟨xs⟩ := xs
    obtain ⟨ys⟩ := ys
    simp only [LRel.cons_iff, LRel.nil_iff, VRel] at hlx hly
    obtain ⟨_, _, rfl, rfl, _, _, rfl, rfl, rfl⟩ := hlx
    obtain ⟨_, _, rfl, rfl, _, _, rfl, rfl, rfl⟩ := hly
    obtain ⟨i, _, hi, _⟩ := ty3.info
    have hc : Tryz.prog.cellsOf 3 = 1 := by kernel_rfl
    unfold Op.equal Op.maxDepth
    rw [run_equalIn_array w 9999 _ _ Tryz.underlying153 hi, hc]
    simp [Op.eqItems, List.range, List.range.loop, run_part_one w ty3 rfl, run_equalIn_int w _ _ _ _ _ _ Tryz.underlying3, eqAll, eqScalar]
    by_cases h0 : a0 = b0 <;> by_cases h1 : a1 = b1 <;> simp [h0, h1]
def envOf (tab : Nat → Option Entry) (adopt : Nat → Bool) (hint : Nat → Option LoopHint) (live : Nat → Option (List Nat)) : Env := { ty := tyOf tys, tab := tab, ext := extOf exts, eqs := fun t => memB t eqts, adopt := adopt, live := live, hint := hint }
theorem env_ok {l : List (Nat × Entry)} (h : Knowns Tryz.prog l) (adopt : Nat → Bool) (hint : Nat → Option LoopHint) (live : Nat → Option (List Nat)) : EnvOk Tryz.prog (envOf (tabOf l) adopt hint live) where
  ty := fun t ti ht => tys_ok.get ht
  tab := fun g e hg => (h.get hg).meets
  call := fun g e hg => (h.get hg).call
  ext := by
    intro g x hx args w
    simp only [envOf, exts, extOf] at hx
    cases hb : Nat.beq 134 g with
    | true =>
      rw [hb] at hx
      cases hx
      obtain rfl := Nat.eq_of_beq_eq_true hb
      exact ext134 args w
    | false =>
    rw [hb, cond_false] at hx
    clear hb
    cases hb : Nat.beq 170 g with
    | true =>
      rw [hb] at hx
      cases hx
      obtain rfl := Nat.eq_of_beq_eq_true hb
      exact ext170 args w
    | false =>
    rw [hb, cond_false] at hx
    clear hb
    cases hb : Nat.beq 234 g with
    | true =>
      rw [hb] at hx
      cases hx
      obtain rfl := Nat.eq_of_beq_eq_true hb
      exact ext234 args w
    | false =>
    rw [hb, cond_false] at hx
    clear hb
    cases hx
  eqs := by
    intro t ti ht hti
    simp only [envOf, eqts, memB] at ht hti
    cases hb : Nat.beq t 167 with
    | true =>
      obtain rfl := Nat.eq_of_beq_eq_true hb
      cases hti
      exact eq167
    | false =>
    rw [hb, cond_false] at ht
    clear hb
    cases hb : Nat.beq t 153 with
    | true =>
      obtain rfl := Nat.eq_of_beq_eq_true hb
      cases hti
      exact eq153
    | false =>
    rw [hb, cond_false] at ht
    clear hb
    cases ht
  mixed := by kernel_rfl
def spoilOf (a : Nat) (e : Nat) : Nat → Option Nat := fun g => bif Nat.beq g a then some e else none
theorem spoilOf_ok {P : Program} {a e : Nat} (h : SpoilFact P a e) : ∀ g e', spoilOf a e g = some e' → SpoilFact P g e' := by
  intro g e' hg
  unfold spoilOf at hg
  cases hb : Nat.beq g a with
  | true =>
    rw [hb] at hg
    cases hg
    obtain rfl := Nat.eq_of_beq_eq_true hb
    exact h
  | false => rw [hb] at hg; cases hg
def envOfS (tab : Nat → Option Entry) (adopt : Nat → Bool) (hint : Nat → Option LoopHint) (live : Nat → Option (List Nat)) (sp : Nat → Option Nat) : Env := { ty := tyOf tys, tab := tab, ext := extOf exts, eqs := fun t => memB t eqts, adopt := adopt, live := live, hint := hint, spoil := sp }
theorem env_okS {l : List (Nat × Entry)} (h : Knowns Tryz.prog l) {sp : Nat → Option Nat} (hs : ∀ g e, sp g = some e → SpoilFact Tryz.prog g e) (adopt : Nat → Bool) (hint : Nat → Option LoopHint) (live : Nat → Option (List Nat)) : EnvOk Tryz.prog (envOfS (tabOf l) adopt hint live sp) :=
  have k := env_ok h adopt hint live
  ⟨k.ty, k.tab, k.call, k.ext, k.eqs, k.mixed, hs⟩
end Go.Proofs.S1

/- What each function is shown to answer. -/
namespace Go.Proofs.S1
open Go Go.Den Go.Rnd
noncomputable def soft.Split.pre : List Atom → Bool
  | [.i x] => inU64 x
  | _ => false
def soft.Split.out : List Atom → DV
  | [.i x] => .agg [.bool (negI x), .int .i64 (powI x), .int .u64 (fracI x)]
  | _ => .undef
noncomputable def soft.Split.spec : Entry := entry [.i .u64] soft.Split.pre soft.Split.out

noncomputable def soft.Kind.pre : List Atom → Bool
  | [.i x] => inU64 x
  | _ => false
def soft.Kind.out : List Atom → DV
  | [.i x] => .int .i64 (kindI x)
  | _ => .undef
noncomputable def soft.Kind.spec : Entry := entry [.i .u64] soft.Kind.pre soft.Kind.out

noncomputable def soft.Sign.pre : List Atom → Bool
  | [.i x] => inU64 x
  | _ => false
def soft.Sign.out : List Atom → DV
  | [.i x] => .bool (negI x)
  | _ => .undef
noncomputable def soft.Sign.spec : Entry := entry [.i .u64] soft.Sign.pre soft.Sign.out

noncomputable def soft.Finite.pre : List Atom → Bool
  | [.i x] => inU64 x
  | _ => false
def soft.Finite.out : List Atom → DV
  | [.i x] => .bool (finI x)
  | _ => .undef
noncomputable def soft.Finite.spec : Entry := entry [.i .u64] soft.Finite.pre soft.Finite.out

noncomputable def soft.Minus.pre : List Atom → Bool
  | [.i x] => inU64 x
  | _ => false
def soft.Minus.out : List Atom → DV
  | [.i x] => .int .u64 (minusI x)
  | _ => .undef
noncomputable def soft.Minus.spec : Entry := entry [.i .u64] soft.Minus.pre soft.Minus.out

noncomputable def soft.Parts.pre : List Atom → Bool
  | [.i x] => inU64 x
  | _ => false
def soft.Parts.out : List Atom → DV
  | [.i x] => .tup [.int .u64 (partMI x), .int .i64 (partEI x)]
  | _ => .undef
noncomputable def soft.Parts.spec : Entry := entry [.i .u64] soft.Parts.pre soft.Parts.out

def soft.Pack.mu : List Atom → Nat
  | [.b _n, .i m, .i e] => packMu m e
  | _ => 0
noncomputable def soft.Pack.pre : List Atom → Bool
  | [.b _n, .i m, .i e] => packPre m e
  | _ => false
def soft.Pack.out : List Atom → DV
  | [.b n, .i m, .i e] => .int .u64 (packI n m e)
  | _ => .undef
noncomputable def soft.Pack.spec : Entry := entry [.b, .i .u64, .i .i64] soft.Pack.pre soft.Pack.out

noncomputable def soft.Near.pre : List Atom → Bool
  | [.b _n, .i m, .i e, .b r] => nearPre m e r
  | _ => false
def soft.Near.out : List Atom → DV
  | [.b n, .i m, .i e, .b r] => .tup [.int .u64 (nearBI n m e r), .int .u8 (nearFI n m e r)]
  | _ => .undef
noncomputable def soft.Near.spec : Entry := entry [.b, .i .u64, .i .i64, .b] soft.Near.pre soft.Near.out

noncomputable def sum.right.pre : List Atom → Bool
  | [.i m, .i d] => inU64 m && cdec (0 ≤ d ∧ d < 1000000)
  | _ => false
def sum.right.out : List Atom → DV
  | [.i m, .i d] => .int .u64 (rightI m d)
  | _ => .undef
noncomputable def sum.right.spec : Entry := entry [.i .u64, .i .i64] sum.right.pre sum.right.out

noncomputable def sum.special.pre : List Atom → Bool
  | [.i a, .i b] => (inU64 a && inU64 b) && (!(finI a) || !(finI b))
  | _ => false
def sum.special.out : List Atom → DV
  | [.i a, .i b] => .tup [.int .u64 (addBI a b), .int .u8 (addFI a b)]
  | _ => .undef
noncomputable def sum.special.spec : Entry := entry [.i .u64, .i .u64] sum.special.pre sum.special.out

noncomputable def sum.Add.pre : List Atom → Bool
  | [.i a, .i b] => inU64 a && inU64 b
  | _ => false
def sum.Add.out : List Atom → DV
  | [.i a, .i b] => .tup [.int .u64 (addBI a b), .int .u8 (addFI a b)]
  | _ => .undef
noncomputable def sum.Add.spec : Entry := entry [.i .u64, .i .u64] sum.Add.pre sum.Add.out

noncomputable def sum.Sub.pre : List Atom → Bool
  | [.i a, .i b] => inU64 a && inU64 b
  | _ => false
def sum.Sub.out : List Atom → DV
  | [.i a, .i b] => .tup [.int .u64 (subBI a b), .int .u8 (subFI a b)]
  | _ => .undef
noncomputable def sum.Sub.spec : Entry := entry [.i .u64, .i .u64] sum.Sub.pre sum.Sub.out

noncomputable def ref04.Neg.pre : List Atom → Bool
  | [.i x] => inU64 x
  | _ => false
def ref04.Neg.out : List Atom → DV
  | [.i x] => .bool (negI x)
  | _ => .undef
noncomputable def ref04.Neg.spec : Entry := entry [.i .u64] ref04.Neg.pre ref04.Neg.out

noncomputable def ref04.Power.pre : List Atom → Bool
  | [.i x] => natI x
  | _ => false
def ref04.Power.out : List Atom → DV
  | [.i x] => .int .i64 (powI x)
  | _ => .undef
noncomputable def ref04.Power.spec : Entry := entry [.i .u64] ref04.Power.pre ref04.Power.out

noncomputable def ref04.Frac.pre : List Atom → Bool
  | [.i x] => natI x
  | _ => false
def ref04.Frac.out : List Atom → DV
  | [.i x] => .int .u64 (fracI x)
  | _ => .undef
noncomputable def ref04.Frac.spec : Entry := entry [.i .u64] ref04.Frac.pre ref04.Frac.out

noncomputable def ref04.Kind.pre : List Atom → Bool
  | [.i x] => natI x
  | _ => false
def ref04.Kind.out : List Atom → DV
  | [.i x] => .int .i64 (kindI x)
  | _ => .undef
noncomputable def ref04.Kind.spec : Entry := entry [.i .u64] ref04.Kind.pre ref04.Kind.out

noncomputable def ref04.Finite.pre : List Atom → Bool
  | [.i x] => inU64 x
  | _ => false
def ref04.Finite.out : List Atom → DV
  | [.i x] => .bool (finI x)
  | _ => .undef
noncomputable def ref04.Finite.spec : Entry := entry [.i .u64] ref04.Finite.pre ref04.Finite.out

noncomputable def ref04.Minus.pre : List Atom → Bool
  | [.i x] => inU64 x
  | _ => false
def ref04.Minus.out : List Atom → DV
  | [.i x] => .int .u64 (minusI x)
  | _ => .undef
noncomputable def ref04.Minus.spec : Entry := entry [.i .u64] ref04.Minus.pre ref04.Minus.out

noncomputable def ref05.Canon.pre : List Atom → Bool
  | [.i x] => natI x
  | _ => false
def ref05.Canon.out : List Atom → DV
  | [.i x] => .int .u64 (canonI x)
  | _ => .undef
noncomputable def ref05.Canon.spec : Entry := entry [.i .u64] ref05.Canon.pre ref05.Canon.out

noncomputable def mbits.LeadingZeros64.pre : List Atom → Bool
  | [.i x] => inU64 x
  | _ => false
def mbits.LeadingZeros64.out : List Atom → DV
  | [.i x] => .int .i64 (64 - len64I x)
  | _ => .undef
noncomputable def mbits.LeadingZeros64.spec : Entry := entry [.i .u64] mbits.LeadingZeros64.pre mbits.LeadingZeros64.out

noncomputable def mbits.Mul64.pre : List Atom → Bool
  | [.i x, .i y] => inU64 x && inU64 y
  | _ => false
def mbits.Mul64.out : List Atom → DV
  | [.i x, .i y] => .tup [.int .u64 (mulHi x y), .int .u64 (mulLo x y)]
  | _ => .undef
noncomputable def mbits.Mul64.spec : Entry := entry [.i .u64, .i .u64] mbits.Mul64.pre mbits.Mul64.out

noncomputable def times.signed.pre : List Atom → Bool
  | [.i b, .b _n] => inU64 b
  | _ => false
def times.signed.out : List Atom → DV
  | [.i b, .b n] => .int .u64 (signI n b)
  | _ => .undef
noncomputable def times.signed.spec : Entry := entry [.i .u64, .b] times.signed.pre times.signed.out

noncomputable def times.nan.pre : List Atom → Bool
  | [.i a, .i b] => inU64 a && inU64 b
  | _ => false
def times.nan.out : List Atom → DV
  | [.i a, .i b] => .bool (nanI a b)
  | _ => .undef
noncomputable def times.nan.spec : Entry := entry [.i .u64, .i .u64] times.nan.pre times.nan.out

noncomputable def times.norm.pre : List Atom → Bool
  | [.i b] => inU64 b && normPre b
  | _ => false
def times.norm.out : List Atom → DV
  | [.i b] => .tup [.int .u64 (normM b), .int .i64 (normE b)]
  | _ => .undef
noncomputable def times.norm.spec : Entry := entry [.i .u64] times.norm.pre times.norm.out

noncomputable def times.wide.pre : List Atom → Bool
  | [.b _n, .i m, .i e, .b _r] => widePre m e
  | _ => false
def times.wide.out : List Atom → DV
  | [.b n, .i m, .i e, .b r] => .tup [.int .u64 (nearBI n m e r), .int .u8 (nearFI n m e r)]
  | _ => .undef
noncomputable def times.wide.spec : Entry := entry [.b, .i .u64, .i .i64, .b] times.wide.pre times.wide.out

noncomputable def times.Mul.pre : List Atom → Bool
  | [.i a, .i b] => inU64 a && inU64 b
  | _ => false
def times.Mul.out : List Atom → DV
  | [.i a, .i b] => .tup [.int .u64 (mulBI a b), .int .u8 (mulFI a b)]
  | _ => .undef
noncomputable def times.Mul.spec : Entry := entry [.i .u64, .i .u64] times.Mul.pre times.Mul.out

noncomputable def times.Div.pre : List Atom → Bool
  | [.i a, .i b] => inU64 a && inU64 b
  | _ => false
def times.Div.out : List Atom → DV
  | [.i a, .i b] => .tup [.int .u64 (divBI a b), .int .u8 (divFI a b)]
  | _ => .undef
noncomputable def times.Div.spec : Entry := entry [.i .u64, .i .u64] times.Div.pre times.Div.out

noncomputable def vector.Add.pre : List Atom → Bool
  | [.i a, .i b] => inU64 a && inU64 b
  | _ => false
def vector.Add.out : List Atom → DV
  | [.i a, .i b] => .int .u64 (addBI a b)
  | _ => .undef
noncomputable def vector.Add.spec : Entry := entry [.i .u64, .i .u64] vector.Add.pre vector.Add.out

noncomputable def vector.Sub.pre : List Atom → Bool
  | [.i a, .i b] => inU64 a && inU64 b
  | _ => false
def vector.Sub.out : List Atom → DV
  | [.i a, .i b] => .int .u64 (subBI a b)
  | _ => .undef
noncomputable def vector.Sub.spec : Entry := entry [.i .u64, .i .u64] vector.Sub.pre vector.Sub.out

noncomputable def vector.Mul.pre : List Atom → Bool
  | [.i a, .i b] => inU64 a && inU64 b
  | _ => false
def vector.Mul.out : List Atom → DV
  | [.i a, .i b] => .int .u64 (mulBI a b)
  | _ => .undef
noncomputable def vector.Mul.spec : Entry := entry [.i .u64, .i .u64] vector.Mul.pre vector.Mul.out

noncomputable def vector.fit.pre : List Atom → Bool
  | [.l _x, .l _y] => true
  | _ => false
def vector.fit.out : List Atom → DV
  | [.l x, .l y] => .bool (fitB x y)
  | _ => .undef
noncomputable def vector.fit.spec : Entry := entry [.s .u64, .s .u64] vector.fit.pre vector.fit.out

noncomputable def vector.Dot.pre : List Atom → Bool
  | [.l x, .l y] => (fitB x y && allU64 x) && allU64 y
  | _ => false
def vector.Dot.out : List Atom → DV
  | [.l x, .l y] => .tup [.int .u64 (dotI x y), .int .i64 (0 : Int)]
  | _ => .undef
noncomputable def vector.Dot.spec : Entry := entry [.s .u64, .s .u64] vector.Dot.pre vector.Dot.out

noncomputable def ref09.F.pre : List Atom → Bool
  | [.i x] => inU64 x
  | _ => false
def ref09.F.out : List Atom → DV
  | [.i x] => .fl (Int.toNat x)
  | _ => .undef
noncomputable def ref09.F.spec : Entry := entry [.i .u64] ref09.F.pre ref09.F.out

noncomputable def ref09.B.pre : List Atom → Bool
  | [.f _x] => true
  | _ => false
def ref09.B.out : List Atom → DV
  | [.f x] => .int .u64 (canonNI x)
  | _ => .undef
noncomputable def ref09.B.spec : Entry := entry [.fl] ref09.B.pre ref09.B.out

noncomputable def ref09.Add.pre : List Atom → Bool
  | [.i a, .i b] => inU64 a && inU64 b
  | _ => false
def ref09.Add.out : List Atom → DV
  | [.i a, .i b] => .int .u64 (addBI a b)
  | _ => .undef
noncomputable def ref09.Add.spec : Entry := entry [.i .u64, .i .u64] ref09.Add.pre ref09.Add.out

noncomputable def ref09.Sub.pre : List Atom → Bool
  | [.i a, .i b] => inU64 a && inU64 b
  | _ => false
def ref09.Sub.out : List Atom → DV
  | [.i a, .i b] => .int .u64 (subBI a b)
  | _ => .undef
noncomputable def ref09.Sub.spec : Entry := entry [.i .u64, .i .u64] ref09.Sub.pre ref09.Sub.out

noncomputable def ref09.Mul.pre : List Atom → Bool
  | [.i a, .i b] => inU64 a && inU64 b
  | _ => false
def ref09.Mul.out : List Atom → DV
  | [.i a, .i b] => .int .u64 (mulBI a b)
  | _ => .undef
noncomputable def ref09.Mul.spec : Entry := entry [.i .u64, .i .u64] ref09.Mul.pre ref09.Mul.out

noncomputable def ref09.Dot.pre : List Atom → Bool
  | [.l x, .l y] => (fitB x y && allU64 x) && allU64 y
  | _ => false
def ref09.Dot.out : List Atom → DV
  | [.l x, .l y] => .int .u64 (dotI x y)
  | _ => .undef
noncomputable def ref09.Dot.spec : Entry := entry [.s .u64, .s .u64] ref09.Dot.pre ref09.Dot.out

noncomputable def ref09.Same.pre : List Atom → Bool
  | [.l x, .l _y] => okLen x
  | _ => false
def ref09.Same.out : List Atom → DV
  | [.l x, .l y] => .bool (sameL x y)
  | _ => .undef
noncomputable def ref09.Same.spec : Entry := entry [.s .u64, .s .u64] ref09.Same.pre ref09.Same.out

noncomputable def matrix.size.pre : List Atom → Bool
  | [.i _n] => true
  | _ => false
def matrix.size.out : List Atom → DV
  | [.i n] => .bool (sizeB n)
  | _ => .undef
noncomputable def matrix.size.spec : Entry := entry [.i .i64] matrix.size.pre matrix.size.out

noncomputable def matrix.Check.pre : List Atom → Bool
  | [.i _r, .i _c, .l _l] => true
  | _ => false
def matrix.Check.out : List Atom → DV
  | [.i r, .i c, .l l] => .int .i64 (chkI r c l)
  | _ => .undef
noncomputable def matrix.Check.spec : Entry := entry [.st [.i .i64, .i .i64, .s .u64]] matrix.Check.pre matrix.Check.out

noncomputable def matrix.get.pre : List Atom → Bool
  | [.i r, .i c, .l l, .i i, .i k] => atPre r c l i k
  | _ => false
def matrix.get.out : List Atom → DV
  | [.i _r, .i c, .l l, .i i, .i k] => .int .u64 (atI c l i k)
  | _ => .undef
noncomputable def matrix.get.spec : Entry := entry [.st [.i .i64, .i .i64, .s .u64], .i .i64, .i .i64] matrix.get.pre matrix.get.out

noncomputable def matrix.two.pre : List Atom → Bool
  | [.i _r, .i _c, .l _l, .i _p, .i _q, .l _m] => true
  | _ => false
def matrix.two.out : List Atom → DV
  | [.i r, .i c, .l l, .i p, .i q, .l m] => .int .i64 (twoI r c l p q m)
  | _ => .undef
noncomputable def matrix.two.spec : Entry := entry [.st [.i .i64, .i .i64, .s .u64], .st [.i .i64, .i .i64, .s .u64]] matrix.two.pre matrix.two.out

noncomputable def matrix.Row.pre : List Atom → Bool
  | [.i r, .i c, .l l, .i i, .i f] => rowPre r c l i && decide (f = 0)
  | _ => false
def matrix.Row.out : List Atom → DV
  | [.i _r, .i c, .l l, .i i, .i _f] => .ints .fresh .u64 (rowI c l i)
  | _ => .undef
noncomputable def matrix.Row.spec : Entry := entry [.st [.i .i64, .i .i64, .s .u64], .i .i64, .i .i64] matrix.Row.pre matrix.Row.out

noncomputable def matrix.Column.pre : List Atom → Bool
  | [.i r, .i c, .l l, .i k, .i f] => colPre r c l k && decide (f = 0)
  | _ => false
def matrix.Column.out : List Atom → DV
  | [.i r, .i c, .l l, .i k, .i _f] => .ints .fresh .u64 (colI r c l k)
  | _ => .undef
noncomputable def matrix.Column.spec : Entry := entry [.st [.i .i64, .i .i64, .s .u64], .i .i64, .i .i64] matrix.Column.pre matrix.Column.out

noncomputable def matrix.Zeros_1.pre : List Atom → Bool
  | [.i _i, .i _k] => true
  | _ => false
def matrix.Zeros_1.out : List Atom → DV
  | [.i _i, .i _k] => .int .u64 (0 : Int)
  | _ => .undef
noncomputable def matrix.Zeros_1.spec : Entry := entry [.i .i64, .i .i64] matrix.Zeros_1.pre matrix.Zeros_1.out

noncomputable def matrix.Eye_1.pre : List Atom → Bool
  | [.i _i, .i _k] => true
  | _ => false
def matrix.Eye_1.out : List Atom → DV
  | [.i i, .i k] => .int .u64 (eyeI i k)
  | _ => .undef
noncomputable def matrix.Eye_1.spec : Entry := entry [.i .i64, .i .i64] matrix.Eye_1.pre matrix.Eye_1.out

noncomputable def matrix.Turn_1.pre : List Atom → Bool
  | [.i i, .i k, .i r, .i c, .l l] => atPre r c l k i
  | _ => false
def matrix.Turn_1.out : List Atom → DV
  | [.i i, .i k, .i _r, .i c, .l l] => .int .u64 (atI c l k i)
  | _ => .undef
noncomputable def matrix.Turn_1.spec : Entry := entry [.i .i64, .i .i64, .cp [.i .i64, .i .i64, .s .u64]] matrix.Turn_1.pre matrix.Turn_1.out

noncomputable def matrix.Part_1.pre : List Atom → Bool
  | [.i i, .i k, .i r, .i c, .l l, .i x, .i y] => atPre r c l (x + i) (y + k) && smallI x y i k
  | _ => false
def matrix.Part_1.out : List Atom → DV
  | [.i i, .i k, .i _r, .i c, .l l, .i x, .i y] => .int .u64 (atI c l (x + i) (y + k))
  | _ => .undef
noncomputable def matrix.Part_1.spec : Entry := entry [.i .i64, .i .i64, .cp [.i .i64, .i .i64, .s .u64], .cp [.i .i64], .cp [.i .i64]] matrix.Part_1.pre matrix.Part_1.out

noncomputable def matrix.Sub_1.pre : List Atom → Bool
  | [.i i, .i k, .i r, .i c, .l l, .i p, .i q, .l m] => ((atPre r c l i k && atPre p q m i k) && allU64 l) && allU64 m
  | _ => false
def matrix.Sub_1.out : List Atom → DV
  | [.i i, .i k, .i _r, .i c, .l l, .i _p, .i q, .l m] => .int .u64 (subBI (atI c l i k) (atI q m i k))
  | _ => .undef
noncomputable def matrix.Sub_1.spec : Entry := entry [.i .i64, .i .i64, .cp [.i .i64, .i .i64, .s .u64], .cp [.i .i64, .i .i64, .s .u64]] matrix.Sub_1.pre matrix.Sub_1.out

noncomputable def matrix.Stack_1.pre : List Atom → Bool
  | [.i i, .i k, .i r, .i c, .l l, .i p, .i q, .l m] => stackPre r c l p q m i k
  | _ => false
def matrix.Stack_1.out : List Atom → DV
  | [.i i, .i k, .i r, .i c, .l l, .i _p, .i q, .l m] => .int .u64 (stackI r c l q m i k)
  | _ => .undef
noncomputable def matrix.Stack_1.spec : Entry := entry [.i .i64, .i .i64, .cp [.i .i64, .i .i64, .s .u64], .cp [.i .i64, .i .i64, .s .u64]] matrix.Stack_1.pre matrix.Stack_1.out

noncomputable def matrix.Mul_1.pre : List Atom → Bool
  | [.i i, .i k, .i r, .i c, .l l, .i p, .i q, .l m] => mulPre r c l p q m i k
  | _ => false
def matrix.Mul_1.out : List Atom → DV
  | [.i i, .i k, .i _r, .i c, .l l, .i p, .i q, .l m] => .int .u64 (dotI (rowI c l i) (colI p q m k))
  | _ => .undef
noncomputable def matrix.Mul_1.spec : Entry := entry [.i .i64, .i .i64, .cp [.i .i64, .i .i64, .s .u64], .cp [.i .i64, .i .i64, .s .u64]] matrix.Mul_1.pre matrix.Mul_1.out

noncomputable def matrix.of.Zeros.pre : List Atom → Bool
  | [.i a, .i b] => (sizeB a && sizeB b)
  | _ => false
def matrix.of.Zeros.out : List Atom → DV
  | [.i a, .i b] => .agg [.int .i64 a, .int .i64 b, .ints .fresh .u64 (grid (Int.toNat a) (Int.toNat b) (fun _ _ => 0))]
  | _ => .undef
noncomputable def matrix.of.Zeros.spec : Entry := entry [.i .i64, .i .i64, .fn 163 []] matrix.of.Zeros.pre matrix.of.Zeros.out

noncomputable def matrix.of.Eye.pre : List Atom → Bool
  | [.i a, .i b] => (sizeB a && sizeB b)
  | _ => false
def matrix.of.Eye.out : List Atom → DV
  | [.i a, .i b] => .agg [.int .i64 a, .int .i64 b, .ints .fresh .u64 (grid (Int.toNat a) (Int.toNat b) (fun j1 j2 => eyeI j1 j2))]
  | _ => .undef
noncomputable def matrix.of.Eye.spec : Entry := entry [.i .i64, .i .i64, .fn 215 []] matrix.of.Eye.pre matrix.of.Eye.out

noncomputable def matrix.of.Turn.pre : List Atom → Bool
  | [.i a, .i b, .i r, .i c, .l l] => (sizeB a && sizeB b) && rightB r c l && decide (a = c ∧ b = r)
  | _ => false
def matrix.of.Turn.out : List Atom → DV
  | [.i a, .i b, .i _r, .i c, .l l] => .agg [.int .i64 a, .int .i64 b, .ints .fresh .u64 (grid (Int.toNat a) (Int.toNat b) (fun j1 j2 => atI c l j2 j1))]
  | _ => .undef
noncomputable def matrix.of.Turn.spec : Entry := entry [.i .i64, .i .i64, .fn 182 [.cp [.i .i64, .i .i64, .s .u64]]] matrix.of.Turn.pre matrix.of.Turn.out

noncomputable def matrix.of.Part.pre : List Atom → Bool
  | [.i a, .i b, .i r, .i c, .l l, .i x, .i y] => (sizeB a && sizeB b) && rightB r c l && partB r c x y a b
  | _ => false
def matrix.of.Part.out : List Atom → DV
  | [.i a, .i b, .i _r, .i c, .l l, .i x, .i y] => .agg [.int .i64 a, .int .i64 b, .ints .fresh .u64 (grid (Int.toNat a) (Int.toNat b) (fun j1 j2 => atI c l (x + j1) (y + j2)))]
  | _ => .undef
noncomputable def matrix.of.Part.spec : Entry := entry [.i .i64, .i .i64, .fn 149 [.cp [.i .i64, .i .i64, .s .u64], .cp [.i .i64], .cp [.i .i64]]] matrix.of.Part.pre matrix.of.Part.out

noncomputable def matrix.of.Sub.pre : List Atom → Bool
  | [.i a, .i b, .i r, .i c, .l l, .i p, .i q, .l m] => (sizeB a && sizeB b) && ((rightB r c l && rightB p q m) && (allU64 l && allU64 m)) && decide (a = r ∧ b = c ∧ p = r ∧ q = c)
  | _ => false
def matrix.of.Sub.out : List Atom → DV
  | [.i a, .i b, .i _r, .i c, .l l, .i _p, .i q, .l m] => .agg [.int .i64 a, .int .i64 b, .ints .fresh .u64 (grid (Int.toNat a) (Int.toNat b) (fun j1 j2 => subBI (atI c l j1 j2) (atI q m j1 j2)))]
  | _ => .undef
noncomputable def matrix.of.Sub.spec : Entry := entry [.i .i64, .i .i64, .fn 151 [.cp [.i .i64, .i .i64, .s .u64], .cp [.i .i64, .i .i64, .s .u64]]] matrix.of.Sub.pre matrix.of.Sub.out

noncomputable def matrix.of.Stack.pre : List Atom → Bool
  | [.i a, .i b, .i r, .i c, .l l, .i p, .i q, .l m] => (sizeB a && sizeB b) && (rightB r c l && rightB p q m) && decide (a = r + p ∧ b = c ∧ q = c)
  | _ => false
def matrix.of.Stack.out : List Atom → DV
  | [.i a, .i b, .i r, .i c, .l l, .i _p, .i q, .l m] => .agg [.int .i64 a, .int .i64 b, .ints .fresh .u64 (grid (Int.toNat a) (Int.toNat b) (fun j1 j2 => stackI r c l q m j1 j2))]
  | _ => .undef
noncomputable def matrix.of.Stack.spec : Entry := entry [.i .i64, .i .i64, .fn 152 [.cp [.i .i64, .i .i64, .s .u64], .cp [.i .i64, .i .i64, .s .u64]]] matrix.of.Stack.pre matrix.of.Stack.out

noncomputable def matrix.of.Mul.pre : List Atom → Bool
  | [.i a, .i b, .i r, .i c, .l l, .i p, .i q, .l m] => (sizeB a && sizeB b) && ((rightB r c l && rightB p q m) && (allU64 l && allU64 m)) && decide (a = r ∧ b = q ∧ c = p)
  | _ => false
def matrix.of.Mul.out : List Atom → DV
  | [.i a, .i b, .i _r, .i c, .l l, .i p, .i q, .l m] => .agg [.int .i64 a, .int .i64 b, .ints .fresh .u64 (grid (Int.toNat a) (Int.toNat b) (fun j1 j2 => dotI (rowI c l j1) (colI p q m j2)))]
  | _ => .undef
noncomputable def matrix.of.Mul.spec : Entry := entry [.i .i64, .i .i64, .fn 145 [.cp [.i .i64, .i .i64, .s .u64], .cp [.i .i64, .i .i64, .s .u64]]] matrix.of.Mul.pre matrix.of.Mul.out

noncomputable def matrix.Zeros.pre : List Atom → Bool
  | [.i _a, .i _b] => true
  | _ => false
def matrix.Zeros.out : List Atom → DV
  | [.i a, .i b] => .tup [.agg [.int .i64 ((zerosX a b).1), .int .i64 ((zerosX a b).2.1), .ints .fresh .u64 ((zerosX a b).2.2.1)], .int .i64 ((zerosX a b).2.2.2)]
  | _ => .undef
noncomputable def matrix.Zeros.spec : Entry := entry [.i .i64, .i .i64] matrix.Zeros.pre matrix.Zeros.out

noncomputable def matrix.Eye.pre : List Atom → Bool
  | [.i _n] => true
  | _ => false
def matrix.Eye.out : List Atom → DV
  | [.i n] => .tup [.agg [.int .i64 ((eyeX n).1), .int .i64 ((eyeX n).2.1), .ints .fresh .u64 ((eyeX n).2.2.1)], .int .i64 ((eyeX n).2.2.2)]
  | _ => .undef
noncomputable def matrix.Eye.spec : Entry := entry [.i .i64] matrix.Eye.pre matrix.Eye.out

noncomputable def matrix.Turn.pre : List Atom → Bool
  | [.i _r, .i _c, .l _l] => true
  | _ => false
def matrix.Turn.out : List Atom → DV
  | [.i r, .i c, .l l] => .tup [.agg [.int .i64 ((turnX r c l).1), .int .i64 ((turnX r c l).2.1), .ints .fresh .u64 ((turnX r c l).2.2.1)], .int .i64 ((turnX r c l).2.2.2)]
  | _ => .undef
noncomputable def matrix.Turn.spec : Entry := entry [.st [.i .i64, .i .i64, .s .u64]] matrix.Turn.pre matrix.Turn.out

noncomputable def matrix.Part.pre : List Atom → Bool
  | [.i _r, .i _c, .l _l, .i _x, .i _y, .i _a, .i _b] => true
  | _ => false
def matrix.Part.out : List Atom → DV
  | [.i r, .i c, .l l, .i x, .i y, .i a, .i b] => .tup [.agg [.int .i64 ((partX r c l x y a b).1), .int .i64 ((partX r c l x y a b).2.1), .ints .fresh .u64 ((partX r c l x y a b).2.2.1)], .int .i64 ((partX r c l x y a b).2.2.2)]
  | _ => .undef
noncomputable def matrix.Part.spec : Entry := entry [.st [.i .i64, .i .i64, .s .u64], .i .i64, .i .i64, .i .i64, .i .i64] matrix.Part.pre matrix.Part.out

noncomputable def matrix.Sub.pre : List Atom → Bool
  | [.i _r, .i _c, .l l, .i _p, .i _q, .l m] => allU64 l && allU64 m
  | _ => false
def matrix.Sub.out : List Atom → DV
  | [.i r, .i c, .l l, .i p, .i q, .l m] => .tup [.agg [.int .i64 ((subX r c l p q m).1), .int .i64 ((subX r c l p q m).2.1), .ints .fresh .u64 ((subX r c l p q m).2.2.1)], .int .i64 ((subX r c l p q m).2.2.2)]
  | _ => .undef
noncomputable def matrix.Sub.spec : Entry := entry [.st [.i .i64, .i .i64, .s .u64], .st [.i .i64, .i .i64, .s .u64]] matrix.Sub.pre matrix.Sub.out

noncomputable def matrix.Stack.pre : List Atom → Bool
  | [.i _r, .i _c, .l _l, .i _p, .i _q, .l _m] => true
  | _ => false
def matrix.Stack.out : List Atom → DV
  | [.i r, .i c, .l l, .i p, .i q, .l m] => .tup [.agg [.int .i64 ((stackX r c l p q m).1), .int .i64 ((stackX r c l p q m).2.1), .ints .fresh .u64 ((stackX r c l p q m).2.2.1)], .int .i64 ((stackX r c l p q m).2.2.2)]
  | _ => .undef
noncomputable def matrix.Stack.spec : Entry := entry [.st [.i .i64, .i .i64, .s .u64], .st [.i .i64, .i .i64, .s .u64]] matrix.Stack.pre matrix.Stack.out

noncomputable def matrix.Mul.pre : List Atom → Bool
  | [.i _r, .i _c, .l l, .i _p, .i _q, .l m] => allU64 l && allU64 m
  | _ => false
def matrix.Mul.out : List Atom → DV
  | [.i r, .i c, .l l, .i p, .i q, .l m] => .tup [.agg [.int .i64 ((mulX r c l p q m).1), .int .i64 ((mulX r c l p q m).2.1), .ints .fresh .u64 ((mulX r c l p q m).2.2.1)], .int .i64 ((mulX r c l p q m).2.2.2)]
  | _ => .undef
noncomputable def matrix.Mul.spec : Entry := entry [.st [.i .i64, .i .i64, .s .u64], .st [.i .i64, .i .i64, .s .u64]] matrix.Mul.pre matrix.Mul.out

noncomputable def ref10.Right.pre : List Atom → Bool
  | [.i _r, .i _c, .l _l] => true
  | _ => false
def ref10.Right.out : List Atom → DV
  | [.i r, .i c, .l l] => .bool (rightB r c l)
  | _ => .undef
noncomputable def ref10.Right.spec : Entry := entry [.st [.i .i64, .i .i64, .s .u64]] ref10.Right.pre ref10.Right.out

noncomputable def ref10.At.pre : List Atom → Bool
  | [.i r, .i c, .l l, .i i, .i k] => atPre r c l i k
  | _ => false
def ref10.At.out : List Atom → DV
  | [.i _r, .i c, .l l, .i i, .i k] => .int .u64 (atI c l i k)
  | _ => .undef
noncomputable def ref10.At.spec : Entry := entry [.st [.i .i64, .i .i64, .s .u64], .i .i64, .i .i64] ref10.At.pre ref10.At.out

noncomputable def ref10.Zeros.pre : List Atom → Bool
  | [.i a, .i b] => sizeB a && sizeB b
  | _ => false
def ref10.Zeros.out : List Atom → DV
  | [.i a, .i b] => .agg [.int .i64 a, .int .i64 b, .ints .fresh .u64 (grid (Int.toNat a) (Int.toNat b) (fun _ _ => 0))]
  | _ => .undef
noncomputable def ref10.Zeros.spec : Entry := entry [.i .i64, .i .i64] ref10.Zeros.pre ref10.Zeros.out

noncomputable def ref10.With.pre : List Atom → Bool
  | [.i r, .i c, .l l, .i i, .i k, .i _b] => atPre r c l i k
  | _ => false
def ref10.With.out : List Atom → DV
  | [.i r, .i c, .l l, .i i, .i k, .i b] => .agg [.int .i64 r, .int .i64 c, .ints .fresh .u64 (List.set l (Int.toNat (i * c + k)) b)]
  | _ => .undef
noncomputable def ref10.With.spec : Entry := entry [.st [.i .i64, .i .i64, .s .u64], .i .i64, .i .i64, .i .u64] ref10.With.pre ref10.With.out

noncomputable def ref10.Eye.pre : List Atom → Bool
  | [.i n] => sizeB n
  | _ => false
def ref10.Eye.out : List Atom → DV
  | [.i n] => .agg [.int .i64 n, .int .i64 n, .ints .fresh .u64 (grid (Int.toNat n) (Int.toNat n) (fun j1 j2 => eyeI j1 j2))]
  | _ => .undef
noncomputable def ref10.Eye.spec : Entry := entry [.i .i64] ref10.Eye.pre ref10.Eye.out

noncomputable def ref10.Same.pre : List Atom → Bool
  | [.i _r, .i _c, .l l, .i _p, .i _q, .l _m] => okLen l
  | _ => false
def ref10.Same.out : List Atom → DV
  | [.i r, .i c, .l l, .i p, .i q, .l m] => .bool (sameM r c l p q m)
  | _ => .undef
noncomputable def ref10.Same.spec : Entry := entry [.st [.i .i64, .i .i64, .s .u64], .st [.i .i64, .i .i64, .s .u64]] ref10.Same.pre ref10.Same.out

noncomputable def ref10.Copy.pre : List Atom → Bool
  | [.i _r, .i _c, .l l] => okLen l
  | _ => false
def ref10.Copy.out : List Atom → DV
  | [.i r, .i c, .l l] => .agg [.int .i64 r, .int .i64 c, .ints .fresh .u64 l]
  | _ => .undef
noncomputable def ref10.Copy.spec : Entry := entry [.st [.i .i64, .i .i64, .s .u64]] ref10.Copy.pre ref10.Copy.out

noncomputable def ref10.Row.pre : List Atom → Bool
  | [.i r, .i c, .l l, .i i] => rowPre r c l i
  | _ => false
def ref10.Row.out : List Atom → DV
  | [.i _r, .i c, .l l, .i i] => .ints .arg .u64 (rowI c l i)
  | _ => .undef
noncomputable def ref10.Row.spec : Entry := entry [.st [.i .i64, .i .i64, .s .u64], .i .i64] ref10.Row.pre ref10.Row.out

noncomputable def ref10.Col.pre : List Atom → Bool
  | [.i r, .i c, .l l, .i k, .i f] => colPre r c l k && decide (f = 0)
  | _ => false
def ref10.Col.out : List Atom → DV
  | [.i r, .i c, .l l, .i k, .i _f] => .ints .fresh .u64 (colI r c l k)
  | _ => .undef
noncomputable def ref10.Col.spec : Entry := entry [.st [.i .i64, .i .i64, .s .u64], .i .i64, .i .i64] ref10.Col.pre ref10.Col.out

noncomputable def ref10.Mul.pre : List Atom → Bool
  | [.i r, .i c, .l l, .i p, .i q, .l m] => (rightB r c l && rightB p q m) && ((allU64 l && allU64 m) && decide (c = p))
  | _ => false
def ref10.Mul.out : List Atom → DV
  | [.i r, .i c, .l l, .i p, .i q, .l m] => .agg [.int .i64 r, .int .i64 q, .ints .fresh .u64 (grid (Int.toNat r) (Int.toNat q) (fun j1 j2 => dotI (rowI c l j1) (colI p q m j2)))]
  | _ => .undef
noncomputable def ref10.Mul.spec : Entry := entry [.st [.i .i64, .i .i64, .s .u64], .st [.i .i64, .i .i64, .s .u64]] ref10.Mul.pre ref10.Mul.out

noncomputable def ref10.Turn.pre : List Atom → Bool
  | [.i r, .i c, .l l] => rightB r c l
  | _ => false
def ref10.Turn.out : List Atom → DV
  | [.i r, .i c, .l l] => .agg [.int .i64 c, .int .i64 r, .ints .fresh .u64 (grid (Int.toNat c) (Int.toNat r) (fun j1 j2 => atI c l j2 j1))]
  | _ => .undef
noncomputable def ref10.Turn.spec : Entry := entry [.st [.i .i64, .i .i64, .s .u64]] ref10.Turn.pre ref10.Turn.out

noncomputable def ref10.Part.pre : List Atom → Bool
  | [.i r, .i c, .l l, .i x, .i y, .i a, .i b] => rightB r c l && partB r c x y a b
  | _ => false
def ref10.Part.out : List Atom → DV
  | [.i _r, .i c, .l l, .i x, .i y, .i a, .i b] => .agg [.int .i64 a, .int .i64 b, .ints .fresh .u64 (grid (Int.toNat a) (Int.toNat b) (fun j1 j2 => atI c l (x + j1) (y + j2)))]
  | _ => .undef
noncomputable def ref10.Part.spec : Entry := entry [.st [.i .i64, .i .i64, .s .u64], .i .i64, .i .i64, .i .i64, .i .i64] ref10.Part.pre ref10.Part.out

noncomputable def ref01.limb.pre : List Atom → Bool
  | [.l l, .i _i] => okL l
  | _ => false
def ref01.limb.out : List Atom → DV
  | [.l l, .i i] => .int .u64 (limbAt l i)
  | _ => .undef
noncomputable def ref01.limb.spec : Entry := entry [.s .u32, .i .i64] ref01.limb.pre ref01.limb.out

noncomputable def ref01.Made.pre : List Atom → Bool
  | [.b _n, .l l] => okL l
  | _ => false
def ref01.Made.out : List Atom → DV
  | [.b n, .l l] => .agg [.bool (negW (wv n l)), .ints .arg .u32 (limbsI (wv n l))]
  | _ => .undef
noncomputable def ref01.Made.spec : Entry := entry [.b, .s .u32] ref01.Made.pre ref01.Made.out

noncomputable def ref01.Of.pre : List Atom → Bool
  | [.i n] => inI64 n
  | _ => false
def ref01.Of.out : List Atom → DV
  | [.i n] => .agg [.bool (negW (n)), .ints .arg .u32 (limbsI (n))]
  | _ => .undef
noncomputable def ref01.Of.spec : Entry := entry [.i .i64] ref01.Of.pre ref01.Of.out

noncomputable def ref01.More.pre : List Atom → Bool
  | [.l a, .l b] => okL a && okL b
  | _ => false
def ref01.More.out : List Atom → DV
  | [.l a, .l b] => .int .i64 (cmpN (valL a) (valL b))
  | _ => .undef
noncomputable def ref01.More.spec : Entry := entry [.s .u32, .s .u32] ref01.More.pre ref01.More.out

noncomputable def ref01.plus.pre : List Atom → Bool
  | [.l a, .l b] => okL a && okL b
  | _ => false
def ref01.plus.out : List Atom → DV
  | [.l a, .l b] => .ints .arg .u32 (plusL a b)
  | _ => .undef
noncomputable def ref01.plus.spec : Entry := entry [.s .u32, .s .u32] ref01.plus.pre ref01.plus.out

noncomputable def ref01.minus.pre : List Atom → Bool
  | [.l a, .l b] => (okL a && okL b) && leL b a
  | _ => false
def ref01.minus.out : List Atom → DV
  | [.l a, .l b] => .ints .arg .u32 (minusL a b)
  | _ => .undef
noncomputable def ref01.minus.spec : Entry := entry [.s .u32, .s .u32] ref01.minus.pre ref01.minus.out

noncomputable def ref01.Add.pre : List Atom → Bool
  | [.b n, .l a, .b m, .l b] => okW n a && okW m b
  | _ => false
def ref01.Add.out : List Atom → DV
  | [.b n, .l a, .b m, .l b] => .agg [.bool (negW (wv n a + wv m b)), .ints .arg .u32 (limbsI (wv n a + wv m b))]
  | _ => .undef
noncomputable def ref01.Add.spec : Entry := entry [.st [.b, .s .u32], .st [.b, .s .u32]] ref01.Add.pre ref01.Add.out

noncomputable def ref01.Neg.pre : List Atom → Bool
  | [.b n, .l a] => okW n a
  | _ => false
def ref01.Neg.out : List Atom → DV
  | [.b n, .l a] => .agg [.bool (negW (- wv n a)), .ints .arg .u32 (limbsI (- wv n a))]
  | _ => .undef
noncomputable def ref01.Neg.spec : Entry := entry [.st [.b, .s .u32]] ref01.Neg.pre ref01.Neg.out

noncomputable def ref01.Double.pre : List Atom → Bool
  | [.b n, .l a] => okW n a
  | _ => false
def ref01.Double.out : List Atom → DV
  | [.b n, .l a] => .agg [.bool (negW (2 * wv n a)), .ints .arg .u32 (limbsI (2 * wv n a))]
  | _ => .undef
noncomputable def ref01.Double.spec : Entry := entry [.st [.b, .s .u32]] ref01.Double.pre ref01.Double.out

noncomputable def ref01.Half.pre : List Atom → Bool
  | [.b n, .l a] => okW n a
  | _ => false
def ref01.Half.out : List Atom → DV
  | [.b n, .l a] => .agg [.bool (negW (shR (wv n a) 1)), .ints .arg .u32 (limbsI (shR (wv n a) 1))]
  | _ => .undef
noncomputable def ref01.Half.spec : Entry := entry [.st [.b, .s .u32]] ref01.Half.pre ref01.Half.out

noncomputable def ref01.Shift.pre : List Atom → Bool
  | [.b n, .l a, .i k] => okV n a && okSh k
  | _ => false
def ref01.Shift.out : List Atom → DV
  | [.b n, .l a, .i k] => .agg [.bool (negW (shW (wv n a) k)), .ints .arg .u32 (limbsI (shW (wv n a) k))]
  | _ => .undef
noncomputable def ref01.Shift.spec : Entry := entry [.st [.b, .s .u32], .i .i64] ref01.Shift.pre ref01.Shift.out

noncomputable def ref01.Len.pre : List Atom → Bool
  | [.b n, .l a] => okW n a
  | _ => false
def ref01.Len.out : List Atom → DV
  | [.b n, .l a] => .int .i64 (lenI (wv n a))
  | _ => .undef
noncomputable def ref01.Len.spec : Entry := entry [.st [.b, .s .u32]] ref01.Len.pre ref01.Len.out

noncomputable def ref01.Odd.pre : List Atom → Bool
  | [.b n, .l a] => okW n a
  | _ => false
def ref01.Odd.out : List Atom → DV
  | [.b n, .l a] => .bool (oddB (wv n a))
  | _ => .undef
noncomputable def ref01.Odd.spec : Entry := entry [.st [.b, .s .u32]] ref01.Odd.pre ref01.Odd.out

noncomputable def ref01.Same.pre : List Atom → Bool
  | [.b n, .l a, .b m, .l b] => okW n a && okW m b
  | _ => false
def ref01.Same.out : List Atom → DV
  | [.b n, .l a, .b m, .l b] => .bool (sameI (wv n a) (wv m b))
  | _ => .undef
noncomputable def ref01.Same.spec : Entry := entry [.st [.b, .s .u32], .st [.b, .s .u32]] ref01.Same.pre ref01.Same.out

noncomputable def ref02.Of.pre : List Atom → Bool
  | [.b n, .l a, .i e] => okW n a && okE2 e
  | _ => false
def ref02.Of.out : List Atom → DV
  | [.b n, .l a, .i e] => .agg [.bool (negW (mD (wv n a))), .ints .arg .u32 (limbsI (mD (wv n a))), .int .i64 (eD (wv n a) e)]
  | _ => .undef
noncomputable def ref02.Of.spec : Entry := entry [.st [.b, .s .u32], .i .i64] ref02.Of.pre ref02.Of.out

noncomputable def ref02.Neg.pre : List Atom → Bool
  | [.b n, .l a, .i _e] => okW n a
  | _ => false
def ref02.Neg.out : List Atom → DV
  | [.b n, .l a, .i e] => .agg [.bool (negW (- wv n a)), .ints .arg .u32 (limbsI (- wv n a)), .int .i64 e]
  | _ => .undef
noncomputable def ref02.Neg.spec : Entry := entry [.st [.b, .s .u32, .i .i64]] ref02.Neg.pre ref02.Neg.out

noncomputable def ref02.Low.pre : List Atom → Bool
  | [.b n, .l a, .i _e, .b m, .l b, .i _f] => okW n a && okW m b
  | _ => false
def ref02.Low.out : List Atom → DV
  | [.b n, .l a, .i e, .b m, .l b, .i f] => .int .i64 (lowI (wv n a) e (wv m b) f)
  | _ => .undef
noncomputable def ref02.Low.spec : Entry := entry [.st [.b, .s .u32, .i .i64], .st [.b, .s .u32, .i .i64]] ref02.Low.pre ref02.Low.out

noncomputable def ref02.Level.pre : List Atom → Bool
  | [.b n, .l a, .i e, .i f] => okV n a && okLv (wv n a) e f
  | _ => false
def ref02.Level.out : List Atom → DV
  | [.b n, .l a, .i e, .i f] => .agg [.bool (negW (shW (wv n a) (e - f))), .ints .arg .u32 (limbsI (shW (wv n a) (e - f)))]
  | _ => .undef
noncomputable def ref02.Level.spec : Entry := entry [.st [.b, .s .u32, .i .i64], .i .i64] ref02.Level.pre ref02.Level.out

noncomputable def ref02.Add.pre : List Atom → Bool
  | [.b n, .l a, .i e, .b m, .l b, .i f] => ((okV n a && okV m b) && okE e) && okE f
  | _ => false
def ref02.Add.out : List Atom → DV
  | [.b n, .l a, .i e, .b m, .l b, .i f] => .agg [.bool (negW (addM (wv n a) e (wv m b) f)), .ints .arg .u32 (limbsI (addM (wv n a) e (wv m b) f)), .int .i64 (addE (wv n a) e (wv m b) f)]
  | _ => .undef
noncomputable def ref02.Add.spec : Entry := entry [.st [.b, .s .u32, .i .i64], .st [.b, .s .u32, .i .i64]] ref02.Add.pre ref02.Add.out

noncomputable def ref02.Sub.pre : List Atom → Bool
  | [.b n, .l a, .i e, .b m, .l b, .i f] => ((okV n a && okV m b) && okE e) && okE f
  | _ => false
def ref02.Sub.out : List Atom → DV
  | [.b n, .l a, .i e, .b m, .l b, .i f] => .agg [.bool (negW (addM (wv n a) e (- wv m b) f)), .ints .arg .u32 (limbsI (addM (wv n a) e (- wv m b) f)), .int .i64 (addE (wv n a) e (- wv m b) f)]
  | _ => .undef
noncomputable def ref02.Sub.spec : Entry := entry [.st [.b, .s .u32, .i .i64], .st [.b, .s .u32, .i .i64]] ref02.Sub.pre ref02.Sub.out

noncomputable def ref02.Top.pre : List Atom → Bool
  | [.b n, .l a, .i e] => okW n a && okE e
  | _ => false
def ref02.Top.out : List Atom → DV
  | [.b n, .l a, .i e] => .int .i64 (topI (wv n a) e)
  | _ => .undef
noncomputable def ref02.Top.spec : Entry := entry [.st [.b, .s .u32, .i .i64]] ref02.Top.pre ref02.Top.out

noncomputable def ref02.Sign.pre : List Atom → Bool
  | [.b n, .l a, .i _e] => okW n a
  | _ => false
def ref02.Sign.out : List Atom → DV
  | [.b n, .l a, .i _e] => .int .i64 (sgI (wv n a))
  | _ => .undef
noncomputable def ref02.Sign.spec : Entry := entry [.st [.b, .s .u32, .i .i64]] ref02.Sign.pre ref02.Sign.out

noncomputable def ref02.Compare.pre : List Atom → Bool
  | [.b n, .l a, .i e, .b m, .l b, .i f] => ((okV n a && okV m b) && okE e) && okE f
  | _ => false
def ref02.Compare.out : List Atom → DV
  | [.b n, .l a, .i e, .b m, .l b, .i f] => .int .i64 (cmpD (wv n a) e (wv m b) f)
  | _ => .undef
noncomputable def ref02.Compare.spec : Entry := entry [.st [.b, .s .u32, .i .i64], .st [.b, .s .u32, .i .i64]] ref02.Compare.pre ref02.Compare.out

noncomputable def ref02.Same.pre : List Atom → Bool
  | [.b n, .l a, .i _e, .b m, .l b, .i _f] => okW n a && okW m b
  | _ => false
def ref02.Same.out : List Atom → DV
  | [.b n, .l a, .i e, .b m, .l b, .i f] => .bool (((decide (e = f)) && sameI (wv n a) (wv m b)))
  | _ => .undef
noncomputable def ref02.Same.spec : Entry := entry [.st [.b, .s .u32, .i .i64], .st [.b, .s .u32, .i .i64]] ref02.Same.pre ref02.Same.out

noncomputable def ref04.Value.pre : List Atom → Bool
  | [.i x] => inU64 x
  | _ => false
def ref04.Value.out : List Atom → DV
  | [.i x] => .agg [.bool (negW (mD (valI x))), .ints .arg .u32 (limbsI (mD (valI x))), .int .i64 (eD (valI x) (partEI x))]
  | _ => .undef
noncomputable def ref04.Value.spec : Entry := entry [.i .u64] ref04.Value.pre ref04.Value.out

noncomputable def ref01.single.pre : List Atom → Bool
  | [.l a, .i x] => okL a && inU32 x
  | _ => false
def ref01.single.out : List Atom → DV
  | [.l a, .i x] => .ints .arg .u32 (singleL a x)
  | _ => .undef
noncomputable def ref01.single.spec : Entry := entry [.s .u32, .i .u32] ref01.single.pre ref01.single.out

noncomputable def ref01.Mul.pre : List Atom → Bool
  | [.b n, .l a, .b m, .l b] => okM n a && okM m b
  | _ => false
def ref01.Mul.out : List Atom → DV
  | [.b n, .l a, .b m, .l b] => .agg [.bool (negW (wv n a * wv m b)), .ints .arg .u32 (limbsI (wv n a * wv m b))]
  | _ => .undef
noncomputable def ref01.Mul.spec : Entry := entry [.st [.b, .s .u32], .st [.b, .s .u32]] ref01.Mul.pre ref01.Mul.out

noncomputable def ref02.Mul.pre : List Atom → Bool
  | [.b n, .l a, .i e, .b m, .l b, .i f] => (okM n a && okM m b) && (okE e && okE f)
  | _ => false
def ref02.Mul.out : List Atom → DV
  | [.b n, .l a, .i e, .b m, .l b, .i f] => .agg [.bool (negW (mD (wv n a * wv m b))), .ints .arg .u32 (limbsI (mD (wv n a * wv m b))), .int .i64 (eD (wv n a * wv m b) (e + f))]
  | _ => .undef
noncomputable def ref02.Mul.spec : Entry := entry [.st [.b, .s .u32, .i .i64], .st [.b, .s .u32, .i .i64]] ref02.Mul.pre ref02.Mul.out

noncomputable def compare.rank.pre : List Atom → Bool
  | [.i b] => inU64 b
  | _ => false
def compare.rank.out : List Atom → DV
  | [.i b] => .int .i64 (rankI b)
  | _ => .undef
noncomputable def compare.rank.spec : Entry := entry [.i .u64] compare.rank.pre compare.rank.out

noncomputable def compare.Order.pre : List Atom → Bool
  | [.i a, .i b] => inU64 a && inU64 b
  | _ => false
def compare.Order.out : List Atom → DV
  | [.i a, .i b] => .tup [.int .i64 (ordI a b), .bool (ordBI a b)]
  | _ => .undef
noncomputable def compare.Order.spec : Entry := entry [.i .u64, .i .u64] compare.Order.pre compare.Order.out

noncomputable def compare.Less.pre : List Atom → Bool
  | [.i a, .i b] => inU64 a && inU64 b
  | _ => false
def compare.Less.out : List Atom → DV
  | [.i a, .i b] => .bool (decide (ordI a b < 0))
  | _ => .undef
noncomputable def compare.Less.spec : Entry := entry [.i .u64, .i .u64] compare.Less.pre compare.Less.out

noncomputable def compare.Abs.pre : List Atom → Bool
  | [.i a] => inU64 a
  | _ => false
def compare.Abs.out : List Atom → DV
  | [.i a] => .int .u64 (magI a)
  | _ => .undef
noncomputable def compare.Abs.spec : Entry := entry [.i .u64] compare.Abs.pre compare.Abs.out

noncomputable def compare.Scale.pre : List Atom → Bool
  | [.i a, .i n] => scalePre a n
  | _ => false
def compare.Scale.out : List Atom → DV
  | [.i a, .i n] => .tup [.int .u64 (scaleBI a n), .int .u8 (scaleFI a n)]
  | _ => .undef
noncomputable def compare.Scale.spec : Entry := entry [.i .u64, .i .i64] compare.Scale.pre compare.Scale.out

noncomputable def vector.Shift.pre : List Atom → Bool
  | [.i a, .i n] => scalePre a n
  | _ => false
def vector.Shift.out : List Atom → DV
  | [.i a, .i n] => .int .u64 (scaleBI a n)
  | _ => .undef
noncomputable def vector.Shift.spec : Entry := entry [.i .u64, .i .i64] vector.Shift.pre vector.Shift.out

noncomputable def vector.Div.pre : List Atom → Bool
  | [.i a, .i b] => inU64 a && inU64 b
  | _ => false
def vector.Div.out : List Atom → DV
  | [.i a, .i b] => .int .u64 (divBI a b)
  | _ => .undef
noncomputable def vector.Div.spec : Entry := entry [.i .u64, .i .u64] vector.Div.pre vector.Div.out

noncomputable def vector.Biggest.pre : List Atom → Bool
  | [.l x] => okU64 x
  | _ => false
def vector.Biggest.out : List Atom → DV
  | [.l x] => .int .u64 (bigI x)
  | _ => .undef
noncomputable def vector.Biggest.spec : Entry := entry [.s .u64] vector.Biggest.pre vector.Biggest.out

noncomputable def vector.Finite.pre : List Atom → Bool
  | [.l x] => okU64 x
  | _ => false
def vector.Finite.out : List Atom → DV
  | [.l x] => .bool (finL x)
  | _ => .undef
noncomputable def vector.Finite.spec : Entry := entry [.s .u64] vector.Finite.pre vector.Finite.out

noncomputable def certify.Check.pre : List Atom → Bool
  | [.i _r, .i _c, .l l] => allU64 l
  | _ => false
def certify.Check.out : List Atom → DV
  | [.i r, .i c, .l l] => .int .i64 (chkFI r c l)
  | _ => .undef
noncomputable def certify.Check.spec : Entry := entry [.st [.i .i64, .i .i64, .s .u64]] certify.Check.pre certify.Check.out

noncomputable def solve.check.pre : List Atom → Bool
  | [.i _r, .i _c, .l l, .i _p, .i _q, .l m] => allU64 l && allU64 m
  | _ => false
def solve.check.out : List Atom → DV
  | [.i r, .i c, .l l, .i p, .i q, .l m] => .int .i64 (chkT r c l p q m)
  | _ => .undef
noncomputable def solve.check.spec : Entry := entry [.st [.i .i64, .i .i64, .s .u64], .st [.i .i64, .i .i64, .s .u64]] solve.check.pre solve.check.out

noncomputable def _solve.order_.up.pre : List Atom → Bool
  | [.i n, .i k] => cdec (0 ≤ k ∧ k < n ∧ n ≤ 10)
  | _ => false
def _solve.order_.up.out : List Atom → DV
  | [.i n, .i k] => .int .i64 (n - 1 - k)
  | _ => .undef
noncomputable def _solve.order_.up.spec : Entry := entry [.i .i64, .i .i64] _solve.order_.up.pre _solve.order_.up.out

noncomputable def solve.Upper_1.pre : List Atom → Bool
  | [.i _i, .i _k] => true
  | _ => false
def solve.Upper_1.out : List Atom → DV
  | [.i i, .i k] => .bool (decide (i < k))
  | _ => .undef
noncomputable def solve.Upper_1.spec : Entry := entry [.i .i64, .i .i64] solve.Upper_1.pre solve.Upper_1.out

noncomputable def matrix.of.Zeros.own.pre : List Atom → Bool
  | [.i a, .i b] => sizeB a && sizeB b
  | _ => false
def matrix.of.Zeros.own.out : List Atom → DV
  | [.i a, .i b] => .agg [.int .i64 a, .int .i64 b, .ints (.own 108002 37) .u64 (grid (Int.toNat a) (Int.toNat b) (fun _ _ => 0))]
  | _ => .undef
noncomputable def matrix.of.Zeros.own.spec : Entry := entry [.i .i64, .i .i64, .fn 163 []] matrix.of.Zeros.own.pre matrix.of.Zeros.own.out

noncomputable def matrix.Zeros.own.pre : List Atom → Bool
  | [.i a, .i b] => sizeB a && sizeB b
  | _ => false
def matrix.Zeros.own.out : List Atom → DV
  | [.i a, .i b] => .tup [.agg [.int .i64 a, .int .i64 b, .ints (.own 1136 37) .u64 (grid (Int.toNat a) (Int.toNat b) (fun _ _ => 0))], .int .i64 (0 : Int)]
  | _ => .undef
noncomputable def matrix.Zeros.own.spec : Entry := entry [.i .i64, .i .i64] matrix.Zeros.own.pre matrix.Zeros.own.out

noncomputable def solve.triangle.Up.pre : List Atom → Bool
  | [.i r, .i c, .l l, .i p, .i q, .l m, .i n] => triPre r c l p q m && decide (n = r)
  | _ => false
def solve.triangle.Up.out : List Atom → DV
  | [.i r, .i c, .l l, .i _p, .i q, .l m, .i _n] => .tup [.agg [.int .i64 ((finX r q (upG c l q m (Int.toNat r) (Int.toNat q))).1), .int .i64 ((finX r q (upG c l q m (Int.toNat r) (Int.toNat q))).2.1), .ints .fresh .u64 ((finX r q (upG c l q m (Int.toNat r) (Int.toNat q))).2.2.1)], .int .i64 ((finX r q (upG c l q m (Int.toNat r) (Int.toNat q))).2.2.2)]
  | _ => .undef
noncomputable def solve.triangle.Up.spec : Entry := entry [.st [.i .i64, .i .i64, .s .u64], .st [.i .i64, .i .i64, .s .u64], .fm 49 [.i .i64], .fn 50 []] solve.triangle.Up.pre solve.triangle.Up.out

noncomputable def solve.Upper.pre : List Atom → Bool
  | [.i _r, .i _c, .l l, .i _p, .i _q, .l m] => allU64 l && allU64 m
  | _ => false
def solve.Upper.out : List Atom → DV
  | [.i r, .i c, .l l, .i p, .i q, .l m] => .tup [.agg [.int .i64 ((upX r c l p q m).1), .int .i64 ((upX r c l p q m).2.1), .ints .fresh .u64 ((upX r c l p q m).2.2.1)], .int .i64 ((upX r c l p q m).2.2.2)]
  | _ => .undef
noncomputable def solve.Upper.spec : Entry := entry [.st [.i .i64, .i .i64, .s .u64], .st [.i .i64, .i .i64, .s .u64]] solve.Upper.pre solve.Upper.out

noncomputable def solve.Flat.pre : List Atom → Bool
  | [.i _r, .i _c, .l l] => allU64 l
  | _ => false
def solve.Flat.out : List Atom → DV
  | [.i r, .i c, .l l] => .tup [.bool ((flatX r c l).1), .int .i64 ((flatX r c l).2)]
  | _ => .undef
noncomputable def solve.Flat.spec : Entry := entry [.st [.i .i64, .i .i64, .s .u64]] solve.Flat.pre solve.Flat.out

noncomputable def qr.down.Few.pre : List Atom → Bool
  | [.i r, .i c, .l l] => fewB r c l
  | _ => false
def qr.down.Few.out : List Atom → DV
  | [.i r, .i c, .l l] => .tup [.agg [.int .i64 r, .int .i64 c, .ints .arg .u64 l], .nil, .int .i64 (0 : Int)]
  | _ => .undef
noncomputable def qr.down.Few.spec : Entry := entry [.st [.i .i64, .i .i64, .s .u64]] qr.down.Few.pre qr.down.Few.out

noncomputable def qr.Factor.Few.pre : List Atom → Bool
  | [.i r, .i c, .l l] => fewB r c l && allU64 l
  | _ => false
def qr.Factor.Few.out : List Atom → DV
  | [.i r, .i c, .l l] => .tup [.agg [.int .i64 r, .int .i64 r, .ints .fresh .u64 (eyeG (Int.toNat r))], .agg [.int .i64 r, .int .i64 c, .ints .arg .u64 l], .int .i64 (0 : Int)]
  | _ => .undef
noncomputable def qr.Factor.Few.spec : Entry := entry [.st [.i .i64, .i .i64, .s .u64]] qr.Factor.Few.pre qr.Factor.Few.out

noncomputable def qr.Thin.Few.pre : List Atom → Bool
  | [.i r, .i c, .l l] => fewB r c l && allU64 l
  | _ => false
def qr.Thin.Few.out : List Atom → DV
  | [.i r, .i c, .l l] => .tup [.agg [.int .i64 r, .int .i64 (min r c), .ints .fresh .u64 ((partX r r (eyeG (Int.toNat r)) 0 0 r (min r c)).2.2.1)], .agg [.int .i64 (min r c), .int .i64 c, .ints .fresh .u64 ((partX r c l 0 0 (min r c) c).2.2.1)], .int .i64 (0 : Int)]
  | _ => .undef
noncomputable def qr.Thin.Few.spec : Entry := entry [.st [.i .i64, .i .i64, .s .u64]] qr.Thin.Few.pre qr.Thin.Few.out

noncomputable def qr.Turned.pre : List Atom → Bool
  | [.i _r, .i _c, .l l, .i _p, .i _q, .l m] => allU64 l && allU64 m
  | _ => false
def qr.Turned.out : List Atom → DV
  | [.i r, .i c, .l l, .i p, .i q, .l m] => .tup [.agg [.int .i64 ((turnedX r c l p q m).1), .int .i64 ((turnedX r c l p q m).2.1), .ints .fresh .u64 ((turnedX r c l p q m).2.2.1)], .int .i64 ((turnedX r c l p q m).2.2.2)]
  | _ => .undef
noncomputable def qr.Turned.spec : Entry := entry [.st [.i .i64, .i .i64, .s .u64], .st [.i .i64, .i .i64, .s .u64]] qr.Turned.pre qr.Turned.out

noncomputable def solve.Least.Few.pre : List Atom → Bool
  | [.i r, .i c, .l l, .i _p, .i _q, .l m] => (fewB r c l && allU64 l) && allU64 m
  | _ => false
def solve.Least.Few.out : List Atom → DV
  | [.i r, .i c, .l l, .i p, .i q, .l m] => .tup [.agg [.int .i64 ((leastF r c l p q m).1), .int .i64 ((leastF r c l p q m).2.1), .ints .fresh .u64 ((leastF r c l p q m).2.2.1)], .int .i64 ((leastF r c l p q m).2.2.2)]
  | _ => .undef
noncomputable def solve.Least.Few.spec : Entry := entry [.st [.i .i64, .i .i64, .s .u64], .st [.i .i64, .i .i64, .s .u64]] solve.Least.Few.pre solve.Least.Few.out

noncomputable def ref09.Div.pre : List Atom → Bool
  | [.i a, .i b] => inU64 a && inU64 b
  | _ => false
def ref09.Div.out : List Atom → DV
  | [.i a, .i b] => .int .u64 (divBI a b)
  | _ => .undef
noncomputable def ref09.Div.spec : Entry := entry [.i .u64, .i .u64] ref09.Div.pre ref09.Div.out

noncomputable def ref09.Finite.pre : List Atom → Bool
  | [.l x] => okU64 x
  | _ => false
def ref09.Finite.out : List Atom → DV
  | [.l x] => .bool (finL x)
  | _ => .undef
noncomputable def ref09.Finite.spec : Entry := entry [.s .u64] ref09.Finite.pre ref09.Finite.out

noncomputable def ref11.Check.pre : List Atom → Bool
  | [.i _r, .i _c, .l l] => allU64 l
  | _ => false
def ref11.Check.out : List Atom → DV
  | [.i r, .i c, .l l] => .int .i64 (chkFI r c l)
  | _ => .undef
noncomputable def ref11.Check.spec : Entry := entry [.st [.i .i64, .i .i64, .s .u64]] ref11.Check.pre ref11.Check.out

noncomputable def ref17.Check.pre : List Atom → Bool
  | [.i _r, .i _c, .l l, .i _p, .i _q, .l m] => allU64 l && allU64 m
  | _ => false
def ref17.Check.out : List Atom → DV
  | [.i r, .i c, .l l, .i p, .i q, .l m] => .int .i64 (chkT r c l p q m)
  | _ => .undef
noncomputable def ref17.Check.spec : Entry := entry [.st [.i .i64, .i .i64, .s .u64], .st [.i .i64, .i .i64, .s .u64]] ref17.Check.pre ref17.Check.out

noncomputable def ref17.finite.pre : List Atom → Bool
  | [.i r, .i c, .l l] => allU64 l && rightB r c l
  | _ => false
def ref17.finite.out : List Atom → DV
  | [.i r, .i c, .l l] => .tup [.agg [.int .i64 ((finX r c l).1), .int .i64 ((finX r c l).2.1), .ints .arg .u64 ((finX r c l).2.2.1)], .int .i64 ((finX r c l).2.2.2)]
  | _ => .undef
noncomputable def ref17.finite.spec : Entry := entry [.st [.i .i64, .i .i64, .s .u64]] ref17.finite.pre ref17.finite.out

noncomputable def ref17.Upper.pre : List Atom → Bool
  | [.i _r, .i _c, .l l, .i _p, .i _q, .l m] => allU64 l && allU64 m
  | _ => false
def ref17.Upper.out : List Atom → DV
  | [.i r, .i c, .l l, .i p, .i q, .l m] => .tup [.agg [.int .i64 ((upX r c l p q m).1), .int .i64 ((upX r c l p q m).2.1), .ints .arg .u64 ((upX r c l p q m).2.2.1)], .int .i64 ((upX r c l p q m).2.2.2)]
  | _ => .undef
noncomputable def ref17.Upper.spec : Entry := entry [.st [.i .i64, .i .i64, .s .u64], .st [.i .i64, .i .i64, .s .u64]] ref17.Upper.pre ref17.Upper.out

noncomputable def law17.same.pre : List Atom → Bool
  | [.i _r, .i _c, .l l, .i _e, .i _p, .i _q, .l _m, .i _f] => okLen l
  | _ => false
def law17.same.out : List Atom → DV
  | [.i r, .i c, .l l, .i e, .i p, .i q, .l m, .i f] => .bool (decide (e = f) && sameM r c l p q m)
  | _ => .undef
noncomputable def law17.same.spec : Entry := entry [.st [.i .i64, .i .i64, .s .u64], .i .i64, .st [.i .i64, .i .i64, .s .u64], .i .i64] law17.same.pre law17.same.out

noncomputable def law17.awake.pre : List Atom → Bool
  | [] => true
  | _ => false
def law17.awake.out : List Atom → DV
  | [] => .bool true
  | _ => .undef
noncomputable def law17.awake.spec : Entry := entry [] law17.awake.pre law17.awake.out

noncomputable def law17.SolveUppers.pre : List Atom → Bool
  | [.i _r, .i _c, .l l, .i _p, .i _q, .l m] => allU64 l && allU64 m
  | _ => false
def law17.SolveUppers.out : List Atom → DV
  | [.i _r, .i _c, .l _l, .i _p, .i _q, .l _m] => .bool true
  | _ => .undef
noncomputable def law17.SolveUppers.spec : Entry := entry [.st [.i .i64, .i .i64, .s .u64], .st [.i .i64, .i .i64, .s .u64]] law17.SolveUppers.pre law17.SolveUppers.out

noncomputable def ref05.Canon.nb.pre : List Atom → Bool
  | [.f _x] => true
  | _ => false
def ref05.Canon.nb.out : List Atom → DV
  | [.f x] => .int .u64 (canonNI x)
  | _ => .undef
noncomputable def ref05.Canon.nb.spec : Entry := entry [.nb] ref05.Canon.nb.pre ref05.Canon.nb.out

noncomputable def mbits.Len64.pre : List Atom → Bool
  | [.i x] => inU64 x
  | _ => false
def mbits.Len64.out : List Atom → DV
  | [.i x] => .int .i64 (len64I x)
  | _ => .undef
noncomputable def mbits.Len64.spec : Entry := entry [.i .u64] mbits.Len64.pre mbits.Len64.out

noncomputable def ref01.plus.own.pre : List Atom → Bool
  | [.l a, .l b] => okL a && okL b
  | _ => false
def ref01.plus.own.out : List Atom → DV
  | [.l a, .l b] => .ints (.own 100005 185) .u32 (plusL a b)
  | _ => .undef
noncomputable def ref01.plus.own.spec : Entry := entry [.s .u32, .s .u32] ref01.plus.own.pre ref01.plus.own.out
end Go.Proofs.S1
