/- A verified evaluator of the program's form and its use for this seat: S1Env, Rnd, Flt, Words, NearL, IeeL, OrdL, MulL, Limb, DyL, DyV, ExactL, MulW, SumL, MatL, MatW, PowL, RootL, ScaleL, SolW, TriL, HouW, LseW, GgW, RidW. -/
import Derived.Test.YtjbokjpbiobjpaaGreatProg
import Derived.Test.YtjbokjpbiobjpaaGreatTD
set_option linter.unusedVariables false
set_option linter.unusedSimpArgs false
noncomputable section
namespace Go.Proofs.S1
open Go Go.Den Go.Proofs
set_option maxRecDepth 100000
abbrev tB:Nat:=37
abbrev tMR:Nat:=214
abbrev tW:Nat:=173
def tys:List (Nat × TI):=[
  (2,⟨1,8,(.int .i64),[.int .i64 (0:Int)]⟩),
  (3,⟨1,8,(.int .i64),[.int .i64 (0:Int)]⟩),
  (4,⟨1,1,.bool,[.bool false]⟩),
  (5,⟨1,1,(.int .u8),[.int .u8 (0:Int)]⟩),
  (22,⟨1,24,(.slice 37),[.nil]⟩),
  (24,⟨3,40,(.struct [(0,3),(1,3),(2,22)]),[.int .i64 (0:Int),.int .i64 (0:Int),.nil]⟩),
  (25,⟨1,8,(.int .i64),[.int .i64 (0:Int)]⟩),
  (36,⟨1,8,(.int .u64),[.int .u64 (0:Int)]⟩),
  (37,⟨1,8,(.int .u64),[.int .u64 (0:Int)]⟩),
  (38,⟨1,24,(.slice 41),[.nil]⟩),
  (41,⟨1,1,(.int .i8),[.int .i8 (0:Int)]⟩),
  (43,⟨1,24,(.slice 173),[.nil]⟩),
  (45,⟨2,32,(.struct [(0,4),(1,43)]),[.bool false,.nil]⟩),
  (47,⟨3,40,(.struct [(0,45),(2,3)]),[.bool false,.nil,.int .i64 (0:Int)]⟩),
  (57,⟨12,160,(.struct [(0,24),(3,24),(6,24),(9,24)]),[.int .i64 (0:Int),.int .i64 (0:Int),.nil,.int .i64 (0:Int),.int .i64 (0:Int),.nil,.int .i64 (0:Int),.int .i64 (0:Int),.nil,.int .i64 (0:Int),.int .i64 (0:Int),.nil]⟩),
  (60,⟨12,160,(.struct [(0,24),(3,24),(6,24),(9,24)]),[.int .i64 (0:Int),.int .i64 (0:Int),.nil,.int .i64 (0:Int),.int .i64 (0:Int),.nil,.int .i64 (0:Int),.int .i64 (0:Int),.nil,.int .i64 (0:Int),.int .i64 (0:Int),.nil]⟩),
  (71,⟨9,120,(.struct [(0,24),(3,24),(6,24)]),[.int .i64 (0:Int),.int .i64 (0:Int),.nil,.int .i64 (0:Int),.int .i64 (0:Int),.nil,.int .i64 (0:Int),.int .i64 (0:Int),.nil]⟩),
  (74,⟨9,120,(.struct [(0,24),(3,24),(6,24)]),[.int .i64 (0:Int),.int .i64 (0:Int),.nil,.int .i64 (0:Int),.int .i64 (0:Int),.nil,.int .i64 (0:Int),.int .i64 (0:Int),.nil]⟩),
  (80,⟨7,88,(.struct [(0,24),(3,24),(6,25)]),[.int .i64 (0:Int),.int .i64 (0:Int),.nil,.int .i64 (0:Int),.int .i64 (0:Int),.nil,.int .i64 (0:Int)]⟩),
  (88,⟨9,120,(.struct [(0,24),(3,24),(6,24)]),[.int .i64 (0:Int),.int .i64 (0:Int),.nil,.int .i64 (0:Int),.int .i64 (0:Int),.nil,.int .i64 (0:Int),.int .i64 (0:Int),.nil]⟩),
  (91,⟨1,24,(.slice 24),[.nil]⟩),
  (102,⟨1,8,(.int .i64),[.int .i64 (0:Int)]⟩),
  (114,⟨6,80,(.array 2 24),[.int .i64 (0:Int),.int .i64 (0:Int),.nil,.int .i64 (0:Int),.int .i64 (0:Int),.nil]⟩),
  (118,⟨7,88,(.struct [(0,24),(3,24),(6,4)]),[.int .i64 (0:Int),.int .i64 (0:Int),.nil,.int .i64 (0:Int),.int .i64 (0:Int),.nil,.bool false]⟩),
  (121,⟨1,8,.fl,[.fl 0]⟩),
  (131,⟨1,24,(.slice 47),[.nil]⟩),
  (134,⟨1,24,(.slice 135),[.nil]⟩),
  (135,⟨1,24,(.slice 45),[.nil]⟩),
  (145,⟨9,120,(.array 3 24),[.int .i64 (0:Int),.int .i64 (0:Int),.nil,.int .i64 (0:Int),.int .i64 (0:Int),.nil,.int .i64 (0:Int),.int .i64 (0:Int),.nil]⟩),
  (147,⟨15,200,(.struct [(0,24),(3,24),(6,24),(9,24),(12,24)]),[.int .i64 (0:Int),.int .i64 (0:Int),.nil,.int .i64 (0:Int),.int .i64 (0:Int),.nil,.int .i64 (0:Int),.int .i64 (0:Int),.nil,.int .i64 (0:Int),.int .i64 (0:Int),.nil,.int .i64 (0:Int),.int .i64 (0:Int),.nil]⟩),
  (155,⟨3,40,(.struct [(0,3),(1,3),(2,131)]),[.int .i64 (0:Int),.int .i64 (0:Int),.nil]⟩),
  (166,⟨1,1,(.int .u8),[.int .u8 (0:Int)]⟩),
  (173,⟨1,4,(.int .u32),[.int .u32 (0:Int)]⟩),
  (183,⟨12,160,(.array 4 24),[.int .i64 (0:Int),.int .i64 (0:Int),.nil,.int .i64 (0:Int),.int .i64 (0:Int),.nil,.int .i64 (0:Int),.int .i64 (0:Int),.nil,.int .i64 (0:Int),.int .i64 (0:Int),.nil]⟩),
  (188,⟨2,16,(.array 2 3),[.int .i64 (0:Int),.int .i64 (0:Int)]⟩),
  (189,⟨1,24,(.slice 191),[.nil]⟩),
  (191,⟨3,40,(.struct [(0,22),(1,37),(2,37)]),[.nil,.int .u64 (0:Int),.int .u64 (0:Int)]⟩),
  (199,⟨3,24,(.struct [(0,4),(1,3),(2,36)]),[.bool false,.int .i64 (0:Int),.int .u64 (0:Int)]⟩),
  (208,⟨1,24,(.slice 214),[.nil]⟩),
  (214,⟨2,32,(.struct [(0,22),(1,37)]),[.nil,.int .u64 (0:Int)]⟩)]
theorem ty2:Bo Tryz.prog 2 ⟨1,8,(.int .i64),[.int .i64 (0:Int)]⟩:=Br (z:=.int .i64 (0:Int)) (by kernel_rfl) (fun c w=>by simp [Az,Aj,Value.cells]) rfl (by simp [Value.cells,Value.oneCell']) (by simp only [Bu]; exact Tryz.underlying2)
theorem ty3:Bo Tryz.prog 3 ⟨1,8,(.int .i64),[.int .i64 (0:Int)]⟩:=Br (z:=.int .i64 (0:Int)) (by kernel_rfl) (fun c w=>by simp [Az,Aj,Value.cells]) rfl (by simp [Value.cells,Value.oneCell']) (by simp only [Bu]; exact Tryz.underlying3)
theorem ty4:Bo Tryz.prog 4 ⟨1,1,.bool,[.bool false]⟩:=Br (z:=.bool false) (by kernel_rfl) (fun c w=>by simp [Az,Aj,Value.cells]) rfl (by simp [Value.cells,Value.oneCell']) (by simp only [Bu]; exact Tryz.underlying4)
theorem ty5:Bo Tryz.prog 5 ⟨1,1,(.int .u8),[.int .u8 (0:Int)]⟩:=Br (z:=.int .u8 (0:Int)) (by kernel_rfl) (fun c w=>by simp [Az,Aj,Value.cells]) rfl (by simp [Value.cells,Value.oneCell']) (by simp only [Bu]; exact Tryz.underlying5)
theorem ty22:Bo Tryz.prog 22 ⟨1,24,(.slice 37),[.nil]⟩:=Br (z:=.slice none 0 0) (by kernel_rfl) (fun c w=>by simp [Az,Aj,Value.cells]) rfl (by simp [Value.cells,Value.oneCell']) (by simp only [Bu]; exact Tryz.underlying22)
theorem ty24:Bo Tryz.prog 24 ⟨3,40,(.struct [(0,3),(1,3),(2,22)]),[.int .i64 (0:Int),.int .i64 (0:Int),.nil]⟩:=Br (z:=.agg #[.int .i64 (0:Int),.int .i64 (0:Int),.slice none 0 0]) (by kernel_rfl) (fun c w=>by simp [Az,Aj,Value.cells]) rfl (by simp [Value.cells,Value.oneCell']) (by simp only [Bu]; exact ⟨_,Tryz.underlying24,by kernel_rfl⟩)
theorem ty25:Bo Tryz.prog 25 ⟨1,8,(.int .i64),[.int .i64 (0:Int)]⟩:=Br (z:=.int .i64 (0:Int)) (by kernel_rfl) (fun c w=>by simp [Az,Aj,Value.cells]) rfl (by simp [Value.cells,Value.oneCell']) (by simp only [Bu]; exact Tryz.underlying25)
theorem Aou:Bo Tryz.prog 36 ⟨1,8,(.int .u64),[.int .u64 (0:Int)]⟩:=Br (z:=.int .u64 (0:Int)) (by kernel_rfl) (fun c w=>by simp [Az,Aj,Value.cells]) rfl (by simp [Value.cells,Value.oneCell']) (by simp only [Bu]; exact Tryz.underlying36)
theorem ty37:Bo Tryz.prog 37 ⟨1,8,(.int .u64),[.int .u64 (0:Int)]⟩:=Br (z:=.int .u64 (0:Int)) (by kernel_rfl) (fun c w=>by simp [Az,Aj,Value.cells]) rfl (by simp [Value.cells,Value.oneCell']) (by simp only [Bu]; exact Tryz.underlying37)
theorem ty38:Bo Tryz.prog 38 ⟨1,24,(.slice 41),[.nil]⟩:=Br (z:=.slice none 0 0) (by kernel_rfl) (fun c w=>by simp [Az,Aj,Value.cells]) rfl (by simp [Value.cells,Value.oneCell']) (by simp only [Bu]; exact Tryz.underlying38)
theorem ty41:Bo Tryz.prog 41 ⟨1,1,(.int .i8),[.int .i8 (0:Int)]⟩:=Br (z:=.int .i8 (0:Int)) (by kernel_rfl) (fun c w=>by simp [Az,Aj,Value.cells]) rfl (by simp [Value.cells,Value.oneCell']) (by simp only [Bu]; exact Tryz.underlying41)
theorem ty43:Bo Tryz.prog 43 ⟨1,24,(.slice 173),[.nil]⟩:=Br (z:=.slice none 0 0) (by kernel_rfl) (fun c w=>by simp [Az,Aj,Value.cells]) rfl (by simp [Value.cells,Value.oneCell']) (by simp only [Bu]; exact Tryz.underlying43)
theorem ty45:Bo Tryz.prog 45 ⟨2,32,(.struct [(0,4),(1,43)]),[.bool false,.nil]⟩:=Br (z:=.agg #[.bool false,.slice none 0 0]) (by kernel_rfl) (fun c w=>by simp [Az,Aj,Value.cells]) rfl (by simp [Value.cells,Value.oneCell']) (by simp only [Bu]; exact ⟨_,Tryz.underlying45,by kernel_rfl⟩)
theorem ty47:Bo Tryz.prog 47 ⟨3,40,(.struct [(0,45),(2,3)]),[.bool false,.nil,.int .i64 (0:Int)]⟩:=Br (z:=.agg #[.bool false,.slice none 0 0,.int .i64 (0:Int)]) (by kernel_rfl) (fun c w=>by simp [Az,Aj,Value.cells]) rfl (by simp [Value.cells,Value.oneCell']) (by simp only [Bu]; exact ⟨_,Tryz.underlying47,by kernel_rfl⟩)
theorem ty57:Bo Tryz.prog 57 ⟨12,160,(.struct [(0,24),(3,24),(6,24),(9,24)]),[.int .i64 (0:Int),.int .i64 (0:Int),.nil,.int .i64 (0:Int),.int .i64 (0:Int),.nil,.int .i64 (0:Int),.int .i64 (0:Int),.nil,.int .i64 (0:Int),.int .i64 (0:Int),.nil]⟩:=Br (z:=.agg #[.int .i64 (0:Int),.int .i64 (0:Int),.slice none 0 0,.int .i64 (0:Int),.int .i64 (0:Int),.slice none 0 0,.int .i64 (0:Int),.int .i64 (0:Int),.slice none 0 0,.int .i64 (0:Int),.int .i64 (0:Int),.slice none 0 0]) (by kernel_rfl) (fun c w=>by simp [Az,Aj,Value.cells]) rfl (by simp [Value.cells,Value.oneCell']) (by simp only [Bu]; exact ⟨_,Tryz.underlying57,by kernel_rfl⟩)
theorem ty60:Bo Tryz.prog 60 ⟨12,160,(.struct [(0,24),(3,24),(6,24),(9,24)]),[.int .i64 (0:Int),.int .i64 (0:Int),.nil,.int .i64 (0:Int),.int .i64 (0:Int),.nil,.int .i64 (0:Int),.int .i64 (0:Int),.nil,.int .i64 (0:Int),.int .i64 (0:Int),.nil]⟩:=Br (z:=.agg #[.int .i64 (0:Int),.int .i64 (0:Int),.slice none 0 0,.int .i64 (0:Int),.int .i64 (0:Int),.slice none 0 0,.int .i64 (0:Int),.int .i64 (0:Int),.slice none 0 0,.int .i64 (0:Int),.int .i64 (0:Int),.slice none 0 0]) (by kernel_rfl) (fun c w=>by simp [Az,Aj,Value.cells]) rfl (by simp [Value.cells,Value.oneCell']) (by simp only [Bu]; exact ⟨_,Tryz.underlying60,by kernel_rfl⟩)
theorem ty71:Bo Tryz.prog 71 ⟨9,120,(.struct [(0,24),(3,24),(6,24)]),[.int .i64 (0:Int),.int .i64 (0:Int),.nil,.int .i64 (0:Int),.int .i64 (0:Int),.nil,.int .i64 (0:Int),.int .i64 (0:Int),.nil]⟩:=Br (z:=.agg #[.int .i64 (0:Int),.int .i64 (0:Int),.slice none 0 0,.int .i64 (0:Int),.int .i64 (0:Int),.slice none 0 0,.int .i64 (0:Int),.int .i64 (0:Int),.slice none 0 0]) (by kernel_rfl) (fun c w=>by simp [Az,Aj,Value.cells]) rfl (by simp [Value.cells,Value.oneCell']) (by simp only [Bu]; exact ⟨_,Tryz.underlying71,by kernel_rfl⟩)
theorem ty74:Bo Tryz.prog 74 ⟨9,120,(.struct [(0,24),(3,24),(6,24)]),[.int .i64 (0:Int),.int .i64 (0:Int),.nil,.int .i64 (0:Int),.int .i64 (0:Int),.nil,.int .i64 (0:Int),.int .i64 (0:Int),.nil]⟩:=Br (z:=.agg #[.int .i64 (0:Int),.int .i64 (0:Int),.slice none 0 0,.int .i64 (0:Int),.int .i64 (0:Int),.slice none 0 0,.int .i64 (0:Int),.int .i64 (0:Int),.slice none 0 0]) (by kernel_rfl) (fun c w=>by simp [Az,Aj,Value.cells]) rfl (by simp [Value.cells,Value.oneCell']) (by simp only [Bu]; exact ⟨_,Tryz.underlying74,by kernel_rfl⟩)
theorem ty80:Bo Tryz.prog 80 ⟨7,88,(.struct [(0,24),(3,24),(6,25)]),[.int .i64 (0:Int),.int .i64 (0:Int),.nil,.int .i64 (0:Int),.int .i64 (0:Int),.nil,.int .i64 (0:Int)]⟩:=Br (z:=.agg #[.int .i64 (0:Int),.int .i64 (0:Int),.slice none 0 0,.int .i64 (0:Int),.int .i64 (0:Int),.slice none 0 0,.int .i64 (0:Int)]) (by kernel_rfl) (fun c w=>by simp [Az,Aj,Value.cells]) rfl (by simp [Value.cells,Value.oneCell']) (by simp only [Bu]; exact ⟨_,Tryz.underlying80,by kernel_rfl⟩)
theorem ty88:Bo Tryz.prog 88 ⟨9,120,(.struct [(0,24),(3,24),(6,24)]),[.int .i64 (0:Int),.int .i64 (0:Int),.nil,.int .i64 (0:Int),.int .i64 (0:Int),.nil,.int .i64 (0:Int),.int .i64 (0:Int),.nil]⟩:=Br (z:=.agg #[.int .i64 (0:Int),.int .i64 (0:Int),.slice none 0 0,.int .i64 (0:Int),.int .i64 (0:Int),.slice none 0 0,.int .i64 (0:Int),.int .i64 (0:Int),.slice none 0 0]) (by kernel_rfl) (fun c w=>by simp [Az,Aj,Value.cells]) rfl (by simp [Value.cells,Value.oneCell']) (by simp only [Bu]; exact ⟨_,Tryz.underlying88,by kernel_rfl⟩)
theorem ty91:Bo Tryz.prog 91 ⟨1,24,(.slice 24),[.nil]⟩:=Br (z:=.slice none 0 0) (by kernel_rfl) (fun c w=>by simp [Az,Aj,Value.cells]) rfl (by simp [Value.cells,Value.oneCell']) (by simp only [Bu]; exact Tryz.underlying91)
theorem Apd:Bo Tryz.prog 102 ⟨1,8,(.int .i64),[.int .i64 (0:Int)]⟩:=Br (z:=.int .i64 (0:Int)) (by kernel_rfl) (fun c w=>by simp [Az,Aj,Value.cells]) rfl (by simp [Value.cells,Value.oneCell']) (by simp only [Bu]; exact Tryz.underlying102)
theorem Apc:Bo Tryz.prog 114 ⟨6,80,(.array 2 24),[.int .i64 (0:Int),.int .i64 (0:Int),.nil,.int .i64 (0:Int),.int .i64 (0:Int),.nil]⟩:=Br (z:=.agg #[.int .i64 (0:Int),.int .i64 (0:Int),.slice none 0 0,.int .i64 (0:Int),.int .i64 (0:Int),.slice none 0 0]) (by kernel_rfl) (fun c w=>by simp [Az,Aj,Value.cells]) rfl (by simp [Value.cells,Value.oneCell']) (by simp only [Bu]; exact Tryz.underlying114)
theorem Apb:Bo Tryz.prog 118 ⟨7,88,(.struct [(0,24),(3,24),(6,4)]),[.int .i64 (0:Int),.int .i64 (0:Int),.nil,.int .i64 (0:Int),.int .i64 (0:Int),.nil,.bool false]⟩:=Br (z:=.agg #[.int .i64 (0:Int),.int .i64 (0:Int),.slice none 0 0,.int .i64 (0:Int),.int .i64 (0:Int),.slice none 0 0,.bool false]) (by kernel_rfl) (fun c w=>by simp [Az,Aj,Value.cells]) rfl (by simp [Value.cells,Value.oneCell']) (by simp only [Bu]; exact ⟨_,Tryz.underlying118,by kernel_rfl⟩)
theorem Apa:Bo Tryz.prog 121 ⟨1,8,.fl,[.fl 0]⟩:=Br (z:=.float .f64 0) (by kernel_rfl) (fun c w=>by simp [Az,Aj,Value.cells,M6]) rfl (by simp [Value.cells,Value.oneCell']) (by simp only [Bu]; exact Tryz.underlying121)
theorem Ao9:Bo Tryz.prog 131 ⟨1,24,(.slice 47),[.nil]⟩:=Br (z:=.slice none 0 0) (by kernel_rfl) (fun c w=>by simp [Az,Aj,Value.cells]) rfl (by simp [Value.cells,Value.oneCell']) (by simp only [Bu]; exact Tryz.underlying131)
theorem Ao8:Bo Tryz.prog 134 ⟨1,24,(.slice 135),[.nil]⟩:=Br (z:=.slice none 0 0) (by kernel_rfl) (fun c w=>by simp [Az,Aj,Value.cells]) rfl (by simp [Value.cells,Value.oneCell']) (by simp only [Bu]; exact Tryz.underlying134)
theorem Ao7:Bo Tryz.prog 135 ⟨1,24,(.slice 45),[.nil]⟩:=Br (z:=.slice none 0 0) (by kernel_rfl) (fun c w=>by simp [Az,Aj,Value.cells]) rfl (by simp [Value.cells,Value.oneCell']) (by simp only [Bu]; exact Tryz.underlying135)
theorem Ao6:Bo Tryz.prog 145 ⟨9,120,(.array 3 24),[.int .i64 (0:Int),.int .i64 (0:Int),.nil,.int .i64 (0:Int),.int .i64 (0:Int),.nil,.int .i64 (0:Int),.int .i64 (0:Int),.nil]⟩:=Br (z:=.agg #[.int .i64 (0:Int),.int .i64 (0:Int),.slice none 0 0,.int .i64 (0:Int),.int .i64 (0:Int),.slice none 0 0,.int .i64 (0:Int),.int .i64 (0:Int),.slice none 0 0]) (by kernel_rfl) (fun c w=>by simp [Az,Aj,Value.cells]) rfl (by simp [Value.cells,Value.oneCell']) (by simp only [Bu]; exact Tryz.underlying145)
theorem Ao5:Bo Tryz.prog 147 ⟨15,200,(.struct [(0,24),(3,24),(6,24),(9,24),(12,24)]),[.int .i64 (0:Int),.int .i64 (0:Int),.nil,.int .i64 (0:Int),.int .i64 (0:Int),.nil,.int .i64 (0:Int),.int .i64 (0:Int),.nil,.int .i64 (0:Int),.int .i64 (0:Int),.nil,.int .i64 (0:Int),.int .i64 (0:Int),.nil]⟩:=Br (z:=.agg #[.int .i64 (0:Int),.int .i64 (0:Int),.slice none 0 0,.int .i64 (0:Int),.int .i64 (0:Int),.slice none 0 0,.int .i64 (0:Int),.int .i64 (0:Int),.slice none 0 0,.int .i64 (0:Int),.int .i64 (0:Int),.slice none 0 0,.int .i64 (0:Int),.int .i64 (0:Int),.slice none 0 0]) (by kernel_rfl) (fun c w=>by simp [Az,Aj,Value.cells]) rfl (by simp [Value.cells,Value.oneCell']) (by simp only [Bu]; exact ⟨_,Tryz.underlying147,by kernel_rfl⟩)
theorem Ao4:Bo Tryz.prog 155 ⟨3,40,(.struct [(0,3),(1,3),(2,131)]),[.int .i64 (0:Int),.int .i64 (0:Int),.nil]⟩:=Br (z:=.agg #[.int .i64 (0:Int),.int .i64 (0:Int),.slice none 0 0]) (by kernel_rfl) (fun c w=>by simp [Az,Aj,Value.cells]) rfl (by simp [Value.cells,Value.oneCell']) (by simp only [Bu]; exact ⟨_,Tryz.underlying155,by kernel_rfl⟩)
theorem Ao3:Bo Tryz.prog 166 ⟨1,1,(.int .u8),[.int .u8 (0:Int)]⟩:=Br (z:=.int .u8 (0:Int)) (by kernel_rfl) (fun c w=>by simp [Az,Aj,Value.cells]) rfl (by simp [Value.cells,Value.oneCell']) (by simp only [Bu]; exact Tryz.underlying166)
theorem Ao2:Bo Tryz.prog 173 ⟨1,4,(.int .u32),[.int .u32 (0:Int)]⟩:=Br (z:=.int .u32 (0:Int)) (by kernel_rfl) (fun c w=>by simp [Az,Aj,Value.cells]) rfl (by simp [Value.cells,Value.oneCell']) (by simp only [Bu]; exact Tryz.underlying173)
theorem Ao1:Bo Tryz.prog 183 ⟨12,160,(.array 4 24),[.int .i64 (0:Int),.int .i64 (0:Int),.nil,.int .i64 (0:Int),.int .i64 (0:Int),.nil,.int .i64 (0:Int),.int .i64 (0:Int),.nil,.int .i64 (0:Int),.int .i64 (0:Int),.nil]⟩:=Br (z:=.agg #[.int .i64 (0:Int),.int .i64 (0:Int),.slice none 0 0,.int .i64 (0:Int),.int .i64 (0:Int),.slice none 0 0,.int .i64 (0:Int),.int .i64 (0:Int),.slice none 0 0,.int .i64 (0:Int),.int .i64 (0:Int),.slice none 0 0]) (by kernel_rfl) (fun c w=>by simp [Az,Aj,Value.cells]) rfl (by simp [Value.cells,Value.oneCell']) (by simp only [Bu]; exact Tryz.underlying183)
theorem Ao0:Bo Tryz.prog 188 ⟨2,16,(.array 2 3),[.int .i64 (0:Int),.int .i64 (0:Int)]⟩:=Br (z:=.agg #[.int .i64 (0:Int),.int .i64 (0:Int)]) (by kernel_rfl) (fun c w=>by simp [Az,Aj,Value.cells]) rfl (by simp [Value.cells,Value.oneCell']) (by simp only [Bu]; exact Tryz.underlying188)
theorem Aoz:Bo Tryz.prog 189 ⟨1,24,(.slice 191),[.nil]⟩:=Br (z:=.slice none 0 0) (by kernel_rfl) (fun c w=>by simp [Az,Aj,Value.cells]) rfl (by simp [Value.cells,Value.oneCell']) (by simp only [Bu]; exact Tryz.underlying189)
theorem Aoy:Bo Tryz.prog 191 ⟨3,40,(.struct [(0,22),(1,37),(2,37)]),[.nil,.int .u64 (0:Int),.int .u64 (0:Int)]⟩:=Br (z:=.agg #[.slice none 0 0,.int .u64 (0:Int),.int .u64 (0:Int)]) (by kernel_rfl) (fun c w=>by simp [Az,Aj,Value.cells]) rfl (by simp [Value.cells,Value.oneCell']) (by simp only [Bu]; exact ⟨_,Tryz.underlying191,by kernel_rfl⟩)
theorem Aox:Bo Tryz.prog 199 ⟨3,24,(.struct [(0,4),(1,3),(2,36)]),[.bool false,.int .i64 (0:Int),.int .u64 (0:Int)]⟩:=Br (z:=.agg #[.bool false,.int .i64 (0:Int),.int .u64 (0:Int)]) (by kernel_rfl) (fun c w=>by simp [Az,Aj,Value.cells]) rfl (by simp [Value.cells,Value.oneCell']) (by simp only [Bu]; exact ⟨_,Tryz.underlying199,by kernel_rfl⟩)
theorem Aow:Bo Tryz.prog 208 ⟨1,24,(.slice 214),[.nil]⟩:=Br (z:=.slice none 0 0) (by kernel_rfl) (fun c w=>by simp [Az,Aj,Value.cells]) rfl (by simp [Value.cells,Value.oneCell']) (by simp only [Bu]; exact Tryz.underlying208)
theorem Aov:Bo Tryz.prog 214 ⟨2,32,(.struct [(0,22),(1,37)]),[.nil,.int .u64 (0:Int)]⟩:=Br (z:=.agg #[.slice none 0 0,.int .u64 (0:Int)]) (by kernel_rfl) (fun c w=>by simp [Az,Aj,Value.cells]) rfl (by simp [Value.cells,Value.oneCell']) (by simp only [Bu]; exact ⟨_,Tryz.underlying214,by kernel_rfl⟩)
theorem Amx:Ol Tryz.prog tys:=.cons ty2 <| .cons ty3 <| .cons ty4 <| .cons ty5 <| .cons ty22 <| .cons ty24 <| .cons ty25 <| .cons Aou <| .cons ty37 <| .cons ty38 <| .cons ty41 <| .cons ty43 <| .cons ty45 <| .cons ty47 <| .cons ty57 <| .cons ty60 <| .cons ty71 <| .cons ty74 <| .cons ty80 <| .cons ty88 <| .cons ty91 <| .cons Apd <| .cons Apc <| .cons Apb <| .cons Apa <| .cons Ao9 <| .cons Ao8 <| .cons Ao7 <| .cons Ao6 <| .cons Ao5 <| .cons Ao4 <| .cons Ao3 <| .cons Ao2 <| .cons Ao1 <| .cons Ao0 <| .cons Aoz <| .cons Aoy <| .cons Aox <| .cons Aow <| .cons Aov <| .nil
def exts:List (Nat × Ext):=[(169,.bits),(210,.frombits),(263,.sqrt),(266,.sub64)]
def Aar:List (Nat × Ext)→Nat→Option Ext
  | [],_=>none
  | (m,e)::l,n=>bif Nat.beq m n then some e else Aar l n
theorem Ais (args:Array Value) (w:World):(callFunc 169 args).run Tryz.prog w=((Pp .bits args).run Tryz.prog w).andThen fun v w'=>.ok (.value v) w':=run_callFunc_extern (e:=Extern.MathFloatBits.float64bits) Tryz.func169 (by kernel_rfl) (by kernel_rfl) (by kernel_rfl) (by kernel_rfl) args w
theorem Air (args:Array Value) (w:World):(callFunc 210 args).run Tryz.prog w=((Pp .frombits args).run Tryz.prog w).andThen fun v w'=>.ok (.value v) w':=run_callFunc_extern (e:=Extern.MathFloatBits.float64frombits) Tryz.func210 (by kernel_rfl) (by kernel_rfl) (by kernel_rfl) (by kernel_rfl) args w
theorem Aiq (args:Array Value) (w:World):(callFunc 263 args).run Tryz.prog w=((Pp .sqrt args).run Tryz.prog w).andThen fun v w'=>.ok (.value v) w':=run_callFunc_extern (e:=Extern.MathSqrt.sqrt) Tryz.func263 (by kernel_rfl) (by kernel_rfl) (by kernel_rfl) (by kernel_rfl) args w
theorem Aip (args:Array Value) (w:World):(callFunc 266 args).run Tryz.prog w=((Pp .sub64 args).run Tryz.prog w).andThen fun v w'=>.ok (.value v) w':=run_callFunc_extern (e:=Tt) Tryz.func266 (by kernel_rfl) (by kernel_rfl) (by kernel_rfl) (by kernel_rfl) args w
def Aoa:List Nat:=[199,188]
theorem Aql:Yx Tryz.prog 199 ⟨3,24,(.struct [(0,4),(1,3),(2,36)]),[.bool false,.int .i64 (0:Int),.int .u64 (0:Int)]⟩ where
  guard:=by kernel_rfl
  eq:=by
    intro w c x y xs ys hx hy hlx hly
    obtain ⟨a0,x1,rfl,hx1⟩:=Tx hx
    obtain ⟨a1,x2,rfl,hx2⟩:=Hk hx1
    obtain ⟨a2,x3,rfl,hx3⟩:=Hk hx2
    obtain rfl:=N8 hx3
    obtain ⟨b0,y1,rfl,hy1⟩:=Tx hy
    obtain ⟨b1,y2,rfl,hy2⟩:=Hk hy1
    obtain ⟨b2,y3,rfl,hy3⟩:=Hk hy2
    obtain rfl:=N8 hy3
    obtain ⟨xs⟩:=xs
    obtain ⟨ys⟩:=ys
    simp only [Az.B6,Az.E9,Aj] at hlx hly
    obtain ⟨_,_,rfl,rfl,_,_,rfl,rfl,_,_,rfl,rfl,rfl⟩:=hlx
    obtain ⟨_,_,rfl,rfl,_,_,rfl,rfl,_,_,rfl,rfl,rfl⟩:=hly
    have hu:Tryz.prog.underlying 199=some (.struct (Tryz.prog.fieldsOf 199)):=by kernel_rfl
    have hp:Tryz.prog.stoodInHeld 199=false:=by kernel_rfl
    unfold Op.equal Op.maxDepth
    rw [run_equalIn_struct w 9999 199 _ _ hu hp]
    have hfs:Tryz.prog.fieldsOf 199=(match Tryz.prog.underlying 199 with | some (.struct fs)=>fs | _=>#[]):=rfl
    rw [hfs,Tryz.underlying199]
    simp [Op.eqFields,Jp w ty3 rfl,Jp w ty4 rfl,Jp w Aou rfl,run_equalIn_int w _ _ _ _ _ _ Tryz.underlying3,run_equalIn_bool w _ _ _ _ Tryz.underlying4,run_equalIn_int w _ _ _ _ _ _ Tryz.underlying36,Wt,U7]
    by_cases h0:a0=b0<;>by_cases h1:a1=b1<;>by_cases h2:a2=b2<;>simp [h0,h1,h2]
theorem Aqm:Yx Tryz.prog 188 ⟨2,16,(.array 2 3),[.int .i64 (0:Int),.int .i64 (0:Int)]⟩ where
  guard:=by kernel_rfl
  eq:=by
    intro w c x y xs ys hx hy hlx hly
    obtain ⟨a0,x1,rfl,hx1⟩:=Hk hx
    obtain ⟨a1,x2,rfl,hx2⟩:=Hk hx1
    obtain rfl:=N8 hx2
    obtain ⟨b0,y1,rfl,hy1⟩:=Hk hy
    obtain ⟨b1,y2,rfl,hy2⟩:=Hk hy1
    obtain rfl:=N8 hy2
    obtain ⟨xs⟩:=xs
    obtain ⟨ys⟩:=ys
    simp only [Az.B6,Az.E9,Aj] at hlx hly
    obtain ⟨_,_,rfl,rfl,_,_,rfl,rfl,rfl⟩:=hlx
    obtain ⟨_,_,rfl,rfl,_,_,rfl,rfl,rfl⟩:=hly
    obtain ⟨i,_,hi,_⟩:=ty3.info
    have hc:Tryz.prog.cellsOf 3=1:=by kernel_rfl
    unfold Op.equal Op.maxDepth
    rw [run_equalIn_array w 9999 _ _ Tryz.underlying188 hi,hc]
    simp [Op.eqItems,List.range,List.range.loop,Jp w ty3 rfl,run_equalIn_int w _ _ _ _ _ _ Tryz.underlying3,Wt,U7]
    by_cases h0:a0=b0<;>by_cases h1:a1=b1<;>simp [h0,h1]
def Bc (Ba:Nat→Option Entry) (adopt:Nat→Bool) (hint:Nat→Option A6) (live:Nat→Option (List Nat)):Env:={ ty:=Agh tys,Ba:=Ba,ext:=Aar exts,eqs:=fun t=>Ju t Aoa,adopt:=adopt,live:=live,hint:=hint }
theorem A0 {l:List (Nat × Entry)} (h:Ax Tryz.prog l) (adopt:Nat→Bool) (hint:Nat→Option A6) (live:Nat→Option (List Nat)):Hq Tryz.prog (Bc (A9 l) adopt hint live) where
  ty:=fun t ti ht=>Amx.get ht
  Ba:=fun g e hg=>(h.get hg).meets
  call:=fun g e hg=>(h.get hg).call
  ext:=by
    intro g x hx args w
    simp only [Bc,exts,Aar] at hx
    cases hb:Nat.beq 169 g with
    | true =>
      rw [hb] at hx
      cases hx
      obtain rfl:=Are hb
      exact Ais args w
    | false =>
    rw [hb,Aq0] at hx
    clear hb
    cases hb:Nat.beq 210 g with
    | true =>
      rw [hb] at hx
      cases hx
      obtain rfl:=Are hb
      exact Air args w
    | false =>
    rw [hb,Aq0] at hx
    clear hb
    cases hb:Nat.beq 263 g with
    | true =>
      rw [hb] at hx
      cases hx
      obtain rfl:=Are hb
      exact Aiq args w
    | false =>
    rw [hb,Aq0] at hx
    clear hb
    cases hb:Nat.beq 266 g with
    | true =>
      rw [hb] at hx
      cases hx
      obtain rfl:=Are hb
      exact Aip args w
    | false =>
    rw [hb,Aq0] at hx
    clear hb
    cases hx
  eqs:=by
    intro t ti ht hti
    simp only [Bc,Aoa,Ju] at ht hti
    cases hb:Nat.beq t 199 with
    | true =>
      obtain rfl:=Are hb
      cases hti
      exact Aql
    | false =>
    rw [hb,Aq0] at ht
    clear hb
    cases hb:Nat.beq t 188 with
    | true =>
      obtain rfl:=Are hb
      cases hti
      exact Aqm
    | false =>
    rw [hb,Aq0] at ht
    clear hb
    cases ht
  mixed:=by kernel_rfl
def Amn:List (Nat × Ext):=[(169,.bitsN),(210,.frombits),(263,.sqrt),(266,.sub64)]
def Amo:List (Nat × List CK)→Nat→List CK
  | [],_=>[]
  | (m,e)::l,n=>bif Nat.beq m n then e else Amo l n
def Acm (Ba:Nat→Option Entry) (adopt:Nat→Bool) (hint:Nat→Option A6) (live:Nat→Option (List Nat)) (adv:Nat→List CK):Env:={ ty:=Agh tys,Ba:=Ba,ext:=Aar Amn,eqs:=fun t=>Ju t Aoa,adopt:=adopt,live:=live,hint:=hint,adv:=adv }
theorem Alo {l:List (Nat × Entry)} (h:Ax Tryz.prog l) (adopt:Nat→Bool) (hint:Nat→Option A6) (live:Nat→Option (List Nat)) (adv:Nat→List CK):Hq Tryz.prog (Acm (A9 l) adopt hint live adv) :=
  have k:=A0 h adopt hint live
  ⟨k.ty,k.Ba,k.call,(by
    intro g x hx args w
    simp only [Acm,Amn,Aar] at hx
    cases hb:Nat.beq 169 g with
    | true =>
      rw [hb] at hx
      cases hx
      obtain rfl:=Are hb
      exact Ais args w
    | false =>
    rw [hb,Aq0] at hx
    clear hb
    cases hb:Nat.beq 210 g with
    | true =>
      rw [hb] at hx
      cases hx
      obtain rfl:=Are hb
      exact Air args w
    | false =>
    rw [hb,Aq0] at hx
    clear hb
    cases hb:Nat.beq 263 g with
    | true =>
      rw [hb] at hx
      cases hx
      obtain rfl:=Are hb
      exact Aiq args w
    | false =>
    rw [hb,Aq0] at hx
    clear hb
    cases hb:Nat.beq 266 g with
    | true =>
      rw [hb] at hx
      cases hx
      obtain rfl:=Are hb
      exact Aip args w
    | false =>
    rw [hb,Aq0] at hx
    clear hb
    cases hx),k.eqs,k.mixed,k.spoil⟩
end Go.Proofs.S1
namespace Go.Rnd
def Qe (V k:Nat):Nat:=V / 2^k+(if 2^k<2*(V%2^k)∨(2*(V%2^k)=2^k∧V / 2^k%2=1) then 1 else 0)
def Lk (V:Nat) (s:Int):Nat:=Qe (V*2^(-s).toNat) s.toNat
def K6 (V:Nat) (s:Int):Bool:=decide (V*2^(-s).toNat%2^s.toNat=0)
def Dn (M:Nat) (E:Int):Int:=max (E+M.log2-52) (-1074)
def kept (M:Nat) (E:Int):Nat:=Lk M (Dn M E-E)
def G5:Nat:=2047*2^52
def Ch (M:Nat) (E:Int):Nat:=if M=0 then 0 else min ((Dn M E+1074).toNat*2^52+kept M E) G5
def exact (M:Nat) (E:Int):Bool:=K6 M (Dn M E-E)
def flags (r:Nat) (ex:Bool):Nat:=if r=G5 then 5 else if ex then 0 else if 2^52≤r then 1 else 3
def flagsOf (M:Nat) (E:Int):Nat:=if M=0 then 0 else flags (Ch M E) (exact M E)
theorem Cd (k:Nat):0<2^k:=Nat.pow_pos (by decide)
theorem V9 (V:Nat):Qe V 0=V:=by
  unfold Qe; simp [Nat.mod_one]
theorem Zq (V a k:Nat):Qe (V*2^a) (a+k)=Qe V k:=by
  unfold Qe
  have hA:=Cd a
  have e:2^(a+k)=2^a*2^k:=Nat.pow_add 2 a k
  have hd:V*2^a / 2^(a+k)=V / 2^k:=by
    rw [e,Nat.mul_comm V,Nat.mul_div_mul_left _ _ hA]
  have hm:V*2^a%2^(a+k)=2^a*(V%2^k):=by
    rw [e,Nat.mul_comm V,Nat.mul_mod_mul_left]
  rw [hd,hm,e]
  have h1:(2^a*2^k<2*(2^a*(V%2^k)))↔(2^k<2*(V%2^k)):=by
    rw [Nat.mul_left_comm 2]
    exact Nat.mul_lt_mul_left hA
  have h2:(2*(2^a*(V%2^k))=2^a*2^k)↔(2*(V%2^k)=2^k):=by
    rw [Nat.mul_left_comm 2]
    exact Nat.mul_right_inj (by omega)
  simp only [h1,h2]
theorem mod_mul (V a k:Nat):(V*2^a%2^(a+k)=0)↔(V%2^k=0):=by
  have hA:=Cd a
  rw [Nat.pow_add,Nat.mul_comm V,Nat.mul_mod_mul_left]
  constructor
  · intro h
    rcases Nat.mul_eq_zero.1 h with h | h
    · omega
    · exact h
  · intro h; rw [h]; rfl
theorem Sf (V k:Nat) (s:Int):Lk (V*2^k) (s+k)=Lk V s∧K6 (V*2^k) (s+k)=K6 V s:=by
  unfold Lk K6
  by_cases h0:0≤s
  · have e1:(-(s+k)).toNat=0:=by omega
    have e2:(-s).toNat=0:=by omega
    have e3:(s+k).toNat=k+s.toNat:=by omega
    rw [e1,e2,e3,Nat.pow_zero,Nat.mul_one,Nat.mul_one]
    exact ⟨Zq V k _,by simp only [mod_mul]⟩
  · by_cases h1:0≤s+k
    · have e1:(-(s+k)).toNat=0:=by omega
      have e2:s.toNat=0:=by omega
      have e3:k=(s+k).toNat+(-s).toNat:=by omega
      rw [e1,e2,Nat.pow_zero,Nat.mul_one]
      have e4:V*2^k=V*2^(-s).toNat*2^(s+k).toNat:=by
        rw [Nat.mul_assoc,← Nat.pow_add,Nat.add_comm (-s).toNat,← e3]
      rw [e4]
      refine ⟨?_,?_⟩
      · have:=Zq (V*2^(-s).toNat) (s+k).toNat 0
        rw [Nat.add_zero] at this; exact this
      · have:=mod_mul (V*2^(-s).toNat) (s+k).toNat 0
        rw [Nat.add_zero,Nat.pow_zero] at this
        simp only [this]
    · have e1:(s+k).toNat=0:=by omega
      have e2:s.toNat=0:=by omega
      have e3:(-s).toNat=k+(-(s+k)).toNat:=by omega
      rw [e1,e2,e3,Nat.pow_add,Nat.mul_assoc]
      exact ⟨rfl,rfl⟩
theorem Ul (M k:Nat) (hM:M≠0):(M*2^k).log2=M.log2+k:=by
  have hk:=Cd k
  have hne:M*2^k≠0:=by
    intro h
    rcases Nat.mul_eq_zero.1 h with h | h<;>omega
  have h1:=Nat.log2_self_le hM
  have h2:=Nat.lt_log2_self (n:=M)
  have a:M.log2+k≤(M*2^k).log2:=by
    rw [Nat.le_log2 hne,Nat.pow_add]
    exact Aq8 _ h1
  have b:(M*2^k).log2<M.log2+k+1:=by
    rw [Nat.log2_lt hne,Nat.add_right_comm,Nat.pow_add]
    exact (Nat.mul_lt_mul_right hk).2 h2
  omega
theorem X4 {n a:Nat} (h1:2^a≤n) (h2:n<2^(a+1)):n.log2=a:=by
  have:=Cd a
  have hn:n≠0:=by omega
  have b1:=(Nat.le_log2 hn).2 h1
  have b2:=(Nat.log2_lt hn).2 h2
  omega
theorem Ace (M k:Nat) (E:Int) (hM:M≠0):Dn (M*2^k) (E-k)=Dn M E:=by
  unfold Dn; rw [Ul M k hM]; congr 1; omega
theorem Mb {M k:Nat} (hM:M≠0):M*2^k≠0:=by
  have:=Cd k
  intro h
  rcases Nat.mul_eq_zero.1 h with h | h<;>omega
theorem Eg (M k:Nat) (E:Int):Ch (M*2^k) (E-k)=Ch M E∧flagsOf (M*2^k) (E-k)=flagsOf M E:=by
  by_cases hM:M=0
  · subst hM; simp [Ch,flagsOf]
  · have hl:=Ace M k E hM
    have e:Dn M E-(E-k)=Dn M E-E+k:=by omega
    have h1:Ch (M*2^k) (E-k)=Ch M E:=by
      unfold Ch kept
      rw [if_neg (Mb hM),if_neg hM,hl,e,(Sf M k _).1]
    refine ⟨h1,?_⟩
    unfold flagsOf
    rw [if_neg (Mb hM),if_neg hM,h1]
    unfold exact
    rw [hl,e,(Sf M k _).2]
theorem Ag4 {V s d k:Nat} (hs:s%2=1) (h1:(s-1)*2^d<V) (h2:V<(s+1)*2^d) (hk:2≤k) :
    Qe V (d+k)=Qe s k∧V%2^(d+k)≠0∧s%2^k≠0:=by
  have hA:=Cd d
  obtain ⟨j,rfl⟩:∃ j,k=j+2:=⟨k-2,by omega⟩
  have hB:2^(j+2)=4*2^j:=by rw [Nat.pow_add]; omega
  have hBp:=Cd (j+2)
  have hC:=Cd j
  have hsd:=Nat.div_add_mod s (2^(j+2))
  have hr2:s%2^(j+2)%2=1:=by
    rw [hB,show 4*2^j=2*(2*2^j) by omega,Nat.mod_mul_right_mod]; exact hs
  have hrlt:=Nat.mod_lt s hBp
  generalize hq:s / 2^(j+2)=q at *
  generalize hr:s%2^(j+2)=r at *
  have hAB:2^(d+(j+2))=2^d*2^(j+2):=Nat.pow_add 2 d (j+2)
  generalize hBB:2^(j+2)=b at *
  generalize hAA:2^d=a at *
  have e1:(s-1)*a=q*(a*b)+(r-1)*a:=by
    have:s-1=b*q+(r-1):=by omega
    rw [this,Nat.add_mul,Nat.mul_comm b q,Nat.mul_assoc,Nat.mul_comm b a]
  have e2:(s+1)*a=q*(a*b)+(r+1)*a:=by
    have:s+1=b*q+(r+1):=by omega
    rw [this,Nat.add_mul,Nat.mul_comm b q,Nat.mul_assoc,Nat.mul_comm b a]
  have e3:(r+1)*a≤b*a:=Aq8 a (by omega)
  rw [Nat.mul_comm b a] at e3
  rw [e1] at h1
  rw [e2] at h2
  have hdiv:V / (a*b)=q:=Nat.div_eq_of_lt_le (by omega) (by rw [Nat.add_mul]; omega)
  have hmod:V%(a*b)=V-q*(a*b):=by
    have:=Nat.div_add_mod V (a*b)
    rw [hdiv,Nat.mul_comm (a*b) q] at this; omega
  have hb2:b=2*(2*2^j):=by omega
  generalize hc:2^j=c at *
  have hR1:(r-1)*a<V-q*(a*b):=by omega
  have hR2:V-q*(a*b)<(r+1)*a:=by omega
  generalize hR:V-q*(a*b)=R at *
  have hab:a*b=2*(2*c*a):=by rw [hb2,Nat.mul_comm a,Nat.mul_assoc]
  have key:(a*b<2*R∨(2*R=a*b∧q%2=1))↔(b<2*r∨(2*r=b∧q%2=1)):=by
    rw [hab,hb2]
    rcases Nat.lt_or_ge r (2*c) with hlt | hge
    · have:(r+1)*a≤2*c*a:=Aq8 a (by omega)
      constructor<;>(intro h; omega)
    · have hgt:2*c+1≤r:=by omega
      have:2*c*a≤(r-1)*a:=Aq8 a (by omega)
      constructor
      · intro _; left; omega
      · intro _; left; omega
  refine ⟨?_,?_,?_⟩
  · unfold Qe
    rw [hAB,hdiv,hmod,hBB,hq,hr]
    simp only [key]
  · rw [hAB,hmod]
    have:=Nat.zero_le ((r-1)*a)
    omega
  · omega
theorem Nc {V s d:Nat} {E:Int} (hs:s%2=1) (h1:(s-1)*2^d<V) (h2:V<(s+1)*2^d) (hl:Dn V E=Dn s (E+d)) (hk:E+d+2≤Dn s (E+d)) :
    Ch V E=Ch s (E+d)∧flagsOf V E=flagsOf s (E+d):=by
  have hV:V≠0:=by omega
  have hs0:s≠0:=by omega
  generalize hL:Dn s (E+d)=L at *
  obtain ⟨k,hk2⟩:∃ k:Nat,L-(E+d)=k+2:=⟨(L-(E+d)-2).toNat,by omega⟩
  obtain ⟨a1,a2,a3⟩:=Ag4 (k:=k+2) hs h1 h2 (by omega)
  have e1:(L-E).toNat=d+(k+2):=by omega
  have e2:(-(L-E)).toNat=0:=by omega
  have e3:(L-(E+d)).toNat=k+2:=by omega
  have e4:(-(L-(E+d))).toNat=0:=by omega
  have hr:Ch V E=Ch s (E+d):=by
    unfold Ch kept Lk
    rw [if_neg hV,if_neg hs0,hl,hL,e1,e2,e3,e4]
    simp only [Nat.pow_zero,Nat.mul_one]
    rw [a1]
  refine ⟨hr,?_⟩
  unfold flagsOf exact K6
  rw [if_neg hV,if_neg hs0,hr,hl,hL,e1,e2,e3,e4]
  simp only [Nat.pow_zero,Nat.mul_one,a2,a3,decide_false]
theorem Nm {V s d:Nat} (hs:s%2=1) (hs3:3≤s) (h1:(s-1)*2^d<V) (h2:V<(s+1)*2^d):V.log2=s.log2+d:=by
  have hs0:s≠0:=by omega
  have a1:=Nat.log2_self_le hs0
  have a2:=Nat.lt_log2_self (n:=s)
  have hl:1≤s.log2:=by rw [Nat.le_log2 hs0]; omega
  obtain ⟨t,ht⟩:∃ t,s.log2=t+1:=⟨s.log2-1,by omega⟩
  rw [ht] at a1 a2 ⊢
  have ev1:2^(t+1)=2*2^t:=by rw [Nat.pow_succ]; omega
  have ev2:2^(t+1+1)=2*(2*2^t):=by rw [Nat.pow_succ,ev1]; omega
  refine X4 ?_ ?_
  · rw [Nat.pow_add]
    have:2^(t+1)*2^d≤(s-1)*2^d:=Aq8 _ (by omega)
    omega
  · have e:t+1+d+1=(t+1+1)+d:=by omega
    rw [e,Nat.pow_add]
    have:(s+1)*2^d≤2^(t+1+1)*2^d:=Aq8 _ (by omega)
    omega
end Go.Rnd
namespace Go.Rnd
def D3 (b:Nat):Bool:=decide (2^63≤b)
def Gv (b:Nat):Nat:=b / 2^52%2048
def Fc (b:Nat):Nat:=b%2^52
def As (b:Nat):Nat:=if Gv b=2047 then (if Fc b=0 then 3 else 4) else if 0<Gv b then 2 else if 0<Fc b then 1 else 0
def Lu (b:Nat):Bool:=decide (Gv b<2047)
def Pl (b:Nat):Nat:=if 2^63≤b then b-2^63 else b+2^63
def Av (b:Nat):Nat:=if Gv b=0 then Fc b else Fc b+2^52
def Be (b:Nat):Int:=if Gv b=0 then -1074 else (Gv b:Int)-1075
def Co (neg:Bool) (r:Nat):Nat:=if neg then 2^63+r else r
def H9 (neg:Bool) (m:Nat):Int:=if neg then -(m:Int) else m
def R9 (b:Nat) (e:Int):Int:=H9 (D3 b) (Av b*2^(Be b-e).toNat)
def Vw:Nat:=0x7ff8000000000000
def Pc (z:Nat) (S:Int) (e:Int):Nat × Nat :=
  if S=0 then (z,0) else (Co (decide (S<0)) (Ch S.natAbs e),flagsOf S.natAbs e)
def N1 (a b:Nat):Nat × Nat :=
  if As a=4∨As b=4 then (Vw,0)
  else if As a=3 then (if As b=3∧a≠b then (Vw,16) else (a,0))
  else if As b=3 then (b,0)
  else Pc (Co (D3 a&&D3 b) 0) (R9 a (min (Be a) (Be b))+R9 b (min (Be a) (Be b))) (min (Be a) (Be b))
def Ap5 (a b:Nat):Nat × Nat:=N1 a (Pl b)
def Fb (neg:Bool) (m:Nat) (e:Int) (more:Bool):Nat × Nat :=
  (Co neg (Ch (4*m+more.toNat) (e-2)),flagsOf (4*m+more.toNat) (e-2))
def Dd (x:Int):Bool:=D3 x.toNat
def Kb (x:Int):Int:=Gv x.toNat
def Ca (x:Int):Int:=Fc x.toNat
def A4 (x:Int):Int:=As x.toNat
def Df (x:Int):Bool:=Lu x.toNat
def Db (x:Int):Int:=Pl x.toNat
def Bf (x:Int):Int:=Av x.toNat
def Aw (x:Int):Int:=Be x.toNat
def Dz (neg:Bool) (m e:Int) (more:Bool):Int:=(Fb neg m.toNat e more).1
def Dy (neg:Bool) (m e:Int) (more:Bool):Int:=(Fb neg m.toNat e more).2
def Jm (a b:Int):Int:=(N1 a.toNat b.toNat).1
def Su (a b:Int):Int:=(N1 a.toNat b.toNat).2
def Dl (a b:Int):Int:=(Ap5 a.toNat b.toNat).1
def Ap6 (a b:Int):Int:=(Ap5 a.toNat b.toNat).2
theorem It (b:Nat):Gv b<2048:=Nat.mod_lt _ (by decide)
theorem Qx (b:Nat):Fc b<4503599627370496:=Nat.mod_lt _ (by decide)
theorem Ei (b:Nat):Av b<9007199254740992:=by
  have:=Qx b
  unfold Av; split<;>omega
theorem Ea (b:Nat):-1074≤Be b∧Be b≤972:=by
  have:=It b
  unfold Be; split<;>omega
theorem Rh {m:Nat} {e:Int} (h1:2^52≤m) (h2:m<2^53) (he:-1074≤e):Ch m e=min ((e+1074).toNat*2^52+m) G5:=by
  have hl:m.log2=52:=X4 h1 h2
  have hm:m≠0:=by omega
  have hle:Dn m e=e:=by unfold Dn; rw [hl]; omega
  unfold Ch kept
  rw [if_neg hm,hle,Int.sub_self]
  unfold Lk
  simp [V9]
theorem Zk {m:Nat} (h2:m<2^52):Ch m (-1074)=m:=by
  by_cases hm:m=0
  · subst hm; rfl
  · have hl:m.log2<52:=(Nat.log2_lt hm).2 h2
    have hle:Dn m (-1074)=-1074:=by unfold Dn; omega
    unfold Ch kept
    rw [if_neg hm,hle,Int.sub_self]
    unfold Lk G5
    simp [V9]
    omega
theorem Adb (m:Nat) (e:Int):Ch m e≤G5:=by
  unfold Ch
  split
  · exact Nat.zero_le _
  · exact Nat.min_le_right _ _
theorem Qt:G5=9218868437227405312:=rfl
theorem S4 (m:Nat) (e:Int):Ch m e<2^63:=by
  have:=Adb m e
  rw [Qt] at this
  omega
theorem P3 (n:Bool) (m:Nat) (e:Int):Co n (Ch m e)<2^64:=by
  have:=S4 m e
  unfold Co; split<;>omega
theorem Uh {r:Nat} (h:r<2^63):Pl r=2^63+r:=by
  unfold Pl; rw [if_neg (by omega)]; omega
end Go.Rnd
namespace Go.Rnd
open Go.Den
def Iu (m e:Int):Bool:=Cn (0≤m∧m≤9007199254740992∧-1074≤e∧e+m / 9007199254740992≤100000)
def L7 (m e:Int):Nat:=if 9007199254740992≤m then 1 else if m<4503599627370496 then 2+(e+1074).toNat else 0
def Qg (n:Bool) (m e:Int):Int:=Co n (Ch m.toNat e)
def Di (m e:Int) (r:Bool):Bool :=
  Cn (0≤m∧m<18446744073709551616∧e≤50000∧(-1137≤e∨(m<4611686018427387904∧-1140≤e))∧(r=true→4503599627370496≤m∨e≤-1074))
def Ep (n D:Nat):Nat:=if n%2^D=0 then n / 2^D else 2*(n / 2^D / 2)+1
def D6 (m d:Int):Int:=Ep m.toNat (min d.toNat 63)
def C4 (l:List Int):Bool:=Cn (l.length<4611686018427387904∧∀ x∈l,Ai x=true)
def Ph (x:Int):Bool:=Cn (0≤x)
theorem Ud (n:Nat):Ph (n:Int)=true:=Ao.2 (Int.natCast_nonneg n)
theorem Ue {x:Int} (h:Ph x=true):∃ n:Nat,x=n:=⟨x.toNat,by have:=Ao.1 h; omega⟩
end Go.Rnd
namespace Go.Rnd
theorem Ap9 (a c:Nat):(a+1)*c+c=a*c+(c+c):=by rw [Nat.add_mul,Nat.one_mul,Nat.add_assoc]
theorem Ape:2^52+2^52=2^53:=by decide
theorem Ap8 (a:Nat):(a+1)*2^52+2^52=a*2^52+2^53:=(Ap9 a (2^52)).trans (congrArg (fun x=>a*2^52+x) Ape)
theorem Amy:2^52*2^1=2^53:=by decide
theorem Aki {E:Int}:Ch (2^53) E=Ch (2^52) (E+1):=by
  have:=(Eg (2^52) 1 (E+1)).1
  have e1:E+1-((1:Nat):Int)=E:=by omega
  rw [e1,Amy] at this
  exact this
theorem Ag1 {E:Int} (hE:-1074≤E):Ch (2^53) E=min ((E+1074).toNat*2^52+2^53) G5:=by
  have e3:(E+1+1074).toNat=(E+1074).toNat+1:=by omega
  rw [Aki,Rh (by decide) (by decide) (by omega),e3]
  exact congrArg (fun x=>min x G5) (Ap8 _)
theorem Aeh {q:Nat} {E:Int} (h1:q≤2^53) (hE:-1074≤E) (h2:2^52≤q∨E=-1074):Ch q E=min ((E+1074).toNat*2^52+q) G5:=by
  by_cases ha:q=2^53
  · rw [ha]; exact Ag1 hE
  · by_cases hb:2^52≤q
    · exact Rh hb (by omega) hE
    · obtain rfl:E=-1074:=h2.resolve_left hb
      rw [Zk (by omega)]
      unfold G5
      simp
      omega
theorem Aen {M D s:Nat} (hs:s≤1):Qe (4*M+s) (D+2)=M / 2^D+(if 0<D∧(2^(D-1)<M%2^D∨(M%2^D=2^(D-1)∧(s=1∨M / 2^D%2=1))) then 1 else 0) ∧
    ((4*M+s)%2^(D+2)=0↔M%2^D=0∧s=0):=by
  have hp:2^(D+2)=2^D*4:=by rw [Nat.pow_add]
  have hA:=Cd D
  have hdm:=Nat.div_add_mod M (2^D)
  have hlt:=Nat.mod_lt M hA
  have hdiv:(4*M+s) / (2^D*4)=M / 2^D:=by
    rw [Nat.mul_comm (2^D) 4,← Nat.div_div_eq_div_mul]
    congr 1; omega
  have hmod:(4*M+s)%(2^D*4)=4*(M%2^D)+s:=by
    have h:=Nat.div_add_mod (4*M+s) (2^D*4)
    rw [hdiv] at h
    have e:2^D*4*(M / 2^D)=4*(2^D*(M / 2^D)):=by rw [Nat.mul_comm (2^D) 4,Nat.mul_assoc]
    rw [e] at h
    omega
  unfold Qe
  rw [hp,hdiv,hmod]
  generalize M%2^D=r at *
  generalize M / 2^D=q at *
  refine ⟨?_,by omega⟩
  congr 1
  have key:(2^D*4<2*(4*r+s)∨2*(4*r+s)=2^D*4∧q%2=1)↔(0<D∧(2^(D-1)<r∨(r=2^(D-1)∧(s=1∨q%2=1)))):=by
    cases D with
    | zero=>simp only [Nat.pow_zero] at hlt ⊢; omega
    | succ d =>
      rw [Nat.pow_succ] at hlt ⊢
      simp only [Nat.add_sub_cancel]
      generalize 2^d=c at *
      omega
  simp only [key]
structure Drop (M:Nat) (e:Int) (D:Nat):Prop where
  le:D≤63
  stop:D<63→M / 2^D<2^53∧-1074≤e+D
  least:∀ d,d<D→2^53≤M / 2^d∨e+d < -1074
def Zs (M D s:Nat):Nat:=M / 2^D+(if 0<D∧(2^(D-1)<M%2^D∨(M%2^D=2^(D-1)∧(s=1∨M / 2^D%2=1))) then 1 else 0)
theorem Ag7 {M D s:Nat} (h:M / 2^D<2^53):Zs M D s≤2^53:=by
  unfold Zs; split<;>omega
theorem Ag8 {M D s:Nat}:M / 2^D≤Zs M D s:=by unfold Zs; omega
theorem Aod {M D:Nat} {c:Nat} (h:M / 2^D<c):M<c*2^D:=(Nat.div_lt_iff_lt_mul (Cd D)).1 h
theorem Aia {M D:Nat} {c:Nat} (h:c≤M / 2^D):c*2^D≤M:=(Nat.le_div_iff_mul_le (Cd D)).1 h
theorem Uu {V:Nat} {E L:Int} (h:(E+V.log2-52=L∧-1074≤L)∨(E+V.log2-52≤L∧L=-1074)):Dn V E=L:=by unfold Dn; omega
theorem Ae9 {M s:Nat} (hs:s≤1) (hM:M≠0):(4*M+s).log2=M.log2+2:=by
  have h1:=Nat.log2_self_le hM
  have h2:=Nat.lt_log2_self (n:=M)
  refine X4 ?_ ?_
  · rw [Nat.pow_add]; omega
  · have e:2^(M.log2+2+1)=2^(M.log2+1)*4:=by rw [show M.log2+2+1=M.log2+1+2 by omega,Nat.pow_add]
    omega
theorem Ae1 {M D s:Nat} {e:Int} (hD:Drop M e D) (hs:s≤1) (hV:4*M+s≠0) (hM:M<2^64) (he:-1137≤e∨(M<2^62∧-1140≤e)) (hr:s=1→2^52≤M∨e≤-1074) :
    Ch (4*M+s) (e-2)=Ch (if e+D < -1074 then 0 else Zs M D s) (max (e+D) (-1074)) ∧
    flagsOf (4*M+s) (e-2)=flags (Ch (4*M+s) (e-2)) (decide (M%2^D=0∧s=0)) ∧
    (if e+D < -1074 then 0 else Zs M D s)≤2^53:=by
  have hA:=Cd D
  by_cases hlow:e+D < -1074
  ·
    have hD63:D=63:=by
      rcases Nat.lt_or_ge D 63 with h | h
      · have:=(hD.stop h).2; omega
      · have:=hD.le; omega
    subst hD63
    have hM62:M<2^62:=by rcases he with h | h; omega; exact h.1
    have he2:-1140≤e:=by rcases he with h | h; omega; exact h.2
    have hV64:4*M+s<2^64:=by omega
    have hlog:(4*M+s).log2<64:=(Nat.log2_lt hV).2 hV64
    have hl:Dn (4*M+s) (e-2)=-1074:=Uu (.inr ⟨by omega,rfl⟩)
    obtain ⟨k,hk⟩:∃ k:Nat,(-1074-(e-2)).toNat=66+k:=⟨(-1074-(e-2)).toNat-66,by omega⟩
    have e2:(-(-1074-(e-2))).toNat=0:=by omega
    have hp:2^66≤2^(66+k):=Arb (by decide) (by omega)
    have hsm:4*M+s<2^(66+k):=by omega
    have hz:Lk (4*M+s) (-1074-(e-2))=0:=by
      unfold Lk Qe
      rw [e2,hk,Nat.pow_zero,Nat.mul_one,Nat.div_eq_of_lt hsm,Aq9 hsm,if_neg (by omega)]
    have hru:Ch (4*M+s) (e-2)=0:=by
      unfold Ch kept
      rw [if_neg hV,hl,hz]
      simp
    refine ⟨?_,?_,?_⟩
    · rw [hru,if_pos hlow]; rfl
    · unfold flagsOf exact K6
      rw [if_neg hV,hl,e2,hk,Nat.pow_zero,Nat.mul_one,Aq9 hsm]
      congr 1
      have h63:M%2^63=M:=Aq9 (by omega)
      rw [h63,Arc]
      simp only [Aq3]
      omega
    · rw [if_pos hlow]; exact Nat.zero_le _
  · have hmax:max (e+D) (-1074)=e+D:=by omega
    have hq:M / 2^D<2^53:=by
      rcases Nat.lt_or_ge D 63 with h | h
      · exact (hD.stop h).1
      · have:D=63:=by have:=hD.le; omega
        subst this
        exact Nat.lt_of_le_of_lt (Nat.div_le_of_le_mul (show M≤2^63*2 by omega)) (by decide)
    obtain ⟨c1,c2⟩:=Aen (M:=M) (D:=D) hs
    rw [if_neg hlow,hmax]
    refine ⟨?_,?_,Ag7 hq⟩
    all_goals
      by_cases hD0:D=0∧s=0
      · obtain ⟨rfl,rfl⟩:=hD0
        have hM0:M≠0:=by omega
        obtain ⟨s1,s2⟩:=Eg M 2 e
        have e1:M*2^2=4*M+0:=by omega
        have e2:e-((2:Nat):Int)=e-2:=by omega
        rw [e1,e2] at s1 s2
        have hq0:Zs M 0 0=M:=by unfold Zs; simp
        have hle:Dn M e≤e:=by
          have:M.log2<53:=(Nat.log2_lt hM0).2 (by simpa using hq)
          unfold Dn; simp only [Int.natCast_zero,Int.add_zero] at hlow; omega
        first
        | (rw [s1,hq0]; simp; done)
        | (rw [s2,s1]
           unfold flagsOf exact K6
           have z:(Dn M e-e).toNat=0:=by omega
           rw [if_neg hM0,z]
           simp [Nat.mod_one])
      ·
        have hl:Dn (4*M+s) (e-2)=e+D:=by
          by_cases hM0:M=0
          · subst hM0
            have hs1:s=1:=by omega
            subst hs1
            have hle:e+D=-1074:=by
              rcases Nat.eq_zero_or_pos D with rfl | hpos
              · have:=hr rfl; omega
              · have h:=hD.least (D-1) (by omega)
                simp only [Nat.zero_div] at h
                omega
            refine Uu (.inr ⟨?_,hle⟩)
            have:(4*0+1:Nat).log2=0:=by decide
            rw [this]; omega
          · have hlog:=Ae9 hs hM0
            have hub:M.log2<53+D:=by
              rw [Nat.log2_lt hM0,Nat.pow_add]; exact Aod hq
            have hcase:52+D≤M.log2∨e+D=-1074:=by
              rcases Nat.eq_zero_or_pos D with rfl | hpos
              · have hs1:s=1:=by omega
                rcases hr hs1 with h | h
                · left; rw [Nat.le_log2 hM0]; simpa using h
                · right; simp only [Int.natCast_zero,Int.add_zero] at hlow ⊢; omega
              · rcases hD.least (D-1) (by omega) with h | h
                · left
                  rw [Nat.le_log2 hM0]
                  have:=Aia h
                  have e1:2^(52+D)=2^53*2^(D-1):=by rw [← Nat.pow_add]; congr 1; omega
                  rw [e1]; exact this
                · right; omega
            refine Uu ?_
            rw [hlog]
            rcases hcase with h | h
            · left; omega
            · right; omega
        have e1:(e+D-(e-2)).toNat=D+2:=by omega
        have e2:(-(e+(D:Int)-(e-2))).toNat=0:=by omega
        have hkept:kept (4*M+s) (e-2)=Zs M D s:=by
          unfold kept Lk
          rw [hl,e1,e2,Nat.pow_zero,Nat.mul_one,c1]; rfl
        first
        | (have hbig:2^52≤Zs M D s∨e+D=-1074:=by
             rcases Nat.eq_zero_or_pos D with rfl | hpos
             · have hs1:s=1:=by omega
               rcases hr hs1 with h | h
               · left; exact Nat.le_trans (by simpa using h) Ag8
               · right; simp only [Int.natCast_zero,Int.add_zero] at hlow ⊢; omega
             · rcases hD.least (D-1) (by omega) with h | h
               · left
                 refine Nat.le_trans ?_ Ag8
                 rw [Nat.le_div_iff_mul_le hA]
                 have:=Aia h
                 have e1:2^52*2^D=2^53*2^(D-1):=by rw [← Nat.pow_add,← Nat.pow_add]; congr 1; omega
                 rw [e1]; exact this
               · right; omega
           rw [Aeh (Ag7 hq) (by omega) hbig]
           unfold Ch
           rw [if_neg hV,hl,hkept]; done)
        | (unfold flagsOf exact K6
           rw [if_neg hV,hl,e1,e2,Nat.pow_zero,Nat.mul_one]
           congr 1
           rw [Arc]
           simp only [Aq3]
           exact c2)
theorem Aeq (n:Bool) {r:Nat} (h:r<2^63):Gv (Co n r)=r / 2^52:=by
  unfold Gv Co; cases n
  · simp only [Bool.false_eq_true,if_false]; omega
  · simp only [if_true]; omega
theorem Ach (n:Bool) (r:Nat):Fc (Co n r)=r%2^52:=by
  unfold Fc Co; cases n
  · rfl
  · simp only [if_true]; omega
theorem Afd (n:Bool) {r:Nat} (h:r≤G5):As (Co n r)=if r=G5 then 3 else if 2^52≤r then 2 else if 0<r then 1 else 0:=by
  rw [Qt] at *
  unfold As
  rw [Aeq n (by omega),Ach]
  by_cases h1:r=9218868437227405312
  · subst h1; simp
  · rw [if_neg h1,if_neg (by omega)]
    by_cases h2:2^52≤r
    · rw [if_pos h2,if_pos (by omega)]
    · rw [if_neg h2,if_neg (by omega)]
      by_cases h3:0<r
      · rw [if_pos h3,if_pos (by omega)]
      · rw [if_neg h3,if_neg (by omega)]
end Go.Rnd
namespace Go.Rnd
open Ieee
theorem Acf (b:Nat):(Gv b=2047∧Fc b=0∧As b=3)∨(Gv b=2047∧Fc b≠0∧As b=4)∨(Gv b<2047∧As b≠3∧As b≠4):=by
  have:=It b
  unfold As
  by_cases h1:Gv b=2047
  · by_cases h2:Fc b=0<;>simp [h1,h2]
  · refine .inr (.inr ⟨by omega,?_⟩)
    rw [if_neg h1]
    split
    · decide
    · split<;>decide
end Go.Rnd
namespace Go.Rnd
open Ieee
def Uw (b:Nat):Int:=H9 (D3 b) (b%2^63)
end Go.Rnd
namespace Go.Rnd
def Vo (a b:Nat):Nat × Nat :=
  if As a=4∨As b=4 then (Vw,0)
  else if As a=3∨As b=3 then (if As a=0∨As b=0 then (Vw,16) else (Co (D3 a !=D3 b) G5,0))
  else (Co (D3 a !=D3 b) (Ch (Av a*Av b) (Be a+Be b)),flagsOf (Av a*Av b) (Be a+Be b))
def Fl (X Y K:Nat):Nat:=2*(X*2^K / Y)+(if X*2^K%Y=0 then 0 else 1)
def Aco (a b:Nat):Nat × Nat :=
  if As a=4∨As b=4 then (Vw,0)
  else if As a=As b∧(As a=3∨As a=0) then (Vw,16)
  else if As a=3 then (Co (D3 a !=D3 b) G5,0)
  else if As b=3∨As a=0 then (Co (D3 a !=D3 b) 0,0)
  else if As b=0 then (Co (D3 a !=D3 b) G5,8)
  else (Co (D3 a !=D3 b) (Ch (Fl (Av a) (Av b) 120) (Be a-Be b-121)),flagsOf (Fl (Av a) (Av b) 120) (Be a-Be b-121))
theorem Ab0 {V k:Nat} {E:Int} (hm:1≤V / 2^k) (hc:2^53≤V / 2^k∨E+k+1≤-1074) :
    Ch (4*(V / 2^k)+(if V%2^k=0 then 0 else 1)) (E+k-2)=Ch V E∧flagsOf (4*(V / 2^k)+(if V%2^k=0 then 0 else 1)) (E+k-2)=flagsOf V E:=by
  have hA:=Cd k
  have h1:=Nat.div_add_mod V (2^k)
  have h2:=Nat.mod_lt V hA
  generalize hq:V / 2^k=q at *
  generalize hr:V%2^k=r at *
  by_cases h0:r=0
  · rw [if_pos h0]
    obtain ⟨a1,a2⟩:=Eg q k (E+k)
    obtain ⟨b1,b2⟩:=Eg q 2 (E+k)
    have e1:E+(k:Int)-k=E:=by omega
    have e2:V=q*2^k:=by rw [Nat.mul_comm]; omega
    have e3:q*2^2=4*q+0:=by omega
    have e4:E+(k:Int)-((2:Nat):Int)=E+k-2:=by omega
    rw [e1,← e2] at a1 a2
    rw [e3,e4] at b1 b2
    rw [a1,a2,b1,b2]
    exact ⟨rfl,rfl⟩
  · rw [if_neg h0]
    obtain ⟨d,rfl⟩:∃ d,k=d+1:=by
      cases k with
      | zero=>simp only [Nat.pow_zero] at h2; omega
      | succ d=>exact ⟨d,rfl⟩
    have hD:2^(d+1)=2*2^d:=by rw [Nat.pow_succ]; omega
    rw [hD] at h1 h2
    generalize hc2:2^d=c at *
    have p1:(2*q+1-1)*c=2*c*q:=by rw [Nat.add_sub_cancel,Nat.mul_comm,Nat.mul_left_comm,Nat.mul_assoc]
    have p2:(2*q+1+1)*c=2*c*q+2*c:=by
      rw [show 2*q+1+1=2*(q+1) by omega,Nat.mul_assoc,Nat.add_mul,Nat.mul_add,Nat.mul_comm q c,Nat.mul_assoc]; omega
    have lt1:(2*q+1-1)*2^d<V:=by rw [hc2,p1]; omega
    have lt2:V<(2*q+1+1)*2^d:=by rw [hc2,p2]; omega
    have od:(2*q+1)%2=1:=by omega
    have lV:=Nm od (by omega) lt1 lt2
    have l4:(4*q+1).log2=(2*q+1).log2+1:=Nm (d:=1) od (by omega) (by omega) (by omega)
    have hs:(2*q+1).log2≥54∨E+d+2≤-1074:=by
      rcases hc with h | h
      · left; rw [ge_iff_le,Nat.le_log2 (by omega)]; omega
      · right; omega
    have hk:E+d+2≤Dn (2*q+1) (E+d):=by unfold Dn; omega
    obtain ⟨a1,a2⟩:=Nc (E:=E) od lt1 lt2 (by unfold Dn; rw [lV]; omega) hk
    have ee:E+((d+1:Nat):Int)-2+((1:Nat):Int)=E+d:=by omega
    obtain ⟨b1,b2⟩:=Nc (V:=4*q+1) (d:=1) (E:=E+((d+1:Nat):Int)-2) od (by omega) (by omega) (by unfold Dn; rw [l4]; omega) (by rw [ee]; unfold Dn; omega)
    rw [ee] at b1 b2
    rw [a1,a2,b1,b2]
    exact ⟨rfl,rfl⟩
theorem Qo (n:Bool) {V k:Nat} {E e:Int} {s:Bool} (he:e=E+k) (hs:s=decide (V%2^k≠0)) (hm:1≤V / 2^k) (hc:2^53≤V / 2^k∨E+k+1≤-1074) :
    Fb n (V / 2^k) e s=(Co n (Ch V E),flagsOf V E):=by
  obtain ⟨a,b⟩:=Ab0 hm hc
  have e1:s.toNat=if V%2^k=0 then 0 else 1:=by
    rw [hs]
    by_cases h:V%2^k=0
    · rw [Aq1 (by omega),if_pos h]; rfl
    · rw [Aqx h,if_neg h]; rfl
  unfold Fb
  rw [he,e1,a,b]
theorem Tu {X Y K:Nat} (d:Nat) (E:Int) (hY:0<Y) (h:2^53≤X*2^K / Y) :
    Ch (Fl X Y (K+d)) (E-d)=Ch (Fl X Y K) E∧flagsOf (Fl X Y (K+d)) (E-d)=flagsOf (Fl X Y K) E:=by
  have hA:=Cd d
  unfold Fl
  have e:X*2^(K+d)=X*2^K*2^d:=by rw [Nat.pow_add,Nat.mul_assoc]
  rw [e]
  generalize X*2^K=Z at *
  have h1:=Nat.div_add_mod Z Y
  have h2:=Nat.mod_lt Z hY
  by_cases h0:Z%Y=0
  · obtain ⟨q,rfl⟩:=Nat.dvd_of_mod_eq_zero h0
    have e1:Y*q*2^d=Y*(q*2^d):=Nat.mul_assoc _ _ _
    rw [e1,Nat.mul_mod_right,Nat.mul_mod_right,Nat.mul_div_cancel_left _ hY,Nat.mul_div_cancel_left _ hY,if_pos rfl]
    have:=Eg (2*q+0) d E
    rw [show (2*q+0)*2^d=2*(q*2^d)+0 by rw [Nat.add_zero,Nat.add_zero,Nat.mul_assoc]] at this
    exact this
  · have h3:=Nat.div_add_mod (Z*2^d) Y
    have h4:=Nat.mod_lt (Z*2^d) hY
    rw [if_neg h0]
    generalize hq:Z / Y=q at *
    generalize hr:Z%Y=r at *
    generalize hc:2^d=c at *
    have hz:Z*c=Y*(q*c)+r*c:=by rw [← h1,Nat.add_mul,Nat.mul_assoc]
    have hrc:r*c<Y*c:=(Nat.mul_lt_mul_right hA).2 h2
    have hrc0:0<r*c:=Nat.mul_pos (by omega) hA
    have q1:q*c≤Z*c / Y:=by rw [Nat.le_div_iff_mul_le hY,Nat.mul_comm (q*c)]; omega
    have q2:Z*c / Y<(q+1)*c:=by
      rw [Nat.div_lt_iff_lt_mul hY,Nat.add_mul,Nat.add_mul,Nat.one_mul,Nat.mul_comm (q*c),Nat.mul_comm c Y]; omega
    have q3:Z*c / Y=q*c→Z*c%Y≠0:=fun h5 h6=>by rw [h5,h6] at h3; omega
    generalize hQ:Z*c / Y=Q at *
    have p1:(2*q+1-1)*c=2*(q*c):=by rw [Nat.add_sub_cancel,Nat.mul_assoc]
    have p2:(2*q+1+1)*c=2*((q+1)*c):=by rw [show 2*q+1+1=2*(q+1) by omega,Nat.mul_assoc]
    have od:(2*q+1)%2=1:=by omega
    generalize hV:2*Q+(if Z*c%Y=0 then 0 else 1)=V
    have v1:(2*q+1-1)*2^d<V:=by
      rw [hc,p1,← hV]
      by_cases h5:Q=q*c
      · rw [if_neg (q3 h5)]; omega
      · split<;>omega
    have v2:V<(2*q+1+1)*2^d:=by
      rw [hc,p2,← hV]
      split<;>omega
    have lV:=Nm od (by omega) v1 v2
    have hs:54≤(2*q+1).log2:=by rw [Nat.le_log2 (by omega)]; omega
    have ee:E-(d:Int)+d=E:=by omega
    have:=Nc (E:=E-d) od v1 v2 (by unfold Dn; rw [lV]; omega) (by unfold Dn; omega)
    rw [ee] at this
    exact this
theorem Abg {X Y K L:Nat} {E F:Int} (hY:0<Y) (h1:2^53≤X*2^K / Y) (h2:2^53≤X*2^L / Y) (he:E+K=F+L) :
    Ch (Fl X Y K) E=Ch (Fl X Y L) F∧flagsOf (Fl X Y K) E=flagsOf (Fl X Y L) F:=by
  rcases Nat.le_total K L with h | h
  · obtain ⟨d,rfl⟩:=Nat.exists_eq_add_of_le h
    have:=Tu d E hY h1
    rw [show E-(d:Int)=F by omega] at this
    exact ⟨this.1.symm,this.2.symm⟩
  · obtain ⟨d,rfl⟩:=Nat.exists_eq_add_of_le h
    have:=Tu d F hY h2
    rw [show F-(d:Int)=E by omega] at this
    exact this
theorem Abh (X Y a K:Nat):Fl (X*2^a) Y K=Fl X Y (K+a):=by
  unfold Fl
  have:X*2^a*2^K=X*2^(K+a):=by rw [Nat.mul_assoc,← Nat.pow_add,Nat.add_comm a K]
  rw [this]
theorem Y6 (X Y b K:Nat):Fl X (Y*2^b) (K+b)=Fl X Y K:=by
  have hp:=Cd b
  unfold Fl
  have:X*2^(K+b)=X*2^K*2^b:=by rw [Nat.pow_add,Nat.mul_assoc]
  rw [this,Nat.mul_div_mul_right _ _ hp,Nat.mul_mod_mul_right]
  have:(X*2^K%Y*2^b=0)↔(X*2^K%Y=0):=by
    constructor
    · intro h
      rcases Nat.mul_eq_zero.1 h with h | h
      · exact h
      · omega
    · intro h; rw [h,Nat.zero_mul]
  simp only [this]
theorem Anj {X Y K t:Nat} (hX:0<X) (hY0:0<Y) (hY:Y<2^t) (hK:53+t≤K):2^53≤X*2^K / Y:=by
  rw [Nat.le_div_iff_mul_le hY0]
  have h1:2^53*Y≤2^53*2^t:=Nat.mul_le_mul_left _ (by omega)
  have h2:2^(53+t)≤2^K:=Arb (by decide) hK
  have h3:1*2^K≤X*2^K:=Aq8 _ (by omega)
  rw [Nat.pow_add] at h2
  omega
theorem Ae2 (n:Bool) {X Y K:Nat} {e E:Int} {s:Bool} (hs:s=decide (X*2^K%Y≠0)) (he:E=e-1) (hq:2^53≤X*2^K / Y) :
    Fb n (X*2^K / Y) e s=(Co n (Ch (Fl X Y K) E),flagsOf (Fl X Y K) E):=by
  have e1:Fl X Y K / 2^1=X*2^K / Y:=by
    unfold Fl
    split<;>omega
  have e2:decide (Fl X Y K%2^1≠0)=decide (X*2^K%Y≠0):=by
    unfold Fl
    by_cases h:X*2^K%Y=0
    · rw [if_pos h,Aq1 (by omega),Aq1 (by omega)]
    · rw [if_neg h,Aqx (by omega),Aqx h]
  have:=Qo n (V:=Fl X Y K) (k:=1) (E:=E) (e:=e) (s:=s) (by omega) (by rw [e2]; exact hs) (by omega) (.inl (by omega))
  rw [e1] at this
  exact this
end Go.Rnd
namespace Go.Rnd
open Go.Den
def Bq:List Int→Nat
  | []=>0
  | x::l=>x.toNat+4294967296*Bq l
def digits:Nat→Nat→List Int
  | 0,_=>[]
  | k+1,v=>((v%4294967296:Nat):Int)::digits k (v / 4294967296)
def C9 (n:Nat):Nat:=if n=0 then 0 else n.log2 / 32+1
def Mt (n:Nat):List Int:=digits (C9 n) n
def Ag (v:Int):List Int:=Mt v.natAbs
def Ar (v:Int):Bool:=decide (v<0)
def wv (n:Bool) (l:List Int):Int:=H9 n (Bq l)
def Qu (l:List Int):Prop:=∀ x∈l,0≤x∧x<4294967296
def E5 (l:List Int):Bool:=Cn (l.length<1073741824∧Qu l)
def Jr (n:Bool) (l:List Int):Bool:=Cn (l.length<268435456∧l=Mt (Bq l)∧(n=true→l≠[]))
def Vn (n:Bool) (l:List Int):Bool:=Cn (l.length<134217728∧l=Mt (Bq l)∧(n=true→l≠[]))
def Anq (k:Int):Bool:=Cn (-1000000≤k∧k≤1000000)
def Adq (k:Int):Bool:=Cn (-9223372036854775808≤k∧k≤9223372036854775807)
def Ft (l:List Int) (i:Int):Int:=if 0≤i then l.getD i.toNat 0 else 0
def G0 (a b:List Int):List Int:=digits (max a.length b.length+1) (Bq a+Bq b)
def F1 (a b:List Int):List Int:=digits a.length (Bq a-Bq b)
def leL (a b:List Int):Bool:=Cn (Bq a≤Bq b)
def R1 (a b:Nat):Int:=if a<b then -1 else if b<a then 1 else 0
def Is (v:Int) (j:Nat):Int:=H9 (Ar v) (v.natAbs / 2^j)
def Gn (v k:Int):Int:=if 0≤k then v*((2^k.toNat:Nat):Int) else Is v (-k).toNat
def Aes (v:Int):Bool:=decide (v%2=1)
def Ty (v w:Int):Bool:=decide (v=w)
theorem two32:2^32=4294967296:=by decide
theorem Jj (k:Nat):2^(32*(k+1))=4294967296*2^(32*k):=by
  rw [Nat.mul_add,Nat.mul_one,Nat.pow_add,Nat.mul_comm,two32]
theorem Dc:∀ (k v:Nat),(digits k v).length=k
  | 0,_=>rfl
  | k+1,v=>by rw [digits,List.length_cons,Dc k]
theorem J6:∀ (k v:Nat),Qu (digits k v)
  | 0,_=>fun x h=>by cases h
  | k+1,v=>fun x h=>by
    rw [digits,List.mem_cons] at h
    rcases h with rfl | h
    · omega
    · exact J6 k _ x h
theorem Hj:∀ (k v:Nat),Bq (digits k v)=v%2^(32*k)
  | 0,v=>by rw [digits,Bq,Nat.mul_zero,Nat.pow_zero,Nat.mod_one]
  | k+1,v=>by
    rw [digits,Bq,Hj k,Aqy,Jj,Nat.mod_mul]
theorem Hu:∀ {l:List Int},Qu l→Bq l<2^(32*l.length)
  | [],_=>by decide
  | x::l,h=>by
    have h1:=h x (List.mem_cons_self ..)
    have h2:=Hu (l:=l) (fun y hy=>h y (List.mem_cons_of_mem _ hy))
    rw [Bq,List.length_cons,Jj]
    omega
theorem Nu:∀ {l:List Int},Qu l→digits l.length (Bq l)=l
  | [],_=>rfl
  | x::l,h=>by
    have h1:=h x (List.mem_cons_self ..)
    have h2:=Nu (l:=l) (fun y hy=>h y (List.mem_cons_of_mem _ hy))
    rw [Bq,List.length_cons,digits]
    have e1:(x.toNat+4294967296*Bq l)%4294967296=x.toNat:=by omega
    have e2:(x.toNat+4294967296*Bq l) / 4294967296=Bq l:=by omega
    rw [e1,e2,h2]
    congr 1
    omega
theorem Iv (n:Nat):n<2^(32*C9 n):=by
  unfold C9
  by_cases h:n=0
  · rw [if_pos h,h]; decide
  · rw [if_neg h]
    exact Nat.lt_of_lt_of_le Nat.lt_log2_self (Arb (by decide) (by omega))
theorem Jv {n k:Nat} (h:n<2^(32*k)):C9 n≤k:=by
  unfold C9
  by_cases h0:n=0
  · rw [if_pos h0]; exact Nat.zero_le _
  · rw [if_neg h0]
    have:=(Nat.log2_lt h0).2 h
    omega
theorem Ala {n k:Nat} (h:2^(32*k)≤n):k+1≤C9 n:=by
  have hp:=Cd (32*k)
  unfold C9
  rw [if_neg (by omega)]
  have:=(Nat.le_log2 (by omega)).2 h
  omega
theorem J3 {n m:Nat} (h:n≤m):C9 n≤C9 m:=Jv (Nat.lt_of_le_of_lt h (Iv m))
theorem O8 (n:Nat):Bq (Mt n)=n:=by
  unfold Mt
  rw [Hj,Aq9 (Iv n)]
theorem F3 (n:Nat):(Mt n).length=C9 n:=Dc _ _
theorem Aac (n:Nat):Qu (Mt n):=J6 _ _
theorem Va:∀ (k v i:Nat),i<k→(digits k v).getD i 0=((v / 2^(32*i)%4294967296:Nat):Int)
  | k+1,v,0,_=>by rw [digits,List.getD_cons_zero,Nat.mul_zero,Nat.pow_zero,Nat.div_one]
  | k+1,v,i+1,h=>by
    rw [digits,List.getD_cons_succ,Va k _ i (by omega),Jj,Nat.div_div_eq_div_mul]
theorem Mf {l:List Int} (h:Qu l) (i:Nat):l.getD i 0=((Bq l / 2^(32*i)%4294967296:Nat):Int):=by
  by_cases hi:i<l.length
  · have:=Va l.length (Bq l) i hi
    rw [Nu h] at this
    exact this
  · have h1:=Hu h
    have h2:2^(32*l.length)≤2^(32*i):=Arb (by decide) (by omega)
    rw [Nat.div_eq_of_lt (by omega),Aq6,List.getElem?_eq_none (by omega)]
    rfl
theorem F4 {l:List Int} (h:Qu l) (i:Nat):Ft l (i:Int)=((Bq l / 2^(32*i)%4294967296:Nat):Int):=by
  unfold Ft
  rw [if_pos (by omega),Aqy,Mf h]
theorem Hp:∀ (k v:Nat),digits (k+1) v=digits k v++[((v / 2^(32*k)%4294967296:Nat):Int)]
  | 0,v=>by rw [digits,digits,digits,Nat.mul_zero,Nat.pow_zero,Nat.div_one]; rfl
  | k+1,v=>by
    rw [digits,Hp k,Jj,← Nat.div_div_eq_div_mul]
    rfl
theorem Sn:∀ (j k v:Nat),j≤k→(digits k v).take j=digits j v
  | 0,_,_,_=>by rw [List.take_zero,digits]
  | j+1,k+1,v,h=>by rw [digits,List.take_succ_cons,Sn j k _ (by omega),digits]
theorem Acb {l:List Int} (h:Qu l):l.take (C9 (Bq l))=Mt (Bq l):=by
  have h1:=Sn (C9 (Bq l)) l.length (Bq l) (Jv (Hu h))
  rw [Nu h] at h1
  exact h1
theorem I6 {n:Nat} (h:n≠0):0<C9 n:=by unfold C9; rw [if_neg h]; omega
theorem Fy (v:Int):wv (Ar v) (Ag v)=v:=by
  unfold wv Ar Ag H9
  rw [O8]
  by_cases h:v<0
  · rw [Aqx h,if_pos rfl]; omega
  · rw [Aq1 h,if_neg (by decide)]; omega
theorem H0 {l:List Int} (h:l.length<1073741824) (hi:Qu l):E5 l=true:=Ao.2 ⟨h,hi⟩
theorem H2 {l:List Int} (h:E5 l=true):l.length<1073741824∧Qu l:=Ao.1 h
theorem Vc (v:Int):Ag v=Mt (Bq (Ag v))∧(Ar v=true→Ag v≠[]):=by
  unfold Ag
  rw [O8]
  refine ⟨rfl,fun h e=>?_⟩
  have h1:v<0:=of_decide_eq_true h
  have h2:=F3 v.natAbs
  rw [e] at h2
  have:=I6 (n:=v.natAbs) (by omega)
  rw [← h2] at this
  exact absurd this (by decide)
theorem Jd {v:Int} (h:C9 v.natAbs<268435456):Jr (Ar v) (Ag v)=true :=
  Ao.2 ⟨by unfold Ag; rw [F3]; exact h,Vc v⟩
theorem Ahe {v:Int} (h:C9 v.natAbs<134217728):Vn (Ar v) (Ag v)=true :=
  Ao.2 ⟨by unfold Ag; rw [F3]; exact h,Vc v⟩
theorem R5 {n:Bool} {l:List Int} (h1:l=Mt (Bq l)) (h2:n=true→l≠[]):n=Ar (wv n l)∧l=Ag (wv n l):=by
  have e:(wv n l).natAbs=Bq l:=by unfold wv H9; split<;>omega
  refine ⟨?_,by unfold Ag; rw [e]; exact h1⟩
  unfold Ar wv H9
  cases n
  · simp
  · have h3:=h2 rfl
    have h4:Bq l≠0:=fun h=>by
      rw [h] at h1
      exact h3 h1
    simp; omega
theorem Hz {n:Bool} {l:List Int} (h:Jr n l=true):∃ v,n=Ar v∧l=Ag v∧C9 v.natAbs<268435456:=by
  obtain ⟨h0,h1,h2⟩:=Ao.1 h
  obtain ⟨e1,e2⟩:=R5 h1 h2
  refine ⟨_,e1,e2,?_⟩
  have:=congrArg List.length e2
  unfold Ag at this
  rw [F3] at this
  omega
theorem S8 {n:Bool} {l:List Int} (h:Vn n l=true):∃ v,n=Ar v∧l=Ag v∧C9 v.natAbs<134217728:=by
  obtain ⟨h0,h1,h2⟩:=Ao.1 h
  obtain ⟨e1,e2⟩:=R5 h1 h2
  refine ⟨_,e1,e2,?_⟩
  have:=congrArg List.length e2
  unfold Ag at this
  rw [F3] at this
  omega
theorem Ln {v:Int} (h:C9 v.natAbs<1073741824):E5 (Ag v)=true :=
  H0 (by unfold Ag; rw [F3]; exact h) (Aac _)
theorem Da (v:Int):Bq (Ag v)=v.natAbs:=O8 _
theorem Bx (v:Int):(Ag v).length=C9 v.natAbs:=F3 _
theorem Amq (n:Bool) (l:List Int):wv (!n) l=- wv n l:=by
  unfold wv H9
  cases n<;>simp
theorem Wc {a b:List Int} (ha:Qu a) (hb:Qu b):Bq (G0 a b)=Bq a+Bq b:=by
  unfold G0
  rw [Hj,Aq9]
  have h1:=Hu ha
  have h2:=Hu hb
  have h3:2^(32*a.length)≤2^(32*max a.length b.length):=Arb (by decide) (by omega)
  have h4:2^(32*b.length)≤2^(32*max a.length b.length):=Arb (by decide) (by omega)
  rw [Jj]
  omega
theorem L6 (a b:List Int):(G0 a b).length=max a.length b.length+1:=Dc _ _
theorem T6 (a b:List Int):Qu (G0 a b):=J6 _ _
theorem Ab5 {a:List Int} (b:List Int) (ha:Qu a):Bq (F1 a b)=Bq a-Bq b:=by
  unfold F1
  rw [Hj,Aq9]
  have h1:=Hu ha
  omega
theorem O0 (a b:List Int):(F1 a b).length=a.length:=Dc _ _
theorem Wj (a b:List Int):Qu (F1 a b):=J6 _ _
theorem Jo (v:Int) (j:Nat):(Is v j).natAbs=v.natAbs / 2^j:=by
  unfold Is
  generalize v.natAbs / 2^j=m
  unfold H9; split<;>omega
theorem P7 {v:Int} (h:v<0) (m:Nat):H9 (Ar v) m=-(m:Int):=by
  unfold H9 Ar; rw [Aqx h,if_pos rfl]
theorem P6 {v:Int} (h:¬ v<0) (m:Nat):H9 (Ar v) m=(m:Int):=by
  unfold H9 Ar; rw [Aq1 h,if_neg (by decide)]
theorem Xl (v:Int) (i j:Nat):Is (Is v i) j=Is v (i+j):=by
  have e:v.natAbs / 2^(i+j)=v.natAbs / 2^i / 2^j:=by rw [Nat.pow_add,Nat.div_div_eq_div_mul]
  have h1:=Jo v i
  by_cases hv:v<0
  · have h2:Is v i=-((v.natAbs / 2^i:Nat):Int):=P7 hv _
    rw [show Is v (i+j)=-((v.natAbs / 2^(i+j):Nat):Int) from P7 hv _,e]
    by_cases h0:v.natAbs / 2^i=0
    · rw [h2,h0]
      show Is 0 j=_
      rw [Nat.zero_div]
      show H9 (Ar 0) (0 / 2^j)=_
      rw [Nat.zero_div]; rfl
    · have h3:Is v i<0:=by omega
      rw [show Is (Is v i) j=-(((Is v i).natAbs / 2^j:Nat):Int) from P7 h3 _,h1]
  · have h2:Is v i=((v.natAbs / 2^i:Nat):Int):=P6 hv _
    have h3:¬ Is v i<0:=by omega
    rw [show Is (Is v i) j=(((Is v i).natAbs / 2^j:Nat):Int) from P6 h3 _,h1,show Is v (i+j)=((v.natAbs / 2^(i+j):Nat):Int) from P6 hv _,e]
theorem Zh (v:Int):Is v 0=v:=by
  unfold Is H9 Ar
  rw [Nat.pow_zero,Nat.div_one]
  by_cases h:v<0
  · rw [Aqx h,if_pos rfl]; omega
  · rw [Aq1 h,if_neg (by decide)]; omega
theorem P4 (j:Nat):Is 0 j=0:=by
  unfold Is
  rw [show (Int.natAbs 0)=0 from rfl,Nat.zero_div]
  rfl
theorem Ad4 {l:List Int} (h:Qu l):Bq (l.drop 1)=Bq l / 4294967296:=by
  cases l with
  | nil=>rfl
  | cons x l =>
    have:=h x (List.mem_cons_self ..)
    show Bq l=_
    rw [Bq]; omega
theorem Aah {l:List Int} (h:Qu l):Qu (l.drop 1):=fun x hx=>h x (List.mem_of_mem_drop hx)
theorem Aag {l:List Int} (h:Qu l):Qu ([(0:Int)]++l):=fun x hx=>by
  rcases List.mem_cons.1 hx with rfl | hx
  · omega
  · exact h x hx
theorem Ah4 (n:Nat):C9 (2*n)≤C9 n+1:=by
  refine Jv ?_
  have h:=Iv n
  rw [Jj]
  omega
theorem Ak9 (n:Nat):C9 (n*4294967296)≤C9 n+1:=by
  refine Jv ?_
  have h:=Iv n
  rw [Jj]
  omega
end Go.Rnd
namespace Go.Rnd
open Go.Den
def Q7 (n:Nat):Nat:=if h:n=0∨n%2=1 then 0 else Q7 (n / 2)+1
termination_by n
decreasing_by omega
def mD (v:Int):Int:=Is v (Q7 v.natAbs)
def eD (v e:Int):Int:=if v=0 then 0 else e+Q7 v.natAbs
def Cx (v e w f:Int):Int:=if v=0 then f else if w=0 then e else min e f
def Aqr (v e w f:Int):Int:=Gn v (e-Cx v e w f)+Gn w (f-Cx v e w f)
def Aa3 (v e w f:Int):Int:=mD (Aqr v e w f)
def Ajo (v e w f:Int):Int:=eD (Aqr v e w f) (Cx v e w f)
def Ro (e:Int):Bool:=Cn (-2000000≤e∧e≤2000000)
def Ta (e:Int):Bool:=Cn (-400000≤e∧e≤400000)
def Zw (v e f:Int):Bool:=Cn (v=0∨(-1000000≤e-f∧e-f≤1000000))&&Cn (-400000≤e∧e≤400000∧-1000000≤f∧f≤1000000)
theorem Abd {n:Nat} (h:n=0∨n%2=1):Q7 n=0:=by rw [Q7,dif_pos h]
theorem Ac6 {n:Nat} (h0:n≠0) (h:n%2=0):Q7 n=Q7 (n / 2)+1:=by rw [Q7,dif_neg (by omega)]
theorem Xd {n:Nat} (h:n≠0):∀ k,Q7 (n*2^k)=k+Q7 n
  | 0=>by rw [Nat.pow_zero,Nat.mul_one,Nat.zero_add]
  | k+1=>by
    have hp:=Cd k
    have h1:n*2^k≠0:=by
      intro e
      rcases Nat.mul_eq_zero.1 e with e | e<;>omega
    have e:n*2^(k+1)=n*2^k*2:=by rw [Nat.pow_succ,Nat.mul_assoc]
    rw [e,Ac6 (by omega) (by omega),Nat.mul_div_cancel _ (by decide),Xd h k]
    omega
theorem Ac5 (n:Nat) (h:n≠0):∃ m,n=m*2^Q7 n∧m%2=1:=by
  induction n using Nat.strongRecOn with
  | _ n ih =>
    by_cases h2:n%2=1
    · refine ⟨n,?_,h2⟩
      rw [Abd (.inr h2),Nat.pow_zero,Nat.mul_one]
    · obtain ⟨m,h3,h4⟩:=ih (n / 2) (by omega) (by omega)
      refine ⟨m,?_,h4⟩
      rw [Ac6 h (by omega),Nat.pow_succ,← Nat.mul_assoc,← h3]
      omega
theorem Amd {n:Nat} (h:n≠0):Q7 n≤n.log2:=by
  obtain ⟨m,h1,h2⟩:=Ac5 n h
  refine (Nat.le_log2 h).2 ?_
  have:1*2^Q7 n≤m*2^Q7 n:=Aq8 _ (by omega)
  omega
theorem Afa {n:Nat}:n.log2<32*C9 n+1:=by
  unfold C9
  by_cases h:n=0
  · rw [h]; decide
  · rw [if_neg h]; omega
theorem Ahs {v:Int} {k:Nat} (h:v.natAbs%2^k=0):mD (Is v k)=mD v:=by
  unfold mD
  by_cases h0:v=0
  · rw [h0,P4]
  · have hp:=Cd k
    have hv:=Nat.div_add_mod v.natAbs (2^k)
    rw [h,Nat.add_zero,Nat.mul_comm] at hv
    have hq:v.natAbs / 2^k≠0:=by
      intro e; rw [e] at hv; omega
    have:=Xd hq k
    rw [hv] at this
    rw [Jo,Xl,this]
theorem Aiw {v e:Int} {k:Nat} (h:v.natAbs%2^k=0) (h0:v≠0):eD (Is v k) (e+k)=eD v e:=by
  unfold eD
  have hp:=Cd k
  have hv:=Nat.div_add_mod v.natAbs (2^k)
  rw [h,Nat.add_zero,Nat.mul_comm] at hv
  have hq:v.natAbs / 2^k≠0:=by
    intro e; rw [e] at hv; omega
  have ht:=Xd hq k
  rw [hv] at ht
  have ha:=Jo v k
  rw [if_neg h0,if_neg (by omega),ha,ht]
  omega
theorem Anu {v:Int} (h:v%2=1):mD v=v:=by
  unfold mD
  rw [Abd (.inr (by omega)),Zh]
theorem Aob {v:Int} (h:v%2=1) (e:Int):eD v e=e:=by
  unfold eD
  rw [Abd (.inr (by omega)),if_neg (by omega)]
  omega
theorem Ak0 (v:Int):v=mD v*((2^Q7 v.natAbs:Nat):Int):=by
  by_cases h:v=0
  · rw [h]
    show (0:Int)=Is 0 _*_
    rw [P4,Int.zero_mul]
  · obtain ⟨m,h1,h2⟩:=Ac5 v.natAbs (by omega)
    have hp:=Cd (Q7 v.natAbs)
    have hq:v.natAbs / 2^Q7 v.natAbs=m:=Nat.div_eq_of_eq_mul_left hp h1
    unfold mD Is
    rw [hq]
    by_cases hv:v<0
    · rw [P7 hv,Int.neg_mul,← Ari,← h1]; omega
    · rw [P6 hv,← Ari,← h1]; omega
theorem Akz {v:Int}:mD v=0↔v=0:=by
  constructor
  · intro h
    have:=Ak0 v
    rw [h,Int.zero_mul] at this
    exact this
  · intro h
    rw [h]
    exact P4 _
theorem Rs (v:Int):(mD v).natAbs≤v.natAbs:=by
  unfold mD
  rw [Jo]
  exact Nat.div_le_self _ _
end Go.Rnd
namespace Go.Rnd
open Go.Den
theorem Aqn {v e g:Int} (h:g≤e) (h0:v≠0):g≤eD v e:=by
  unfold eD
  rw [if_neg h0]
  omega
def Ah (l:List Int):Bool:=Cn (∀ x∈l,Ai x=true)
def A8 (x:Int):Int:=H9 (D3 x.toNat) (Av x.toNat)
def Ov (n:Bool) (b:Int):Int:=if n then Db b else b
end Go.Rnd
namespace Go.Rnd
open Go.Den
end Go.Rnd
namespace Go.Rnd
open Go.Den
def D0 (x:Int):Int:=if x=0 then 0 else (x.toNat.log2:Int)+1
def Oz (x y:Int):Int:=((x.toNat*y.toNat / 18446744073709551616:Nat):Int)
def Ky (x y:Int):Int:=((x.toNat*y.toNat%18446744073709551616:Nat):Int)
def Ahk (a b:Int):Bool:=decide (A4 a=4)||decide (A4 b=4)
def Bs (b:Nat):Nat:=52-(Av b).log2
def Cb (b:Int):Int:=((Av b.toNat*2^Bs b.toNat:Nat):Int)
def F0 (b:Int):Int:=Be b.toNat-Bs b.toNat
def Js (b:Int):Bool:=Cn (Av b.toNat≠0)
def Lz (m e:Int):Bool:=Cn (1152921504606846976≤m∧m<4611686018427387904∧-6000≤e∧e≤6000)
def Ej (a b:Int):Int:=(Vo a.toNat b.toNat).1
def Aqf (a b:Int):Int:=(Vo a.toNat b.toNat).2
def E7 (a b:Int):Int:=(Aco a.toNat b.toNat).1
def Aqo (a b:Int):Int:=(Aco a.toNat b.toNat).2
def Adp (x:Int):Bool:=Cn (0≤x∧x<4294967296)
def singleL (l:List Int) (x:Int):List Int:=digits (l.length+1) (Bq l*x.toNat)
def Xs (n:Bool) (l:List Int):Bool:=Cn (l.length<33554432∧l=Mt (Bq l)∧(n=true→l≠[]))
end Go.Rnd
namespace Go.Rnd
theorem Afz (a b:Nat):N1 a b=N1 b a:=by
  unfold N1
  by_cases ha:As a=4
  · simp only [ha,true_or,or_true,if_true]
  · by_cases hb:As b=4
    · simp only [hb,true_or,or_true,if_true]
    · simp only [ha,hb,or_self,if_false]
      by_cases ha3:As a=3
      · by_cases hb3:As b=3
        · simp only [ha3,hb3,if_true,true_and]
          by_cases e:a=b
          · subst e; rfl
          · rw [if_pos e,if_pos (fun h=>e h.symm)]
        · simp only [ha3,hb3,if_true,if_false,false_and]
      · by_cases hb3:As b=3
        · simp only [ha3,hb3,if_true,if_false,false_and]
        · simp only [ha3,hb3,if_false]
          rw [Bool.and_comm,Int.min_comm,Int.add_comm]
theorem Zn {Y D:Nat} (h:Y%2^D=0):Ep Y D=Y / 2^D:=by unfold Ep; rw [if_pos h]
theorem Abr {Y D:Nat} (h:Y%2^D≠0):Ep Y D%2=1:=by unfold Ep; rw [if_neg h]; omega
theorem Zo {Y d:Nat} (hY:Y<2^62) (h:Y%2^d≠0):(Ep Y (min d 63)-1)*2^d<Y∧Y<(Ep Y (min d 63)+1)*2^d∧Ep Y (min d 63)%2=1:=by
  have hA:=Cd d
  by_cases hd:d≤63
  · rw [Nat.min_eq_left hd]
    refine ⟨?_,?_,Abr h⟩
    all_goals
      unfold Ep
      rw [if_neg h]
      have h1:=Nat.div_add_mod Y (2^d)
      have h2:=Nat.mod_lt Y hA
      generalize Y / 2^d=q at *
      generalize Y%2^d=r at *
      generalize 2^d=c at *
      rw [Nat.mul_comm] at h1
    · have h3:(2*(q / 2)+1-1)*c≤q*c:=Aq8 c (by omega)
      omega
    · have h3:(q+1)*c≤(2*(q / 2)+1+1)*c:=Aq8 c (by omega)
      rw [Nat.add_mul,Nat.one_mul] at h3
      omega
  · rw [Nat.min_eq_right (by omega)]
    have h63:Y%2^63=Y:=Aq9 (by omega)
    have hd0:Y / 2^63=0:=Nat.div_eq_of_lt (by omega)
    have hY0:Y≠0:=by intro e; rw [e] at h; simp at h
    have hr:Ep Y 63=1:=by unfold Ep; rw [h63,if_neg hY0,hd0]
    have hp:2^62≤2^d:=Arb (by decide) (by omega)
    rw [hr]
    refine ⟨by simp; omega,by omega,rfl⟩
theorem pow9 {d M:Nat} (h:(M*2^9)%2^d≠0):10≤d:=by
  refine Nat.lt_of_not_le fun hle=>h ?_
  obtain ⟨k,hk⟩:∃ k,9=d+k:=⟨9-d,by omega⟩
  rw [hk,Nat.pow_add,Nat.mul_comm (2^d),← Nat.mul_assoc,Nat.mul_mod_left]
theorem Lx {V m d:Nat} {e f:Int} (hd:e=f+d) (h:V=m*2^d∨(m%2=1∧(m-1)*2^d<V∧V<(m+1)*2^d∧2^60≤m)) :
    Ch m (e-9)=Ch V (f-9)∧flagsOf m (e-9)=flagsOf V (f-9):=by
  rcases h with rfl | ⟨h1,h2,h3,h4⟩
  · have:=Eg m d (e-9)
    have e1:e-9-(d:Int)=f-9:=by omega
    rw [e1] at this
    exact ⟨this.1.symm,this.2.symm⟩
  · have hm0:m≠0:=by omega
    have hlog:=Nm h1 (by omega) h2 h3
    have hl60:60≤m.log2:=(Nat.le_log2 hm0).2 h4
    have e1:f-9+(d:Int)=e-9:=by omega
    have hle:Dn V (f-9)=Dn m (f-9+d):=by unfold Dn; rw [hlog]; congr 1; omega
    have hk:f-9+d+2≤Dn m (f-9+d):=by unfold Dn; omega
    obtain ⟨a1,a2⟩:=Nc h1 h2 h3 hle hk
    rw [e1] at a1 a2
    exact ⟨a1.symm,a2.symm⟩
theorem Abl (V:Nat) (f:Int):Ch (V*2^9) (f-9)=Ch V f∧flagsOf (V*2^9) (f-9)=flagsOf V f:=Eg V 9 f
structure Amb (Mx My d:Nat) (e f:Int) (X r:Nat):Prop where
  plus:Ch (X+r) (e-9)=Ch (Mx*2^d+My) f∧flagsOf (X+r) (e-9)=flagsOf (Mx*2^d+My) f
  less:r<X→My<Mx*2^d∧Ch (X-r) (e-9)=Ch (Mx*2^d-My) f∧flagsOf (X-r) (e-9)=flagsOf (Mx*2^d-My) f
  more:X<r→Mx*2^d<My∧Ch (r-X) (e-9)=Ch (My-Mx*2^d) f∧flagsOf (r-X) (e-9)=flagsOf (My-Mx*2^d) f
  same:X=r→Mx*2^d=My
  small:r≤2^62
theorem Al8 {X My r d p:Nat} {e f:Int} (hd:e=f+d) (comm:X*2^d=p*2^9) (n1:(r-1)*2^d<My*2^9) (n2:My*2^9<r*2^d+2^d) (n3:r%2=1) (hX2:X%2=0) (hX:2^61≤X) (hr:r≤2^53) :
    (Ch (X+r) (e-9)=Ch (p+My) f∧flagsOf (X+r) (e-9)=flagsOf (p+My) f)∧My<p∧Ch (X-r) (e-9)=Ch (p-My) f∧flagsOf (X-r) (e-9)=flagsOf (p-My) f:=by
  have e1:(r-1)*2^d+2^d=r*2^d:=by
    obtain ⟨k,rfl⟩:∃ k,r=k+1:=⟨r-1,by omega⟩
    rw [Nat.add_sub_cancel,Nat.add_mul,Nat.one_mul]
  have e2:(r+1)*2^d=r*2^d+2^d:=by rw [Nat.add_mul,Nat.one_mul]
  have hXd:(r+1)*2^d≤X*2^d:=Aq8 _ (by omega)
  have hlt:My<p:=by rw [e2,comm] at hXd; omega
  have a1:Ch (X+r) (e-9)=Ch ((p+My)*2^9) (f-9)∧flagsOf (X+r) (e-9)=flagsOf ((p+My)*2^9) (f-9):=by
    refine Lx hd (.inr ⟨by omega,?_,?_,by omega⟩)
    · have h1:X+r-1=X+(r-1):=by omega
      rw [h1,Nat.add_mul X (r-1) (2^d),Nat.add_mul p My (2^9),comm]
      exact Nat.add_lt_add_left n1 _
    · have h1:X+r+1=X+(r+1):=by omega
      rw [h1,Nat.add_mul X (r+1) (2^d),Nat.add_mul p My (2^9),comm,e2]
      exact Nat.add_lt_add_left n2 _
  have a2:Ch (X-r) (e-9)=Ch ((p-My)*2^9) (f-9)∧flagsOf (X-r) (e-9)=flagsOf ((p-My)*2^9) (f-9):=by
    rw [e2,comm] at hXd
    refine Lx hd (.inr ⟨by omega,?_,?_,by omega⟩)
    · have h1:X-r-1=X-(r+1):=by omega
      rw [h1,Nat.sub_mul X (r+1) (2^d),Nat.sub_mul p My (2^9),comm,e2]
      omega
    · have h1:X-r+1=X-(r-1):=by omega
      rw [h1,Nat.sub_mul X (r-1) (2^d),Nat.sub_mul p My (2^9),comm]
      omega
  rw [(Abl _ f).1,(Abl _ f).2] at a1 a2
  exact ⟨a1,hlt,a2⟩
theorem Aa1 {Mx My d:Nat} {e f:Int} (hd:e=f+d) (hx:Mx<2^53) (hy:My<2^53) (hbig:10≤d→2^52≤Mx) :
    Amb Mx My d e f (Mx*2^9) (Ep (My*2^9) (min d 63)):=by
  have hA:=Cd d
  have hY:My*2^9<2^62:=by omega
  have comm:Mx*2^9*2^d=Mx*2^d*2^9:=by rw [Nat.mul_assoc,Nat.mul_comm (2^9),← Nat.mul_assoc]
  have s9:=fun V=>Abl V f
  by_cases hz:(My*2^9)%2^d=0
  ·
    have hr:∃ r,Ep (My*2^9) (min d 63)=r∧My*2^9=r*2^d:=by
      by_cases hd63:d≤63
      · rw [Nat.min_eq_left hd63]
        exact ⟨_,rfl,by rw [Zn hz]; exact (Nat.div_mul_cancel (Nat.dvd_of_mod_eq_zero hz)).symm⟩
      · have hp:2^62≤2^d:=Arb (by decide) (by omega)
        have:My*2^9=0:=by rw [Aq9 (by omega)] at hz; exact hz
        rw [Nat.min_eq_right (by omega),this]
        exact ⟨0,by decide,by omega⟩
    obtain ⟨r,hr,hYr⟩:=hr
    rw [hr]
    have hle:r≤2^62:=by
      have:r*1≤r*2^d:=Nat.mul_le_mul_left r hA
      omega
    have cmp:∀ x y:Nat,x*2^d<y*2^d↔x<y:=fun x y=>Nat.mul_lt_mul_right hA
    refine ⟨?_,fun h=>?_,fun h=>?_,fun h=>?_,hle⟩
    · rw [← (s9 _).1,← (s9 _).2]
      exact Lx hd (.inl (by rw [Nat.add_mul (Mx*2^d) My (2^9),Nat.add_mul (Mx*2^9) r (2^d),comm,hYr]))
    · have h1:=(cmp r (Mx*2^9)).2 h
      refine ⟨by omega,?_⟩
      rw [← (s9 _).1,← (s9 _).2]
      exact Lx hd (.inl (by first | rw [Nat.sub_mul (Mx*2^d) My (2^9),Nat.sub_mul (Mx*2^9) r (2^d),comm,hYr] | rw [Nat.sub_mul My (Mx*2^d) (2^9),Nat.sub_mul r (Mx*2^9) (2^d),comm,hYr]))
    · have h1:=(cmp (Mx*2^9) r).2 h
      refine ⟨by omega,?_⟩
      rw [← (s9 _).1,← (s9 _).2]
      exact Lx hd (.inl (by first | rw [Nat.sub_mul (Mx*2^d) My (2^9),Nat.sub_mul (Mx*2^9) r (2^d),comm,hYr] | rw [Nat.sub_mul My (Mx*2^d) (2^9),Nat.sub_mul r (Mx*2^9) (2^d),comm,hYr]))
    · rw [← h] at hYr
      omega
  ·
    have hd10:=pow9 hz
    have hMx:=hbig hd10
    obtain ⟨n1,n2,n3⟩:=Zo hY hz
    have hrle:Ep (My*2^9) (min d 63)≤2^53:=by
      refine Nat.le_of_not_lt fun h=>?_
      have h1:2^53*2^d≤(Ep (My*2^9) (min d 63)-1)*2^d:=Aq8 _ (by omega)
      have h2:2^10≤2^d:=Arb (by decide) hd10
      have h3:2^53*2^10≤2^53*2^d:=Nat.mul_le_mul_left _ h2
      omega
    generalize Ep (My*2^9) (min d 63)=r at *
    have hr1:1≤r:=by omega
    have e1:(r-1)*2^d+2^d=r*2^d:=by
      obtain ⟨k,rfl⟩:∃ k,r=k+1:=⟨r-1,by omega⟩
      rw [Nat.add_sub_cancel,Nat.add_mul,Nat.one_mul]
    have e2:(r+1)*2^d=r*2^d+2^d:=by rw [Nat.add_mul,Nat.one_mul]
    rw [e2] at n2
    have hXr:r<Mx*2^9:=by omega
    have hXd:(r+1)*2^d≤Mx*2^9*2^d:=Aq8 _ (by omega)
    rw [e2,comm] at hXd
    obtain ⟨p1,p2,p3⟩:=Al8 hd comm n1 n2 n3 (by omega) (by omega) hrle
    exact ⟨p1,fun _=>⟨p2,p3⟩,fun h=>by omega,fun h=>by omega,by omega⟩
theorem Sh (n:Bool) (m:Nat) (e:Int):Fb n m e false=(Co n (Ch m e),flagsOf m e):=by
  unfold Fb
  have:=Eg m 2 e
  have e1:m*2^2=4*m+false.toNat:=by simp; omega
  have e2:e-((2:Nat):Int)=e-2:=by omega
  rw [e1,e2] at this
  rw [this.1,this.2]
theorem V6 (E:Int):Ch 0 E=0:=if_pos rfl
theorem Qy (E:Int):flagsOf 0 E=0:=if_pos rfl
theorem U4 {b:Nat} (h:Lu b=true):As b≠4∧As b≠3:=by
  unfold Lu at h
  simp only [Aq3] at h
  unfold As
  rw [if_neg (by omega)]
  split
  · omega
  · split<;>omega
theorem Wf {b:Nat} (h:-1064≤Be b):2^52≤Av b:=by
  unfold Be at h
  unfold Av
  split at h
  · omega
  · rw [if_neg (by assumption)]; omega
theorem Pb (z:Nat) (s:Bool) {V:Nat} (hV:V≠0) (f:Int):Pc z (H9 s V) f=(Co s (Ch V f),flagsOf V f):=by
  unfold Pc H9
  cases s
  · have h1:¬ (V:Int)=0:=by omega
    have h2:¬ (V:Int)<0:=by omega
    simp only [Bool.false_eq_true,if_false,h1,h2,decide_false,Int.natAbs_natCast]
  · have h1:¬ -(V:Int)=0:=by omega
    have h2:-(V:Int)<0:=by omega
    simp only [if_true,h1,if_false,h2,decide_true,Int.natAbs_neg,Int.natAbs_natCast]
theorem Al9 {p q X r:Nat} {e f:Int} (s t:Bool)
    (plus:Ch (X+r) e=Ch (p+q) f∧flagsOf (X+r) e=flagsOf (p+q) f)
    (less:r<X→q<p∧Ch (X-r) e=Ch (p-q) f∧flagsOf (X-r) e=flagsOf (p-q) f)
    (more:X<r→p<q∧Ch (r-X) e=Ch (q-p) f∧flagsOf (r-X) e=flagsOf (q-p) f)
    (same:X=r→p=q) :
    Pc (Co (s&&t) 0) (H9 s p+H9 t q) f=(if s=t then Fb s (X+r) e false
      else if r<X then Fb s (X-r) e false
      else if X<r then Fb t (r-X) e false
      else (0,0)):=by
  simp only [Sh]
  by_cases hs:s=t
  · rw [if_pos hs,← hs]
    have hsum:H9 s p+H9 s q=H9 s (p+q):=by unfold H9; cases s<;>simp<;>omega
    rw [hsum,plus.1,plus.2]
    by_cases h0:p+q=0
    · rw [h0,V6,Qy]
      unfold Pc
      have:H9 s 0=0:=by unfold H9; cases s<;>rfl
      rw [if_pos this,Aq2]
    · exact Pb _ _ h0 _
  · rw [if_neg hs]
    by_cases h1:r<X
    · obtain ⟨c1,c2,c3⟩:=less h1
      rw [if_pos h1,c2,c3]
      have hsum:H9 s p+H9 t q=H9 s (p-q):=by
        unfold H9; cases s<;>cases t<;>simp at hs ⊢<;>omega
      rw [hsum]
      exact Pb _ _ (by omega) _
    · rw [if_neg h1]
      by_cases h2:X<r
      · obtain ⟨c1,c2,c3⟩:=more h2
        rw [if_pos h2,c2,c3]
        have hsum:H9 s p+H9 t q=H9 t (q-p):=by
          unfold H9; cases s<;>cases t<;>simp at hs ⊢<;>omega
        rw [hsum]
        exact Pb _ _ (by omega) _
      · rw [if_neg h2]
        have c:=same (by omega)
        have hsum:H9 s p+H9 t q=0:=by
          unfold H9; cases s<;>cases t<;>simp at hs ⊢<;>omega
        have hz:(s&&t)=false:=by cases s<;>cases t<;>simp at hs ⊢
        rw [hsum,hz]
        rfl
theorem Ajn {a b:Nat} (ha:Lu a=true) (hb:Lu b=true) :
    N1 a b=Pc (Co (D3 a&&D3 b) 0) (R9 a (min (Be a) (Be b))+R9 b (min (Be a) (Be b))) (min (Be a) (Be b)):=by
  have k1:=U4 ha
  have k2:=U4 hb
  unfold N1
  rw [if_neg (fun h=>h.elim k1.1 k2.1),if_neg k1.2,if_neg k2.2]
theorem Abb (b:Nat):R9 b (Be b)=H9 (D3 b) (Av b):=by
  unfold R9; rw [Int.sub_self,Int.toNat_zero,Nat.pow_zero,Nat.mul_one]
theorem Aga {b:Nat} {f:Int} {d:Nat} (h:Be b=f+d):R9 b f=H9 (D3 b) (Av b*2^d):=by
  unfold R9
  have:(Be b-f).toNat=d:=by omega
  rw [this]
theorem Aa0 {a b:Nat} (ha:Lu a=true) (hb:Lu b=true) {d:Nat} (hd:Be a=Be b+d) :
    N1 a b=(if D3 a=D3 b then Fb (D3 a) (Av a*2^9+Ep (Av b*2^9) (min d 63)) (Be a-9) false
      else if Ep (Av b*2^9) (min d 63)<Av a*2^9 then Fb (D3 a) (Av a*2^9-Ep (Av b*2^9) (min d 63)) (Be a-9) false
      else if Av a*2^9<Ep (Av b*2^9) (min d 63) then Fb (D3 b) (Ep (Av b*2^9) (min d 63)-Av a*2^9) (Be a-9) false
      else (0,0)):=by
  have hx:=Ei a
  have hy:=Ei b
  have C:=Aa1 (Mx:=Av a) (My:=Av b) hd hx hy (fun h=>Wf (by have:=Ea b; omega))
  rw [Ajn ha hb,Int.min_eq_right (by omega),Abb,Aga hd]
  exact Al9 _ _ C.plus C.less C.more C.same
theorem Rr {b:Nat} (h:b<2^64):Pl b<2^64:=by unfold Pl; split<;>omega
theorem Acj (m:Nat) (e:Int):flagsOf m e<32:=by
  unfold flagsOf flags
  split
  · decide
  · split
    · decide
    · split
      · decide
      · split<;>decide
theorem Ti {a b:Nat} (ha:a<2^64) (hb:b<2^64):(N1 a b).1<2^64∧(N1 a b).2<32:=by
  unfold N1
  split
  · exact ⟨by decide,by decide⟩
  · split
    · split
      · decide
      · exact ⟨ha,(by decide:0<32)⟩
    · split
      · exact ⟨hb,(by decide:0<32)⟩
      · unfold Pc
        split
        · refine ⟨?_,(by decide:0<32)⟩
          unfold Co; split<;>decide
        · exact ⟨P3 _ _ _,Acj _ _⟩
end Go.Rnd
namespace Go.Rnd
open Go.Den
def Ci (r c:Nat) (f:Nat→Nat→Int):List Int:=(List.range (r*c)).map fun j=>f (j / c) (j%c)
theorem Bw (r c:Nat) (f:Nat→Nat→Int):(Ci r c f).length=r*c:=by unfold Ci; rw [List.length_map,List.length_range]
theorem J2 {r c i k:Nat} (hi:i<r) (hk:k<c):i*c+k<r*c:=by
  have:(i+1)*c≤r*c:=Aq8 c hi
  rw [Nat.add_mul,Nat.one_mul] at this
  omega
theorem Rm {c i k:Nat} (hk:k<c):(i*c+k) / c=i∧(i*c+k)%c=k:=by
  constructor
  · rw [Nat.mul_comm,Nat.mul_add_div (by omega),Nat.div_eq_of_lt hk,Nat.add_zero]
  · rw [Nat.mul_comm,Nat.mul_add_mod,Aq9 hk]
theorem Ga {r c:Nat} {f:Nat→Nat→Int} {j:Nat} (h:j<r*c):(Ci r c f)[j]?=some (f (j / c) (j%c)):=by
  unfold Ci
  rw [List.getElem?_map,List.getElem?_range h]
  rfl
theorem Aii {r c i k:Nat} {f:Nat→Nat→Int} (hi:i<r) (hk:k<c):(Ci r c f).getD (i*c+k) 0=f i k:=by
  obtain ⟨d1,d2⟩:=Rm (i:=i) hk
  rw [Aq6,Ga (J2 hi hk),d1,d2]
  rfl
theorem Un {l m:List Int} (h:l.length=m.length) (he:∀ j,j<l.length→l[j]?=m[j]?):l=m:=by
  refine List.ext_getElem? fun j=>?_
  by_cases hj:j<l.length
  · exact he j hj
  · rw [List.getElem?_eq_none (by omega),List.getElem?_eq_none (by omega)]
theorem Dh {r c:Nat} {f g:Nat→Nat→Int} (h:∀ i k,i<r→k<c→f i k=g i k):Ci r c f=Ci r c g:=by
  refine Un (by rw [Bw,Bw]) fun j hj=>?_
  rw [Bw] at hj
  have hc:0<c:=by
    rcases Nat.eq_zero_or_pos c with h0 | h0
    · subst h0; rw [Nat.mul_zero] at hj; omega
    · exact h0
  rw [Ga hj,Ga hj,h (j / c) (j%c) ((Nat.div_lt_iff_lt_mul hc).2 hj) (Nat.mod_lt _ hc)]
theorem Afh {r c:Nat} {l:List Int} (h:l.length=r*c):l=Ci r c fun i k=>l.getD (i*c+k) 0:=by
  refine Un (by rw [Bw,h]) fun j hj=>?_
  rw [Ga (by omega)]
  have e:j / c*c+j%c=j:=by rw [Nat.mul_comm]; exact Nat.div_add_mod j c
  rw [e,Aq6,Ard hj]
  rfl
theorem Qv {r c i k:Nat} {f:Nat→Nat→Int} (hk:k<c) (x:Int) :
    (Ci r c f).set (i*c+k) x=Ci r c fun a b=>if a=i∧b=k then x else f a b:=by
  refine Un (by rw [List.length_set,Bw,Bw]) fun j hj=>?_
  rw [List.length_set,Bw] at hj
  obtain ⟨d1,d2⟩:=Rm (i:=i) hk
  rw [Ga hj,List.getElem?_set]
  by_cases h:i*c+k=j
  · subst h
    rw [if_pos rfl,if_pos (by rw [Bw]; exact hj),d1,d2,if_pos ⟨rfl,rfl⟩]
  · rw [if_neg h,Ga hj,if_neg]
    rintro ⟨h1,h2⟩
    exact h (by rw [← h1,← h2,Nat.mul_comm]; exact Nat.div_add_mod j c)
theorem J5 (r c:Nat) (f:Nat→Nat→Int):Ci (r+1) c f=Ci r c f++(List.range c).map (f r):=by
  unfold Ci
  rw [Nat.add_mul,Nat.one_mul,List.range_add,List.map_append,List.map_map]
  congr 1
  refine List.map_congr_left fun k hk=>?_
  have hk:=List.mem_range.1 hk
  obtain ⟨d1,d2⟩:=Rm (i:=r) hk
  show f ((r*c+k) / c) ((r*c+k)%c)=f r k
  rw [d1,d2]
theorem J4 (c:Nat) (f:Nat→Nat→Int):Ci 0 c f=[]:=by
  unfold Ci; rw [Nat.zero_mul]; rfl
theorem Hy (k:Nat) (g:Nat→Int):(List.range (k+1)).map g=(List.range k).map g++[g k]:=by
  rw [List.range_succ,List.map_append]; rfl
theorem Acg (r c:Nat):Ci r c (fun _ _=>0)=List.replicate (r*c) 0:=by
  unfold Ci
  rw [List.map_const',List.length_range]
def Aau:Nat→List Int→List Int→Nat
  | s,x::xs,y::ys=>Aau (N1 s (Vo x.toNat y.toNat).1).1 xs ys
  | s,_,_=>s
def M3 (x y:List Int):Int:=Aau 0 x y
theorem Tb {a b:Nat}:(Vo a b).1<2^64:=by
  unfold Vo
  split
  · decide
  · split
    · split
      · decide
      · unfold Co; split<;>decide
    · exact P3 _ _ _
theorem Yh:∀ (x y:List Int) (s:Nat),s<2^64→Aau s x y<2^64
  | x::xs,y::ys,s,h=>Yh xs ys _ (Ti h Tb).1
  | [],_,_,h=>by unfold Aau; exact h
  | _::_,[],_,h=>by unfold Aau; exact h
end Go.Rnd
namespace Go.Rnd
open Go.Den
def Bn (n:Int):Bool:=decide (0≤n)&&decide (n≤6)
def Bh (r c:Int) (l:List Int):Bool:=(Bn r&&Bn c)&&decide ((l.length:Int)=r*c)
def Io (r c:Int) (l:List Int):Int:=if Bh r c l=true then 0 else 1
def Tn (r c:Int) (l:List Int) (p q:Int) (m:List Int):Int:=if (Bh r c l&&Bh p q m)=true then 0 else 1
def D1 (_r c:Int) (l:List Int) (i k:Int):Bool:=Cn (0≤i∧i<10∧0≤k∧k<10∧0≤c∧c<10∧i*c+k<l.length∧l.length<1000)
def Ef (c:Int) (l:List Int) (i k:Int):Int:=l.getD (i*c+k).toNat 0
def Ry (i k:Int):Int:=if i=k then 4607182418800017408 else 0
def Rf (x y i k:Int):Bool:=Cn (0≤x∧x<10∧0≤y∧y<10∧0≤i∧i<10∧0≤k∧k<10)
def Ow (r c x y a b:Int):Bool:=decide (0≤x∧0≤y∧0≤a∧0≤b∧x≤r∧y≤c∧a≤r-x∧b≤c-y)
def Xn (r c:Int) (l:List Int) (i:Int):Bool:=Bh r c l&&Cn (0≤i∧i<r)
def Ki (r c:Int) (l:List Int) (k:Int):Bool:=Bh r c l&&Cn (0≤k∧k<c)
def Pk (r c:Int) (l:List Int) (p q:Int) (m:List Int) (i k:Int):Bool:=(Xn r c l i&&Ki p q m k)&&((Ah l&&Ah m)&&Cn (c=p))
def Ko (c:Int) (l:List Int) (i:Int):List Int:=List.drop (i*c).toNat (List.take ((i+1)*c).toNat l)
def Oq (r c:Int) (l:List Int) (k:Int):List Int:=(List.range r.toNat).map fun j:Nat=>Ef c l (j:Int) k
abbrev MX:=Int × Int × List Int × Int
def Gd (e:Int):MX:=(0,0,[],e)
def Kg (n:Int):MX:=if Bn n=true then (n,n,Ci n.toNat n.toNat fun i k=>Ry i k,0) else Gd 3
def A5 (r c:Int) (l:List Int):MX:=if Bh r c l=true then (c,r,Ci c.toNat r.toNat fun i k=>Ef c l k i,0) else Gd 1
def D4 (r c:Int) (l:List Int) (x y a b:Int):MX :=
  if Bh r c l=true then (if Ow r c x y a b=true then (a,b,Ci a.toNat b.toNat fun i k=>Ef c l (x+i) (y+k),0) else Gd 3) else Gd 1
def Mc (r c:Int) (l:List Int) (p q:Int) (m:List Int):MX :=
  if (Bh r c l&&Bh p q m)=true then (if c=p then (r,q,Ci r.toNat q.toNat fun i k=>M3 (Ko c l i) (Oq p q m k),0) else Gd 3) else Gd 1
def Ra (r c:Int) (l:List Int) (p q:Int) (m:List Int):MX :=
  if (Bh r c l&&Bh p q m)=true then (if r=p∧c=q then (r,c,Ci r.toNat c.toNat fun i k=>Dl (Ef c l i k) (Ef q m i k),0) else Gd 3) else Gd 1
def Rv (x y:List Int):Bool:=decide (x.length=y.length)&&decide (x.length≤64)
def okLen (l:List Int):Bool:=Cn (l.length≤17592186044416)
theorem G8 {n:Int}:Bn n=true↔0≤n∧n≤6:=by unfold Bn; simp
theorem J1 {r c:Int} {l:List Int}:Bh r c l=true↔(0≤r∧r≤6)∧(0≤c∧c≤6)∧(l.length:Int)=r*c:=by
  unfold Bh
  rw [Aq7,Aq7,G8,G8,Aq3,and_assoc]
theorem C1 {r c:Int} {l:List Int} (h:Bh r c l=true):∃ R C:Nat,r=R∧c=C∧R≤6∧C≤6∧l.length=R*C:=by
  obtain ⟨h1,h2,h3⟩:=J1.1 h
  refine ⟨r.toNat,c.toNat,by omega,by omega,by omega,by omega,?_⟩
  have:(((r.toNat*c.toNat:Nat)):Int)=r*c:=by rw [Ari,Int.toNat_of_nonneg h1.1,Int.toNat_of_nonneg h2.1]
  omega
theorem F7 {n:Int} (h:Bn n=true):∃ R:Nat,n=R∧R≤6:=by
  have:=G8.1 h
  exact ⟨n.toNat,by omega,by omega⟩
theorem Akd {n:Nat} (h:n≤6):Bn (n:Int)=true:=G8.2 ⟨by omega,by omega⟩
theorem Qd {r c:Nat} {l:List Int} (hr:r≤6) (hc:c≤6) (hl:l.length=r*c):Bh (r:Int) (c:Int) l=true :=
  J1.2 ⟨⟨by omega,by omega⟩,⟨by omega,by omega⟩,by rw [hl,Ari]⟩
theorem Adz (c:Nat) (l:List Int) (i k:Nat):Ef (c:Int) l (i:Int) (k:Int)=l.getD (i*c+k) 0:=by
  unfold Ef
  have:((i:Int)*(c:Int)+(k:Int)).toNat=i*c+k:=by
    rw [← Ari,← Int.natCast_add,Aqy]
  rw [this]
theorem Fi {r c i k:Nat} {R:Int} {l:List Int} (hr:r≤6) (hc:c≤6) (hl:l.length=r*c) (hi:i<r) (hk:k<c):D1 R (c:Int) l (i:Int) (k:Int)=true:=by
  have:=J2 hi hk
  have h36:=Nat.mul_le_mul hr hc
  refine Ao.2 ⟨by omega,by omega,by omega,by omega,by omega,by omega,?_,by omega⟩
  rw [← Ari]
  omega
theorem Adr {r c i k:Nat} {f:Nat→Nat→Int} (hi:i<r) (hk:k<c):Ef (c:Int) (Ci r c f) (i:Int) (k:Int)=f i k:=by
  rw [Adz,Aii hi hk]
theorem Wq {r c:Nat} {l:List Int} (h:l.length=r*c):(Ci r c fun i k=>Ef (c:Int) l (i:Int) (k:Int))=l:=by
  conv=>rhs; rw [Afh h]
  exact Dh fun i k _ _=>Adz c l i k
theorem Yt {l:List Int} (h:Ah l=true) {j:Nat} (hj:j<l.length):Ai (l.getD j 0)=true:=by
  have h:=Ao.1 h
  rw [Aq6,Ard hj]
  exact h _ (List.getElem_mem hj)
end Go.Rnd
namespace Go.Rnd
theorem Aec {b:Nat} (h:b<2^64):Co (D3 b) (b%2^63)=b:=by
  unfold Co D3
  by_cases hb:2^63≤b
  · simp only [hb,decide_true,if_true]; omega
  · simp only [hb,decide_false,Bool.false_eq_true,if_false]; omega
end Go.Rnd
namespace Go.Rnd
def Pz (n:Nat):Nat:=Ieee.Datum.rootFrom n (n.log2 / 2+1) 0
theorem Ake (k:Nat):1 <<< k=2^k:=by rw [Nat.shiftLeft_eq,Nat.one_mul]
theorem Ri {n:Nat}:∀ (todo root:Nat),root*root≤n→n<(root+2^todo)*(root+2^todo) →
    Ieee.Datum.rootFrom n todo root*Ieee.Datum.rootFrom n todo root≤n∧n<(Ieee.Datum.rootFrom n todo root+1)*(Ieee.Datum.rootFrom n todo root+1)
  | 0,root,h1,h2=>⟨h1,h2⟩
  | todo+1,root,h1,h2=>by
    unfold Ieee.Datum.rootFrom
    simp only [Ake]
    have hp:2^(todo+1)=2^todo+2^todo:=by rw [Nat.pow_succ]; omega
    rw [hp] at h2
    by_cases h:(root+2^todo)*(root+2^todo)≤n
    · rw [if_pos h]
      exact Ri todo _ h (by rw [Nat.add_assoc]; exact h2)
    · rw [if_neg h]
      exact Ri todo _ h1 (by omega)
theorem No (n:Nat):Pz n*Pz n≤n∧n<(Pz n+1)*(Pz n+1):=by
  refine Ri _ _ (by simp) ?_
  rw [Nat.zero_add,← Nat.pow_add]
  rcases Nat.eq_zero_or_pos n with rfl | hn
  · decide
  · refine (Nat.log2_lt (by omega)).1 ?_
    omega
theorem Ze {a b:Nat} (h:a*a<b*b):a<b:=by
  rcases Nat.lt_or_ge a b with h1 | h1
  · exact h1
  · have:=Nat.mul_le_mul h1 h1; omega
theorem Uy {n w:Nat} (h1:w*w≤n) (h2:n<(w+1)*(w+1)):w=Pz n:=by
  obtain ⟨a,b⟩:=No n
  have c1:=Ze (Nat.lt_of_le_of_lt h1 b)
  have c2:=Ze (Nat.lt_of_le_of_lt a h2)
  omega
theorem Aib {n w:Nat} (h:w*w≤n):w≤Pz n:=by
  have:=Ze (Nat.lt_of_le_of_lt h (No n).2)
  omega
def Fs (n:Nat):Nat:=2*Pz n+(if Pz n*Pz n=n then 0 else 1)
theorem Re (a c:Nat):a*c*(a*c)=a*a*(c*c):=by
  rw [Nat.mul_assoc,Nat.mul_left_comm c,← Nat.mul_assoc a a]
theorem V7 {n:Nat} (d:Nat) (E:Int) (h:2^53≤Pz n) :
    Ch (Fs (n*(2^d*2^d))) (E-d)=Ch (Fs n) E∧flagsOf (Fs (n*(2^d*2^d))) (E-d)=flagsOf (Fs n) E:=by
  have hA:=Cd d
  obtain ⟨h1,h2⟩:=No n
  unfold Fs
  generalize hw:Pz n=w at *
  generalize hc:2^d=c at *
  have hcc:0<c*c:=Nat.mul_pos hA hA
  by_cases h0:w*w=n
  · have e1:Pz (n*(c*c))=w*c:=by
      refine (Uy ?_ ?_).symm
      · rw [Re,h0]; exact Nat.le_refl _
      · have:=Re w c
        rw [h0] at this
        rw [Nat.add_mul,Nat.mul_add,this]; omega
    rw [e1,Re,h0,if_pos rfl,if_pos rfl]
    have:=Eg (2*w+0) d E
    rw [hc,show (2*w+0)*c=2*(w*c)+0 by rw [Nat.add_zero,Nat.add_zero,Nat.mul_assoc]] at this
    exact this
  · rw [if_neg h0]
    obtain ⟨g1,g2⟩:=No (n*(c*c))
    have q1:w*c≤Pz (n*(c*c)):=Aib (by rw [Re]; exact Aq8 _ h1)
    have q2:Pz (n*(c*c))<(w+1)*c:=by
      refine Ze (Nat.lt_of_le_of_lt g1 ?_)
      rw [Re]
      exact (Nat.mul_lt_mul_right hcc).2 h2
    have q3:Pz (n*(c*c))=w*c→Pz (n*(c*c))*Pz (n*(c*c))≠n*(c*c):=fun h5 h6=>by
      rw [h5,Re] at h6
      exact h0 (Nat.eq_of_mul_eq_mul_right hcc h6)
    generalize hQ:Pz (n*(c*c))=Q at *
    have p1:(2*w+1-1)*c=2*(w*c):=by rw [Nat.add_sub_cancel,Nat.mul_assoc]
    have p2:(2*w+1+1)*c=2*((w+1)*c):=by rw [show 2*w+1+1=2*(w+1) by omega,Nat.mul_assoc]
    have od:(2*w+1)%2=1:=by omega
    generalize hV:2*Q+(if Q*Q=n*(c*c) then 0 else 1)=V
    have v1:(2*w+1-1)*2^d<V:=by
      rw [hc,p1,← hV]
      by_cases h5:Q=w*c
      · rw [if_neg (q3 h5)]; omega
      · split<;>omega
    have v2:V<(2*w+1+1)*2^d:=by
      rw [hc,p2,← hV]
      split<;>omega
    have lV:=Nm od (by omega) v1 v2
    have hs:54≤(2*w+1).log2:=by rw [Nat.le_log2 (by omega)]; omega
    have ee:E-(d:Int)+d=E:=by omega
    have:=Nc (E:=E-d) od v1 v2 (by unfold Dn; rw [lV]; omega) (by unfold Dn; omega)
    rw [ee] at this
    exact this
theorem X9 {n t:Nat} (h:2^(t+t)≤n):2^t≤Pz n:=Aib (by rw [← Nat.pow_add]; exact h)
theorem pow_two (k d:Nat):2^(k+2*d)=2^k*(2^d*2^d):=by rw [Nat.pow_add,Nat.two_mul,Nat.pow_add]
theorem Aek {m k l:Nat} {E F:Int} (h1:2^106≤m*2^k) (h2:2^106≤m*2^l) (he:2*E+k=2*F+l) :
    Ch (Fs (m*2^k)) E=Ch (Fs (m*2^l)) F∧flagsOf (Fs (m*2^k)) E=flagsOf (Fs (m*2^l)) F:=by
  rcases Nat.le_total k l with h | h
  · obtain ⟨d,rfl⟩:∃ d,l=k+2*d:=⟨(l-k) / 2,by omega⟩
    have:=V7 (n:=m*2^k) d E (X9 (t:=53) h1)
    rw [Nat.mul_assoc,← pow_two,show E-(d:Int)=F by omega] at this
    exact ⟨this.1.symm,this.2.symm⟩
  · obtain ⟨d,rfl⟩:∃ d,k=l+2*d:=⟨(k-l) / 2,by omega⟩
    have:=V7 (n:=m*2^l) d F (X9 (t:=53) h2)
    rw [Nat.mul_assoc,← pow_two,show F-(d:Int)=E by omega] at this
    exact this
def Ji (b:Nat):Nat:=128+(Be b%2).toNat
def Mr (b:Nat):Nat × Nat :=
  if As b=4 then (Vw,0)
  else if As b=0∨b=G5 then (b,0)
  else if D3 b=true then (Vw,16)
  else (Ch (Fs (Av b*2^Ji b)) ((Be b-Ji b) / 2-1),flagsOf (Fs (Av b*2^Ji b)) ((Be b-Ji b) / 2-1))
theorem Kc {b:Nat} (h3:As b≠3) (h4:As b≠4):Av b=0↔As b=0:=by
  have:=Qx b
  have:=It b
  unfold Av
  unfold As at *
  split at h3<;>split<;>(try split)<;>(try split)<;>simp_all<;>omega
theorem Zd {b:Nat} (h:As b=4):Mr b=(Vw,0):=if_pos h
theorem Rd {b:Nat} (h4:As b≠4) (h:As b=0∨b=G5):Mr b=(b,0):=by unfold Mr; rw [if_neg h4,if_pos h]
theorem Zc {b:Nat} (h4:As b≠4) (h:¬ (As b=0∨b=G5)) (hn:D3 b=true):Mr b=(Vw,16):=by unfold Mr; rw [if_neg h4,if_neg h,if_pos hn]
theorem Ags {b:Nat} (h4:As b≠4) (h:¬ (As b=0∨b=G5)) (hn:D3 b=false) :
    Mr b=(Ch (Fs (Av b*2^Ji b)) ((Be b-Ji b) / 2-1),flagsOf (Fs (Av b*2^Ji b)) ((Be b-Ji b) / 2-1)):=by
  unfold Mr; rw [if_neg h4,if_neg h,if_neg (by rw [hn]; decide)]
theorem Agw (r:Nat):Co false r=r:=rfl
theorem Ag3 {b:Nat} (hm:Av b≠0):2^106≤Av b*2^Ji b∧2*((Be b-(Ji b:Int)) / 2-1)+Ji b=Be b-2:=by
  refine ⟨?_,by unfold Ji; omega⟩
  have:2^128≤2^Ji b:=Arb (by decide) (by unfold Ji; omega)
  have h5:=Nat.mul_le_mul (show 1≤Av b by omega) this
  omega
theorem Ahw {b:Nat} (hm:Av b≠0):(Av b).log2≤52:=by
  have:=(Nat.log2_lt hm).2 (show Av b<2^53 from Ei b)
  omega
end Go.Rnd
namespace Go.Rnd
def Hd (b:Nat) (n:Int):Nat × Nat :=
  if As b=4 then (Vw,0)
  else if As b=3∨As b=0 then (b,0)
  else (Co (D3 b) (Ch (Av b) (Be b+n)),flagsOf (Av b) (Be b+n))
theorem Ago {V:Nat} {E:Int} (h0:V≠0) (h:E+V.log2+1≤-1075):Ch V E=0∧flagsOf V E=3:=by
  have hl:Dn V E=-1074:=by unfold Dn; omega
  obtain ⟨k,hk⟩:∃ k:Nat,(-1074:Int)-E=((k:Nat):Int):=⟨(-1074-E).toNat,by omega⟩
  have hV:V<2^(V.log2+1):=(Nat.log2_lt h0).1 (by omega)
  have hp:2^(V.log2+1)*2≤2^k:=by rw [← Nat.pow_succ]; exact Arb (by decide) (by omega)
  have e1:V*2^(-((-1074:Int)-E)).toNat=V:=by rw [hk]; simp
  have e2:((-1074:Int)-E).toNat=k:=by rw [hk]; rfl
  have hk2:kept V E=0:=by
    unfold kept Lk
    rw [hl,e1,e2]
    unfold Qe
    rw [Nat.div_eq_of_lt (by omega),Aq9 (by omega),if_neg (by omega)]
  have hx:exact V E=false:=by
    unfold exact K6
    rw [hl,e1,e2,Aq9 (by omega)]
    exact Aq1 h0
  have hr:Ch V E=0:=by
    unfold Ch
    rw [if_neg h0,hl,hk2]
    rfl
  refine ⟨hr,?_⟩
  unfold flagsOf
  rw [if_neg h0,hr,hx]
  rfl
theorem Aex (n:Bool) {m:Nat} {e:Int} {more:Bool} (hm:m<2^53) (h0:m≠0∨more=true) (he:e≤-1130) :
    Fb n m e more=(Co n 0,3):=by
  have h1:more.toNat≤1:=by cases more<;>decide
  have hV:4*m+more.toNat≠0:=by
    rcases h0 with h | h
    · omega
    · rw [h]; simp
  have hl:(4*m+more.toNat).log2≤54:=by
    have:=(Nat.log2_lt hV).2 (show 4*m+more.toNat<2^55 by omega); omega
  have:=Ago hV (E:=e-2) (by omega)
  unfold Fb
  rw [this.1,this.2]
theorem Ahi (n:Bool):Fb n 0 (-1074) true=(Co n 0,3):=by
  cases n<;>decide +kernel
theorem Abm {b:Nat} {n:Int} (h4:As b≠4) (h:¬ (As b=3∨As b=0)) (hn:Be b+n≤-1130):Hd b n=(Co (D3 b) 0,3):=by
  have hm:Av b≠0:=fun h5=>h (.inr ((Kc (by omega) h4).1 h5))
  have:=Ago hm (E:=Be b+n) (by have:=Ahw hm; omega)
  unfold Hd
  rw [if_neg h4,if_neg h,this.1,this.2]
theorem Aef {b:Nat} {n:Int} (h4:As b≠4) (h:¬ (As b=3∨As b=0)):Hd b n=(Co (D3 b) (Ch (Av b) (Be b+n)),flagsOf (Av b) (Be b+n)):=by
  unfold Hd; rw [if_neg h4,if_neg h]
def Aiu (b:Nat):Int:=if Lu b=true∧As b≠0 then ((Av b).log2:Int)+Be b else 0
def Af0 (b:Nat):Nat:=b%2^63
def Anl (a b:Nat):Int:=if As a=4∨As b=4 then 0 else if Uw a<Uw b then -1 else if Uw b<Uw a then 1 else 0
def Anm (a b:Nat):Bool:=!(decide (As a=4∨As b=4))
end Go.Rnd
namespace Go.Rnd
open Go.Den
def Wa (b:Int):Int:=Uw b.toNat
def Abx (a b:Int):Int:=Anl a.toNat b.toNat
def Aqb (a b:Int):Bool:=Anm a.toNat b.toNat
def Z4 (x:Int):Int:=Af0 x.toNat
def B8 (x n:Int):Int:=(Hd x.toNat n).1
def Akh (x n:Int):Int:=(Hd x.toNat n).2
def Eh (x n:Int):Bool:=Ai x&&Cn (-2300≤n∧n≤2300)
def Bz (x:Int):Int:=Aiu x.toNat
def Yn:List Int→Nat→Nat
  | [],m=>m
  | x::l,m=>if As x.toNat=4 then Vw else Yn l (max m (Af0 x.toNat))
def Bl (l:List Int):Int:=Yn l 0
def D9 (l:List Int):Bool:=l.all Df
def B5 (r c:Int) (l:List Int):Int:=if Bh r c l=true then (if D9 l=true then 0 else 4) else 1
def Aku (c:Int) (l:List Int) (n:Nat):Bool:=(List.range n).any fun i:Nat=>decide (A4 (Ef c l (i:Int) (i:Int))=0)
def M4 (r c:Int) (l:List Int) (p q:Int) (m:List Int):Int :=
  if B5 r c l≠0 then B5 r c l else if B5 p q m≠0 then B5 p q m
  else if r≠c∨r≠p then 3 else if Aku c l r.toNat=true then 5 else 0
def Mu (c:Int) (l:List Int) (i:Int):Int→Int→List Int→Int
  | s,_,[]=>s
  | s,j,x::xs=>Mu c l i (Dl s (Ej (Ef c l i j) x)) (j+1) xs
def Xc (c:Int) (l:List Int) (b:Nat→Int) (n:Nat):Nat→List Int
  | 0=>[]
  | k+1=>E7 (Mu c l ((n-1-k:Nat):Int) (b (n-1-k)) ((n-k:Nat):Int) (Xc c l b n k)) (Ef c l ((n-1-k:Nat):Int) ((n-1-k:Nat):Int))::Xc c l b n k
def X6 (c:Int) (l:List Int) (b:Nat→Int):Nat→List Int
  | 0=>[]
  | k+1=>X6 c l b k++[E7 (Mu c l (k:Int) (b k) 0 (X6 c l b k)) (Ef c l (k:Int) (k:Int))]
def Y4 (c:Int) (l:List Int) (q:Int) (m:List Int) (n w:Nat):List Int:=Ci n w fun i j=>(Xc c l (fun i=>Ef q m (i:Int) (j:Int)) n n).getD i 0
def loG (c:Int) (l:List Int) (q:Int) (m:List Int) (n w:Nat):List Int:=Ci n w fun i j=>(X6 c l (fun i=>Ef q m (i:Int) (j:Int)) n).getD i 0
def Il (r c:Int) (l:List Int):MX:=if D9 l=true then (r,c,l,0) else Gd 2
def Vy (r c:Int) (l:List Int) (p q:Int) (m:List Int):MX :=
  if M4 r c l p q m≠0 then Gd (M4 r c l p q m) else Il r q (Y4 c l q m r.toNat q.toNat)
def Z8 (r c:Int) (l:List Int) (p q:Int) (m:List Int):MX :=
  if M4 r c l p q m≠0 then Gd (M4 r c l p q m) else Il r q (loG c l q m r.toNat q.toNat)
def So (c:Int) (l:List Int) (n:Nat):List Int:=(List.range n).map fun i:Nat=>Z4 (Ef c l (i:Int) (i:Int))
def Amm (d:List Int):Bool:=d.any fun x=>!(decide (Abx (B8 (Bl d) (-40)) x<0))
def Ail (r c:Int) (l:List Int):Bool:=Amm (So c l (min r.toNat c.toNat))
def Mw (r c:Int) (l:List Int):Bool × Int:=if B5 r c l≠0 then (false,B5 r c l) else (Ail r c l,0)
def M9 (r c:Int) (l:List Int) (p q:Int) (m:List Int):Bool:=(Bh r c l&&Bh p q m)&&((Ah l&&Ah m)&&Cn (r=c∧r=p))
def Nt (n:Nat):List Int:=Ci n n fun i k=>Ry (i:Int) (k:Int)
def D8 (r c:Int) (l:List Int) (p q:Int) (m:List Int):MX :=
  if (A5 r c l).2.2.2≠0 then Gd (A5 r c l).2.2.2 else Mc (A5 r c l).1 (A5 r c l).2.1 (A5 r c l).2.2.1 p q m
end Go.Rnd
namespace Go.Rnd
open Go.Den
theorem Alq {a b:Nat}:(Aco a b).1<2^64:=by
  have h1:G5<2^63:=by decide
  have hs:∀ (s:Bool) {r:Nat},r<2^63→Co s r<2^64:=by
    intro s r h
    unfold Co
    cases s
    · rw [if_neg (by decide)]; omega
    · rw [if_pos rfl]; omega
  have hN:Vw<2^64:=by decide
  unfold Aco
  by_cases c1:As a=4∨As b=4
  · rw [if_pos c1]; exact hN
  rw [if_neg c1]
  by_cases c2:As a=As b∧(As a=3∨As a=0)
  · rw [if_pos c2]; exact hN
  rw [if_neg c2]
  by_cases c3:As a=3
  · rw [if_pos c3]; exact hs _ h1
  rw [if_neg c3]
  by_cases c4:As b=3∨As a=0
  · rw [if_pos c4]; exact hs _ (by decide)
  rw [if_neg c4]
  by_cases c5:As b=0
  · rw [if_pos c5]; exact hs _ h1
  rw [if_neg c5]
  exact hs _ (S4 _ _)
theorem Yi (a b:Int):Ai (E7 a b)=true:=B0 Alq
theorem L5 {a b:Int} (ha:Ai a=true) (hb:Ai b=true):Ai (Dl a b)=true:=by
  obtain ⟨x,rfl,hx⟩:=Bt ha
  obtain ⟨y,rfl,hy⟩:=Bt hb
  exact B0 (Ti (by rw [Aqy]; exact hx) (Rr (by rw [Aqy]; exact hy))).1
theorem F5 {r c:Nat} {f:Nat→Nat→Int} (h:∀ i k,Ai (f i k)=true):Ah (Ci r c f)=true:=Ao.2 fun x hx=>by
  obtain ⟨j,_,rfl⟩:=List.mem_map.1 hx
  exact h _ _
theorem La (a b:Int):Ai (Ej a b)=true:=B0 Tb
theorem O9 (c:Int) (l:List Int) (b:Nat→Int) (n:Nat):∀ k,(Xc c l b n k).length=k
  | 0=>rfl
  | k+1=>by rw [Xc,List.length_cons,O9 c l b n k]
theorem Abc (c:Int) (l:List Int) (b:Nat→Int) (n:Nat):∀ k,∀ x∈Xc c l b n k,Ai x=true
  | 0,x,h=>by cases h
  | k+1,x,h=>by
    rw [Xc] at h
    rcases List.mem_cons.1 h with rfl | h
    · exact Yi _ _
    · exact Abc c l b n k x h
theorem Y3 (c:Int) (l:List Int) (b:Nat→Int) (n k:Nat):∀ d,(Xc c l b n (k+d)).drop d=Xc c l b n k
  | 0=>rfl
  | d+1=>by
    rw [← Nat.add_assoc,Xc,List.drop_succ_cons]
    exact Y3 c l b n k d
theorem Y2 {c:Int} {l:List Int} {b:Nat→Int} {n k:Nat} (h:k≤n):(Xc c l b n n).drop (n-k)=Xc c l b n k:=by
  have:=Y3 c l b n k (n-k)
  rw [Nat.add_sub_cancel' h] at this
  exact this
theorem Aj3 {c:Int} {l:List Int} {b:Nat→Int} {n i:Nat} (h:i<n) :
    (Xc c l b n n).getD i 0=E7 (Mu c l (i:Int) (b i) ((i+1:Nat):Int) ((Xc c l b n n).drop (i+1))) (Ef c l (i:Int) (i:Int)):=by
  have e1:=Y2 (c:=c) (l:=l) (b:=b) (n:=n) (k:=n-i) (by omega)
  have e2:=Y2 (c:=c) (l:=l) (b:=b) (n:=n) (k:=n-i-1) (by omega)
  rw [show n-(n-i)=i by omega] at e1
  rw [show n-(n-i-1)=i+1 by omega] at e2
  rw [e2]
  have e3:(Xc c l b n n).getD i 0=((Xc c l b n n).drop i).getD 0 0:=by
    rw [Aq6,Aq6,List.getElem?_drop,Nat.add_zero]
  rw [e3,e1,show n-i=(n-i-1)+1 by omega,Xc]
  have e4:n-1-(n-i-1)=i:=by omega
  have e5:n-(n-i-1)=i+1:=by omega
  rw [e4,e5]
  rfl
theorem Qw {l:List Int} (h:∀ x∈l,Ai x=true) (i:Nat):Ai (l.getD i 0)=true:=by
  rw [Aq6]
  cases hi:l[i]? with
  | none=>exact B0 (n:=0) (by decide)
  | some x=>exact h x (List.mem_of_getElem? hi)
theorem Wn {c:Int} {l:List Int} {i s j:Int} {xs:List Int} {t:Nat} (h:t<xs.length):Mu c l i s j (xs.drop t)=Mu c l i (Dl s (Ej (Ef c l i j) (xs.getD t 0))) (j+1) (xs.drop (t+1)):=by
  rw [List.drop_eq_getElem_cons h,Mu,Aq6,Ard h]; rfl
theorem Hf (c:Int) (l:List Int) (b:Nat→Int):∀ k,(X6 c l b k).length=k
  | 0=>rfl
  | k+1=>by rw [X6,List.length_append,Hf c l b k]; rfl
theorem Ab9 (c:Int) (l:List Int) (b:Nat→Int):∀ k,∀ x∈X6 c l b k,Ai x=true
  | 0,x,h=>by cases h
  | k+1,x,h=>by
    rw [X6] at h
    rcases List.mem_append.1 h with h | h
    · exact Ab9 c l b k x h
    · rw [List.mem_singleton.1 h]; exact Yi _ _
theorem Z9 {c:Int} {l:List Int} {b:Nat→Int} {k:Nat}:∀ d,(X6 c l b (k+d)).take k=X6 c l b k
  | 0=>by rw [Nat.add_zero]; exact List.take_of_length_le (by rw [Hf]; omega)
  | d+1=>by
    rw [← Nat.add_assoc,X6,List.take_append_of_le_length (by rw [Hf]; omega)]
    exact Z9 d
theorem Aaa {c:Int} {l:List Int} {b:Nat→Int} {n k:Nat} (h:k≤n):(X6 c l b n).take k=X6 c l b k:=by
  have:=Z9 (c:=c) (l:=l) (b:=b) (k:=k) (n-k)
  rw [Nat.add_sub_cancel' h] at this
  exact this
theorem Ak8 {c:Int} {l:List Int} {b:Nat→Int} {n i:Nat} (h:i<n) :
    (X6 c l b n).getD i 0=E7 (Mu c l (i:Int) (b i) 0 ((X6 c l b n).take i)) (Ef c l (i:Int) (i:Int)):=by
  have e1:=Aaa (c:=c) (l:=l) (b:=b) (n:=n) (k:=i+1) (by omega)
  have e2:=Aaa (c:=c) (l:=l) (b:=b) (n:=n) (k:=i) (by omega)
  have e3:(X6 c l b n).getD i 0=((X6 c l b n).take (i+1)).getD i 0:=by
    rw [Aq6,Aq6,List.getElem?_take_of_lt (by omega)]
  rw [e3,e1,e2,X6,Aq6,List.getElem?_append_right (by rw [Hf]; omega),Hf,Nat.sub_self]
  rfl
end Go.Rnd
namespace Go.Rnd
open Go.Den
def Ano:Int:=4607182418800017408
def G4 (x:Int):Int:=(Mr x.toNat).1
def Na (x:Int):Int:=(Mr x.toNat).2
def Abi (k:Int):Int→List Int→Int
  | s,[]=>s
  | s,x::l=>Abi k (Jm s (Ej (B8 x k) (B8 x k))) l
def D7 (x:List Int):Int :=
  if Bl x=0∨Df (Bl x)=false then Bl x else B8 (G4 (Abi (-Bz (Bl x)) 0 x)) (Bz (Bl x))
def I2 (l:List Int):Bool:=l.all fun x=>decide (A4 x=0)
def O1:List Int→Int
  | []=>0
  | x::l=>if A4 x=0 then O1 l else x
def Bi (l:List Int) (k:Int):List Int:=l.map fun x=>B8 x k
def Ie (n:Nat) (f:Nat→Int):List Int:=Ano::(List.range (n-1)).map fun j=>f (j+1)
def muI (x:List Int):Int:=if Dd (O1 x)=true then D7 (Bi x (-Bz (Bl x))) else Db (D7 (Bi x (-Bz (Bl x))))
def G9 (x:List Int):Int:=B8 (muI x) (Bz (Bl x))
def Ain (x:List Int):Int:=B8 (x.getD 0 0) (-Bz (Bl x))
def Zx (x:List Int):List Int:=Ie x.length fun j=>E7 (B8 (x.getD j 0) (-Bz (Bl x))) (Dl (Ain x) (muI x))
def Ab3 (x:List Int):Int:=E7 (Dl (muI x) (Ain x)) (muI x)
def Akx (x:List Int):List Int × Int × Int × Int :=
  if I2 (x.drop 1)=true then (Ie x.length fun _=>0,0,x.getD 0 0,0)
  else if Df (G9 x)=true then (Zx x,Ab3 x,G9 x,0) else ([],0,0,2)
def B7 (x:List Int):List Int × Int × Int × Int :=
  if x.length=0∨64<x.length then ([],0,0,3) else if D9 x=true then Akx x else ([],0,0,4)
def Dg (c:Int) (l:List Int) (b i:Int) (n:Nat):List Int:=(List.range n).map fun j:Nat=>Ef c l (i+(j:Int)) b
def Yp (c:Int) (l:List Int) (i:Int) (v:List Int) (t b:Int):Int:=Ej t (M3 v (Dg c l b i v.length))
def Ny (c:Int) (l:List Int) (i k:Int) (v:List Int) (t a b:Int):Int :=
  if k≤b∧i≤a∧a<i+v.length then Dl (Ef c l a b) (Ej (Yp c l i v t b) (v.getD (a-i).toNat 0)) else Ef c l a b
def Fu (r c:Nat) (l:List Int) (i k:Int) (v:List Int) (t:Int):List Int:=Ci r c fun a b=>Ny (c:Int) l i k v t (a:Int) (b:Int)
def Lf (r c i k:Int) (v:List Int):Bool:=decide (0≤i∧(v.length:Int)≤r∧i≤r-v.length∧0≤k∧k≤c)
def R3 (r c:Nat) (l:List Int) (j:Nat) (x:Int):List Int:=Ci r c fun a b=>if b=j∧j≤a then (if a=j then x else 0) else Ef (c:Int) l (a:Int) (b:Int)
def Fx (r c:Nat) (l:List Int) (j:Nat):List Int:=Dg (c:Int) l (j:Int) (j:Int) (r-j)
def Vp (r c:Nat) (l:List Int) (j:Nat):List Int:=R3 r c (Fu r c l (j:Int) (j:Int) (B7 (Fx r c l j)).1 (B7 (Fx r c l j)).2.1) j (B7 (Fx r c l j)).2.2.1
def Mz (r c:Nat):Nat→Nat→List Int→Option (List Int × List (List Int × Int))
  | 0,_,l=>some (l,[])
  | n+1,j,l=>if (B7 (Fx r c l j)).2.2.2=0 then
      (Mz r c n (j+1) (Vp r c l j)).map fun x=>(x.1,((B7 (Fx r c l j)).1,(B7 (Fx r c l j)).2.1)::x.2) else none
def Ib (r c:Nat):Nat:=min c (r-1)
def Jl (n:Nat):Nat→List (List Int × Int)→List Int→List Int
  | _,[],q=>q
  | j,m::ms,q=>Fu n n (Jl n (j+1) ms q) (j:Int) 0 m.1 m.2
def Ia (r c:Nat) (l:List Int):Option (List Int × List (List Int × Int)):=Mz r c (Ib r c) 0 l
def Rx (r c:Nat) (l:List Int):List Int:=match Ia r c l with
  | some x=>Jl r 0 x.2 (Nt r)
  | none=>[]
def Ns (r c:Nat) (l:List Int):List Int:=match Ia r c l with
  | some x=>x.1
  | none=>[]
def E1 (r c:Int) (l:List Int):MX:=if (Ia r.toNat c.toNat l).isSome=true then (r,c,Ns r.toNat c.toNat l,0) else Gd 2
def Ug (ms:List (List Int × Int)):List (List DV):=ms.map fun m=>[.ints .arg .u64 m.1,.int .u64 m.2]
def Ij (r c:Int) (l:List Int):List (List DV):=match Ia r.toNat c.toNat l with
  | some x=>Ug x.2
  | none=>[]
def Qp (m:Int):Int:=Pz (m.toNat*2^64)
def Qq (m:Int):Bool:=decide (Pz (m.toNat*2^64)*Pz (m.toNat*2^64)=m.toNat*2^64)
def O6 (r c:Nat) (l:List Int):Bool:=(Ia r c l).isSome&&(D9 (Rx r c l)&&D9 (Ns r c l))
def Gl (r c:Int) (l:List Int):Int:=if B5 r c l≠0 then B5 r c l else if O6 r.toNat c.toNat l=true then 0 else 2
def qX (r c:Int) (l:List Int):MX:=if Gl r c l≠0 then Gd (Gl r c l) else (r,r,Rx r.toNat c.toNat l,0)
def rX (r c:Int) (l:List Int):MX:=if Gl r c l≠0 then Gd (Gl r c l) else (r,c,Ns r.toNat c.toNat l,0)
end Go.Rnd
namespace Go.Rnd
open Go.Den
def mulM (x y:MX):MX:=Mc x.1 x.2.1 x.2.2.1 y.1 y.2.1 y.2.2.1
def J8 (x:MX):MX:=A5 x.1 x.2.1 x.2.2.1
def K8 (x:MX) (i k a b:Int):MX:=D4 x.1 x.2.1 x.2.2.1 i k a b
def Afl (r c:Int) (l:List Int) (e:Int):MX:=if e≠0 then Gd e else if B5 r c l≠0 then Gd 2 else (r,c,l,0)
def Afk (x:MX):MX:=Afl x.1 x.2.1 x.2.2.1 x.2.2.2
def eqT (p q:Int) (m:List Int):List Int:=(A5 p q m).2.2.1
def eqR (p q:Int) (m:List Int):MX:=rX q p (eqT p q m)
def eqS (p q:Int) (m:List Int):MX:=J8 (K8 (eqR p q m) 0 0 p p)
def hY (p q:Int) (m:List Int) (u v:Int) (h:List Int):MX :=
  if Gl q p (eqT p q m)≠0 then Gd (Gl q p (eqT p q m)) else if (Mw (eqS p q m).1 (eqS p q m).2.1 (eqS p q m).2.2.1).1=true then Gd 5
  else Z8 (eqS p q m).1 (eqS p q m).2.1 (eqS p q m).2.2.1 u v h
def hQ (p q:Int) (m:List Int):MX :=
  if Gl q p (eqT p q m)≠0 then Gd (Gl q p (eqT p q m)) else if (Mw (eqS p q m).1 (eqS p q m).2.1 (eqS p q m).2.2.1).1=true then Gd 5
  else qX q p (eqT p q m)
end Go.Rnd
namespace Go.Rnd
open Go.Den
def upM (x y:MX):MX:=Vy x.1 x.2.1 x.2.2.1 y.1 y.2.1 y.2.2.1
def Um (x y:MX):MX:=Z8 x.1 x.2.1 x.2.2.1 y.1 y.2.1 y.2.2.1
def Am9 (x y:MX):MX:=Ra x.1 x.2.1 x.2.2.1 y.1 y.2.1 y.2.2.1
def Fg (x y:MX):MX:=D8 x.1 x.2.1 x.2.2.1 y.1 y.2.1 y.2.2.1
def Sm (x:MX):Bool:=(Mw x.1 x.2.1 x.2.2.1).1
def Nw (x:MX):Int:=B5 x.1 x.2.1 x.2.2.1
def Q6 (r c:Int) (l:List Int):Int :=
  if (A5 r c l).2.2.2≠0 then (A5 r c l).2.2.2 else Gl (A5 r c l).1 (A5 r c l).2.1 (A5 r c l).2.2.1
def Wl (r c:Int) (l:List Int):MX :=
  if Q6 r c l≠0 then Gd (Q6 r c l) else J8 (rX (A5 r c l).1 (A5 r c l).2.1 (A5 r c l).2.2.1)
def Vr (r c:Int) (l:List Int):MX :=
  if Q6 r c l≠0 then Gd (Q6 r c l) else J8 (qX (A5 r c l).1 (A5 r c l).2.1 (A5 r c l).2.2.1)
def Hw (r c:Int) (l:List Int) (p q:Int) (m:List Int) (u v:Int) (h:List Int):Int :=
  if B5 r c l≠0 then B5 r c l else if B5 p q m≠0 then B5 p q m else if B5 u v h≠0 then B5 u v h
  else if p≠r∨u≠r∨v≠1∨r<c∨c+q<r then 3 else 0
def R7 (l m h:List Int):Bool:=(Ah l&&Ah m)&&Ah h
def gT (r c:Int) (l:List Int):MX:=K8 (rX r c l) 0 0 c (rX r c l).2.1
def gC (r c:Int) (l:List Int) (u v:Int) (h:List Int):MX:=D8 (qX r c l).1 (qX r c l).2.1 (qX r c l).2.2.1 u v h
def gE (r c:Int) (l:List Int) (p q:Int) (m:List Int) (u v:Int) (h:List Int):Int :=
  if Gl r c l≠0 then Gl r c l else if Sm (gT r c l)=true then 5
  else if Nw (gC r c l u v h)≠0∨Nw (gC r c l p q m)≠0 then 2 else 0
def G3 (c:Int) (x:MX):MX:=K8 x 0 0 c x.2.1
def Fa (r c:Int) (x:MX):MX:=K8 x c 0 (r-c) x.2.1
def Me (e:Int) (x:MX):MX:=if e≠0 then Gd e else x
def U6 (x:MX):MX:=K8 (Wl x.1 x.2.1 x.2.2.1) 0 0 x.1 x.1
def erO (x:MX):MX:=K8 (Vr x.1 x.2.1 x.2.2.1) 0 0 x.1 (Vr x.1 x.2.1 x.2.2.1).2.1
def erY (x y:MX):MX :=
  if Q6 x.1 x.2.1 x.2.2.1≠0 then Gd (Q6 x.1 x.2.1 x.2.2.1) else if Sm (U6 x)=true then Gd 5
  else if (Um (U6 x) y).2.2.2≠0 then Gd (Um (U6 x) y).2.2.2
  else Afk (Fg (erO x) (Um (U6 x) y))
def erZ (x y:MX):MX :=
  if Q6 x.1 x.2.1 x.2.2.1≠0 then Gd (Q6 x.1 x.2.1 x.2.2.1) else if Sm (U6 x)=true then Gd 5
  else if (Um (U6 x) y).2.2.2≠0 then Gd (Um (U6 x) y).2.2.2
  else ((Fg (erO x) (Um (U6 x) y)).1,(Fg (erO x) (Um (U6 x) y)).2.1,(Fg (erO x) (Um (U6 x) y)).2.2.1,(Afk (Fg (erO x) (Um (U6 x) y))).2.2.2)
def gF (r c:Int) (C E y:MX):MX:=Am9 (G3 c C) (mulM (G3 c E) y)
def gX2 (r c:Int) (T C E y:MX):MX:=if y.2.2.2≠0 then Gd y.2.2.2 else if Nw (gF r c C E y)≠0 then Gd 2 else upM T (gF r c C E y)
def gY2 (r c:Int) (T C E y:MX):MX:=if y.2.2.2≠0 then Gd y.2.2.2 else if Nw (gF r c C E y)≠0 then Gd 2 else if (upM T (gF r c C E y)).2.2.2≠0 then Gd (upM T (gF r c C E y)).2.2.2 else y
def gY0 (r c:Int) (l:List Int) (p q:Int) (m:List Int) (u v:Int) (h:List Int):MX:=erY (Fa r c (gC r c l p q m)) (Fa r c (gC r c l u v h))
def gX (r c:Int) (l:List Int) (p q:Int) (m:List Int) (u v:Int) (h:List Int):MX :=
  if Hw r c l p q m u v h≠0 then Gd (Hw r c l p q m u v h) else if gE r c l p q m u v h≠0 then Gd (gE r c l p q m u v h)
  else gX2 r c (gT r c l) (gC r c l u v h) (gC r c l p q m) (gY0 r c l p q m u v h)
def gY (r c:Int) (l:List Int) (p q:Int) (m:List Int) (u v:Int) (h:List Int):MX :=
  if Hw r c l p q m u v h≠0 then Gd (Hw r c l p q m u v h) else if gE r c l p q m u v h≠0 then Gd (gE r c l p q m u v h)
  else gY2 r c (gT r c l) (gC r c l u v h) (gC r c l p q m) (gY0 r c l p q m u v h)
def sqV (x:Int):Int:=mD (A8 x)*mD (A8 x)
def sqK (x:Int):Int:=eD (A8 x) (Aw x)+eD (A8 x) (Aw x)
def sqM (x:Int):Int:=Aa3 0 0 (mD (sqV x)) (eD (sqV x) (sqK x))
def sqE (x:Int):Int:=Ajo 0 0 (mD (sqV x)) (eD (sqV x) (sqK x))
end Go.Rnd
namespace Go.Rnd
open Go.Den
end Go.Rnd
end
