/- A verified evaluator of the program's form and its use for this seat: S1Env, Rnd, Flt, Words, NearL, IeeL, OrdL, MulL, Limb, DyL, DyV, ExactL, MulW, SumL, MatL, MatW, PowL, RootL, ScaleL, SolW. -/
import Derived.Test.YtjbokjpbiobjpaaGreatProg
import Derived.Test.YtjbokjpbiobjpaaGreatTD
set_option linter.unusedVariables false
set_option linter.unusedSimpArgs false
noncomputable section
namespace Go.Proofs.S1
open Go Go.Den Go.Proofs
set_option maxRecDepth 100000
abbrev tB:Nat:=37
abbrev tMR:Nat:=214
abbrev tW:Nat:=173
def tys:List (Nat × TI):=[
  (2,⟨1,8,(.int .i64),[.int .i64 (0:Int)]⟩),
  (3,⟨1,8,(.int .i64),[.int .i64 (0:Int)]⟩),
  (4,⟨1,1,.bool,[.bool false]⟩),
  (5,⟨1,1,(.int .u8),[.int .u8 (0:Int)]⟩),
  (22,⟨1,24,(.slice 37),[.nil]⟩),
  (24,⟨3,40,(.struct [(0,3),(1,3),(2,22)]),[.int .i64 (0:Int),.int .i64 (0:Int),.nil]⟩),
  (25,⟨1,8,(.int .i64),[.int .i64 (0:Int)]⟩),
  (36,⟨1,8,(.int .u64),[.int .u64 (0:Int)]⟩),
  (37,⟨1,8,(.int .u64),[.int .u64 (0:Int)]⟩),
  (38,⟨1,24,(.slice 41),[.nil]⟩),
  (41,⟨1,1,(.int .i8),[.int .i8 (0:Int)]⟩),
  (43,⟨1,24,(.slice 173),[.nil]⟩),
  (45,⟨2,32,(.struct [(0,4),(1,43)]),[.bool false,.nil]⟩),
  (47,⟨3,40,(.struct [(0,45),(2,3)]),[.bool false,.nil,.int .i64 (0:Int)]⟩),
  (57,⟨12,160,(.struct [(0,24),(3,24),(6,24),(9,24)]),[.int .i64 (0:Int),.int .i64 (0:Int),.nil,.int .i64 (0:Int),.int .i64 (0:Int),.nil,.int .i64 (0:Int),.int .i64 (0:Int),.nil,.int .i64 (0:Int),.int .i64 (0:Int),.nil]⟩),
  (60,⟨12,160,(.struct [(0,24),(3,24),(6,24),(9,24)]),[.int .i64 (0:Int),.int .i64 (0:Int),.nil,.int .i64 (0:Int),.int .i64 (0:Int),.nil,.int .i64 (0:Int),.int .i64 (0:Int),.nil,.int .i64 (0:Int),.int .i64 (0:Int),.nil]⟩),
  (71,⟨9,120,(.struct [(0,24),(3,24),(6,24)]),[.int .i64 (0:Int),.int .i64 (0:Int),.nil,.int .i64 (0:Int),.int .i64 (0:Int),.nil,.int .i64 (0:Int),.int .i64 (0:Int),.nil]⟩),
  (74,⟨9,120,(.struct [(0,24),(3,24),(6,24)]),[.int .i64 (0:Int),.int .i64 (0:Int),.nil,.int .i64 (0:Int),.int .i64 (0:Int),.nil,.int .i64 (0:Int),.int .i64 (0:Int),.nil]⟩),
  (80,⟨7,88,(.struct [(0,24),(3,24),(6,25)]),[.int .i64 (0:Int),.int .i64 (0:Int),.nil,.int .i64 (0:Int),.int .i64 (0:Int),.nil,.int .i64 (0:Int)]⟩),
  (88,⟨9,120,(.struct [(0,24),(3,24),(6,24)]),[.int .i64 (0:Int),.int .i64 (0:Int),.nil,.int .i64 (0:Int),.int .i64 (0:Int),.nil,.int .i64 (0:Int),.int .i64 (0:Int),.nil]⟩),
  (91,⟨1,24,(.slice 24),[.nil]⟩),
  (102,⟨1,8,(.int .i64),[.int .i64 (0:Int)]⟩),
  (114,⟨6,80,(.array 2 24),[.int .i64 (0:Int),.int .i64 (0:Int),.nil,.int .i64 (0:Int),.int .i64 (0:Int),.nil]⟩),
  (118,⟨7,88,(.struct [(0,24),(3,24),(6,4)]),[.int .i64 (0:Int),.int .i64 (0:Int),.nil,.int .i64 (0:Int),.int .i64 (0:Int),.nil,.bool false]⟩),
  (121,⟨1,8,.fl,[.fl 0]⟩),
  (131,⟨1,24,(.slice 47),[.nil]⟩),
  (134,⟨1,24,(.slice 135),[.nil]⟩),
  (135,⟨1,24,(.slice 45),[.nil]⟩),
  (145,⟨9,120,(.array 3 24),[.int .i64 (0:Int),.int .i64 (0:Int),.nil,.int .i64 (0:Int),.int .i64 (0:Int),.nil,.int .i64 (0:Int),.int .i64 (0:Int),.nil]⟩),
  (147,⟨15,200,(.struct [(0,24),(3,24),(6,24),(9,24),(12,24)]),[.int .i64 (0:Int),.int .i64 (0:Int),.nil,.int .i64 (0:Int),.int .i64 (0:Int),.nil,.int .i64 (0:Int),.int .i64 (0:Int),.nil,.int .i64 (0:Int),.int .i64 (0:Int),.nil,.int .i64 (0:Int),.int .i64 (0:Int),.nil]⟩),
  (155,⟨3,40,(.struct [(0,3),(1,3),(2,131)]),[.int .i64 (0:Int),.int .i64 (0:Int),.nil]⟩),
  (166,⟨1,1,(.int .u8),[.int .u8 (0:Int)]⟩),
  (173,⟨1,4,(.int .u32),[.int .u32 (0:Int)]⟩),
  (183,⟨12,160,(.array 4 24),[.int .i64 (0:Int),.int .i64 (0:Int),.nil,.int .i64 (0:Int),.int .i64 (0:Int),.nil,.int .i64 (0:Int),.int .i64 (0:Int),.nil,.int .i64 (0:Int),.int .i64 (0:Int),.nil]⟩),
  (188,⟨2,16,(.array 2 3),[.int .i64 (0:Int),.int .i64 (0:Int)]⟩),
  (189,⟨1,24,(.slice 191),[.nil]⟩),
  (191,⟨3,40,(.struct [(0,22),(1,37),(2,37)]),[.nil,.int .u64 (0:Int),.int .u64 (0:Int)]⟩),
  (199,⟨3,24,(.struct [(0,4),(1,3),(2,36)]),[.bool false,.int .i64 (0:Int),.int .u64 (0:Int)]⟩),
  (208,⟨1,24,(.slice 214),[.nil]⟩),
  (214,⟨2,32,(.struct [(0,22),(1,37)]),[.nil,.int .u64 (0:Int)]⟩)]
theorem ty2:B9 Tryz.prog 2 ⟨1,8,(.int .i64),[.int .i64 (0:Int)]⟩:=Ce (z:=.int .i64 (0:Int)) (by kernel_rfl) (fun c w=>by simp [Bd,Ao,Value.cells]) rfl (by simp [Value.cells,Value.oneCell']) (by simp only [Cg]; exact Tryz.underlying2)
theorem ty3:B9 Tryz.prog 3 ⟨1,8,(.int .i64),[.int .i64 (0:Int)]⟩:=Ce (z:=.int .i64 (0:Int)) (by kernel_rfl) (fun c w=>by simp [Bd,Ao,Value.cells]) rfl (by simp [Value.cells,Value.oneCell']) (by simp only [Cg]; exact Tryz.underlying3)
theorem ty4:B9 Tryz.prog 4 ⟨1,1,.bool,[.bool false]⟩:=Ce (z:=.bool false) (by kernel_rfl) (fun c w=>by simp [Bd,Ao,Value.cells]) rfl (by simp [Value.cells,Value.oneCell']) (by simp only [Cg]; exact Tryz.underlying4)
theorem ty5:B9 Tryz.prog 5 ⟨1,1,(.int .u8),[.int .u8 (0:Int)]⟩:=Ce (z:=.int .u8 (0:Int)) (by kernel_rfl) (fun c w=>by simp [Bd,Ao,Value.cells]) rfl (by simp [Value.cells,Value.oneCell']) (by simp only [Cg]; exact Tryz.underlying5)
theorem Axy:B9 Tryz.prog 22 ⟨1,24,(.slice 37),[.nil]⟩:=Ce (z:=.slice none 0 0) (by kernel_rfl) (fun c w=>by simp [Bd,Ao,Value.cells]) rfl (by simp [Value.cells,Value.oneCell']) (by simp only [Cg]; exact Tryz.underlying22)
theorem Axx:B9 Tryz.prog 24 ⟨3,40,(.struct [(0,3),(1,3),(2,22)]),[.int .i64 (0:Int),.int .i64 (0:Int),.nil]⟩:=Ce (z:=.agg #[.int .i64 (0:Int),.int .i64 (0:Int),.slice none 0 0]) (by kernel_rfl) (fun c w=>by simp [Bd,Ao,Value.cells]) rfl (by simp [Value.cells,Value.oneCell']) (by simp only [Cg]; exact ⟨_,Tryz.underlying24,by kernel_rfl⟩)
theorem Axw:B9 Tryz.prog 25 ⟨1,8,(.int .i64),[.int .i64 (0:Int)]⟩:=Ce (z:=.int .i64 (0:Int)) (by kernel_rfl) (fun c w=>by simp [Bd,Ao,Value.cells]) rfl (by simp [Value.cells,Value.oneCell']) (by simp only [Cg]; exact Tryz.underlying25)
theorem Avk:B9 Tryz.prog 36 ⟨1,8,(.int .u64),[.int .u64 (0:Int)]⟩:=Ce (z:=.int .u64 (0:Int)) (by kernel_rfl) (fun c w=>by simp [Bd,Ao,Value.cells]) rfl (by simp [Value.cells,Value.oneCell']) (by simp only [Cg]; exact Tryz.underlying36)
theorem Axv:B9 Tryz.prog 37 ⟨1,8,(.int .u64),[.int .u64 (0:Int)]⟩:=Ce (z:=.int .u64 (0:Int)) (by kernel_rfl) (fun c w=>by simp [Bd,Ao,Value.cells]) rfl (by simp [Value.cells,Value.oneCell']) (by simp only [Cg]; exact Tryz.underlying37)
theorem Axu:B9 Tryz.prog 38 ⟨1,24,(.slice 41),[.nil]⟩:=Ce (z:=.slice none 0 0) (by kernel_rfl) (fun c w=>by simp [Bd,Ao,Value.cells]) rfl (by simp [Value.cells,Value.oneCell']) (by simp only [Cg]; exact Tryz.underlying38)
theorem Axt:B9 Tryz.prog 41 ⟨1,1,(.int .i8),[.int .i8 (0:Int)]⟩:=Ce (z:=.int .i8 (0:Int)) (by kernel_rfl) (fun c w=>by simp [Bd,Ao,Value.cells]) rfl (by simp [Value.cells,Value.oneCell']) (by simp only [Cg]; exact Tryz.underlying41)
theorem Axs:B9 Tryz.prog 43 ⟨1,24,(.slice 173),[.nil]⟩:=Ce (z:=.slice none 0 0) (by kernel_rfl) (fun c w=>by simp [Bd,Ao,Value.cells]) rfl (by simp [Value.cells,Value.oneCell']) (by simp only [Cg]; exact Tryz.underlying43)
theorem Axr:B9 Tryz.prog 45 ⟨2,32,(.struct [(0,4),(1,43)]),[.bool false,.nil]⟩:=Ce (z:=.agg #[.bool false,.slice none 0 0]) (by kernel_rfl) (fun c w=>by simp [Bd,Ao,Value.cells]) rfl (by simp [Value.cells,Value.oneCell']) (by simp only [Cg]; exact ⟨_,Tryz.underlying45,by kernel_rfl⟩)
theorem Axq:B9 Tryz.prog 47 ⟨3,40,(.struct [(0,45),(2,3)]),[.bool false,.nil,.int .i64 (0:Int)]⟩:=Ce (z:=.agg #[.bool false,.slice none 0 0,.int .i64 (0:Int)]) (by kernel_rfl) (fun c w=>by simp [Bd,Ao,Value.cells]) rfl (by simp [Value.cells,Value.oneCell']) (by simp only [Cg]; exact ⟨_,Tryz.underlying47,by kernel_rfl⟩)
theorem Axp:B9 Tryz.prog 57 ⟨12,160,(.struct [(0,24),(3,24),(6,24),(9,24)]),[.int .i64 (0:Int),.int .i64 (0:Int),.nil,.int .i64 (0:Int),.int .i64 (0:Int),.nil,.int .i64 (0:Int),.int .i64 (0:Int),.nil,.int .i64 (0:Int),.int .i64 (0:Int),.nil]⟩:=Ce (z:=.agg #[.int .i64 (0:Int),.int .i64 (0:Int),.slice none 0 0,.int .i64 (0:Int),.int .i64 (0:Int),.slice none 0 0,.int .i64 (0:Int),.int .i64 (0:Int),.slice none 0 0,.int .i64 (0:Int),.int .i64 (0:Int),.slice none 0 0]) (by kernel_rfl) (fun c w=>by simp [Bd,Ao,Value.cells]) rfl (by simp [Value.cells,Value.oneCell']) (by simp only [Cg]; exact ⟨_,Tryz.underlying57,by kernel_rfl⟩)
theorem Axo:B9 Tryz.prog 60 ⟨12,160,(.struct [(0,24),(3,24),(6,24),(9,24)]),[.int .i64 (0:Int),.int .i64 (0:Int),.nil,.int .i64 (0:Int),.int .i64 (0:Int),.nil,.int .i64 (0:Int),.int .i64 (0:Int),.nil,.int .i64 (0:Int),.int .i64 (0:Int),.nil]⟩:=Ce (z:=.agg #[.int .i64 (0:Int),.int .i64 (0:Int),.slice none 0 0,.int .i64 (0:Int),.int .i64 (0:Int),.slice none 0 0,.int .i64 (0:Int),.int .i64 (0:Int),.slice none 0 0,.int .i64 (0:Int),.int .i64 (0:Int),.slice none 0 0]) (by kernel_rfl) (fun c w=>by simp [Bd,Ao,Value.cells]) rfl (by simp [Value.cells,Value.oneCell']) (by simp only [Cg]; exact ⟨_,Tryz.underlying60,by kernel_rfl⟩)
theorem Axn:B9 Tryz.prog 71 ⟨9,120,(.struct [(0,24),(3,24),(6,24)]),[.int .i64 (0:Int),.int .i64 (0:Int),.nil,.int .i64 (0:Int),.int .i64 (0:Int),.nil,.int .i64 (0:Int),.int .i64 (0:Int),.nil]⟩:=Ce (z:=.agg #[.int .i64 (0:Int),.int .i64 (0:Int),.slice none 0 0,.int .i64 (0:Int),.int .i64 (0:Int),.slice none 0 0,.int .i64 (0:Int),.int .i64 (0:Int),.slice none 0 0]) (by kernel_rfl) (fun c w=>by simp [Bd,Ao,Value.cells]) rfl (by simp [Value.cells,Value.oneCell']) (by simp only [Cg]; exact ⟨_,Tryz.underlying71,by kernel_rfl⟩)
theorem Axm:B9 Tryz.prog 74 ⟨9,120,(.struct [(0,24),(3,24),(6,24)]),[.int .i64 (0:Int),.int .i64 (0:Int),.nil,.int .i64 (0:Int),.int .i64 (0:Int),.nil,.int .i64 (0:Int),.int .i64 (0:Int),.nil]⟩:=Ce (z:=.agg #[.int .i64 (0:Int),.int .i64 (0:Int),.slice none 0 0,.int .i64 (0:Int),.int .i64 (0:Int),.slice none 0 0,.int .i64 (0:Int),.int .i64 (0:Int),.slice none 0 0]) (by kernel_rfl) (fun c w=>by simp [Bd,Ao,Value.cells]) rfl (by simp [Value.cells,Value.oneCell']) (by simp only [Cg]; exact ⟨_,Tryz.underlying74,by kernel_rfl⟩)
theorem Axl:B9 Tryz.prog 80 ⟨7,88,(.struct [(0,24),(3,24),(6,25)]),[.int .i64 (0:Int),.int .i64 (0:Int),.nil,.int .i64 (0:Int),.int .i64 (0:Int),.nil,.int .i64 (0:Int)]⟩:=Ce (z:=.agg #[.int .i64 (0:Int),.int .i64 (0:Int),.slice none 0 0,.int .i64 (0:Int),.int .i64 (0:Int),.slice none 0 0,.int .i64 (0:Int)]) (by kernel_rfl) (fun c w=>by simp [Bd,Ao,Value.cells]) rfl (by simp [Value.cells,Value.oneCell']) (by simp only [Cg]; exact ⟨_,Tryz.underlying80,by kernel_rfl⟩)
theorem Axk:B9 Tryz.prog 88 ⟨9,120,(.struct [(0,24),(3,24),(6,24)]),[.int .i64 (0:Int),.int .i64 (0:Int),.nil,.int .i64 (0:Int),.int .i64 (0:Int),.nil,.int .i64 (0:Int),.int .i64 (0:Int),.nil]⟩:=Ce (z:=.agg #[.int .i64 (0:Int),.int .i64 (0:Int),.slice none 0 0,.int .i64 (0:Int),.int .i64 (0:Int),.slice none 0 0,.int .i64 (0:Int),.int .i64 (0:Int),.slice none 0 0]) (by kernel_rfl) (fun c w=>by simp [Bd,Ao,Value.cells]) rfl (by simp [Value.cells,Value.oneCell']) (by simp only [Cg]; exact ⟨_,Tryz.underlying88,by kernel_rfl⟩)
theorem Axj:B9 Tryz.prog 91 ⟨1,24,(.slice 24),[.nil]⟩:=Ce (z:=.slice none 0 0) (by kernel_rfl) (fun c w=>by simp [Bd,Ao,Value.cells]) rfl (by simp [Value.cells,Value.oneCell']) (by simp only [Cg]; exact Tryz.underlying91)
theorem Av3:B9 Tryz.prog 102 ⟨1,8,(.int .i64),[.int .i64 (0:Int)]⟩:=Ce (z:=.int .i64 (0:Int)) (by kernel_rfl) (fun c w=>by simp [Bd,Ao,Value.cells]) rfl (by simp [Value.cells,Value.oneCell']) (by simp only [Cg]; exact Tryz.underlying102)
theorem Av2:B9 Tryz.prog 114 ⟨6,80,(.array 2 24),[.int .i64 (0:Int),.int .i64 (0:Int),.nil,.int .i64 (0:Int),.int .i64 (0:Int),.nil]⟩:=Ce (z:=.agg #[.int .i64 (0:Int),.int .i64 (0:Int),.slice none 0 0,.int .i64 (0:Int),.int .i64 (0:Int),.slice none 0 0]) (by kernel_rfl) (fun c w=>by simp [Bd,Ao,Value.cells]) rfl (by simp [Value.cells,Value.oneCell']) (by simp only [Cg]; exact Tryz.underlying114)
theorem Av1:B9 Tryz.prog 118 ⟨7,88,(.struct [(0,24),(3,24),(6,4)]),[.int .i64 (0:Int),.int .i64 (0:Int),.nil,.int .i64 (0:Int),.int .i64 (0:Int),.nil,.bool false]⟩:=Ce (z:=.agg #[.int .i64 (0:Int),.int .i64 (0:Int),.slice none 0 0,.int .i64 (0:Int),.int .i64 (0:Int),.slice none 0 0,.bool false]) (by kernel_rfl) (fun c w=>by simp [Bd,Ao,Value.cells]) rfl (by simp [Value.cells,Value.oneCell']) (by simp only [Cg]; exact ⟨_,Tryz.underlying118,by kernel_rfl⟩)
theorem Av0:B9 Tryz.prog 121 ⟨1,8,.fl,[.fl 0]⟩:=Ce (z:=.float .f64 0) (by kernel_rfl) (fun c w=>by simp [Bd,Ao,Value.cells,Qm]) rfl (by simp [Value.cells,Value.oneCell']) (by simp only [Cg]; exact Tryz.underlying121)
theorem Avz:B9 Tryz.prog 131 ⟨1,24,(.slice 47),[.nil]⟩:=Ce (z:=.slice none 0 0) (by kernel_rfl) (fun c w=>by simp [Bd,Ao,Value.cells]) rfl (by simp [Value.cells,Value.oneCell']) (by simp only [Cg]; exact Tryz.underlying131)
theorem Avy:B9 Tryz.prog 134 ⟨1,24,(.slice 135),[.nil]⟩:=Ce (z:=.slice none 0 0) (by kernel_rfl) (fun c w=>by simp [Bd,Ao,Value.cells]) rfl (by simp [Value.cells,Value.oneCell']) (by simp only [Cg]; exact Tryz.underlying134)
theorem Avx:B9 Tryz.prog 135 ⟨1,24,(.slice 45),[.nil]⟩:=Ce (z:=.slice none 0 0) (by kernel_rfl) (fun c w=>by simp [Bd,Ao,Value.cells]) rfl (by simp [Value.cells,Value.oneCell']) (by simp only [Cg]; exact Tryz.underlying135)
theorem Avw:B9 Tryz.prog 145 ⟨9,120,(.array 3 24),[.int .i64 (0:Int),.int .i64 (0:Int),.nil,.int .i64 (0:Int),.int .i64 (0:Int),.nil,.int .i64 (0:Int),.int .i64 (0:Int),.nil]⟩:=Ce (z:=.agg #[.int .i64 (0:Int),.int .i64 (0:Int),.slice none 0 0,.int .i64 (0:Int),.int .i64 (0:Int),.slice none 0 0,.int .i64 (0:Int),.int .i64 (0:Int),.slice none 0 0]) (by kernel_rfl) (fun c w=>by simp [Bd,Ao,Value.cells]) rfl (by simp [Value.cells,Value.oneCell']) (by simp only [Cg]; exact Tryz.underlying145)
theorem Avv:B9 Tryz.prog 147 ⟨15,200,(.struct [(0,24),(3,24),(6,24),(9,24),(12,24)]),[.int .i64 (0:Int),.int .i64 (0:Int),.nil,.int .i64 (0:Int),.int .i64 (0:Int),.nil,.int .i64 (0:Int),.int .i64 (0:Int),.nil,.int .i64 (0:Int),.int .i64 (0:Int),.nil,.int .i64 (0:Int),.int .i64 (0:Int),.nil]⟩:=Ce (z:=.agg #[.int .i64 (0:Int),.int .i64 (0:Int),.slice none 0 0,.int .i64 (0:Int),.int .i64 (0:Int),.slice none 0 0,.int .i64 (0:Int),.int .i64 (0:Int),.slice none 0 0,.int .i64 (0:Int),.int .i64 (0:Int),.slice none 0 0,.int .i64 (0:Int),.int .i64 (0:Int),.slice none 0 0]) (by kernel_rfl) (fun c w=>by simp [Bd,Ao,Value.cells]) rfl (by simp [Value.cells,Value.oneCell']) (by simp only [Cg]; exact ⟨_,Tryz.underlying147,by kernel_rfl⟩)
theorem Avu:B9 Tryz.prog 155 ⟨3,40,(.struct [(0,3),(1,3),(2,131)]),[.int .i64 (0:Int),.int .i64 (0:Int),.nil]⟩:=Ce (z:=.agg #[.int .i64 (0:Int),.int .i64 (0:Int),.slice none 0 0]) (by kernel_rfl) (fun c w=>by simp [Bd,Ao,Value.cells]) rfl (by simp [Value.cells,Value.oneCell']) (by simp only [Cg]; exact ⟨_,Tryz.underlying155,by kernel_rfl⟩)
theorem Avt:B9 Tryz.prog 166 ⟨1,1,(.int .u8),[.int .u8 (0:Int)]⟩:=Ce (z:=.int .u8 (0:Int)) (by kernel_rfl) (fun c w=>by simp [Bd,Ao,Value.cells]) rfl (by simp [Value.cells,Value.oneCell']) (by simp only [Cg]; exact Tryz.underlying166)
theorem Avs:B9 Tryz.prog 173 ⟨1,4,(.int .u32),[.int .u32 (0:Int)]⟩:=Ce (z:=.int .u32 (0:Int)) (by kernel_rfl) (fun c w=>by simp [Bd,Ao,Value.cells]) rfl (by simp [Value.cells,Value.oneCell']) (by simp only [Cg]; exact Tryz.underlying173)
theorem Avr:B9 Tryz.prog 183 ⟨12,160,(.array 4 24),[.int .i64 (0:Int),.int .i64 (0:Int),.nil,.int .i64 (0:Int),.int .i64 (0:Int),.nil,.int .i64 (0:Int),.int .i64 (0:Int),.nil,.int .i64 (0:Int),.int .i64 (0:Int),.nil]⟩:=Ce (z:=.agg #[.int .i64 (0:Int),.int .i64 (0:Int),.slice none 0 0,.int .i64 (0:Int),.int .i64 (0:Int),.slice none 0 0,.int .i64 (0:Int),.int .i64 (0:Int),.slice none 0 0,.int .i64 (0:Int),.int .i64 (0:Int),.slice none 0 0]) (by kernel_rfl) (fun c w=>by simp [Bd,Ao,Value.cells]) rfl (by simp [Value.cells,Value.oneCell']) (by simp only [Cg]; exact Tryz.underlying183)
theorem Avq:B9 Tryz.prog 188 ⟨2,16,(.array 2 3),[.int .i64 (0:Int),.int .i64 (0:Int)]⟩:=Ce (z:=.agg #[.int .i64 (0:Int),.int .i64 (0:Int)]) (by kernel_rfl) (fun c w=>by simp [Bd,Ao,Value.cells]) rfl (by simp [Value.cells,Value.oneCell']) (by simp only [Cg]; exact Tryz.underlying188)
theorem Avp:B9 Tryz.prog 189 ⟨1,24,(.slice 191),[.nil]⟩:=Ce (z:=.slice none 0 0) (by kernel_rfl) (fun c w=>by simp [Bd,Ao,Value.cells]) rfl (by simp [Value.cells,Value.oneCell']) (by simp only [Cg]; exact Tryz.underlying189)
theorem Avo:B9 Tryz.prog 191 ⟨3,40,(.struct [(0,22),(1,37),(2,37)]),[.nil,.int .u64 (0:Int),.int .u64 (0:Int)]⟩:=Ce (z:=.agg #[.slice none 0 0,.int .u64 (0:Int),.int .u64 (0:Int)]) (by kernel_rfl) (fun c w=>by simp [Bd,Ao,Value.cells]) rfl (by simp [Value.cells,Value.oneCell']) (by simp only [Cg]; exact ⟨_,Tryz.underlying191,by kernel_rfl⟩)
theorem Avn:B9 Tryz.prog 199 ⟨3,24,(.struct [(0,4),(1,3),(2,36)]),[.bool false,.int .i64 (0:Int),.int .u64 (0:Int)]⟩:=Ce (z:=.agg #[.bool false,.int .i64 (0:Int),.int .u64 (0:Int)]) (by kernel_rfl) (fun c w=>by simp [Bd,Ao,Value.cells]) rfl (by simp [Value.cells,Value.oneCell']) (by simp only [Cg]; exact ⟨_,Tryz.underlying199,by kernel_rfl⟩)
theorem Avm:B9 Tryz.prog 208 ⟨1,24,(.slice 214),[.nil]⟩:=Ce (z:=.slice none 0 0) (by kernel_rfl) (fun c w=>by simp [Bd,Ao,Value.cells]) rfl (by simp [Value.cells,Value.oneCell']) (by simp only [Cg]; exact Tryz.underlying208)
theorem Avl:B9 Tryz.prog 214 ⟨2,32,(.struct [(0,22),(1,37)]),[.nil,.int .u64 (0:Int)]⟩:=Ce (z:=.agg #[.slice none 0 0,.int .u64 (0:Int)]) (by kernel_rfl) (fun c w=>by simp [Bd,Ao,Value.cells]) rfl (by simp [Value.cells,Value.oneCell']) (by simp only [Cg]; exact ⟨_,Tryz.underlying214,by kernel_rfl⟩)
theorem At2:Sf Tryz.prog tys:=.cons ty2 <| .cons ty3 <| .cons ty4 <| .cons ty5 <| .cons Axy <| .cons Axx <| .cons Axw <| .cons Avk <| .cons Axv <| .cons Axu <| .cons Axt <| .cons Axs <| .cons Axr <| .cons Axq <| .cons Axp <| .cons Axo <| .cons Axn <| .cons Axm <| .cons Axl <| .cons Axk <| .cons Axj <| .cons Av3 <| .cons Av2 <| .cons Av1 <| .cons Av0 <| .cons Avz <| .cons Avy <| .cons Avx <| .cons Avw <| .cons Avv <| .cons Avu <| .cons Avt <| .cons Avs <| .cons Avr <| .cons Avq <| .cons Avp <| .cons Avo <| .cons Avn <| .cons Avm <| .cons Avl <| .nil
def exts:List (Nat × Ext):=[(169,.bits),(210,.frombits),(263,.sqrt),(266,.sub64)]
def Agd:List (Nat × Ext)→Nat→Option Ext
  | [],_=>none
  | (m,e)::l,n=>bif Nat.beq m n then some e else Agd l n
theorem Apx (args:Array Value) (w:World):(callFunc 169 args).run Tryz.prog w=((Tl .bits args).run Tryz.prog w).andThen fun v w'=>.ok (.value v) w':=run_callFunc_extern (e:=Extern.MathFloatBits.float64bits) Tryz.func169 (by kernel_rfl) (by kernel_rfl) (by kernel_rfl) (by kernel_rfl) args w
theorem Apw (args:Array Value) (w:World):(callFunc 210 args).run Tryz.prog w=((Tl .frombits args).run Tryz.prog w).andThen fun v w'=>.ok (.value v) w':=run_callFunc_extern (e:=Extern.MathFloatBits.float64frombits) Tryz.func210 (by kernel_rfl) (by kernel_rfl) (by kernel_rfl) (by kernel_rfl) args w
theorem Apv (args:Array Value) (w:World):(callFunc 263 args).run Tryz.prog w=((Tl .sqrt args).run Tryz.prog w).andThen fun v w'=>.ok (.value v) w':=run_callFunc_extern (e:=Extern.MathSqrt.sqrt) Tryz.func263 (by kernel_rfl) (by kernel_rfl) (by kernel_rfl) (by kernel_rfl) args w
theorem Apu (args:Array Value) (w:World):(callFunc 266 args).run Tryz.prog w=((Tl .sub64 args).run Tryz.prog w).andThen fun v w'=>.ok (.value v) w':=run_callFunc_extern (e:=Xx) Tryz.func266 (by kernel_rfl) (by kernel_rfl) (by kernel_rfl) (by kernel_rfl) args w
def Au3:List Nat:=[199,188]
theorem Aw3:Ad0 Tryz.prog 199 ⟨3,24,(.struct [(0,4),(1,3),(2,36)]),[.bool false,.int .i64 (0:Int),.int .u64 (0:Int)]⟩ where
  guard:=by kernel_rfl
  eq:=by
    intro w c x y xs ys hx hy hlx hly
    obtain ⟨a0,x1,rfl,hx1⟩:=X2 hx
    obtain ⟨a1,x2,rfl,hx2⟩:=J3 hx1
    obtain ⟨a2,x3,rfl,hx3⟩:=J3 hx2
    obtain rfl:=Rw hx3
    obtain ⟨b0,y1,rfl,hy1⟩:=X2 hy
    obtain ⟨b1,y2,rfl,hy2⟩:=J3 hy1
    obtain ⟨b2,y3,rfl,hy3⟩:=J3 hy2
    obtain rfl:=Rw hy3
    obtain ⟨xs⟩:=xs
    obtain ⟨ys⟩:=ys
    simp only [Bd.Cw,Bd.Gv,Ao] at hlx hly
    obtain ⟨_,_,rfl,rfl,_,_,rfl,rfl,_,_,rfl,rfl,rfl⟩:=hlx
    obtain ⟨_,_,rfl,rfl,_,_,rfl,rfl,_,_,rfl,rfl,rfl⟩:=hly
    have hu:Tryz.prog.underlying 199=some (.struct (Tryz.prog.fieldsOf 199)):=by kernel_rfl
    have hp:Tryz.prog.stoodInHeld 199=false:=by kernel_rfl
    unfold Op.equal Op.maxDepth
    rw [run_equalIn_struct w 9999 199 _ _ hu hp]
    have hfs:Tryz.prog.fieldsOf 199=(match Tryz.prog.underlying 199 with | some (.struct fs)=>fs | _=>#[]):=rfl
    rw [hfs,Tryz.underlying199]
    simp [Op.eqFields,Mi w ty3 rfl,Mi w ty4 rfl,Mi w Avk rfl,run_equalIn_int w _ _ _ _ _ _ Tryz.underlying3,run_equalIn_bool w _ _ _ _ Tryz.underlying4,run_equalIn_int w _ _ _ _ _ _ Tryz.underlying36,Abi,Zn]
    by_cases h0:a0=b0<;>by_cases h1:a1=b1<;>by_cases h2:a2=b2<;>simp [h0,h1,h2]
theorem Aw4:Ad0 Tryz.prog 188 ⟨2,16,(.array 2 3),[.int .i64 (0:Int),.int .i64 (0:Int)]⟩ where
  guard:=by kernel_rfl
  eq:=by
    intro w c x y xs ys hx hy hlx hly
    obtain ⟨a0,x1,rfl,hx1⟩:=J3 hx
    obtain ⟨a1,x2,rfl,hx2⟩:=J3 hx1
    obtain rfl:=Rw hx2
    obtain ⟨b0,y1,rfl,hy1⟩:=J3 hy
    obtain ⟨b1,y2,rfl,hy2⟩:=J3 hy1
    obtain rfl:=Rw hy2
    obtain ⟨xs⟩:=xs
    obtain ⟨ys⟩:=ys
    simp only [Bd.Cw,Bd.Gv,Ao] at hlx hly
    obtain ⟨_,_,rfl,rfl,_,_,rfl,rfl,rfl⟩:=hlx
    obtain ⟨_,_,rfl,rfl,_,_,rfl,rfl,rfl⟩:=hly
    obtain ⟨i,_,hi,_⟩:=ty3.info
    have hc:Tryz.prog.cellsOf 3=1:=by kernel_rfl
    unfold Op.equal Op.maxDepth
    rw [run_equalIn_array w 9999 _ _ Tryz.underlying188 hi,hc]
    simp [Op.eqItems,List.range,List.range.loop,Mi w ty3 rfl,run_equalIn_int w _ _ _ _ _ _ Tryz.underlying3,Abi,Zn]
    by_cases h0:a0=b0<;>by_cases h1:a1=b1<;>simp [h0,h1]
def A9 (A8:Nat→Option Entry) (adopt:Nat→Bool) (hint:Nat→Option Bb) (live:Nat→Option (List Nat)):Env:={ ty:=Ang tys,A8:=A8,ext:=Agd exts,eqs:=fun t=>Mn t Au3,adopt:=adopt,live:=live,hint:=hint }
theorem A1 {l:List (Nat × Entry)} (h:Ay Tryz.prog l) (adopt:Nat→Bool) (hint:Nat→Option Bb) (live:Nat→Option (List Nat)):Kw Tryz.prog (A9 (A7 l) adopt hint live) where
  ty:=fun t ti ht=>At2.get ht
  A8:=fun g e hg=>(h.get hg).meets
  call:=fun g e hg=>(h.get hg).call
  ext:=by
    intro g x hx args w
    simp only [A9,exts,Agd] at hx
    cases hb:Nat.beq 169 g with
    | true =>
      rw [hb] at hx
      cases hx
      obtain rfl:=Azo hb
      exact Apx args w
    | false =>
    rw [hb,Aza] at hx
    clear hb
    cases hb:Nat.beq 210 g with
    | true =>
      rw [hb] at hx
      cases hx
      obtain rfl:=Azo hb
      exact Apw args w
    | false =>
    rw [hb,Aza] at hx
    clear hb
    cases hb:Nat.beq 263 g with
    | true =>
      rw [hb] at hx
      cases hx
      obtain rfl:=Azo hb
      exact Apv args w
    | false =>
    rw [hb,Aza] at hx
    clear hb
    cases hb:Nat.beq 266 g with
    | true =>
      rw [hb] at hx
      cases hx
      obtain rfl:=Azo hb
      exact Apu args w
    | false =>
    rw [hb,Aza] at hx
    clear hb
    cases hx
  eqs:=by
    intro t ti ht hti
    simp only [A9,Au3,Mn] at ht hti
    cases hb:Nat.beq t 199 with
    | true =>
      obtain rfl:=Azo hb
      cases hti
      exact Aw3
    | false =>
    rw [hb,Aza] at ht
    clear hb
    cases hb:Nat.beq t 188 with
    | true =>
      obtain rfl:=Azo hb
      cases hti
      exact Aw4
    | false =>
    rw [hb,Aza] at ht
    clear hb
    cases ht
  mixed:=by kernel_rfl
def Atu:List (Nat × Ext):=[(169,.bitsN),(210,.frombits),(263,.sqrt),(266,.sub64)]
def Ags:List (Nat × List CK)→Nat→List CK
  | [],_=>[]
  | (m,e)::l,n=>bif Nat.beq m n then e else Ags l n
def Wc (A8:Nat→Option Entry) (adopt:Nat→Bool) (hint:Nat→Option Bb) (live:Nat→Option (List Nat)) (adv:Nat→List CK):Env:={ ty:=Ang tys,A8:=A8,ext:=Agd Atu,eqs:=fun t=>Mn t Au3,adopt:=adopt,live:=live,hint:=hint,adv:=adv }
theorem Xo {l:List (Nat × Entry)} (h:Ay Tryz.prog l) (adopt:Nat→Bool) (hint:Nat→Option Bb) (live:Nat→Option (List Nat)) (adv:Nat→List CK):Kw Tryz.prog (Wc (A7 l) adopt hint live adv) :=
  have k:=A1 h adopt hint live
  ⟨k.ty,k.A8,k.call,(by
    intro g x hx args w
    simp only [Wc,Atu,Agd] at hx
    cases hb:Nat.beq 169 g with
    | true =>
      rw [hb] at hx
      cases hx
      obtain rfl:=Azo hb
      exact Apx args w
    | false =>
    rw [hb,Aza] at hx
    clear hb
    cases hb:Nat.beq 210 g with
    | true =>
      rw [hb] at hx
      cases hx
      obtain rfl:=Azo hb
      exact Apw args w
    | false =>
    rw [hb,Aza] at hx
    clear hb
    cases hb:Nat.beq 263 g with
    | true =>
      rw [hb] at hx
      cases hx
      obtain rfl:=Azo hb
      exact Apv args w
    | false =>
    rw [hb,Aza] at hx
    clear hb
    cases hb:Nat.beq 266 g with
    | true =>
      rw [hb] at hx
      cases hx
      obtain rfl:=Azo hb
      exact Apu args w
    | false =>
    rw [hb,Aza] at hx
    clear hb
    cases hx),k.eqs,k.mixed,k.spoil⟩
end Go.Proofs.S1
namespace Go.Rnd
def Nb (V k:Nat):Nat:=V / 2^k+(if 2^k<2*(V%2^k)∨(2*(V%2^k)=2^k∧V / 2^k%2=1) then 1 else 0)
def Kh (V:Nat) (s:Int):Nat:=Nb (V*2^(-s).toNat) s.toNat
def M6 (V:Nat) (s:Int):Bool:=decide (V*2^(-s).toNat%2^s.toNat=0)
def Cl (M:Nat) (E:Int):Int:=max (E+M.log2-52) (-1074)
def kept (M:Nat) (E:Int):Nat:=Kh M (Cl M E-E)
def Ee:Nat:=2047*2^52
def Cm (M:Nat) (E:Int):Nat:=if M=0 then 0 else min ((Cl M E+1074).toNat*2^52+kept M E) Ee
def exact (M:Nat) (E:Int):Bool:=M6 M (Cl M E-E)
def flags (r:Nat) (ex:Bool):Nat:=if r=Ee then 5 else if ex then 0 else if 2^52≤r then 1 else 3
def flagsOf (M:Nat) (E:Int):Nat:=if M=0 then 0 else flags (Cm M E) (exact M E)
theorem Cn (k:Nat):0<2^k:=Nat.pow_pos (by decide)
theorem Ox (V:Nat):Nb V 0=V:=by
  unfold Nb; simp [Nat.mod_one]
theorem Ue (V a k:Nat):Nb (V*2^a) (a+k)=Nb V k:=by
  unfold Nb
  have hA:=Cn a
  have e:2^(a+k)=2^a*2^k:=Nat.pow_add 2 a k
  have hd:V*2^a / 2^(a+k)=V / 2^k:=by
    rw [e,Nat.mul_comm V,Nat.mul_div_mul_left _ _ hA]
  have hm:V*2^a%2^(a+k)=2^a*(V%2^k):=by
    rw [e,Nat.mul_comm V,Nat.mul_mod_mul_left]
  rw [hd,hm,e]
  have h1:(2^a*2^k<2*(2^a*(V%2^k)))↔(2^k<2*(V%2^k)):=by
    rw [Nat.mul_left_comm 2]
    exact Nat.mul_lt_mul_left hA
  have h2:(2*(2^a*(V%2^k))=2^a*2^k)↔(2*(V%2^k)=2^k):=by
    rw [Nat.mul_left_comm 2]
    exact Nat.mul_right_inj (by omega)
  simp only [h1,h2]
theorem mod_mul (V a k:Nat):(V*2^a%2^(a+k)=0)↔(V%2^k=0):=by
  have hA:=Cn a
  rw [Nat.pow_add,Nat.mul_comm V,Nat.mul_mod_mul_left]
  constructor
  · intro h
    rcases Nat.mul_eq_zero.1 h with h | h
    · omega
    · exact h
  · intro h; rw [h]; rfl
theorem Wr (V k:Nat) (s:Int):Kh (V*2^k) (s+k)=Kh V s∧M6 (V*2^k) (s+k)=M6 V s:=by
  unfold Kh M6
  by_cases h0:0≤s
  · have e1:(-(s+k)).toNat=0:=by omega
    have e2:(-s).toNat=0:=by omega
    have e3:(s+k).toNat=k+s.toNat:=by omega
    rw [e1,e2,e3,Nat.pow_zero,Nat.mul_one,Nat.mul_one]
    exact ⟨Ue V k _,by simp only [mod_mul]⟩
  · by_cases h1:0≤s+k
    · have e1:(-(s+k)).toNat=0:=by omega
      have e2:s.toNat=0:=by omega
      have e3:k=(s+k).toNat+(-s).toNat:=by omega
      rw [e1,e2,Nat.pow_zero,Nat.mul_one]
      have e4:V*2^k=V*2^(-s).toNat*2^(s+k).toNat:=by
        rw [Nat.mul_assoc,← Nat.pow_add,Nat.add_comm (-s).toNat,← e3]
      rw [e4]
      refine ⟨?_,?_⟩
      · have:=Ue (V*2^(-s).toNat) (s+k).toNat 0
        rw [Nat.add_zero] at this; exact this
      · have:=mod_mul (V*2^(-s).toNat) (s+k).toNat 0
        rw [Nat.add_zero,Nat.pow_zero] at this
        simp only [this]
    · have e1:(s+k).toNat=0:=by omega
      have e2:s.toNat=0:=by omega
      have e3:(-s).toNat=k+(-(s+k)).toNat:=by omega
      rw [e1,e2,e3,Nat.pow_add,Nat.mul_assoc]
      exact ⟨rfl,rfl⟩
theorem Lr (M k:Nat) (hM:M≠0):(M*2^k).log2=M.log2+k:=by
  have hk:=Cn k
  have hne:M*2^k≠0:=by
    intro h
    rcases Nat.mul_eq_zero.1 h with h | h<;>omega
  have h1:=Nat.log2_self_le hM
  have h2:=Nat.lt_log2_self (n:=M)
  have a:M.log2+k≤(M*2^k).log2:=by
    rw [Nat.le_log2 hne,Nat.pow_add]
    exact Azi _ h1
  have b:(M*2^k).log2<M.log2+k+1:=by
    rw [Nat.log2_lt hne,Nat.add_right_comm,Nat.pow_add]
    exact (Nat.mul_lt_mul_right hk).2 h2
  omega
theorem Uy {n a:Nat} (h1:2^a≤n) (h2:n<2^(a+1)):n.log2=a:=by
  have:=Cn a
  have hn:n≠0:=by omega
  have b1:=(Nat.le_log2 hn).2 h1
  have b2:=(Nat.log2_lt hn).2 h2
  omega
theorem Aia (M k:Nat) (E:Int) (hM:M≠0):Cl (M*2^k) (E-k)=Cl M E:=by
  unfold Cl; rw [Lr M k hM]; congr 1; omega
theorem I5 {M k:Nat} (hM:M≠0):M*2^k≠0:=by
  have:=Cn k
  intro h
  rcases Nat.mul_eq_zero.1 h with h | h<;>omega
theorem El (M k:Nat) (E:Int):Cm (M*2^k) (E-k)=Cm M E∧flagsOf (M*2^k) (E-k)=flagsOf M E:=by
  by_cases hM:M=0
  · subst hM; simp [Cm,flagsOf]
  · have hl:=Aia M k E hM
    have e:Cl M E-(E-k)=Cl M E-E+k:=by omega
    have h1:Cm (M*2^k) (E-k)=Cm M E:=by
      unfold Cm kept
      rw [if_neg (I5 hM),if_neg hM,hl,e,(Wr M k _).1]
    refine ⟨h1,?_⟩
    unfold flagsOf
    rw [if_neg (I5 hM),if_neg hM,h1]
    unfold exact
    rw [hl,e,(Wr M k _).2]
theorem An3 {V s d k:Nat} (hs:s%2=1) (h1:(s-1)*2^d<V) (h2:V<(s+1)*2^d) (hk:2≤k) :
    Nb V (d+k)=Nb s k∧V%2^(d+k)≠0∧s%2^k≠0:=by
  have hA:=Cn d
  obtain ⟨j,rfl⟩:∃ j,k=j+2:=⟨k-2,by omega⟩
  have hB:2^(j+2)=4*2^j:=by rw [Nat.pow_add]; omega
  have hBp:=Cn (j+2)
  have hC:=Cn j
  have hsd:=Nat.div_add_mod s (2^(j+2))
  have hr2:s%2^(j+2)%2=1:=by
    rw [hB,show 4*2^j=2*(2*2^j) by omega,Nat.mod_mul_right_mod]; exact hs
  have hrlt:=Nat.mod_lt s hBp
  generalize hq:s / 2^(j+2)=q at *
  generalize hr:s%2^(j+2)=r at *
  have hAB:2^(d+(j+2))=2^d*2^(j+2):=Nat.pow_add 2 d (j+2)
  generalize hBB:2^(j+2)=b at *
  generalize hAA:2^d=a at *
  have e1:(s-1)*a=q*(a*b)+(r-1)*a:=by
    have:s-1=b*q+(r-1):=by omega
    rw [this,Nat.add_mul,Nat.mul_comm b q,Nat.mul_assoc,Nat.mul_comm b a]
  have e2:(s+1)*a=q*(a*b)+(r+1)*a:=by
    have:s+1=b*q+(r+1):=by omega
    rw [this,Nat.add_mul,Nat.mul_comm b q,Nat.mul_assoc,Nat.mul_comm b a]
  have e3:(r+1)*a≤b*a:=Azi a (by omega)
  rw [Nat.mul_comm b a] at e3
  rw [e1] at h1
  rw [e2] at h2
  have hdiv:V / (a*b)=q:=Nat.div_eq_of_lt_le (by omega) (by rw [Nat.add_mul]; omega)
  have hmod:V%(a*b)=V-q*(a*b):=by
    have:=Nat.div_add_mod V (a*b)
    rw [hdiv,Nat.mul_comm (a*b) q] at this; omega
  have hb2:b=2*(2*2^j):=by omega
  generalize hc:2^j=c at *
  have hR1:(r-1)*a<V-q*(a*b):=by omega
  have hR2:V-q*(a*b)<(r+1)*a:=by omega
  generalize hR:V-q*(a*b)=R at *
  have hab:a*b=2*(2*c*a):=by rw [hb2,Nat.mul_comm a,Nat.mul_assoc]
  have key:(a*b<2*R∨(2*R=a*b∧q%2=1))↔(b<2*r∨(2*r=b∧q%2=1)):=by
    rw [hab,hb2]
    rcases Nat.lt_or_ge r (2*c) with hlt | hge
    · have:(r+1)*a≤2*c*a:=Azi a (by omega)
      constructor<;>(intro h; omega)
    · have hgt:2*c+1≤r:=by omega
      have:2*c*a≤(r-1)*a:=Azi a (by omega)
      constructor
      · intro _; left; omega
      · intro _; left; omega
  refine ⟨?_,?_,?_⟩
  · unfold Nb
    rw [hAB,hdiv,hmod,hBB,hq,hr]
    simp only [key]
  · rw [hAB,hmod]
    have:=Nat.zero_le ((r-1)*a)
    omega
  · omega
theorem Qu {V s d:Nat} {E:Int} (hs:s%2=1) (h1:(s-1)*2^d<V) (h2:V<(s+1)*2^d) (hl:Cl V E=Cl s (E+d)) (hk:E+d+2≤Cl s (E+d)) :
    Cm V E=Cm s (E+d)∧flagsOf V E=flagsOf s (E+d):=by
  have hV:V≠0:=by omega
  have hs0:s≠0:=by omega
  generalize hL:Cl s (E+d)=L at *
  obtain ⟨k,hk2⟩:∃ k:Nat,L-(E+d)=k+2:=⟨(L-(E+d)-2).toNat,by omega⟩
  obtain ⟨a1,a2,a3⟩:=An3 (k:=k+2) hs h1 h2 (by omega)
  have e1:(L-E).toNat=d+(k+2):=by omega
  have e2:(-(L-E)).toNat=0:=by omega
  have e3:(L-(E+d)).toNat=k+2:=by omega
  have e4:(-(L-(E+d))).toNat=0:=by omega
  have hr:Cm V E=Cm s (E+d):=by
    unfold Cm kept Kh
    rw [if_neg hV,if_neg hs0,hl,hL,e1,e2,e3,e4]
    simp only [Nat.pow_zero,Nat.mul_one]
    rw [a1]
  refine ⟨hr,?_⟩
  unfold flagsOf exact M6
  rw [if_neg hV,if_neg hs0,hr,hl,hL,e1,e2,e3,e4]
  simp only [Nat.pow_zero,Nat.mul_one,a2,a3,decide_false]
theorem Q1 {V s d:Nat} (hs:s%2=1) (hs3:3≤s) (h1:(s-1)*2^d<V) (h2:V<(s+1)*2^d):V.log2=s.log2+d:=by
  have hs0:s≠0:=by omega
  have a1:=Nat.log2_self_le hs0
  have a2:=Nat.lt_log2_self (n:=s)
  have hl:1≤s.log2:=by rw [Nat.le_log2 hs0]; omega
  obtain ⟨t,ht⟩:∃ t,s.log2=t+1:=⟨s.log2-1,by omega⟩
  rw [ht] at a1 a2 ⊢
  have ev1:2^(t+1)=2*2^t:=by rw [Nat.pow_succ]; omega
  have ev2:2^(t+1+1)=2*(2*2^t):=by rw [Nat.pow_succ,ev1]; omega
  refine Uy ?_ ?_
  · rw [Nat.pow_add]
    have:2^(t+1)*2^d≤(s-1)*2^d:=Azi _ (by omega)
    omega
  · have e:t+1+d+1=(t+1+1)+d:=by omega
    rw [e,Nat.pow_add]
    have:(s+1)*2^d≤2^(t+1+1)*2^d:=Azi _ (by omega)
    omega
end Go.Rnd
namespace Go.Rnd
def Bu (b:Nat):Bool:=decide (2^63≤b)
def D6 (b:Nat):Nat:=b / 2^52%2048
def Dc (b:Nat):Nat:=b%2^52
def An (b:Nat):Nat:=if D6 b=2047 then (if Dc b=0 then 3 else 4) else if 0<D6 b then 2 else if 0<Dc b then 1 else 0
def Kp (b:Nat):Bool:=decide (D6 b<2047)
def Hs (b:Nat):Nat:=if 2^63≤b then b-2^63 else b+2^63
def Ax (b:Nat):Nat:=if D6 b=0 then Dc b else Dc b+2^52
def A3 (b:Nat):Int:=if D6 b=0 then -1074 else (D6 b:Int)-1075
def Bk (neg:Bool) (r:Nat):Nat:=if neg then 2^63+r else r
def Ih (neg:Bool) (m:Nat):Int:=if neg then -(m:Int) else m
def Kc (b:Nat) (e:Int):Int:=Ih (Bu b) (Ax b*2^(A3 b-e).toNat)
def Ql:Nat:=0x7ff8000000000000
def Pq (z:Nat) (S:Int) (e:Int):Nat × Nat :=
  if S=0 then (z,0) else (Bk (decide (S<0)) (Cm S.natAbs e),flagsOf S.natAbs e)
def Lc (a b:Nat):Nat × Nat :=
  if An a=4∨An b=4 then (Ql,0)
  else if An a=3 then (if An b=3∧a≠b then (Ql,16) else (a,0))
  else if An b=3 then (b,0)
  else Pq (Bk (Bu a&&Bu b) 0) (Kc a (min (A3 a) (A3 b))+Kc b (min (A3 a) (A3 b))) (min (A3 a) (A3 b))
def Aud (a b:Nat):Nat × Nat:=Lc a (Hs b)
def Gx (neg:Bool) (m:Nat) (e:Int) (more:Bool):Nat × Nat :=
  (Bk neg (Cm (4*m+more.toNat) (e-2)),flagsOf (4*m+more.toNat) (e-2))
def D0 (x:Int):Bool:=Bu x.toNat
def L5 (x:Int):Int:=D6 x.toNat
def C2 (x:Int):Int:=Dc x.toNat
def Be (x:Int):Int:=An x.toNat
def Da (x:Int):Bool:=Kp x.toNat
def Dd (x:Int):Int:=Hs x.toNat
def Bw (x:Int):Int:=Ax x.toNat
def Bh (x:Int):Int:=A3 x.toNat
def Fi (neg:Bool) (m e:Int) (more:Bool):Int:=(Gx neg m.toNat e more).1
def Fh (neg:Bool) (m e:Int) (more:Bool):Int:=(Gx neg m.toNat e more).2
def J8 (a b:Int):Int:=(Lc a.toNat b.toNat).1
def W4 (a b:Int):Int:=(Lc a.toNat b.toNat).2
def Db (a b:Int):Int:=(Aud a.toNat b.toNat).1
def Awr (a b:Int):Int:=(Aud a.toNat b.toNat).2
theorem Jt (b:Nat):D6 b<2048:=Nat.mod_lt _ (by decide)
theorem Kl (b:Nat):Dc b<4503599627370496:=Nat.mod_lt _ (by decide)
theorem Fs (b:Nat):Ax b<9007199254740992:=by
  have:=Kl b
  unfold Ax; split<;>omega
theorem E2 (b:Nat):-1074≤A3 b∧A3 b≤972:=by
  have:=Jt b
  unfold A3; split<;>omega
theorem Mw {m:Nat} {e:Int} (h1:2^52≤m) (h2:m<2^53) (he:-1074≤e):Cm m e=min ((e+1074).toNat*2^52+m) Ee:=by
  have hl:m.log2=52:=Uy h1 h2
  have hm:m≠0:=by omega
  have hle:Cl m e=e:=by unfold Cl; rw [hl]; omega
  unfold Cm kept
  rw [if_neg hm,hle,Int.sub_self]
  unfold Kh
  simp [Ox]
theorem X6 {m:Nat} (h2:m<2^52):Cm m (-1074)=m:=by
  by_cases hm:m=0
  · subst hm; rfl
  · have hl:m.log2<52:=(Nat.log2_lt hm).2 h2
    have hle:Cl m (-1074)=-1074:=by unfold Cl; omega
    unfold Cm kept
    rw [if_neg hm,hle,Int.sub_self]
    unfold Kh Ee
    simp [Ox]
    omega
theorem Le (m:Nat) (e:Int):Cm m e≤Ee:=by
  unfold Cm
  split
  · exact Nat.zero_le _
  · exact Nat.min_le_right _ _
theorem Ik:Ee=9218868437227405312:=rfl
theorem Xf (m:Nat) (e:Int):Cm m e<2^63:=by
  have:=Le m e
  rw [Ik] at this
  omega
theorem T5 (n:Bool) (m:Nat) (e:Int):Bk n (Cm m e)<2^64:=by
  have:=Xf m e
  unfold Bk; split<;>omega
theorem Yt {r:Nat} (h:r<2^63):Hs r=2^63+r:=by
  unfold Hs; rw [if_neg (by omega)]; omega
end Go.Rnd
namespace Go.Rnd
open Go.Den
def Lf (m e:Int):Bool:=Dh (0≤m∧m≤9007199254740992∧-1074≤e∧e+m / 9007199254740992≤100000)
def Ps (m e:Int):Nat:=if 9007199254740992≤m then 1 else if m<4503599627370496 then 2+(e+1074).toNat else 0
def Ui (n:Bool) (m e:Int):Int:=Bk n (Cm m.toNat e)
def Eo (m e:Int) (r:Bool):Bool :=
  Dh (0≤m∧m<18446744073709551616∧e≤50000∧(-1137≤e∨(m<4611686018427387904∧-1140≤e))∧(r=true→4503599627370496≤m∨e≤-1074))
def F9 (n D:Nat):Nat:=if n%2^D=0 then n / 2^D else 2*(n / 2^D / 2)+1
def Fu (m d:Int):Int:=F9 m.toNat (min d.toNat 63)
def Cz (l:List Int):Bool:=Dh (l.length<4611686018427387904∧∀ x∈l,Ag x=true)
def D4 (x:Nat):Nat:=if An x=4 then Ql else x
def Zv (x:Int):Int:=D4 x.toNat
def Ga (x:Nat):Int:=D4 x
def K4 (x:Int):Bool:=Dh (0≤x)
theorem I4 (n:Nat):K4 (n:Int)=true:=Aw.2 (Int.natCast_nonneg n)
theorem Ur {x:Int} (h:K4 x=true):∃ n:Nat,x=n:=⟨x.toNat,by have:=Aw.1 h; omega⟩
end Go.Rnd
namespace Go.Rnd
theorem Awu (a c:Nat):(a+1)*c+c=a*c+(c+c):=by rw [Nat.add_mul,Nat.one_mul,Nat.add_assoc]
theorem Av4:2^52+2^52=2^53:=by decide
theorem Awt (a:Nat):(a+1)*2^52+2^52=a*2^52+2^53:=(Awu a (2^52)).trans (congrArg (fun x=>a*2^52+x) Av4)
theorem At3:2^52*2^1=2^53:=by decide
theorem Arj {E:Int}:Cm (2^53) E=Cm (2^52) (E+1):=by
  have:=(El (2^52) 1 (E+1)).1
  have e1:E+1-((1:Nat):Int)=E:=by omega
  rw [e1,At3] at this
  exact this
theorem Anz {E:Int} (hE:-1074≤E):Cm (2^53) E=min ((E+1074).toNat*2^52+2^53) Ee:=by
  have e3:(E+1+1074).toNat=(E+1074).toNat+1:=by omega
  rw [Arj,Mw (by decide) (by decide) (by omega),e3]
  exact congrArg (fun x=>min x Ee) (Awt _)
theorem Ak2 {q:Nat} {E:Int} (h1:q≤2^53) (hE:-1074≤E) (h2:2^52≤q∨E=-1074):Cm q E=min ((E+1074).toNat*2^52+q) Ee:=by
  by_cases ha:q=2^53
  · rw [ha]; exact Anz hE
  · by_cases hb:2^52≤q
    · exact Mw hb (by omega) hE
    · obtain rfl:E=-1074:=h2.resolve_left hb
      rw [X6 (by omega)]
      unfold Ee
      simp
      omega
theorem Alb {M D s:Nat} (hs:s≤1):Nb (4*M+s) (D+2)=M / 2^D+(if 0<D∧(2^(D-1)<M%2^D∨(M%2^D=2^(D-1)∧(s=1∨M / 2^D%2=1))) then 1 else 0) ∧
    ((4*M+s)%2^(D+2)=0↔M%2^D=0∧s=0):=by
  have hp:2^(D+2)=2^D*4:=by rw [Nat.pow_add]
  have hA:=Cn D
  have hdm:=Nat.div_add_mod M (2^D)
  have hlt:=Nat.mod_lt M hA
  have hdiv:(4*M+s) / (2^D*4)=M / 2^D:=by
    rw [Nat.mul_comm (2^D) 4,← Nat.div_div_eq_div_mul]
    congr 1; omega
  have hmod:(4*M+s)%(2^D*4)=4*(M%2^D)+s:=by
    have h:=Nat.div_add_mod (4*M+s) (2^D*4)
    rw [hdiv] at h
    have e:2^D*4*(M / 2^D)=4*(2^D*(M / 2^D)):=by rw [Nat.mul_comm (2^D) 4,Nat.mul_assoc]
    rw [e] at h
    omega
  unfold Nb
  rw [hp,hdiv,hmod]
  generalize M%2^D=r at *
  generalize M / 2^D=q at *
  refine ⟨?_,by omega⟩
  congr 1
  have key:(2^D*4<2*(4*r+s)∨2*(4*r+s)=2^D*4∧q%2=1)↔(0<D∧(2^(D-1)<r∨(r=2^(D-1)∧(s=1∨q%2=1)))):=by
    cases D with
    | zero=>simp only [Nat.pow_zero] at hlt ⊢; omega
    | succ d =>
      rw [Nat.pow_succ] at hlt ⊢
      simp only [Nat.add_sub_cancel]
      generalize 2^d=c at *
      omega
  simp only [key]
structure Drop (M:Nat) (e:Int) (D:Nat):Prop where
  le:D≤63
  stop:D<63→M / 2^D<2^53∧-1074≤e+D
  least:∀ d,d<D→2^53≤M / 2^d∨e+d < -1074
def qOf (M D s:Nat):Nat:=M / 2^D+(if 0<D∧(2^(D-1)<M%2^D∨(M%2^D=2^(D-1)∧(s=1∨M / 2^D%2=1))) then 1 else 0)
theorem An8 {M D s:Nat} (h:M / 2^D<2^53):qOf M D s≤2^53:=by
  unfold qOf; split<;>omega
theorem An9 {M D s:Nat}:M / 2^D≤qOf M D s:=by unfold qOf; omega
theorem Au6 {M D:Nat} {c:Nat} (h:M / 2^D<c):M<c*2^D:=(Nat.div_lt_iff_lt_mul (Cn D)).1 h
theorem Apc {M D:Nat} {c:Nat} (h:c≤M / 2^D):c*2^D≤M:=(Nat.le_div_iff_mul_le (Cn D)).1 h
theorem Y6 {V:Nat} {E L:Int} (h:(E+V.log2-52=L∧-1074≤L)∨(E+V.log2-52≤L∧L=-1074)):Cl V E=L:=by unfold Cl; omega
theorem Al1 {M s:Nat} (hs:s≤1) (hM:M≠0):(4*M+s).log2=M.log2+2:=by
  have h1:=Nat.log2_self_le hM
  have h2:=Nat.lt_log2_self (n:=M)
  refine Uy ?_ ?_
  · rw [Nat.pow_add]; omega
  · have e:2^(M.log2+2+1)=2^(M.log2+1)*4:=by rw [show M.log2+2+1=M.log2+1+2 by omega,Nat.pow_add]
    omega
theorem Alq {M D s:Nat} {e:Int} (hD:Drop M e D) (hs:s≤1) (hV:4*M+s≠0) (hM:M<2^64) (he:-1137≤e∨(M<2^62∧-1140≤e)) (hr:s=1→2^52≤M∨e≤-1074) :
    Cm (4*M+s) (e-2)=Cm (if e+D < -1074 then 0 else qOf M D s) (max (e+D) (-1074)) ∧
    flagsOf (4*M+s) (e-2)=flags (Cm (4*M+s) (e-2)) (decide (M%2^D=0∧s=0)) ∧
    (if e+D < -1074 then 0 else qOf M D s)≤2^53:=by
  have hA:=Cn D
  by_cases hlow:e+D < -1074
  ·
    have hD63:D=63:=by
      rcases Nat.lt_or_ge D 63 with h | h
      · have:=(hD.stop h).2; omega
      · have:=hD.le; omega
    subst hD63
    have hM62:M<2^62:=by rcases he with h | h; omega; exact h.1
    have he2:-1140≤e:=by rcases he with h | h; omega; exact h.2
    have hV64:4*M+s<2^64:=by omega
    have hlog:(4*M+s).log2<64:=(Nat.log2_lt hV).2 hV64
    have hl:Cl (4*M+s) (e-2)=-1074:=Y6 (.inr ⟨by omega,rfl⟩)
    obtain ⟨k,hk⟩:∃ k:Nat,(-1074-(e-2)).toNat=66+k:=⟨(-1074-(e-2)).toNat-66,by omega⟩
    have e2:(-(-1074-(e-2))).toNat=0:=by omega
    have hp:2^66≤2^(66+k):=Azl (by decide) (by omega)
    have hsm:4*M+s<2^(66+k):=by omega
    have hz:Kh (4*M+s) (-1074-(e-2))=0:=by
      unfold Kh Nb
      rw [e2,hk,Nat.pow_zero,Nat.mul_one,Nat.div_eq_of_lt hsm,Azj hsm,if_neg (by omega)]
    have hru:Cm (4*M+s) (e-2)=0:=by
      unfold Cm kept
      rw [if_neg hV,hl,hz]
      simp
    refine ⟨?_,?_,?_⟩
    · rw [hru,if_pos hlow]; rfl
    · unfold flagsOf exact M6
      rw [if_neg hV,hl,e2,hk,Nat.pow_zero,Nat.mul_one,Azj hsm]
      congr 1
      have h63:M%2^63=M:=Azj (by omega)
      rw [h63,Azm]
      simp only [Azd]
      omega
    · rw [if_pos hlow]; exact Nat.zero_le _
  · have hmax:max (e+D) (-1074)=e+D:=by omega
    have hq:M / 2^D<2^53:=by
      rcases Nat.lt_or_ge D 63 with h | h
      · exact (hD.stop h).1
      · have:D=63:=by have:=hD.le; omega
        subst this
        exact Nat.lt_of_le_of_lt (Nat.div_le_of_le_mul (show M≤2^63*2 by omega)) (by decide)
    obtain ⟨c1,c2⟩:=Alb (M:=M) (D:=D) hs
    rw [if_neg hlow,hmax]
    refine ⟨?_,?_,An8 hq⟩
    all_goals
      by_cases hD0:D=0∧s=0
      · obtain ⟨rfl,rfl⟩:=hD0
        have hM0:M≠0:=by omega
        obtain ⟨s1,s2⟩:=El M 2 e
        have e1:M*2^2=4*M+0:=by omega
        have e2:e-((2:Nat):Int)=e-2:=by omega
        rw [e1,e2] at s1 s2
        have hq0:qOf M 0 0=M:=by unfold qOf; simp
        have hle:Cl M e≤e:=by
          have:M.log2<53:=(Nat.log2_lt hM0).2 (by simpa using hq)
          unfold Cl; simp only [Int.natCast_zero,Int.add_zero] at hlow; omega
        first
        | (rw [s1,hq0]; simp; done)
        | (rw [s2,s1]
           unfold flagsOf exact M6
           have z:(Cl M e-e).toNat=0:=by omega
           rw [if_neg hM0,z]
           simp [Nat.mod_one])
      ·
        have hl:Cl (4*M+s) (e-2)=e+D:=by
          by_cases hM0:M=0
          · subst hM0
            have hs1:s=1:=by omega
            subst hs1
            have hle:e+D=-1074:=by
              rcases Nat.eq_zero_or_pos D with rfl | hpos
              · have:=hr rfl; omega
              · have h:=hD.least (D-1) (by omega)
                simp only [Nat.zero_div] at h
                omega
            refine Y6 (.inr ⟨?_,hle⟩)
            have:(4*0+1:Nat).log2=0:=by decide
            rw [this]; omega
          · have hlog:=Al1 hs hM0
            have hub:M.log2<53+D:=by
              rw [Nat.log2_lt hM0,Nat.pow_add]; exact Au6 hq
            have hcase:52+D≤M.log2∨e+D=-1074:=by
              rcases Nat.eq_zero_or_pos D with rfl | hpos
              · have hs1:s=1:=by omega
                rcases hr hs1 with h | h
                · left; rw [Nat.le_log2 hM0]; simpa using h
                · right; simp only [Int.natCast_zero,Int.add_zero] at hlow ⊢; omega
              · rcases hD.least (D-1) (by omega) with h | h
                · left
                  rw [Nat.le_log2 hM0]
                  have:=Apc h
                  have e1:2^(52+D)=2^53*2^(D-1):=by rw [← Nat.pow_add]; congr 1; omega
                  rw [e1]; exact this
                · right; omega
            refine Y6 ?_
            rw [hlog]
            rcases hcase with h | h
            · left; omega
            · right; omega
        have e1:(e+D-(e-2)).toNat=D+2:=by omega
        have e2:(-(e+(D:Int)-(e-2))).toNat=0:=by omega
        have hkept:kept (4*M+s) (e-2)=qOf M D s:=by
          unfold kept Kh
          rw [hl,e1,e2,Nat.pow_zero,Nat.mul_one,c1]; rfl
        first
        | (have hbig:2^52≤qOf M D s∨e+D=-1074:=by
             rcases Nat.eq_zero_or_pos D with rfl | hpos
             · have hs1:s=1:=by omega
               rcases hr hs1 with h | h
               · left; exact Nat.le_trans (by simpa using h) An9
               · right; simp only [Int.natCast_zero,Int.add_zero] at hlow ⊢; omega
             · rcases hD.least (D-1) (by omega) with h | h
               · left
                 refine Nat.le_trans ?_ An9
                 rw [Nat.le_div_iff_mul_le hA]
                 have:=Apc h
                 have e1:2^52*2^D=2^53*2^(D-1):=by rw [← Nat.pow_add,← Nat.pow_add]; congr 1; omega
                 rw [e1]; exact this
               · right; omega
           rw [Ak2 (An8 hq) (by omega) hbig]
           unfold Cm
           rw [if_neg hV,hl,hkept]; done)
        | (unfold flagsOf exact M6
           rw [if_neg hV,hl,e1,e2,Nat.pow_zero,Nat.mul_one]
           congr 1
           rw [Azm]
           simp only [Azd]
           exact c2)
theorem Aa2 (n:Bool) {r:Nat} (h:r<2^63):D6 (Bk n r)=r / 2^52:=by
  unfold D6 Bk; cases n
  · simp only [Bool.false_eq_true,if_false]; omega
  · simp only [if_true]; omega
theorem Ze (n:Bool) (r:Nat):Dc (Bk n r)=r%2^52:=by
  unfold Dc Bk; cases n
  · rfl
  · simp only [if_true]; omega
theorem V8 (n:Bool) {r:Nat} (h:r≤Ee):An (Bk n r)=if r=Ee then 3 else if 2^52≤r then 2 else if 0<r then 1 else 0:=by
  rw [Ik] at *
  unfold An
  rw [Aa2 n (by omega),Ze]
  by_cases h1:r=9218868437227405312
  · subst h1; simp
  · rw [if_neg h1,if_neg (by omega)]
    by_cases h2:2^52≤r
    · rw [if_pos h2,if_pos (by omega)]
    · rw [if_neg h2,if_neg (by omega)]
      by_cases h3:0<r
      · rw [if_pos h3,if_pos (by omega)]
      · rw [if_neg h3,if_neg (by omega)]
end Go.Rnd
namespace Go.Rnd
open Ieee
theorem Au7 (neg:Bool) (V k:Nat):Toward.even.cut neg V k=Nb V k:=by
  unfold Toward.cut Nb
  simp only [Nat.shiftLeft_eq,Nat.one_mul]
  by_cases h:k≤V.log2+2
  · rw [Nat.min_eq_left h]
    congr 1
    by_cases h1:2^k<2*(V%2^k)
    · simp [h1]
    · by_cases h2:2*(V%2^k)=2^k∧V / 2^k%2=1
      · simp [h2.1,h2.2]
      · simp [h1,h2]
        intro h3
        have:=Nat.mod_lt (V / 2^k) (show 0<2 by decide)
        omega
  · rw [Nat.min_eq_right (by omega)]
    have hV:V<2^(V.log2+1):=Nat.lt_log2_self
    have e:2^(V.log2+2)=2*2^(V.log2+1):=by rw [Nat.pow_succ,Nat.mul_comm]
    have hk:2^(V.log2+2)≤2^k:=Azl (by decide) (by omega)
    have d1:V / 2^(V.log2+2)=0:=Nat.div_eq_of_lt (by omega)
    have d2:V / 2^k=0:=Nat.div_eq_of_lt (by omega)
    have m1:V%2^(V.log2+2)=V:=Azj (by omega)
    have m2:V%2^k=V:=Azj (by omega)
    rw [d1,d2,m1,m2]
    have c1:¬ (2^(V.log2+2)<2*V):=by omega
    have c2:¬ (2^k<2*V):=by omega
    simp [c1,c2]
theorem Aqw (neg:Bool) (r:Nat):Ieee.double.word neg r=Bk neg r:=rfl
theorem Ahv (neg:Bool) (M:Nat) (E:Int):Ieee.double.nearest neg M E=Bk neg (Cm M E):=by
  unfold Format.nearest Cm
  by_cases h:M=0
  · rw [if_pos h,if_pos h]; rfl
  · rw [if_neg h,if_neg h,Aqw]
    have e1:Ieee.double.leastPlace=-1074:=by decide
    have e2:max (E+(M.log2:Int)-(Ieee.double.fractionBits:Int)) Ieee.double.leastPlace=Cl M E:=by rw [e1]; rfl
    rw [e2,e1,Au7,Nat.shiftLeft_eq]
    unfold kept Kh
    have e3:(-(Cl M E-E)).toNat=(E-Cl M E).toNat:=by congr 1; omega
    have e4:Cl M E - -1074=Cl M E+1074:=by omega
    rw [e3,e4]
    rfl
theorem Hx (b:Nat):(D6 b=2047∧Dc b=0∧An b=3)∨(D6 b=2047∧Dc b≠0∧An b=4)∨(D6 b<2047∧An b≠3∧An b≠4):=by
  have:=Jt b
  unfold An
  by_cases h1:D6 b=2047
  · by_cases h2:Dc b=0<;>simp [h1,h2]
  · refine .inr (.inr ⟨by omega,?_⟩)
    rw [if_neg h1]
    split
    · decide
    · split<;>decide
theorem Pm (b:Nat):b%2^63=D6 b*2^52+Dc b:=by unfold D6 Dc; omega
def Ow (b:Nat):Datum:=if An b=4 then .nan (Bu b) (Dc b) else if An b=3 then .infinity (Bu b) else .number (Bu b) (Ax b) (A3 b)
theorem Jf {b:Nat} (h:b<2^64):Ieee.double.read b=Ow b:=by
  unfold Format.read Ow
  have e0:Ieee.double.signWeight=2^63:=rfl
  have e1:Ieee.double.leastPlace=-1074:=by decide
  have e2:Ieee.double.binade=2^52:=rfl
  have e3:Ieee.double.infRung=Ee:=rfl
  have hn:(b / 2^63%2==1)=Bu b:=by
    unfold Bu
    rw [Azm]
    simp only [beq_iff_eq,Azd]
    omega
  dsimp only
  rw [e0,e1,e2,e3,hn,Pm,Ik]
  have hf:Dc b<2^52:=Kl b
  rcases Hx b with ⟨h1,h2,h3⟩ | ⟨h1,h2,h3⟩ | ⟨h1,h2,h3⟩
  · rw [if_neg (by omega),if_neg (by omega),if_pos (by omega),if_neg (by omega),if_pos h3]
  · rw [if_neg (by omega),if_neg (by omega),if_neg (by omega),if_pos h3]
    have e:D6 b*2^52+Dc b-9218868437227405312=Dc b:=by omega
    rw [e]
  · rw [if_neg h3,if_neg h2]
    by_cases h0:D6 b=0
    · rw [if_pos (by omega)]
      unfold Ax A3
      rw [if_pos h0,if_pos h0,h0,Nat.zero_mul,Nat.zero_add]
    · rw [if_neg (by omega),if_pos (by omega)]
      unfold Ax A3
      rw [if_neg h0,if_neg h0]
      have m1:(D6 b*2^52+Dc b)%2^52=Dc b:=by omega
      have m2:(D6 b*2^52+Dc b) / 2^52=D6 b:=by omega
      have e:(-1074:Int)+((D6 b-1:Nat):Int)=(D6 b:Int)-1075:=by omega
      rw [m1,m2,Nat.add_comm (2^52),e]
theorem Akk (s:Bool):Ieee.double.write (.infinity s)=Bk s Ee:=rfl
theorem Mt (s:Bool) (m:Nat) (e:Int):Ieee.double.write (.number s m e)=Bk s (Cm m e):=Ahv s m e
theorem Nt {b:Nat} (h:b<2^64) (h3:An b=3):Bk (Bu b) Ee=b:=by
  rcases Hx b with ⟨h1,h2,_⟩ | ⟨_,_,h4⟩ | ⟨_,h4,_⟩
  · have e:=Pm b
    rw [h1,h2] at e
    rw [Ik]
    unfold Bk Bu
    by_cases hb:2^63≤b
    · simp [hb]; omega
    · simp [hb]; omega
  · omega
  · omega
theorem G7 (s:Bool) {r:Nat} (h:r≤Ee):D4 (Bk s r)=Bk s r:=by
  unfold D4
  rw [if_neg]
  rw [V8 s h]
  split
  · decide
  · split
    · decide
    · split<;>decide
theorem Ru (s:Bool) (m up:Nat):Ieee.signed s m up=Ih s (m*2^up):=by
  unfold Ieee.signed Ih
  rw [Nat.shiftLeft_eq]
theorem Hf {b:Nat} (h:An b=4):Ow b=.nan (Bu b) (Dc b):=if_pos h
theorem Es {b:Nat} (h:An b=3):Ow b=.infinity (Bu b):=by unfold Ow; rw [if_neg (by omega),if_pos h]
theorem Er {b:Nat} (h3:An b≠3) (h4:An b≠4):Ow b=.number (Bu b) (Ax b) (A3 b):=by unfold Ow; rw [if_neg h4,if_neg h3]
theorem Aql {a b:Nat} (h:An a=4∨An b=4):Lc a b=(Ql,0):=if_pos h
theorem Aqm {a b:Nat} (h4:¬ (An a=4∨An b=4)) (h:An a=3):Lc a b=(if An b=3∧a≠b then (Ql,16) else (a,0)):=by unfold Lc; rw [if_neg h4,if_pos h]
theorem Amw {a b:Nat} (h4:¬ (An a=4∨An b=4)) (h:An a≠3) (h':An b=3):Lc a b=(b,0):=by unfold Lc; rw [if_neg h4,if_neg h,if_pos h']
theorem Aqk {a b:Nat} (h4:¬ (An a=4∨An b=4)) (h:An a≠3) (h':An b≠3) :
    Lc a b=Pq (Bk (Bu a&&Bu b) 0) (Kc a (min (A3 a) (A3 b))+Kc b (min (A3 a) (A3 b))) (min (A3 a) (A3 b)):=by
  unfold Lc; rw [if_neg h4,if_neg h,if_neg h']
theorem Arc (s:Bool) (m:Nat) (i:Int) (t:Bool) (n:Nat) (j:Int):(Datum.number s m i).sum (Datum.number t n j) =
    some (.number (if Ih s (m*2^(i-min i j).toNat)+Ih t (n*2^(j-min i j).toNat)=0 then s&&t else Ih s (m*2^(i-min i j).toNat)+Ih t (n*2^(j-min i j).toNat)<0)
      (Ih s (m*2^(i-min i j).toNat)+Ih t (n*2^(j-min i j).toNat)).natAbs (min i j)):=by
  rw [← Ru,← Ru]
  rfl
theorem Aee {a b:Nat} (ha:a<2^64) (hb:b<2^64) {d:Nat} (hd:An d=4) :
    D4 ((((Ow a).sum (Ow b)).map Ieee.double.write).getD d)=(Lc a b).1:=by
  have cd:D4 d=Ql:=if_pos hd
  by_cases h4:An a=4∨An b=4
  · rw [Aql h4]
    by_cases a4:An a=4
    · rw [Hf a4]; exact cd
    · have b4:=h4.resolve_left a4
      rw [Hf b4]
      by_cases a3:An a=3
      · rw [Es a3]; exact cd
      · rw [Er a3 a4]; exact cd
  · have a4:An a≠4:=fun h=>h4 (.inl h)
    have b4:An b≠4:=fun h=>h4 (.inr h)
    by_cases a3:An a=3
    · have wa:=Nt ha a3
      rw [Aqm h4 a3,Es a3]
      by_cases b3:An b=3
      · have wb:=Nt hb b3
        rw [Es b3]
        by_cases hs:Bu a=Bu b
        · have hab:a=b:=by rw [← wa,← wb,hs]
          rw [if_neg (fun h=>h.2 hab)]
          have:(Datum.infinity (Bu a)).sum (.infinity (Bu b))=some (.infinity (Bu a)):=if_pos hs
          rw [this]
          show D4 (Bk (Bu a) Ee)=a
          rw [G7 _ (Nat.le_refl _),wa]
        · have hab:a≠b:=fun h=>hs (by rw [h])
          have:(Datum.infinity (Bu a)).sum (.infinity (Bu b))=none:=if_neg hs
          rw [this,if_pos ⟨b3,hab⟩]
          exact cd
      · rw [Er b3 b4,if_neg (fun h=>b3 h.1)]
        show D4 (Bk (Bu a) Ee)=a
        rw [G7 _ (Nat.le_refl _),wa]
    · rw [Er a3 a4]
      by_cases b3:An b=3
      · have wb:=Nt hb b3
        rw [Amw h4 a3 b3,Es b3]
        show D4 (Bk (Bu b) Ee)=b
        rw [G7 _ (Nat.le_refl _),wb]
      · rw [Aqk h4 a3 b3,Er b3 b4,Arc]
        show D4 (Ieee.double.write (.number _ _ _))=_
        rw [Mt,G7 _ (Le _ _)]
        unfold Pq Kc
        by_cases h0:Ih (Bu a) (Ax a*2^(A3 a-min (A3 a) (A3 b)).toNat)+Ih (Bu b) (Ax b*2^(A3 b-min (A3 a) (A3 b)).toNat)=0
        · rw [if_pos h0,if_pos h0,h0]
          have:Cm (Int.natAbs 0) (min (A3 a) (A3 b))=0:=if_pos rfl
          rw [this]
        · rw [if_neg h0,if_neg h0]
theorem Aqi {a b:Nat} (ha:a<2^64) (hb:b<2^64) {d:Nat} (hd:An d=4):D4 ((Ieee.double.add a b).getD d)=(Lc a b).1:=by
  unfold Format.add
  rw [Jf ha,Jf hb]
  exact Aee ha hb hd
theorem Afd {b:Nat} (h:b<2^64):Bu (Hs b)=!(Bu b)∧D6 (Hs b)=D6 b∧Dc (Hs b)=Dc b:=by
  unfold Bu D6 Dc Hs
  by_cases hb:2^63≤b
  · rw [if_pos hb]
    refine ⟨?_,by omega,by omega⟩
    have:¬ 2^63≤b-2^63:=by omega
    simp [hb,this]
  · rw [if_neg hb]
    refine ⟨?_,by omega,by omega⟩
    have:2^63≤b+2^63:=by omega
    simp [hb,this]
theorem Ah0 {b:Nat} (h:b<2^64):Hs b<2^64:=by unfold Hs; split<;>omega
theorem Ahp {b:Nat} (h:b<2^64):Ow (Hs b)=(Ow b).opposite:=by
  obtain ⟨h1,h2,h3⟩:=Afd h
  have hk:An (Hs b)=An b:=by unfold An; rw [h2,h3]
  have hm:Ax (Hs b)=Ax b:=by unfold Ax; rw [h2,h3]
  have he:A3 (Hs b)=A3 b:=by unfold A3; rw [h2]
  by_cases b4:An b=4
  · rw [Hf b4,Hf (by omega),h1,h3]; rfl
  · by_cases b3:An b=3
    · rw [Es b3,Es (by omega),h1]; rfl
    · rw [Er b3 b4,Er (by omega) (by omega),h1,hm,he]; rfl
theorem Ano {a b:Nat} (ha:a<2^64) (hb:b<2^64) {d:Nat} (hd:An d=4):D4 ((Ieee.double.sub a b).getD d)=(Aud a b).1:=by
  unfold Format.sub
  rw [Jf ha,Jf hb,← Ahp hb]
  exact Aee ha (Ah0 hb) hd
theorem Yo (b:Nat):(Ieee.double.read b).isNaN=decide (An b=4):=by
  unfold Format.read
  have e0:Ieee.double.signWeight=2^63:=rfl
  have e2:Ieee.double.binade=2^52:=rfl
  have e3:Ieee.double.infRung=Ee:=rfl
  dsimp only
  rw [e0,e2,e3,Pm,Ik]
  have hf:Dc b<2^52:=Kl b
  rcases Hx b with ⟨h1,h2,h3⟩ | ⟨h1,h2,h3⟩ | ⟨h1,h2,h3⟩
  · rw [if_neg (by omega),if_neg (by omega),if_pos (by omega),Azb (by omega)]; rfl
  · rw [if_neg (by omega),if_neg (by omega),if_neg (by omega),Ay7 h3]; rfl
  · rw [Azb h3]
    by_cases h0:D6 b=0
    · rw [if_pos (by omega)]; rfl
    · rw [if_neg (by omega),if_pos (by omega)]; rfl
end Go.Rnd
namespace Go.Rnd
open Ieee
theorem Vw {V W k:Nat} (h:V≤W):Nb V k≤Nb W k:=by
  unfold Nb
  have hA:=Cn k
  have hq:V / 2^k≤W / 2^k:=Nat.div_le_div_right h
  rcases Nat.lt_or_ge (V / 2^k) (W / 2^k) with h1 | h1
  · split<;>split<;>omega
  · have he:V / 2^k=W / 2^k:=by omega
    have v:=Nat.div_add_mod V (2^k)
    have w:=Nat.div_add_mod W (2^k)
    rw [he] at v ⊢
    have hr:V%2^k≤W%2^k:=by omega
    by_cases hc:2^k<2*(V%2^k)∨2*(V%2^k)=2^k∧W / 2^k%2=1
    · have hc':2^k<2*(W%2^k)∨2*(W%2^k)=2^k∧W / 2^k%2=1:=by
        rcases hc with hc | ⟨hc,hd⟩
        · exact .inl (by omega)
        · rcases Nat.lt_or_ge (2^k) (2*(W%2^k)) with h2 | h2
          · exact .inl h2
          · exact .inr ⟨by omega,hd⟩
      rw [if_pos hc,if_pos hc']
      exact Nat.le_refl _
    · rw [if_neg hc]
      exact Nat.le_add_right _ _
theorem Arq {V c k:Nat} (h:V≤c*2^k):Nb V k≤c:=by
  have h1:=Vw (k:=k) h
  have:Nb (c*2^k) k=c:=by
    have:=Ue c k 0
    rw [Nat.add_zero,Ox] at this
    exact this
  omega
theorem Aso {V c k:Nat} (h:c*2^k≤V):c≤Nb V k:=by
  have h1:=Vw (k:=k) h
  have:Nb (c*2^k) k=c:=by
    have:=Ue c k 0
    rw [Nat.add_zero,Ox] at this
    exact this
  omega
theorem Ahq {V W:Nat} {s:Int} (h:V≤W):Kh V s≤Kh W s:=Vw (Azi _ h)
theorem Aib {V W:Nat} {E:Int} (hV:V≠0) (h:V≤W):Cl V E≤Cl W E:=by
  have:V.log2≤W.log2:=(Nat.le_log2 (by omega)).2 (Nat.le_trans (Nat.log2_self_le hV) h)
  unfold Cl; omega
theorem Asp {V:Nat} {E:Int}:kept V E≤2^53:=by
  have hV:V<2^(V.log2+1):=Nat.lt_log2_self
  unfold kept Kh
  refine Arq ?_
  have hl:E+V.log2-52≤Cl V E:=by unfold Cl; omega
  rw [← Nat.pow_add]
  have h1:V*2^(-(Cl V E-E)).toNat≤2^(V.log2+1)*2^(-(Cl V E-E)).toNat:=Azi _ (Nat.le_of_lt hV)
  rw [← Nat.pow_add] at h1
  exact Nat.le_trans h1 (Azl (by decide) (by omega))
theorem Ada {V:Nat} {E:Int} (hV:V≠0) (hl:Cl V E=E+V.log2-52):2^52≤kept V E:=by
  have h1:2^V.log2≤V:=Nat.log2_self_le hV
  unfold kept Kh
  refine Aso ?_
  rw [← Nat.pow_add]
  have h2:2^V.log2*2^(-(Cl V E-E)).toNat≤V*2^(-(Cl V E-E)).toNat:=Azi _ h1
  rw [← Nat.pow_add] at h2
  exact Nat.le_trans (Azl (by decide) (by omega)) h2
theorem Aaw {V W:Nat} {E:Int} (h:V≤W):Cm V E≤Cm W E:=by
  unfold Cm
  by_cases hV:V=0
  · rw [if_pos hV]; exact Nat.zero_le _
  · have hW:W≠0:=by omega
    rw [if_neg hV,if_neg hW]
    have hl:=Aib (E:=E) hV h
    have key:(Cl V E+1074).toNat*2^52+kept V E≤(Cl W E+1074).toNat*2^52+kept W E:=by
      rcases Int.lt_or_eq_of_le hl with h1 | h1
      · have hb:-1074≤Cl V E:=by unfold Cl; omega
        have hn:Cl W E=E+W.log2-52:=by unfold Cl at h1 hb ⊢; omega
        have k1:=Asp (V:=V) (E:=E)
        have k2:=Ada hW hn
        have h2:(Cl V E+1074).toNat+1≤(Cl W E+1074).toNat:=by omega
        have h3:((Cl V E+1074).toNat+1)*2^52≤(Cl W E+1074).toNat*2^52:=Azi _ h2
        rw [Nat.add_mul (Cl V E+1074).toNat 1 (2^52),Nat.one_mul] at h3
        omega
      · unfold kept
        rw [h1]
        exact Nat.add_le_add_left (Ahq h) _
    omega
theorem Rz {b:Nat} (h4:An b≠4):Cm (Ax b) (A3 b)=b%2^63:=by
  have hf:Dc b<2^52:=Kl b
  have hr:=Pm b
  rw [hr]
  unfold Ax A3
  by_cases h0:D6 b=0
  · rw [if_pos h0,if_pos h0,X6 hf,h0,Nat.zero_mul,Nat.zero_add]
  · rw [if_neg h0,if_neg h0,Mw (by omega) (by omega) (by omega),Ik]
    have e:((D6 b:Int)-1075+1074).toNat=D6 b-1:=by omega
    rw [e]
    have h5:(D6 b-1)*2^52+(Dc b+2^52)=D6 b*2^52+Dc b:=by omega
    rw [h5]
    rcases Hx b with ⟨h1,h2,_⟩ | ⟨_,_,h⟩ | ⟨h1,_,_⟩
    · rw [h1,h2]; decide
    · exact absurd h h4
    · omega
def Ib (b:Nat):Int:=Ih (Bu b) (b%2^63)
def Su (b:Nat) (f:Int):Nat:=Ax b*2^(A3 b-f).toNat
theorem Uv {b:Nat} {f:Int} (h4:An b≠4) (hf:f≤A3 b):Cm (Su b f) f=b%2^63:=by
  rw [← Rz h4]
  have h:=(El (Ax b) (A3 b-f).toNat (A3 b)).1
  have e:A3 b-((A3 b-f).toNat:Int)=f:=by omega
  rw [e] at h
  exact h
theorem Aow {a b:Nat} (h:a%2^63=b%2^63) (f:Int):Su a f=Su b f:=by
  have h1:D6 a=D6 b:=by unfold D6; omega
  have h2:Dc a=Dc b:=by unfold Dc; omega
  unfold Su Ax A3
  rw [h1,h2]
theorem Aox {a b:Nat} {f:Int} (ha:An a≠4) (hb:An b≠4) (hfa:f≤A3 a) (hfb:f≤A3 b):Su a f<Su b f↔a%2^63<b%2^63:=by
  constructor
  · intro h
    have h1:=Aaw (E:=f) (Nat.le_of_lt h)
    rw [Uv ha hfa,Uv hb hfb] at h1
    rcases Nat.lt_or_eq_of_le h1 with h2 | h2
    · exact h2
    · have:=Aow h2 f; omega
  · intro h
    rcases Nat.lt_or_ge (Su a f) (Su b f) with h1 | h1
    · exact h1
    · have h1:=Aaw (E:=f) h1
      rw [Uv ha hfa,Uv hb hfb] at h1
      omega
theorem Afh (b:Nat) (f:Int):Su b f=0↔b%2^63=0:=by
  have hp:=Cn (A3 b-f).toNat
  unfold Su
  rw [Nat.mul_eq_zero,Pm]
  have h1:¬ (2^(A3 b-f).toNat=0):=by omega
  have h2:Ax b=0↔D6 b*2^52+Dc b=0:=by unfold Ax; split<;>omega
  rw [h2]
  exact ⟨fun h=>h.resolve_right h1,.inl⟩
theorem Aui {s t:Bool} {m n m' n':Nat} (h1:m<n↔m'<n') (h2:n<m↔n'<m') (h3:m=0↔m'=0) (h4:n=0↔n'=0):Ih s m<Ih t n↔Ih s m'<Ih t n':=by
  unfold Ih
  cases s<;>cases t<;>simp<;>omega
theorem Ab1 {a b:Nat} {f:Int} (ha:An a≠4) (hb:An b≠4) (hfa:f≤A3 a) (hfb:f≤A3 b):Kc a f<Kc b f↔Ib a<Ib b :=
  Aui (Aox ha hb hfa hfb) (Aox hb ha hfb hfa) (Afh a f) (Afh b f)
theorem Aml {x y x' y':Int} (h1:x<y↔x'<y') (h2:y<x↔y'<x'):compare x y=compare x' y':=by
  show compareOfLessAndEq x y=compareOfLessAndEq x' y'
  unfold compareOfLessAndEq
  by_cases h:x<y
  · rw [if_pos h,if_pos (h1.1 h)]
  · rw [if_neg h,if_neg (fun k=>h (h1.2 k))]
    by_cases e:x=y
    · rw [if_pos e,if_pos (by omega)]
    · rw [if_neg e,if_neg (by omega)]
theorem Auz {b:Nat} (h4:An b≠4):b%2^63≤Ee:=by
  rw [← Rz h4]; exact Le _ _
theorem U1 {b:Nat} (h:An b=3):b%2^63=Ee:=by
  rw [Pm]
  rcases Hx b with ⟨h1,h2,_⟩ | ⟨_,_,h4⟩ | ⟨_,h4,_⟩
  · rw [h1,h2]; rfl
  · omega
  · omega
theorem U2 {b:Nat} (h3:An b≠3) (h4:An b≠4):b%2^63<Ee:=by
  have hf:Dc b<2^52:=Kl b
  rw [Pm,Ik]
  rcases Hx b with ⟨_,_,h⟩ | ⟨_,_,h⟩ | ⟨h1,_,_⟩
  · exact absurd h h3
  · exact absurd h h4
  · omega
theorem Ail {x y:Int} (h:x<y):compare x y=.lt:=by
  show compareOfLessAndEq x y=_; unfold compareOfLessAndEq; rw [if_pos h]
theorem Aim {x y:Int} (h:y<x):compare x y=.gt:=by
  show compareOfLessAndEq x y=_; unfold compareOfLessAndEq; rw [if_neg (by omega),if_neg (by omega)]
theorem O2 {a b:Nat} (ha:a<2^64) (hb:b<2^64) (a4:An a≠4) (b4:An b≠4):Ieee.double.order a b=some (compare (Ib a) (Ib b)):=by
  unfold Format.order
  rw [Jf ha,Jf hb]
  have hpos:0<Ee:=by decide
  by_cases a3:An a=3
  · have ka:=U1 a3
    rw [Es a3]
    by_cases b3:An b=3
    · have kb:=U1 b3
      rw [Es b3]
      show some (compare (Bu b).toNat (Bu a).toNat)=_
      unfold Ib
      rw [ka,kb]
      cases Bu a<;>cases Bu b<;>decide
    · have kb:=U2 b3 b4
      rw [Er b3 b4]
      show some (if Bu a then Ordering.lt else .gt)=_
      unfold Ib Ih
      rw [ka]
      cases Bu a
      · rw [Aim (by simp; split<;>omega)]; rfl
      · rw [Ail (by simp; split<;>omega)]; rfl
  · have ka:=U2 a3 a4
    rw [Er a3 a4]
    by_cases b3:An b=3
    · have kb:=U1 b3
      rw [Es b3]
      show some (if Bu b then Ordering.gt else .lt)=_
      unfold Ib Ih
      rw [kb]
      cases Bu b
      · rw [Ail (by simp; split<;>omega)]; rfl
      · rw [Aim (by simp; split<;>omega)]; rfl
    · rw [Er b3 b4]
      show some (compare (Ieee.signed _ _ _) (Ieee.signed _ _ _))=_
      rw [Ru,Ru]
      congr 1
      exact Aml (Ab1 a4 b4 (Int.min_le_left _ _) (Int.min_le_right _ _)) (Ab1 b4 a4 (Int.min_le_right _ _) (Int.min_le_left _ _))
theorem V1 {a b:Nat} (ha:a<2^64) (hb:b<2^64) (h:An a=4∨An b=4):Ieee.double.order a b=none:=by
  unfold Format.order
  rw [Jf ha,Jf hb]
  by_cases a4:An a=4
  · rw [Hf a4]; cases Ow b<;>rfl
  · rw [Hf (h.resolve_left a4)]; cases Ow a<;>rfl
theorem O9 (s:Bool) {r:Nat} (h:r<2^63):Ib (Bk s r)=Ih s r:=by
  unfold Ib Bk Bu
  cases s
  · have h1:¬ 2^63≤r:=by omega
    have h2:r%2^63=r:=Azj h
    simp only [Bool.false_eq_true,if_false,Azb h1,h2]
  · have h1:2^63≤2^63+r:=by omega
    have h2:(2^63+r)%2^63=r:=by omega
    simp only [if_true,Ay7 h1,h2]
end Go.Rnd
namespace Go.Rnd
def Nr (a b:Nat):Nat × Nat :=
  if An a=4∨An b=4 then (Ql,0)
  else if An a=3∨An b=3 then (if An a=0∨An b=0 then (Ql,16) else (Bk (Bu a !=Bu b) Ee,0))
  else (Bk (Bu a !=Bu b) (Cm (Ax a*Ax b) (A3 a+A3 b)),flagsOf (Ax a*Ax b) (A3 a+A3 b))
def F0 (X Y K:Nat):Nat:=2*(X*2^K / Y)+(if X*2^K%Y=0 then 0 else 1)
def Ado (a b:Nat):Nat × Nat :=
  if An a=4∨An b=4 then (Ql,0)
  else if An a=An b∧(An a=3∨An a=0) then (Ql,16)
  else if An a=3 then (Bk (Bu a !=Bu b) Ee,0)
  else if An b=3∨An a=0 then (Bk (Bu a !=Bu b) 0,0)
  else if An b=0 then (Bk (Bu a !=Bu b) Ee,8)
  else (Bk (Bu a !=Bu b) (Cm (F0 (Ax a) (Ax b) 120) (A3 a-A3 b-121)),flagsOf (F0 (Ax a) (Ax b) 120) (A3 a-A3 b-121))
theorem Aa8 (a b:Nat):Nr a b=Nr b a:=by
  have e:(Bu a !=Bu b)=(Bu b !=Bu a):=by cases Bu a<;>cases Bu b<;>rfl
  unfold Nr
  rw [e,Nat.mul_comm (Ax a),Int.add_comm (A3 a)]
  simp only [or_comm]
theorem Ahw {V k:Nat} {E:Int} (hm:1≤V / 2^k) (hc:2^53≤V / 2^k∨E+k+1≤-1074) :
    Cm (4*(V / 2^k)+(if V%2^k=0 then 0 else 1)) (E+k-2)=Cm V E∧flagsOf (4*(V / 2^k)+(if V%2^k=0 then 0 else 1)) (E+k-2)=flagsOf V E:=by
  have hA:=Cn k
  have h1:=Nat.div_add_mod V (2^k)
  have h2:=Nat.mod_lt V hA
  generalize hq:V / 2^k=q at *
  generalize hr:V%2^k=r at *
  by_cases h0:r=0
  · rw [if_pos h0]
    obtain ⟨a1,a2⟩:=El q k (E+k)
    obtain ⟨b1,b2⟩:=El q 2 (E+k)
    have e1:E+(k:Int)-k=E:=by omega
    have e2:V=q*2^k:=by rw [Nat.mul_comm]; omega
    have e3:q*2^2=4*q+0:=by omega
    have e4:E+(k:Int)-((2:Nat):Int)=E+k-2:=by omega
    rw [e1,← e2] at a1 a2
    rw [e3,e4] at b1 b2
    rw [a1,a2,b1,b2]
    exact ⟨rfl,rfl⟩
  · rw [if_neg h0]
    obtain ⟨d,rfl⟩:∃ d,k=d+1:=by
      cases k with
      | zero=>simp only [Nat.pow_zero] at h2; omega
      | succ d=>exact ⟨d,rfl⟩
    have hD:2^(d+1)=2*2^d:=by rw [Nat.pow_succ]; omega
    rw [hD] at h1 h2
    generalize hc2:2^d=c at *
    have p1:(2*q+1-1)*c=2*c*q:=by rw [Nat.add_sub_cancel,Nat.mul_comm,Nat.mul_left_comm,Nat.mul_assoc]
    have p2:(2*q+1+1)*c=2*c*q+2*c:=by
      rw [show 2*q+1+1=2*(q+1) by omega,Nat.mul_assoc,Nat.add_mul,Nat.mul_add,Nat.mul_comm q c,Nat.mul_assoc]; omega
    have lt1:(2*q+1-1)*2^d<V:=by rw [hc2,p1]; omega
    have lt2:V<(2*q+1+1)*2^d:=by rw [hc2,p2]; omega
    have od:(2*q+1)%2=1:=by omega
    have lV:=Q1 od (by omega) lt1 lt2
    have l4:(4*q+1).log2=(2*q+1).log2+1:=Q1 (d:=1) od (by omega) (by omega) (by omega)
    have hs:(2*q+1).log2≥54∨E+d+2≤-1074:=by
      rcases hc with h | h
      · left; rw [ge_iff_le,Nat.le_log2 (by omega)]; omega
      · right; omega
    have hk:E+d+2≤Cl (2*q+1) (E+d):=by unfold Cl; omega
    obtain ⟨a1,a2⟩:=Qu (E:=E) od lt1 lt2 (by unfold Cl; rw [lV]; omega) hk
    have ee:E+((d+1:Nat):Int)-2+((1:Nat):Int)=E+d:=by omega
    obtain ⟨b1,b2⟩:=Qu (V:=4*q+1) (d:=1) (E:=E+((d+1:Nat):Int)-2) od (by omega) (by omega) (by unfold Cl; rw [l4]; omega) (by rw [ee]; unfold Cl; omega)
    rw [ee] at b1 b2
    rw [a1,a2,b1,b2]
    exact ⟨rfl,rfl⟩
theorem Uq (n:Bool) {V k:Nat} {E e:Int} {s:Bool} (he:e=E+k) (hs:s=decide (V%2^k≠0)) (hm:1≤V / 2^k) (hc:2^53≤V / 2^k∨E+k+1≤-1074) :
    Gx n (V / 2^k) e s=(Bk n (Cm V E),flagsOf V E):=by
  obtain ⟨a,b⟩:=Ahw hm hc
  have e1:s.toNat=if V%2^k=0 then 0 else 1:=by
    rw [hs]
    by_cases h:V%2^k=0
    · rw [Azb (by omega),if_pos h]; rfl
    · rw [Ay7 h,if_neg h]; rfl
  unfold Gx
  rw [he,e1,a,b]
theorem Xy {X Y K:Nat} (d:Nat) (E:Int) (hY:0<Y) (h:2^53≤X*2^K / Y) :
    Cm (F0 X Y (K+d)) (E-d)=Cm (F0 X Y K) E∧flagsOf (F0 X Y (K+d)) (E-d)=flagsOf (F0 X Y K) E:=by
  have hA:=Cn d
  unfold F0
  have e:X*2^(K+d)=X*2^K*2^d:=by rw [Nat.pow_add,Nat.mul_assoc]
  rw [e]
  generalize X*2^K=Z at *
  have h1:=Nat.div_add_mod Z Y
  have h2:=Nat.mod_lt Z hY
  by_cases h0:Z%Y=0
  · obtain ⟨q,rfl⟩:=Nat.dvd_of_mod_eq_zero h0
    have e1:Y*q*2^d=Y*(q*2^d):=Nat.mul_assoc _ _ _
    rw [e1,Nat.mul_mod_right,Nat.mul_mod_right,Nat.mul_div_cancel_left _ hY,Nat.mul_div_cancel_left _ hY,if_pos rfl]
    have:=El (2*q+0) d E
    rw [show (2*q+0)*2^d=2*(q*2^d)+0 by rw [Nat.add_zero,Nat.add_zero,Nat.mul_assoc]] at this
    exact this
  · have h3:=Nat.div_add_mod (Z*2^d) Y
    have h4:=Nat.mod_lt (Z*2^d) hY
    rw [if_neg h0]
    generalize hq:Z / Y=q at *
    generalize hr:Z%Y=r at *
    generalize hc:2^d=c at *
    have hz:Z*c=Y*(q*c)+r*c:=by rw [← h1,Nat.add_mul,Nat.mul_assoc]
    have hrc:r*c<Y*c:=(Nat.mul_lt_mul_right hA).2 h2
    have hrc0:0<r*c:=Nat.mul_pos (by omega) hA
    have q1:q*c≤Z*c / Y:=by rw [Nat.le_div_iff_mul_le hY,Nat.mul_comm (q*c)]; omega
    have q2:Z*c / Y<(q+1)*c:=by
      rw [Nat.div_lt_iff_lt_mul hY,Nat.add_mul,Nat.add_mul,Nat.one_mul,Nat.mul_comm (q*c),Nat.mul_comm c Y]; omega
    have q3:Z*c / Y=q*c→Z*c%Y≠0:=fun h5 h6=>by rw [h5,h6] at h3; omega
    generalize hQ:Z*c / Y=Q at *
    have p1:(2*q+1-1)*c=2*(q*c):=by rw [Nat.add_sub_cancel,Nat.mul_assoc]
    have p2:(2*q+1+1)*c=2*((q+1)*c):=by rw [show 2*q+1+1=2*(q+1) by omega,Nat.mul_assoc]
    have od:(2*q+1)%2=1:=by omega
    generalize hV:2*Q+(if Z*c%Y=0 then 0 else 1)=V
    have v1:(2*q+1-1)*2^d<V:=by
      rw [hc,p1,← hV]
      by_cases h5:Q=q*c
      · rw [if_neg (q3 h5)]; omega
      · split<;>omega
    have v2:V<(2*q+1+1)*2^d:=by
      rw [hc,p2,← hV]
      split<;>omega
    have lV:=Q1 od (by omega) v1 v2
    have hs:54≤(2*q+1).log2:=by rw [Nat.le_log2 (by omega)]; omega
    have ee:E-(d:Int)+d=E:=by omega
    have:=Qu (E:=E-d) od v1 v2 (by unfold Cl; rw [lV]; omega) (by unfold Cl; omega)
    rw [ee] at this
    exact this
theorem Xz {X Y K L:Nat} {E F:Int} (hY:0<Y) (h1:2^53≤X*2^K / Y) (h2:2^53≤X*2^L / Y) (he:E+K=F+L) :
    Cm (F0 X Y K) E=Cm (F0 X Y L) F∧flagsOf (F0 X Y K) E=flagsOf (F0 X Y L) F:=by
  rcases Nat.le_total K L with h | h
  · obtain ⟨d,rfl⟩:=Nat.exists_eq_add_of_le h
    have:=Xy d E hY h1
    rw [show E-(d:Int)=F by omega] at this
    exact ⟨this.1.symm,this.2.symm⟩
  · obtain ⟨d,rfl⟩:=Nat.exists_eq_add_of_le h
    have:=Xy d F hY h2
    rw [show F-(d:Int)=E by omega] at this
    exact this
theorem Ahe (X Y a K:Nat):F0 (X*2^a) Y K=F0 X Y (K+a):=by
  unfold F0
  have:X*2^a*2^K=X*2^(K+a):=by rw [Nat.mul_assoc,← Nat.pow_add,Nat.add_comm a K]
  rw [this]
theorem Aeg (X Y b K:Nat):F0 X (Y*2^b) (K+b)=F0 X Y K:=by
  have hp:=Cn b
  unfold F0
  have:X*2^(K+b)=X*2^K*2^b:=by rw [Nat.pow_add,Nat.mul_assoc]
  rw [this,Nat.mul_div_mul_right _ _ hp,Nat.mul_mod_mul_right]
  have:(X*2^K%Y*2^b=0)↔(X*2^K%Y=0):=by
    constructor
    · intro h
      rcases Nat.mul_eq_zero.1 h with h | h
      · exact h
      · omega
    · intro h; rw [h,Nat.zero_mul]
  simp only [this]
theorem An6 {X Y K t:Nat} (hX:0<X) (hY0:0<Y) (hY:Y<2^t) (hK:53+t≤K):2^53≤X*2^K / Y:=by
  rw [Nat.le_div_iff_mul_le hY0]
  have h1:2^53*Y≤2^53*2^t:=Nat.mul_le_mul_left _ (by omega)
  have h2:2^(53+t)≤2^K:=Azl (by decide) hK
  have h3:1*2^K≤X*2^K:=Azi _ (by omega)
  rw [Nat.pow_add] at h2
  omega
theorem Alr (n:Bool) {X Y K:Nat} {e E:Int} {s:Bool} (hs:s=decide (X*2^K%Y≠0)) (he:E=e-1) (hq:2^53≤X*2^K / Y) :
    Gx n (X*2^K / Y) e s=(Bk n (Cm (F0 X Y K) E),flagsOf (F0 X Y K) E):=by
  have e1:F0 X Y K / 2^1=X*2^K / Y:=by
    unfold F0
    split<;>omega
  have e2:decide (F0 X Y K%2^1≠0)=decide (X*2^K%Y≠0):=by
    unfold F0
    by_cases h:X*2^K%Y=0
    · rw [if_pos h,Azb (by omega),Azb (by omega)]
    · rw [if_neg h,Ay7 (by omega),Ay7 h]
  have:=Uq n (V:=F0 X Y K) (k:=1) (E:=E) (e:=e) (s:=s) (by omega) (by rw [e2]; exact hs) (by omega) (.inl (by omega))
  rw [e1] at this
  exact this
end Go.Rnd
namespace Go.Rnd
open Go.Den
def Cr:List Int→Nat
  | []=>0
  | x::l=>x.toNat+4294967296*Cr l
def digits:Nat→Nat→List Int
  | 0,_=>[]
  | k+1,v=>((v%4294967296:Nat):Int)::digits k (v / 4294967296)
def Dz (n:Nat):Nat:=if n=0 then 0 else n.log2 / 32+1
def Q2 (n:Nat):List Int:=digits (Dz n) n
def Ap (v:Int):List Int:=Q2 v.natAbs
def Bi (v:Int):Bool:=decide (v<0)
def wv (n:Bool) (l:List Int):Int:=Ih n (Cr l)
def Zd (l:List Int):Prop:=∀ x∈l,0≤x∧x<4294967296
def H4 (l:List Int):Bool:=Dh (l.length<1073741824∧Zd l)
def Jy (n:Bool) (l:List Int):Bool:=Dh (l.length<268435456∧l=Q2 (Cr l)∧(n=true→l≠[]))
def Xi (n:Bool) (l:List Int):Bool:=Dh (l.length<134217728∧l=Q2 (Cr l)∧(n=true→l≠[]))
def Aur (k:Int):Bool:=Dh (-1000000≤k∧k≤1000000)
def Aj0 (k:Int):Bool:=Dh (-9223372036854775808≤k∧k≤9223372036854775807)
def Hh (l:List Int) (i:Int):Int:=if 0≤i then l.getD i.toNat 0 else 0
def Ki (a b:List Int):List Int:=digits (max a.length b.length+1) (Cr a+Cr b)
def Ht (a b:List Int):List Int:=digits a.length (Cr a-Cr b)
def leL (a b:List Int):Bool:=Dh (Cr a≤Cr b)
def Wf (a b:Nat):Int:=if a<b then -1 else if b<a then 1 else 0
def W8 (a b:Int):Int:=if a<b then -1 else if b<a then 1 else 0
def Ld (v:Int) (j:Nat):Int:=Ih (Bi v) (v.natAbs / 2^j)
def Ha (v k:Int):Int:=if 0≤k then v*((2^k.toNat:Nat):Int) else Ld v (-k).toNat
def Y4 (v:Int):Int:=if v=0 then 0 else (v.natAbs.log2:Int)+1
def Alh (v:Int):Bool:=decide (v%2=1)
theorem two32:2^32=4294967296:=by decide
theorem Oy (k:Nat):2^(32*(k+1))=4294967296*2^(32*k):=by
  rw [Nat.mul_add,Nat.mul_one,Nat.pow_add,Nat.mul_comm,two32]
theorem Fv:∀ (k v:Nat),(digits k v).length=k
  | 0,_=>rfl
  | k+1,v=>by rw [digits,List.length_cons,Fv k]
theorem Pd:∀ (k v:Nat),Zd (digits k v)
  | 0,_=>fun x h=>by cases h
  | k+1,v=>fun x h=>by
    rw [digits,List.mem_cons] at h
    rcases h with rfl | h
    · omega
    · exact Pd k _ x h
theorem Lj:∀ (k v:Nat),Cr (digits k v)=v%2^(32*k)
  | 0,v=>by rw [digits,Cr,Nat.mul_zero,Nat.pow_zero,Nat.mod_one]
  | k+1,v=>by
    rw [digits,Cr,Lj k,Ay8,Oy,Nat.mod_mul]
theorem Nu:∀ {l:List Int},Zd l→Cr l<2^(32*l.length)
  | [],_=>by decide
  | x::l,h=>by
    have h1:=h x (List.mem_cons_self ..)
    have h2:=Nu (l:=l) (fun y hy=>h y (List.mem_cons_of_mem _ hy))
    rw [Cr,List.length_cons,Oy]
    omega
theorem Rc:∀ {l:List Int},Zd l→digits l.length (Cr l)=l
  | [],_=>rfl
  | x::l,h=>by
    have h1:=h x (List.mem_cons_self ..)
    have h2:=Rc (l:=l) (fun y hy=>h y (List.mem_cons_of_mem _ hy))
    rw [Cr,List.length_cons,digits]
    have e1:(x.toNat+4294967296*Cr l)%4294967296=x.toNat:=by omega
    have e2:(x.toNat+4294967296*Cr l) / 4294967296=Cr l:=by omega
    rw [e1,e2,h2]
    congr 1
    omega
theorem Mo (n:Nat):n<2^(32*Dz n):=by
  unfold Dz
  by_cases h:n=0
  · rw [if_pos h,h]; decide
  · rw [if_neg h]
    exact Nat.lt_of_lt_of_le Nat.lt_log2_self (Azl (by decide) (by omega))
theorem N1 {n k:Nat} (h:n<2^(32*k)):Dz n≤k:=by
  unfold Dz
  by_cases h0:n=0
  · rw [if_pos h0]; exact Nat.zero_le _
  · rw [if_neg h0]
    have:=(Nat.log2_lt h0).2 h
    omega
theorem Asl {n k:Nat} (h:2^(32*k)≤n):k+1≤Dz n:=by
  have hp:=Cn (32*k)
  unfold Dz
  rw [if_neg (by omega)]
  have:=(Nat.le_log2 (by omega)).2 h
  omega
theorem M3 {n m:Nat} (h:n≤m):Dz n≤Dz m:=N1 (Nat.lt_of_le_of_lt h (Mo m))
theorem S3 (n:Nat):Cr (Q2 n)=n:=by
  unfold Q2
  rw [Lj,Azj (Mo n)]
theorem Hv (n:Nat):(Q2 n).length=Dz n:=Fv _ _
theorem Afs (n:Nat):Zd (Q2 n):=Pd _ _
theorem Zs:∀ (k v i:Nat),i<k→(digits k v).getD i 0=((v / 2^(32*i)%4294967296:Nat):Int)
  | k+1,v,0,_=>by rw [digits,List.getD_cons_zero,Nat.mul_zero,Nat.pow_zero,Nat.div_one]
  | k+1,v,i+1,h=>by
    rw [digits,List.getD_cons_succ,Zs k _ i (by omega),Oy,Nat.div_div_eq_div_mul]
theorem R9 {l:List Int} (h:Zd l) (i:Nat):l.getD i 0=((Cr l / 2^(32*i)%4294967296:Nat):Int):=by
  by_cases hi:i<l.length
  · have:=Zs l.length (Cr l) i hi
    rw [Rc h] at this
    exact this
  · have h1:=Nu h
    have h2:2^(32*l.length)≤2^(32*i):=Azl (by decide) (by omega)
    rw [Nat.div_eq_of_lt (by omega),Azg,List.getElem?_eq_none (by omega)]
    rfl
theorem Hw {l:List Int} (h:Zd l) (i:Nat):Hh l (i:Int)=((Cr l / 2^(32*i)%4294967296:Nat):Int):=by
  unfold Hh
  rw [if_pos (by omega),Ay8,R9 h]
theorem N5:∀ (k v:Nat),digits (k+1) v=digits k v++[((v / 2^(32*k)%4294967296:Nat):Int)]
  | 0,v=>by rw [digits,digits,digits,Nat.mul_zero,Nat.pow_zero,Nat.div_one]; rfl
  | k+1,v=>by
    rw [digits,N5 k,Oy,← Nat.div_div_eq_div_mul]
    rfl
theorem Wz:∀ (j k v:Nat),j≤k→(digits k v).take j=digits j v
  | 0,_,_,_=>by rw [List.take_zero,digits]
  | j+1,k+1,v,h=>by rw [digits,List.take_succ_cons,Wz j k _ (by omega),digits]
theorem Ah9 {l:List Int} (h:Zd l):l.take (Dz (Cr l))=Q2 (Cr l):=by
  have h1:=Wz (Dz (Cr l)) l.length (Cr l) (N1 (Nu h))
  rw [Rc h] at h1
  exact h1
theorem Jr {n:Nat} (h:n≠0):0<Dz n:=by unfold Dz; rw [if_neg h]; omega
theorem H5 (v:Int):wv (Bi v) (Ap v)=v:=by
  unfold wv Bi Ap Ih
  rw [S3]
  by_cases h:v<0
  · rw [Ay7 h,if_pos rfl]; omega
  · rw [Azb h,if_neg (by decide)]; omega
theorem Oc {l:List Int} (h:l.length<1073741824) (hi:Zd l):H4 l=true:=Aw.2 ⟨h,hi⟩
theorem Lg {l:List Int} (h:H4 l=true):l.length<1073741824∧Zd l:=Aw.1 h
theorem Agk (v:Int):Ap v=Q2 (Cr (Ap v))∧(Bi v=true→Ap v≠[]):=by
  unfold Ap
  rw [S3]
  refine ⟨rfl,fun h e=>?_⟩
  have h1:v<0:=of_decide_eq_true h
  have h2:=Hv v.natAbs
  rw [e] at h2
  have:=Jr (n:=v.natAbs) (by omega)
  rw [← h2] at this
  exact absurd this (by decide)
theorem Jx {v:Int} (h:Dz v.natAbs<268435456):Jy (Bi v) (Ap v)=true :=
  Aw.2 ⟨by unfold Ap; rw [Hv]; exact h,Agk v⟩
theorem Aog {v:Int} (h:Dz v.natAbs<134217728):Xi (Bi v) (Ap v)=true :=
  Aw.2 ⟨by unfold Ap; rw [Hv]; exact h,Agk v⟩
theorem Abp {n:Bool} {l:List Int} (h1:l=Q2 (Cr l)) (h2:n=true→l≠[]):n=Bi (wv n l)∧l=Ap (wv n l):=by
  have e:(wv n l).natAbs=Cr l:=by unfold wv Ih; split<;>omega
  refine ⟨?_,by unfold Ap; rw [e]; exact h1⟩
  unfold Bi wv Ih
  cases n
  · simp
  · have h3:=h2 rfl
    have h4:Cr l≠0:=fun h=>by
      rw [h] at h1
      exact h3 h1
    simp; omega
theorem Ju {n:Bool} {l:List Int} (h:Jy n l=true):∃ v,n=Bi v∧l=Ap v∧Dz v.natAbs<268435456:=by
  obtain ⟨h0,h1,h2⟩:=Aw.1 h
  obtain ⟨e1,e2⟩:=Abp h1 h2
  refine ⟨_,e1,e2,?_⟩
  have:=congrArg List.length e2
  unfold Ap at this
  rw [Hv] at this
  omega
theorem Py {n:Bool} {l:List Int} (h:Xi n l=true):∃ v,n=Bi v∧l=Ap v∧Dz v.natAbs<134217728:=by
  obtain ⟨h0,h1,h2⟩:=Aw.1 h
  obtain ⟨e1,e2⟩:=Abp h1 h2
  refine ⟨_,e1,e2,?_⟩
  have:=congrArg List.length e2
  unfold Ap at this
  rw [Hv] at this
  omega
theorem O3 {v:Int} (h:Dz v.natAbs<1073741824):H4 (Ap v)=true :=
  Oc (by unfold Ap; rw [Hv]; exact h) (Afs _)
theorem D9 (v:Int):Cr (Ap v)=v.natAbs:=S3 _
theorem Ct (v:Int):(Ap v).length=Dz v.natAbs:=Hv _
theorem Atw (n:Bool) (l:List Int):wv (!n) l=- wv n l:=by
  unfold wv Ih
  cases n<;>simp
theorem Alf {a b:List Int} (ha:Zd a) (hb:Zd b):Cr (Ki a b)=Cr a+Cr b:=by
  unfold Ki
  rw [Lj,Azj]
  have h1:=Nu ha
  have h2:=Nu hb
  have h3:2^(32*a.length)≤2^(32*max a.length b.length):=Azl (by decide) (by omega)
  have h4:2^(32*b.length)≤2^(32*max a.length b.length):=Azl (by decide) (by omega)
  rw [Oy]
  omega
theorem Uf (a b:List Int):(Ki a b).length=max a.length b.length+1:=Fv _ _
theorem Ae8 (a b:List Int):Zd (Ki a b):=Pd _ _
theorem Ah1 {a:List Int} (b:List Int) (ha:Zd a):Cr (Ht a b)=Cr a-Cr b:=by
  unfold Ht
  rw [Lj,Azj]
  have h1:=Nu ha
  omega
theorem Ss (a b:List Int):(Ht a b).length=a.length:=Fv _ _
theorem Aba (a b:List Int):Zd (Ht a b):=Pd _ _
theorem Mh (v:Int) (j:Nat):(Ld v j).natAbs=v.natAbs / 2^j:=by
  unfold Ld
  generalize v.natAbs / 2^j=m
  unfold Ih; split<;>omega
theorem T8 {v:Int} (h:v<0) (m:Nat):Ih (Bi v) m=-(m:Int):=by
  unfold Ih Bi; rw [Ay7 h,if_pos rfl]
theorem T7 {v:Int} (h:¬ v<0) (m:Nat):Ih (Bi v) m=(m:Int):=by
  unfold Ih Bi; rw [Azb h,if_neg (by decide)]
theorem Aci (v:Int) (i j:Nat):Ld (Ld v i) j=Ld v (i+j):=by
  have e:v.natAbs / 2^(i+j)=v.natAbs / 2^i / 2^j:=by rw [Nat.pow_add,Nat.div_div_eq_div_mul]
  have h1:=Mh v i
  by_cases hv:v<0
  · have h2:Ld v i=-((v.natAbs / 2^i:Nat):Int):=T8 hv _
    rw [show Ld v (i+j)=-((v.natAbs / 2^(i+j):Nat):Int) from T8 hv _,e]
    by_cases h0:v.natAbs / 2^i=0
    · rw [h2,h0]
      show Ld 0 j=_
      rw [Nat.zero_div]
      show Ih (Bi 0) (0 / 2^j)=_
      rw [Nat.zero_div]; rfl
    · have h3:Ld v i<0:=by omega
      rw [show Ld (Ld v i) j=-(((Ld v i).natAbs / 2^j:Nat):Int) from T8 h3 _,h1]
  · have h2:Ld v i=((v.natAbs / 2^i:Nat):Int):=T7 hv _
    have h3:¬ Ld v i<0:=by omega
    rw [show Ld (Ld v i) j=(((Ld v i).natAbs / 2^j:Nat):Int) from T7 h3 _,h1,show Ld v (i+j)=((v.natAbs / 2^(i+j):Nat):Int) from T7 hv _,e]
theorem Aer (v:Int):Ld v 0=v:=by
  unfold Ld Ih Bi
  rw [Nat.pow_zero,Nat.div_one]
  by_cases h:v<0
  · rw [Ay7 h,if_pos rfl]; omega
  · rw [Azb h,if_neg (by decide)]; omega
theorem Rx (j:Nat):Ld 0 j=0:=by
  unfold Ld
  rw [show (Int.natAbs 0)=0 from rfl,Nat.zero_div]
  rfl
theorem Akm {l:List Int} (h:Zd l):Cr (l.drop 1)=Cr l / 4294967296:=by
  cases l with
  | nil=>rfl
  | cons x l =>
    have:=h x (List.mem_cons_self ..)
    show Cr l=_
    rw [Cr]; omega
theorem Af1 {l:List Int} (h:Zd l):Zd (l.drop 1):=fun x hx=>h x (List.mem_of_mem_drop hx)
theorem Api {l:List Int} (h:Zd l):Zd ([(0:Int)]++l):=fun x hx=>by
  rcases List.mem_cons.1 hx with rfl | hx
  · omega
  · exact h x hx
theorem Ao8 (n:Nat):Dz (2*n)≤Dz n+1:=by
  refine N1 ?_
  have h:=Mo n
  rw [Oy]
  omega
theorem Asj (n:Nat):Dz (n*4294967296)≤Dz n+1:=by
  refine N1 ?_
  have h:=Mo n
  rw [Oy]
  omega
theorem Afl {n m:Nat} (h:2^m≤n):(n / 2^m).log2+m=n.log2:=by
  have hp:=Cn m
  have h0:n≠0:=by omega
  have hm:m≤n.log2:=(Nat.le_log2 h0).2 h
  have e:(n / 2^m).log2=n.log2-m:=by
    refine Uy ?_ ?_
    · rw [Nat.le_div_iff_mul_le hp,← Nat.pow_add]
      exact Nat.le_trans (Azl (by decide) (by omega)) (Nat.log2_self_le h0)
    · rw [Nat.div_lt_iff_lt_mul hp,← Nat.pow_add]
      exact Nat.lt_of_lt_of_le Nat.lt_log2_self (Azl (by decide) (by omega))
  omega
end Go.Rnd
namespace Go.Rnd
open Go.Den
def Si (n:Nat):Nat:=if h:n=0∨n%2=1 then 0 else Si (n / 2)+1
termination_by n
decreasing_by omega
def mD (v:Int):Int:=Ld v (Si v.natAbs)
def eD (v e:Int):Int:=if v=0 then 0 else e+Si v.natAbs
def C4 (v e w f:Int):Int:=if v=0 then f else if w=0 then e else min e f
def Aqj (v e w f:Int):Int:=Ha v (e-C4 v e w f)+Ha w (f-C4 v e w f)
def Rk (v e w f:Int):Int:=mD (Aqj v e w f)
def Aqp (v e w f:Int):Int:=eD (Aqj v e w f) (C4 v e w f)
def Iz (v e:Int):Int:=if v=0 then 0 else Y4 v+e
def Nq (v:Int):Int:=if v<0 then -1 else if v=0 then 0 else 1
def W9 (v e w f:Int):Int:=W8 (Ha v (e-C4 v e w f)) (Ha w (f-C4 v e w f))
def Aaf (e:Int):Bool:=Dh (-2000000≤e∧e≤2000000)
def W7 (e:Int):Bool:=Dh (-400000≤e∧e≤400000)
def Afb (v e f:Int):Bool:=Dh (v=0∨(-1000000≤e-f∧e-f≤1000000))&&Dh (-400000≤e∧e≤400000∧-1000000≤f∧f≤1000000)
theorem Ag8 {n:Nat} (h:n=0∨n%2=1):Si n=0:=by rw [Si,dif_pos h]
theorem Ai8 {n:Nat} (h0:n≠0) (h:n%2=0):Si n=Si (n / 2)+1:=by rw [Si,dif_neg (by omega)]
theorem Ab3 {n:Nat} (h:n≠0):∀ k,Si (n*2^k)=k+Si n
  | 0=>by rw [Nat.pow_zero,Nat.mul_one,Nat.zero_add]
  | k+1=>by
    have hp:=Cn k
    have h1:n*2^k≠0:=by
      intro e
      rcases Nat.mul_eq_zero.1 e with e | e<;>omega
    have e:n*2^(k+1)=n*2^k*2:=by rw [Nat.pow_succ,Nat.mul_assoc]
    rw [e,Ai8 (by omega) (by omega),Nat.mul_div_cancel _ (by decide),Ab3 h k]
    omega
theorem Ai7 (n:Nat) (h:n≠0):∃ m,n=m*2^Si n∧m%2=1:=by
  induction n using Nat.strongRecOn with
  | _ n ih =>
    by_cases h2:n%2=1
    · refine ⟨n,?_,h2⟩
      rw [Ag8 (.inr h2),Nat.pow_zero,Nat.mul_one]
    · obtain ⟨m,h3,h4⟩:=ih (n / 2) (by omega) (by omega)
      refine ⟨m,?_,h4⟩
      rw [Ai8 h (by omega),Nat.pow_succ,← Nat.mul_assoc,← h3]
      omega
theorem Atj {n:Nat} (h:n≠0):Si n≤n.log2:=by
  obtain ⟨m,h1,h2⟩:=Ai7 n h
  refine (Nat.le_log2 h).2 ?_
  have:1*2^Si n≤m*2^Si n:=Azi _ (by omega)
  omega
theorem Abc {n:Nat}:n.log2<32*Dz n+1:=by
  unfold Dz
  by_cases h:n=0
  · rw [h]; decide
  · rw [if_neg h]; omega
theorem Aoy {v:Int} {k:Nat} (h:v.natAbs%2^k=0):mD (Ld v k)=mD v:=by
  unfold mD
  by_cases h0:v=0
  · rw [h0,Rx]
  · have hp:=Cn k
    have hv:=Nat.div_add_mod v.natAbs (2^k)
    rw [h,Nat.add_zero,Nat.mul_comm] at hv
    have hq:v.natAbs / 2^k≠0:=by
      intro e; rw [e] at hv; omega
    have:=Ab3 hq k
    rw [hv] at this
    rw [Mh,Aci,this]
theorem Apz {v e:Int} {k:Nat} (h:v.natAbs%2^k=0) (h0:v≠0):eD (Ld v k) (e+k)=eD v e:=by
  unfold eD
  have hp:=Cn k
  have hv:=Nat.div_add_mod v.natAbs (2^k)
  rw [h,Nat.add_zero,Nat.mul_comm] at hv
  have hq:v.natAbs / 2^k≠0:=by
    intro e; rw [e] at hv; omega
  have ht:=Ab3 hq k
  rw [hv] at ht
  have ha:=Mh v k
  rw [if_neg h0,if_neg (by omega),ha,ht]
  omega
theorem Auv {v:Int} (h:v%2=1):mD v=v:=by
  unfold mD
  rw [Ag8 (.inr (by omega)),Aer]
theorem Au4 {v:Int} (h:v%2=1) (e:Int):eD v e=e:=by
  unfold eD
  rw [Ag8 (.inr (by omega)),if_neg (by omega)]
  omega
theorem Aor {v:Int} (h:v≠0) (k:Nat):v*((2^k:Nat):Int)≠0:=by
  have hp:=Cn k
  intro e
  rcases Int.mul_eq_zero.1 e with e | e
  · exact h e
  · omega
theorem Xl (v:Int):v=mD v*((2^Si v.natAbs:Nat):Int):=by
  by_cases h:v=0
  · rw [h]
    show (0:Int)=Ld 0 _*_
    rw [Rx,Int.zero_mul]
  · obtain ⟨m,h1,h2⟩:=Ai7 v.natAbs (by omega)
    have hp:=Cn (Si v.natAbs)
    have hq:v.natAbs / 2^Si v.natAbs=m:=Nat.div_eq_of_eq_mul_left hp h1
    unfold mD Ld
    rw [hq]
    by_cases hv:v<0
    · rw [T8 hv,Int.neg_mul,← Azr,← h1]; omega
    · rw [T7 hv,← Azr,← h1]; omega
theorem P0 {v:Int}:mD v=0↔v=0:=by
  constructor
  · intro h
    have:=Xl v
    rw [h,Int.zero_mul] at this
    exact this
  · intro h
    rw [h]
    exact Rx _
theorem Abb (v:Int):(mD v).natAbs≤v.natAbs:=by
  unfold mD
  rw [Mh]
  exact Nat.div_le_self _ _
end Go.Rnd
namespace Go.Rnd
open Go.Den
def vAt (v e g:Int):Int:=v*((2^(e-g).toNat:Nat):Int)
theorem Iy (e g:Int):vAt 0 e g=0:=Int.zero_mul _
theorem Aam {v e g h:Int} (h1:h≤e) (h2:g≤h):vAt v e g=vAt v e h*((2^(h-g).toNat:Nat):Int):=by
  unfold vAt
  rw [Int.mul_assoc,← Azr,← Nat.pow_add]
  have:(e-h).toNat+(h-g).toNat=(e-g).toNat:=by omega
  rw [this]
theorem Ai2 {S l g:Int} (h:g≤l):vAt (mD S) (eD S l) g=vAt S l g:=by
  by_cases h0:S=0
  · rw [h0,P0.2 rfl,Iy,Iy]
  · have e:eD S l=l+Si S.natAbs:=by unfold eD; rw [if_neg h0]
    rw [e]
    unfold vAt
    have e1:(l+(Si S.natAbs:Int)-g).toNat=Si S.natAbs+(l-g).toNat:=by omega
    rw [e1,Nat.pow_add,Azr,← Int.mul_assoc,← Xl]
theorem Ajb {v e l:Int} (h:v≠0→l≤e):Ha v (e-l)=vAt v e l:=by
  by_cases h0:v=0
  · rw [h0,Iy]
    unfold Ha
    split
    · exact Int.zero_mul _
    · exact Rx _
  · unfold Ha vAt
    rw [if_pos (by have:=h h0; omega)]
theorem Aux {v e w f:Int}:(v≠0→C4 v e w f≤e)∧(w≠0→C4 v e w f≤f):=by
  unfold C4
  constructor
  · intro h
    rw [if_neg h]
    split<;>omega
  · intro h
    split
    · omega
    · omega
theorem Atv {v e g:Int} (h:g≤e) (h0:v≠0):g≤eD v e:=by
  unfold eD
  rw [if_neg h0]
  omega
theorem Aqa (x y:Int) (k:Nat):W8 (x*((2^k:Nat):Int)) (y*((2^k:Nat):Int))=W8 x y:=by
  have hp:=Cn k
  have h1:x*((2^k:Nat):Int)<y*((2^k:Nat):Int)↔x<y:=Int.mul_lt_mul_right (by omega)
  have h2:y*((2^k:Nat):Int)<x*((2^k:Nat):Int)↔y<x:=Int.mul_lt_mul_right (by omega)
  unfold W8
  simp only [h1,h2]
theorem As4 {v e w f g:Int} (h1:v≠0→g≤e) (h2:w≠0→g≤f):W9 v e w f=W8 (vAt v e g) (vAt w f g):=by
  obtain ⟨l1,l2⟩:=Aux (v:=v) (e:=e) (w:=w) (f:=f)
  unfold W9
  rw [Ajb l1,Ajb l2]
  by_cases h0:v=0∧w=0
  · rw [h0.1,h0.2,Iy,Iy,Iy,Iy]
  · have hg:g≤C4 v e w f:=by
      unfold C4
      split
      · rename_i hv
        exact h2 (fun k=>h0 ⟨hv,k⟩)
      · split
        · exact h1 (by assumption)
        · have:=h1 (by assumption); have:=h2 (by assumption); omega
    have e1:vAt v e g=vAt v e (C4 v e w f)*((2^(C4 v e w f-g).toNat:Nat):Int):=by
      by_cases h0:v=0
      · rw [h0,Iy,Iy,Int.zero_mul]
      · exact Aam (l1 h0) hg
    have e2:vAt w f g=vAt w f (C4 v e w f)*((2^(C4 v e w f-g).toNat:Nat):Int):=by
      by_cases h0:w=0
      · rw [h0,Iy,Iy,Int.zero_mul]
      · exact Aam (l2 h0) hg
    rw [e1,e2,Aqa]
def Ae (l:List Int):Bool:=Dh (∀ x∈l,Ag x=true)
def Fq (x:Int):Int:=Ih (Bu x.toNat) (Ax x.toNat)
def So (n:Bool) (b:Int):Int:=if n then Dd b else b
end Go.Rnd
namespace Go.Rnd
open Go.Den
theorem Ag4 (s:Bool) {q:Nat} {L:Int} (hq:q<2^53) (hL:-1074≤L) (h:2^52≤q∨L=-1074) (hr:(L+1074).toNat*2^52+q<Ee) :
    Ax (Bk s ((L+1074).toNat*2^52+q))=q∧A3 (Bk s ((L+1074).toNat*2^52+q))=L:=by
  rw [Ik] at hr
  obtain ⟨t,ht⟩:∃ t:Nat,L=t-1074:=⟨(L+1074).toNat,by omega⟩
  have et:(L+1074).toNat=t:=by omega
  rw [et] at hr ⊢
  have hp:=Aa2 s (r:=t*2^52+q) (by omega)
  have hf:=Ze s (t*2^52+q)
  unfold Ax A3
  by_cases h52:2^52≤q
  · have e1:D6 (Bk s (t*2^52+q))=t+1:=by rw [hp]; omega
    rw [e1,hf,if_neg (by omega),if_neg (by omega)]
    omega
  · have t0:t=0:=by omega
    subst t0
    have e1:D6 (Bk s (0*2^52+q))=0:=by rw [hp]; omega
    rw [e1,hf,if_pos rfl,if_pos rfl]
    omega
theorem sign_neg (s:Bool) {r:Nat} (h:r<2^63):Bu (Bk s r)=s:=by
  unfold Bu Bk
  cases s
  · simp only [Bool.false_eq_true,if_false,Azp]; omega
  · simp only [if_true,Azd]; omega
theorem Aig (s:Bool) {V:Nat} {E:Int} (h0:V≠0) (hE:Cl V E≤E) (hi:Cm V E<Ee) :
    flagsOf V E=0∧∃ k:Nat,Ax (Bk s (Cm V E))=V*2^k∧A3 (Bk s (Cm V E))=E-k:=by
  have hl2:V.log2=V.log2:=rfl
  have ek:kept V E=V*2^(E-Cl V E).toNat:=by
    unfold kept Kh
    have e1:(Cl V E-E).toNat=0:=by omega
    have e2:(-(Cl V E-E)).toNat=(E-Cl V E).toNat:=by omega
    rw [e1,e2,Ox]
  have eex:exact V E=true:=by
    unfold exact M6
    have e1:(Cl V E-E).toNat=0:=by omega
    rw [e1,Nat.pow_zero,Nat.mod_one]; rfl
  constructor
  · unfold flagsOf flags
    rw [if_neg h0,if_neg (by omega),eex]; rfl
  · have hr:Cm V E=(Cl V E+1074).toNat*2^52+kept V E:=by
      unfold Cm at hi ⊢
      rw [if_neg h0] at hi ⊢
      omega
    have hk:kept V E<2^53:=by
      rw [ek,← Nat.log2_lt (I5 h0),Lr V _ h0]
      unfold Cl at hE ⊢
      omega
    have hb:2^52≤kept V E∨Cl V E=-1074:=by
      by_cases h:Cl V E=-1074
      · exact .inr h
      · left
        refine Ada h0 ?_
        unfold Cl at h ⊢
        omega
    rw [hr] at hi
    obtain ⟨p1,p2⟩:=Ag4 s hk (by unfold Cl; omega) hb hi
    refine ⟨(E-Cl V E).toNat,?_,?_⟩
    · rw [hr,p1,ek]
    · rw [hr,p2]; omega
theorem Afy {V:Nat} {E:Int} (h:V<2^53) (hE:-1074≤E):Cl V E≤E:=by
  by_cases h0:V=0
  · subst h0; unfold Cl; rw [Nat.log2_zero]; omega
  · have:=(Nat.log2_lt h0).2 h
    unfold Cl; omega
end Go.Rnd
namespace Go.Rnd
open Go.Den
def Fj (x:Int):Int:=if x=0 then 0 else (x.toNat.log2:Int)+1
def Sr (x y:Int):Int:=((x.toNat*y.toNat / 18446744073709551616:Nat):Int)
def Nx (x y:Int):Int:=((x.toNat*y.toNat%18446744073709551616:Nat):Int)
def Aop (a b:Int):Bool:=decide (Be a=4)||decide (Be b=4)
def Cf (b:Nat):Nat:=52-(Ax b).log2
def C3 (b:Int):Int:=((Ax b.toNat*2^Cf b.toNat:Nat):Int)
def Ho (b:Int):Int:=A3 b.toNat-Cf b.toNat
def Ml (b:Int):Bool:=Dh (Ax b.toNat≠0)
def Ph (m e:Int):Bool:=Dh (1152921504606846976≤m∧m<4611686018427387904∧-6000≤e∧e≤6000)
def D1 (a b:Int):Int:=(Nr a.toNat b.toNat).1
def Awx (a b:Int):Int:=(Nr a.toNat b.toNat).2
def Ew (a b:Int):Int:=(Ado a.toNat b.toNat).1
def Aw5 (a b:Int):Int:=(Ado a.toNat b.toNat).2
end Go.Rnd
namespace Go.Rnd
theorem Amx (a b:Nat):Lc a b=Lc b a:=by
  unfold Lc
  by_cases ha:An a=4
  · simp only [ha,true_or,or_true,if_true]
  · by_cases hb:An b=4
    · simp only [hb,true_or,or_true,if_true]
    · simp only [ha,hb,or_self,if_false]
      by_cases ha3:An a=3
      · by_cases hb3:An b=3
        · simp only [ha3,hb3,if_true,true_and]
          by_cases e:a=b
          · subst e; rfl
          · rw [if_pos e,if_pos (fun h=>e h.symm)]
        · simp only [ha3,hb3,if_true,if_false,false_and]
      · by_cases hb3:An b=3
        · simp only [ha3,hb3,if_true,if_false,false_and]
        · simp only [ha3,hb3,if_false]
          rw [Bool.and_comm,Int.min_comm,Int.add_comm]
theorem Aez {Y D:Nat} (h:Y%2^D=0):F9 Y D=Y / 2^D:=by unfold F9; rw [if_pos h]
theorem Aho {Y D:Nat} (h:Y%2^D≠0):F9 Y D%2=1:=by unfold F9; rw [if_neg h]; omega
theorem Ae0 {Y d:Nat} (hY:Y<2^62) (h:Y%2^d≠0):(F9 Y (min d 63)-1)*2^d<Y∧Y<(F9 Y (min d 63)+1)*2^d∧F9 Y (min d 63)%2=1:=by
  have hA:=Cn d
  by_cases hd:d≤63
  · rw [Nat.min_eq_left hd]
    refine ⟨?_,?_,Aho h⟩
    all_goals
      unfold F9
      rw [if_neg h]
      have h1:=Nat.div_add_mod Y (2^d)
      have h2:=Nat.mod_lt Y hA
      generalize Y / 2^d=q at *
      generalize Y%2^d=r at *
      generalize 2^d=c at *
      rw [Nat.mul_comm] at h1
    · have h3:(2*(q / 2)+1-1)*c≤q*c:=Azi c (by omega)
      omega
    · have h3:(q+1)*c≤(2*(q / 2)+1+1)*c:=Azi c (by omega)
      rw [Nat.add_mul,Nat.one_mul] at h3
      omega
  · rw [Nat.min_eq_right (by omega)]
    have h63:Y%2^63=Y:=Azj (by omega)
    have hd0:Y / 2^63=0:=Nat.div_eq_of_lt (by omega)
    have hY0:Y≠0:=by intro e; rw [e] at h; simp at h
    have hr:F9 Y 63=1:=by unfold F9; rw [h63,if_neg hY0,hd0]
    have hp:2^62≤2^d:=Azl (by decide) (by omega)
    rw [hr]
    refine ⟨by simp; omega,by omega,rfl⟩
theorem Ayt {d M:Nat} (h:(M*2^9)%2^d≠0):10≤d:=by
  refine Nat.lt_of_not_le fun hle=>h ?_
  obtain ⟨k,hk⟩:∃ k,9=d+k:=⟨9-d,by omega⟩
  rw [hk,Nat.pow_add,Nat.mul_comm (2^d),← Nat.mul_assoc,Nat.mul_mod_left]
theorem Pf {V m d:Nat} {e f:Int} (hd:e=f+d) (h:V=m*2^d∨(m%2=1∧(m-1)*2^d<V∧V<(m+1)*2^d∧2^60≤m)) :
    Cm m (e-9)=Cm V (f-9)∧flagsOf m (e-9)=flagsOf V (f-9):=by
  rcases h with rfl | ⟨h1,h2,h3,h4⟩
  · have:=El m d (e-9)
    have e1:e-9-(d:Int)=f-9:=by omega
    rw [e1] at this
    exact ⟨this.1.symm,this.2.symm⟩
  · have hm0:m≠0:=by omega
    have hlog:=Q1 h1 (by omega) h2 h3
    have hl60:60≤m.log2:=(Nat.le_log2 hm0).2 h4
    have e1:f-9+(d:Int)=e-9:=by omega
    have hle:Cl V (f-9)=Cl m (f-9+d):=by unfold Cl; rw [hlog]; congr 1; omega
    have hk:f-9+d+2≤Cl m (f-9+d):=by unfold Cl; omega
    obtain ⟨a1,a2⟩:=Qu h1 h2 h3 hle hk
    rw [e1] at a1 a2
    exact ⟨a1.symm,a2.symm⟩
theorem Ahh (V:Nat) (f:Int):Cm (V*2^9) (f-9)=Cm V f∧flagsOf (V*2^9) (f-9)=flagsOf V f:=El V 9 f
structure Ath (Mx My d:Nat) (e f:Int) (X r:Nat):Prop where
  plus:Cm (X+r) (e-9)=Cm (Mx*2^d+My) f∧flagsOf (X+r) (e-9)=flagsOf (Mx*2^d+My) f
  less:r<X→My<Mx*2^d∧Cm (X-r) (e-9)=Cm (Mx*2^d-My) f∧flagsOf (X-r) (e-9)=flagsOf (Mx*2^d-My) f
  more:X<r→Mx*2^d<My∧Cm (r-X) (e-9)=Cm (My-Mx*2^d) f∧flagsOf (r-X) (e-9)=flagsOf (My-Mx*2^d) f
  same:X=r→Mx*2^d=My
  small:r≤2^62
theorem Ate {X My r d p:Nat} {e f:Int} (hd:e=f+d) (comm:X*2^d=p*2^9) (n1:(r-1)*2^d<My*2^9) (n2:My*2^9<r*2^d+2^d) (n3:r%2=1) (hX2:X%2=0) (hX:2^61≤X) (hr:r≤2^53) :
    (Cm (X+r) (e-9)=Cm (p+My) f∧flagsOf (X+r) (e-9)=flagsOf (p+My) f)∧My<p∧Cm (X-r) (e-9)=Cm (p-My) f∧flagsOf (X-r) (e-9)=flagsOf (p-My) f:=by
  have e1:(r-1)*2^d+2^d=r*2^d:=by
    obtain ⟨k,rfl⟩:∃ k,r=k+1:=⟨r-1,by omega⟩
    rw [Nat.add_sub_cancel,Nat.add_mul,Nat.one_mul]
  have e2:(r+1)*2^d=r*2^d+2^d:=by rw [Nat.add_mul,Nat.one_mul]
  have hXd:(r+1)*2^d≤X*2^d:=Azi _ (by omega)
  have hlt:My<p:=by rw [e2,comm] at hXd; omega
  have a1:Cm (X+r) (e-9)=Cm ((p+My)*2^9) (f-9)∧flagsOf (X+r) (e-9)=flagsOf ((p+My)*2^9) (f-9):=by
    refine Pf hd (.inr ⟨by omega,?_,?_,by omega⟩)
    · have h1:X+r-1=X+(r-1):=by omega
      rw [h1,Nat.add_mul X (r-1) (2^d),Nat.add_mul p My (2^9),comm]
      exact Nat.add_lt_add_left n1 _
    · have h1:X+r+1=X+(r+1):=by omega
      rw [h1,Nat.add_mul X (r+1) (2^d),Nat.add_mul p My (2^9),comm,e2]
      exact Nat.add_lt_add_left n2 _
  have a2:Cm (X-r) (e-9)=Cm ((p-My)*2^9) (f-9)∧flagsOf (X-r) (e-9)=flagsOf ((p-My)*2^9) (f-9):=by
    rw [e2,comm] at hXd
    refine Pf hd (.inr ⟨by omega,?_,?_,by omega⟩)
    · have h1:X-r-1=X-(r+1):=by omega
      rw [h1,Nat.sub_mul X (r+1) (2^d),Nat.sub_mul p My (2^9),comm,e2]
      omega
    · have h1:X-r+1=X-(r-1):=by omega
      rw [h1,Nat.sub_mul X (r-1) (2^d),Nat.sub_mul p My (2^9),comm]
      omega
  rw [(Ahh _ f).1,(Ahh _ f).2] at a1 a2
  exact ⟨a1,hlt,a2⟩
theorem Agu {Mx My d:Nat} {e f:Int} (hd:e=f+d) (hx:Mx<2^53) (hy:My<2^53) (hbig:10≤d→2^52≤Mx) :
    Ath Mx My d e f (Mx*2^9) (F9 (My*2^9) (min d 63)):=by
  have hA:=Cn d
  have hY:My*2^9<2^62:=by omega
  have comm:Mx*2^9*2^d=Mx*2^d*2^9:=by rw [Nat.mul_assoc,Nat.mul_comm (2^9),← Nat.mul_assoc]
  have s9:=fun V=>Ahh V f
  by_cases hz:(My*2^9)%2^d=0
  ·
    have hr:∃ r,F9 (My*2^9) (min d 63)=r∧My*2^9=r*2^d:=by
      by_cases hd63:d≤63
      · rw [Nat.min_eq_left hd63]
        exact ⟨_,rfl,by rw [Aez hz]; exact (Nat.div_mul_cancel (Nat.dvd_of_mod_eq_zero hz)).symm⟩
      · have hp:2^62≤2^d:=Azl (by decide) (by omega)
        have:My*2^9=0:=by rw [Azj (by omega)] at hz; exact hz
        rw [Nat.min_eq_right (by omega),this]
        exact ⟨0,by decide,by omega⟩
    obtain ⟨r,hr,hYr⟩:=hr
    rw [hr]
    have hle:r≤2^62:=by
      have:r*1≤r*2^d:=Nat.mul_le_mul_left r hA
      omega
    have cmp:∀ x y:Nat,x*2^d<y*2^d↔x<y:=fun x y=>Nat.mul_lt_mul_right hA
    refine ⟨?_,fun h=>?_,fun h=>?_,fun h=>?_,hle⟩
    · rw [← (s9 _).1,← (s9 _).2]
      exact Pf hd (.inl (by rw [Nat.add_mul (Mx*2^d) My (2^9),Nat.add_mul (Mx*2^9) r (2^d),comm,hYr]))
    · have h1:=(cmp r (Mx*2^9)).2 h
      refine ⟨by omega,?_⟩
      rw [← (s9 _).1,← (s9 _).2]
      exact Pf hd (.inl (by first | rw [Nat.sub_mul (Mx*2^d) My (2^9),Nat.sub_mul (Mx*2^9) r (2^d),comm,hYr] | rw [Nat.sub_mul My (Mx*2^d) (2^9),Nat.sub_mul r (Mx*2^9) (2^d),comm,hYr]))
    · have h1:=(cmp (Mx*2^9) r).2 h
      refine ⟨by omega,?_⟩
      rw [← (s9 _).1,← (s9 _).2]
      exact Pf hd (.inl (by first | rw [Nat.sub_mul (Mx*2^d) My (2^9),Nat.sub_mul (Mx*2^9) r (2^d),comm,hYr] | rw [Nat.sub_mul My (Mx*2^d) (2^9),Nat.sub_mul r (Mx*2^9) (2^d),comm,hYr]))
    · rw [← h] at hYr
      omega
  ·
    have hd10:=Ayt hz
    have hMx:=hbig hd10
    obtain ⟨n1,n2,n3⟩:=Ae0 hY hz
    have hrle:F9 (My*2^9) (min d 63)≤2^53:=by
      refine Nat.le_of_not_lt fun h=>?_
      have h1:2^53*2^d≤(F9 (My*2^9) (min d 63)-1)*2^d:=Azi _ (by omega)
      have h2:2^10≤2^d:=Azl (by decide) hd10
      have h3:2^53*2^10≤2^53*2^d:=Nat.mul_le_mul_left _ h2
      omega
    generalize F9 (My*2^9) (min d 63)=r at *
    have hr1:1≤r:=by omega
    have e1:(r-1)*2^d+2^d=r*2^d:=by
      obtain ⟨k,rfl⟩:∃ k,r=k+1:=⟨r-1,by omega⟩
      rw [Nat.add_sub_cancel,Nat.add_mul,Nat.one_mul]
    have e2:(r+1)*2^d=r*2^d+2^d:=by rw [Nat.add_mul,Nat.one_mul]
    rw [e2] at n2
    have hXr:r<Mx*2^9:=by omega
    have hXd:(r+1)*2^d≤Mx*2^9*2^d:=Azi _ (by omega)
    rw [e2,comm] at hXd
    obtain ⟨p1,p2,p3⟩:=Ate hd comm n1 n2 n3 (by omega) (by omega) hrle
    exact ⟨p1,fun _=>⟨p2,p3⟩,fun h=>by omega,fun h=>by omega,by omega⟩
theorem Wt (n:Bool) (m:Nat) (e:Int):Gx n m e false=(Bk n (Cm m e),flagsOf m e):=by
  unfold Gx
  have:=El m 2 e
  have e1:m*2^2=4*m+false.toNat:=by simp; omega
  have e2:e-((2:Nat):Int)=e-2:=by omega
  rw [e1,e2] at this
  rw [this.1,this.2]
theorem Ry (E:Int):Cm 0 E=0:=if_pos rfl
theorem P4 (E:Int):flagsOf 0 E=0:=if_pos rfl
theorem Q9 {b:Nat} (h:Kp b=true):An b≠4∧An b≠3:=by
  unfold Kp at h
  simp only [Azd] at h
  unfold An
  rw [if_neg (by omega)]
  split
  · omega
  · split<;>omega
theorem Aa4 {b:Nat} (h:-1064≤A3 b):2^52≤Ax b:=by
  unfold A3 at h
  unfold Ax
  split at h
  · omega
  · rw [if_neg (by assumption)]; omega
theorem S4 (z:Nat) (s:Bool) {V:Nat} (hV:V≠0) (f:Int):Pq z (Ih s V) f=(Bk s (Cm V f),flagsOf V f):=by
  unfold Pq Ih
  cases s
  · have h1:¬ (V:Int)=0:=by omega
    have h2:¬ (V:Int)<0:=by omega
    simp only [Bool.false_eq_true,if_false,h1,h2,decide_false,Int.natAbs_natCast]
  · have h1:¬ -(V:Int)=0:=by omega
    have h2:-(V:Int)<0:=by omega
    simp only [if_true,h1,if_false,h2,decide_true,Int.natAbs_neg,Int.natAbs_natCast]
theorem Atf {p q X r:Nat} {e f:Int} (s t:Bool)
    (plus:Cm (X+r) e=Cm (p+q) f∧flagsOf (X+r) e=flagsOf (p+q) f)
    (less:r<X→q<p∧Cm (X-r) e=Cm (p-q) f∧flagsOf (X-r) e=flagsOf (p-q) f)
    (more:X<r→p<q∧Cm (r-X) e=Cm (q-p) f∧flagsOf (r-X) e=flagsOf (q-p) f)
    (same:X=r→p=q) :
    Pq (Bk (s&&t) 0) (Ih s p+Ih t q) f=(if s=t then Gx s (X+r) e false
      else if r<X then Gx s (X-r) e false
      else if X<r then Gx t (r-X) e false
      else (0,0)):=by
  simp only [Wt]
  by_cases hs:s=t
  · rw [if_pos hs,← hs]
    have hsum:Ih s p+Ih s q=Ih s (p+q):=by unfold Ih; cases s<;>simp<;>omega
    rw [hsum,plus.1,plus.2]
    by_cases h0:p+q=0
    · rw [h0,Ry,P4]
      unfold Pq
      have:Ih s 0=0:=by unfold Ih; cases s<;>rfl
      rw [if_pos this,Azc]
    · exact S4 _ _ h0 _
  · rw [if_neg hs]
    by_cases h1:r<X
    · obtain ⟨c1,c2,c3⟩:=less h1
      rw [if_pos h1,c2,c3]
      have hsum:Ih s p+Ih t q=Ih s (p-q):=by
        unfold Ih; cases s<;>cases t<;>simp at hs ⊢<;>omega
      rw [hsum]
      exact S4 _ _ (by omega) _
    · rw [if_neg h1]
      by_cases h2:X<r
      · obtain ⟨c1,c2,c3⟩:=more h2
        rw [if_pos h2,c2,c3]
        have hsum:Ih s p+Ih t q=Ih t (q-p):=by
          unfold Ih; cases s<;>cases t<;>simp at hs ⊢<;>omega
        rw [hsum]
        exact S4 _ _ (by omega) _
      · rw [if_neg h2]
        have c:=same (by omega)
        have hsum:Ih s p+Ih t q=0:=by
          unfold Ih; cases s<;>cases t<;>simp at hs ⊢<;>omega
        have hz:(s&&t)=false:=by cases s<;>cases t<;>simp at hs ⊢
        rw [hsum,hz]
        rfl
theorem Aqn {a b:Nat} (ha:Kp a=true) (hb:Kp b=true) :
    Lc a b=Pq (Bk (Bu a&&Bu b) 0) (Kc a (min (A3 a) (A3 b))+Kc b (min (A3 a) (A3 b))) (min (A3 a) (A3 b)):=by
  have k1:=Q9 ha
  have k2:=Q9 hb
  unfold Lc
  rw [if_neg (fun h=>h.elim k1.1 k2.1),if_neg k1.2,if_neg k2.2]
theorem Ag5 (b:Nat):Kc b (A3 b)=Ih (Bu b) (Ax b):=by
  unfold Kc; rw [Int.sub_self,Int.toNat_zero,Nat.pow_zero,Nat.mul_one]
theorem Am7 {b:Nat} {f:Int} {d:Nat} (h:A3 b=f+d):Kc b f=Ih (Bu b) (Ax b*2^d):=by
  unfold Kc
  have:(A3 b-f).toNat=d:=by omega
  rw [this]
theorem Agt {a b:Nat} (ha:Kp a=true) (hb:Kp b=true) {d:Nat} (hd:A3 a=A3 b+d) :
    Lc a b=(if Bu a=Bu b then Gx (Bu a) (Ax a*2^9+F9 (Ax b*2^9) (min d 63)) (A3 a-9) false
      else if F9 (Ax b*2^9) (min d 63)<Ax a*2^9 then Gx (Bu a) (Ax a*2^9-F9 (Ax b*2^9) (min d 63)) (A3 a-9) false
      else if Ax a*2^9<F9 (Ax b*2^9) (min d 63) then Gx (Bu b) (F9 (Ax b*2^9) (min d 63)-Ax a*2^9) (A3 a-9) false
      else (0,0)):=by
  have hx:=Fs a
  have hy:=Fs b
  have C:=Agu (Mx:=Ax a) (My:=Ax b) hd hx hy (fun h=>Aa4 (by have:=E2 b; omega))
  rw [Aqn ha hb,Int.min_eq_right (by omega),Ag5,Am7 hd]
  exact Atf _ _ C.plus C.less C.more C.same
theorem V4 {b:Nat} (h:b<2^64):Hs b<2^64:=by unfold Hs; split<;>omega
theorem Aie (m:Nat) (e:Int):flagsOf m e<32:=by
  unfold flagsOf flags
  split
  · decide
  · split
    · decide
    · split
      · decide
      · split<;>decide
theorem Vi {a b:Nat} (ha:a<2^64) (hb:b<2^64):(Lc a b).1<2^64∧(Lc a b).2<32:=by
  unfold Lc
  split
  · exact ⟨by decide,by decide⟩
  · split
    · split
      · decide
      · exact ⟨ha,(by decide:0<32)⟩
    · split
      · exact ⟨hb,(by decide:0<32)⟩
      · unfold Pq
        split
        · refine ⟨?_,(by decide:0<32)⟩
          unfold Bk; split<;>decide
        · exact ⟨T5 _ _ _,Aie _ _⟩
end Go.Rnd
namespace Go.Rnd
open Go.Den
def Bg (r c:Nat) (f:Nat→Nat→Int):List Int:=(List.range (r*c)).map fun j=>f (j / c) (j%c)
theorem Ca (r c:Nat) (f:Nat→Nat→Int):(Bg r c f).length=r*c:=by unfold Bg; rw [List.length_map,List.length_range]
theorem K3 {r c i k:Nat} (hi:i<r) (hk:k<c):i*c+k<r*c:=by
  have:(i+1)*c≤r*c:=Azi c hi
  rw [Nat.add_mul,Nat.one_mul] at this
  omega
theorem Vy {c i k:Nat} (hk:k<c):(i*c+k) / c=i∧(i*c+k)%c=k:=by
  constructor
  · rw [Nat.mul_comm,Nat.mul_add_div (by omega),Nat.div_eq_of_lt hk,Nat.add_zero]
  · rw [Nat.mul_comm,Nat.mul_add_mod,Azj hk]
theorem H8 {r c:Nat} {f:Nat→Nat→Int} {j:Nat} (h:j<r*c):(Bg r c f)[j]?=some (f (j / c) (j%c)):=by
  unfold Bg
  rw [List.getElem?_map,List.getElem?_range h]
  rfl
theorem Apm {r c i k:Nat} {f:Nat→Nat→Int} (hi:i<r) (hk:k<c):(Bg r c f).getD (i*c+k) 0=f i k:=by
  obtain ⟨d1,d2⟩:=Vy (i:=i) hk
  rw [Azg,H8 (K3 hi hk),d1,d2]
  rfl
theorem Y1 {l m:List Int} (h:l.length=m.length) (he:∀ j,j<l.length→l[j]?=m[j]?):l=m:=by
  refine List.ext_getElem? fun j=>?_
  by_cases hj:j<l.length
  · exact he j hj
  · rw [List.getElem?_eq_none (by omega),List.getElem?_eq_none (by omega)]
theorem Dx {r c:Nat} {f g:Nat→Nat→Int} (h:∀ i k,i<r→k<c→f i k=g i k):Bg r c f=Bg r c g:=by
  refine Y1 (by rw [Ca,Ca]) fun j hj=>?_
  rw [Ca] at hj
  have hc:0<c:=by
    rcases Nat.eq_zero_or_pos c with h0 | h0
    · subst h0; rw [Nat.mul_zero] at hj; omega
    · exact h0
  rw [H8 hj,H8 hj,h (j / c) (j%c) ((Nat.div_lt_iff_lt_mul hc).2 hj) (Nat.mod_lt _ hc)]
theorem Al8 {r c:Nat} {l:List Int} (h:l.length=r*c):l=Bg r c fun i k=>l.getD (i*c+k) 0:=by
  refine Y1 (by rw [Ca,h]) fun j hj=>?_
  rw [H8 (by omega)]
  have e:j / c*c+j%c=j:=by rw [Nat.mul_comm]; exact Nat.div_add_mod j c
  rw [e,Azg,Azn hj]
  rfl
theorem U4 {r c i k:Nat} {f:Nat→Nat→Int} (hk:k<c) (x:Int) :
    (Bg r c f).set (i*c+k) x=Bg r c fun a b=>if a=i∧b=k then x else f a b:=by
  refine Y1 (by rw [List.length_set,Ca,Ca]) fun j hj=>?_
  rw [List.length_set,Ca] at hj
  obtain ⟨d1,d2⟩:=Vy (i:=i) hk
  rw [H8 hj,List.getElem?_set]
  by_cases h:i*c+k=j
  · subst h
    rw [if_pos rfl,if_pos (by rw [Ca]; exact hj),d1,d2,if_pos ⟨rfl,rfl⟩]
  · rw [if_neg h,H8 hj,if_neg]
    rintro ⟨h1,h2⟩
    exact h (by rw [← h1,← h2,Nat.mul_comm]; exact Nat.div_add_mod j c)
theorem K9 (r c:Nat) (f:Nat→Nat→Int):Bg (r+1) c f=Bg r c f++(List.range c).map (f r):=by
  unfold Bg
  rw [Nat.add_mul,Nat.one_mul,List.range_add,List.map_append,List.map_map]
  congr 1
  refine List.map_congr_left fun k hk=>?_
  have hk:=List.mem_range.1 hk
  obtain ⟨d1,d2⟩:=Vy (i:=r) hk
  show f ((r*c+k) / c) ((r*c+k)%c)=f r k
  rw [d1,d2]
theorem K8 (c:Nat) (f:Nat→Nat→Int):Bg 0 c f=[]:=by
  unfold Bg; rw [Nat.zero_mul]; rfl
theorem Hd (k:Nat) (g:Nat→Int):(List.range (k+1)).map g=(List.range k).map g++[g k]:=by
  rw [List.range_succ,List.map_append]; rfl
theorem Tj (r c:Nat):Bg r c (fun _ _=>0)=List.replicate (r*c) 0:=by
  unfold Bg
  rw [List.map_const',List.length_range]
def Adl:Nat→List Int→List Int→Nat
  | s,x::xs,y::ys=>Adl (Lc s (Nr x.toNat y.toNat).1).1 xs ys
  | s,_,_=>s
def G1 (x y:List Int):Int:=Adl 0 x y
theorem R3 {a b:Nat}:(Nr a b).1<2^64:=by
  unfold Nr
  split
  · decide
  · split
    · split
      · decide
      · unfold Bk; split<;>decide
    · exact T5 _ _ _
theorem Adk:∀ (x y:List Int) (s:Nat),s<2^64→Adl s x y<2^64
  | x::xs,y::ys,s,h=>Adk xs ys _ (Vi h R3).1
  | [],_,_,h=>by unfold Adl; exact h
  | _::_,[],_,h=>by unfold Adl; exact h
end Go.Rnd
namespace Go.Rnd
open Go.Den
def Bn (n:Int):Bool:=decide (0≤n)&&decide (n≤6)
def Av (r c:Int) (l:List Int):Bool:=(Bn r&&Bn c)&&decide ((l.length:Int)=r*c)
def La (r c:Int) (l:List Int):Int:=if Av r c l=true then 0 else 1
def Vl (r c:Int) (l:List Int) (p q:Int) (m:List Int):Int:=if (Av r c l&&Av p q m)=true then 0 else 1
def Cd (_r c:Int) (l:List Int) (i k:Int):Bool:=Dh (0≤i∧i<10∧0≤k∧k<10∧0≤c∧c<10∧i*c+k<l.length∧l.length<1000)
def Cj (c:Int) (l:List Int) (i k:Int):Int:=l.getD (i*c+k).toNat 0
def Ns (i k:Int):Int:=if i=k then 4607182418800017408 else 0
def Vs (x y i k:Int):Bool:=Dh (0≤x∧x<10∧0≤y∧y<10∧0≤i∧i<10∧0≤k∧k<10)
def Gk (r c x y a b:Int):Bool:=decide (0≤x∧0≤y∧0≤a∧0≤b∧x≤r∧y≤c∧a≤r-x∧b≤c-y)
def M9 (r c:Int) (l:List Int) (p q:Int) (m:List Int) (i k:Int):Bool:=Dh (0≤r∧r<10∧0≤i∧i<20∧(if i<r then Cd r c l i k=true else Cd p q m (i-r) k=true))
def Jm (r c:Int) (l:List Int) (q:Int) (m:List Int) (i k:Int):Int:=if i<r then Cj c l i k else Cj q m (i-r) k
def Pp (r c:Int) (l:List Int) (i:Int):Bool:=Av r c l&&Dh (0≤i∧i<r)
def Hj (r c:Int) (l:List Int) (k:Int):Bool:=Av r c l&&Dh (0≤k∧k<c)
def Tc (r c:Int) (l:List Int) (p q:Int) (m:List Int) (i k:Int):Bool:=(Pp r c l i&&Hj p q m k)&&((Ae l&&Ae m)&&Dh (c=p))
def Fw (c:Int) (l:List Int) (i:Int):List Int:=List.drop (i*c).toNat (List.take ((i+1)*c).toNat l)
def Hk (r c:Int) (l:List Int) (k:Int):List Int:=(List.range r.toNat).map fun j:Nat=>Cj c l (j:Int) k
abbrev MX:=Int × Int × List Int × Int
def Ij (e:Int):MX:=(0,0,[],e)
def Ni (n:Int):MX:=if Bn n=true then (n,n,Bg n.toNat n.toNat fun i k=>Ns i k,0) else Ij 3
def Cx (r c:Int) (l:List Int):MX:=if Av r c l=true then (c,r,Bg c.toNat r.toNat fun i k=>Cj c l k i,0) else Ij 1
def F4 (r c:Int) (l:List Int) (x y a b:Int):MX :=
  if Av r c l=true then (if Gk r c x y a b=true then (a,b,Bg a.toNat b.toNat fun i k=>Cj c l (x+i) (y+k),0) else Ij 3) else Ij 1
def Fa (r c:Int) (l:List Int) (p q:Int) (m:List Int):MX :=
  if (Av r c l&&Av p q m)=true then (if c=p then (r,q,Bg r.toNat q.toNat fun i k=>G1 (Fw c l i) (Hk p q m k),0) else Ij 3) else Ij 1
def K0 (r c:Int) (l:List Int) (p q:Int) (m:List Int):MX :=
  if (Av r c l&&Av p q m)=true then (if r=p∧c=q then (r,c,Bg r.toNat c.toNat fun i k=>Db (Cj c l i k) (Cj q m i k),0) else Ij 3) else Ij 1
def Ch (r c:Int) (l:List Int) (p q:Int) (m:List Int):MX :=
  if (Av r c l&&Av p q m)=true then (if c=q∧r+p≤6 then (r+p,c,Bg (r+p).toNat c.toNat fun i k=>Jm r c l q m i k,0) else Ij 3) else Ij 1
def Pc (x y:List Int):Bool:=decide (x.length=y.length)&&decide (x.length≤64)
def Uc (x y:List Int):Bool:=decide (x=y)
def Dg (r c:Int) (l:List Int) (p q:Int) (m:List Int):Bool:=(decide (r=p)&&decide (c=q))&&decide (l=m)
def F1 (l:List Int):Bool:=Dh (l.length≤17592186044416)
theorem I1 {n:Int}:Bn n=true↔0≤n∧n≤6:=by unfold Bn; simp
theorem He {r c:Int} {l:List Int}:Av r c l=true↔(0≤r∧r≤6)∧(0≤c∧c≤6)∧(l.length:Int)=r*c:=by
  unfold Av
  rw [Azh,Azh,I1,I1,Azd,and_assoc]
theorem B8 {r c:Int} {l:List Int} (h:Av r c l=true):∃ R C:Nat,r=R∧c=C∧R≤6∧C≤6∧l.length=R*C:=by
  obtain ⟨h1,h2,h3⟩:=He.1 h
  refine ⟨r.toNat,c.toNat,by omega,by omega,by omega,by omega,?_⟩
  have:(((r.toNat*c.toNat:Nat)):Int)=r*c:=by rw [Azr,Int.toNat_of_nonneg h1.1,Int.toNat_of_nonneg h2.1]
  omega
theorem Et {n:Int} (h:Bn n=true):∃ R:Nat,n=R∧R≤6:=by
  have:=I1.1 h
  exact ⟨n.toNat,by omega,by omega⟩
theorem Rt {n:Nat} (h:n≤6):Bn (n:Int)=true:=I1.2 ⟨by omega,by omega⟩
theorem Ef {r c:Nat} {l:List Int} (hr:r≤6) (hc:c≤6) (hl:l.length=r*c):Av (r:Int) (c:Int) l=true :=
  He.2 ⟨⟨by omega,by omega⟩,⟨by omega,by omega⟩,by rw [hl,Azr]⟩
theorem N6 (c:Nat) (l:List Int) (i k:Nat):Cj (c:Int) l (i:Int) (k:Int)=l.getD (i*c+k) 0:=by
  unfold Cj
  have:((i:Int)*(c:Int)+(k:Int)).toNat=i*c+k:=by
    rw [← Azr,← Int.natCast_add,Ay8]
  rw [this]
theorem Cy {r c i k:Nat} {R:Int} {l:List Int} (hr:r≤6) (hc:c≤6) (hl:l.length=r*c) (hi:i<r) (hk:k<c):Cd R (c:Int) l (i:Int) (k:Int)=true:=by
  have:=K3 hi hk
  have h36:=Nat.mul_le_mul hr hc
  refine Aw.2 ⟨by omega,by omega,by omega,by omega,by omega,by omega,?_,by omega⟩
  rw [← Azr]
  omega
theorem Aj1 {r c i k:Nat} {f:Nat→Nat→Int} (hi:i<r) (hk:k<c):Cj (c:Int) (Bg r c f) (i:Int) (k:Int)=f i k:=by
  rw [N6,Apm hi hk]
theorem Hy {r c:Nat} (f:Nat→Nat→Int) (hr:r≤6) (hc:c≤6):Av (r:Int) (c:Int) (Bg r c f)=true:=Ef hr hc (Ca r c f)
theorem Wa {r c:Nat} {l:List Int} (h:l.length=r*c):(Bg r c fun i k=>Cj (c:Int) l (i:Int) (k:Int))=l:=by
  conv=>rhs; rw [Al8 h]
  exact Dx fun i k _ _=>N6 c l i k
theorem Qe {l:List Int} (h:Ae l=true) {j:Nat} (hj:j<l.length):Ag (l.getD j 0)=true:=by
  have h:=Aw.1 h
  rw [Azg,Azn hj]
  exact h _ (List.getElem_mem hj)
end Go.Rnd
namespace Go.Rnd
theorem Mv {b:Nat} (h:b<2^64):Bk (Bu b) (b%2^63)=b:=by
  unfold Bk Bu
  by_cases hb:2^63≤b
  · simp only [hb,decide_true,if_true]; omega
  · simp only [hb,decide_false,Bool.false_eq_true,if_false]; omega
theorem Af8 {b:Nat} (h:b<2^64) (h4:An b≠4):Bk (Bu b) (Cm (Ax b) (A3 b))=b:=by
  rw [Rz h4,Mv h]
theorem Amb {b:Nat} (h3:An b≠3) (h4:An b≠4):flagsOf (Ax b) (A3 b)=0:=by
  by_cases h0:Ax b=0
  · rw [h0]; exact P4 _
  · have h1:=Fs b
    have h2:=E2 b
    have h5:=U2 h3 h4
    exact (Aig false h0 (Afy (by omega) h2.1) (by rw [Rz h4]; exact h5)).1
theorem mul_pow {a p:Nat} (a3:An a≠3) (a4:An a≠4) (p3:An p≠3) (p4:An p≠4) (hp:Ax p=2^52) (hn:Bu p=false) :
    Nr a p=(Bk (Bu a) (Cm (Ax a) (A3 a+A3 p+52)),flagsOf (Ax a) (A3 a+A3 p+52)):=by
  obtain ⟨s1,s2⟩:=El (Ax a) 52 (A3 a+A3 p+52)
  have e:A3 a+A3 p+52-((52:Nat):Int)=A3 a+A3 p:=by omega
  rw [e] at s1 s2
  have e2:(Bu a !=false)=Bu a:=by cases Bu a<;>rfl
  unfold Nr
  rw [if_neg (by omega),if_neg (by omega),hp,hn,s1,s2,e2]
theorem Aoc:Ax 4607182418800017408=2^52∧A3 4607182418800017408=-52∧An 4607182418800017408=2∧Bu 4607182418800017408=false:=by decide +kernel
theorem mul_one {a:Nat} (h:a<2^64) (a3:An a≠3) (a4:An a≠4):Nr a 4607182418800017408=(a,0):=by
  obtain ⟨o1,o2,o3,o4⟩:=Aoc
  have e:A3 a+-52+52=A3 a:=by omega
  rw [mul_pow a3 a4 (by omega) (by omega) o1 o4,o2,e,Af8 h a4,Amb a3 a4]
end Go.Rnd
namespace Go.Rnd
def Ti (n:Nat):Nat:=Ieee.Datum.rootFrom n (n.log2 / 2+1) 0
theorem Arf (k:Nat):1 <<< k=2^k:=by rw [Nat.shiftLeft_eq,Nat.one_mul]
theorem Vt {n:Nat}:∀ (todo root:Nat),root*root≤n→n<(root+2^todo)*(root+2^todo) →
    Ieee.Datum.rootFrom n todo root*Ieee.Datum.rootFrom n todo root≤n∧n<(Ieee.Datum.rootFrom n todo root+1)*(Ieee.Datum.rootFrom n todo root+1)
  | 0,root,h1,h2=>⟨h1,h2⟩
  | todo+1,root,h1,h2=>by
    unfold Ieee.Datum.rootFrom
    simp only [Arf]
    have hp:2^(todo+1)=2^todo+2^todo:=by rw [Nat.pow_succ]; omega
    rw [hp] at h2
    by_cases h:(root+2^todo)*(root+2^todo)≤n
    · rw [if_pos h]
      exact Vt todo _ h (by rw [Nat.add_assoc]; exact h2)
    · rw [if_neg h]
      exact Vt todo _ h1 (by omega)
theorem Q6 (n:Nat):Ti n*Ti n≤n∧n<(Ti n+1)*(Ti n+1):=by
  refine Vt _ _ (by simp) ?_
  rw [Nat.zero_add,← Nat.pow_add]
  rcases Nat.eq_zero_or_pos n with rfl | hn
  · decide
  · refine (Nat.log2_lt (by omega)).1 ?_
    omega
theorem Aep {a b:Nat} (h:a*a<b*b):a<b:=by
  rcases Nat.lt_or_ge a b with h1 | h1
  · exact h1
  · have:=Nat.mul_le_mul h1 h1; omega
theorem Y9 {n w:Nat} (h1:w*w≤n) (h2:n<(w+1)*(w+1)):w=Ti n:=by
  obtain ⟨a,b⟩:=Q6 n
  have c1:=Aep (Nat.lt_of_le_of_lt h1 b)
  have c2:=Aep (Nat.lt_of_le_of_lt a h2)
  omega
theorem Ape {n w:Nat} (h:w*w≤n):w≤Ti n:=by
  have:=Aep (Nat.lt_of_le_of_lt h (Q6 n).2)
  omega
def Gy (n:Nat):Nat:=2*Ti n+(if Ti n*Ti n=n then 0 else 1)
theorem Vr (a c:Nat):a*c*(a*c)=a*a*(c*c):=by
  rw [Nat.mul_assoc,Nat.mul_left_comm c,← Nat.mul_assoc a a]
theorem Aay {n:Nat} (d:Nat) (E:Int) (h:2^53≤Ti n) :
    Cm (Gy (n*(2^d*2^d))) (E-d)=Cm (Gy n) E∧flagsOf (Gy (n*(2^d*2^d))) (E-d)=flagsOf (Gy n) E:=by
  have hA:=Cn d
  obtain ⟨h1,h2⟩:=Q6 n
  unfold Gy
  generalize hw:Ti n=w at *
  generalize hc:2^d=c at *
  have hcc:0<c*c:=Nat.mul_pos hA hA
  by_cases h0:w*w=n
  · have e1:Ti (n*(c*c))=w*c:=by
      refine (Y9 ?_ ?_).symm
      · rw [Vr,h0]; exact Nat.le_refl _
      · have:=Vr w c
        rw [h0] at this
        rw [Nat.add_mul,Nat.mul_add,this]; omega
    rw [e1,Vr,h0,if_pos rfl,if_pos rfl]
    have:=El (2*w+0) d E
    rw [hc,show (2*w+0)*c=2*(w*c)+0 by rw [Nat.add_zero,Nat.add_zero,Nat.mul_assoc]] at this
    exact this
  · rw [if_neg h0]
    obtain ⟨g1,g2⟩:=Q6 (n*(c*c))
    have q1:w*c≤Ti (n*(c*c)):=Ape (by rw [Vr]; exact Azi _ h1)
    have q2:Ti (n*(c*c))<(w+1)*c:=by
      refine Aep (Nat.lt_of_le_of_lt g1 ?_)
      rw [Vr]
      exact (Nat.mul_lt_mul_right hcc).2 h2
    have q3:Ti (n*(c*c))=w*c→Ti (n*(c*c))*Ti (n*(c*c))≠n*(c*c):=fun h5 h6=>by
      rw [h5,Vr] at h6
      exact h0 (Nat.eq_of_mul_eq_mul_right hcc h6)
    generalize hQ:Ti (n*(c*c))=Q at *
    have p1:(2*w+1-1)*c=2*(w*c):=by rw [Nat.add_sub_cancel,Nat.mul_assoc]
    have p2:(2*w+1+1)*c=2*((w+1)*c):=by rw [show 2*w+1+1=2*(w+1) by omega,Nat.mul_assoc]
    have od:(2*w+1)%2=1:=by omega
    generalize hV:2*Q+(if Q*Q=n*(c*c) then 0 else 1)=V
    have v1:(2*w+1-1)*2^d<V:=by
      rw [hc,p1,← hV]
      by_cases h5:Q=w*c
      · rw [if_neg (q3 h5)]; omega
      · split<;>omega
    have v2:V<(2*w+1+1)*2^d:=by
      rw [hc,p2,← hV]
      split<;>omega
    have lV:=Q1 od (by omega) v1 v2
    have hs:54≤(2*w+1).log2:=by rw [Nat.le_log2 (by omega)]; omega
    have ee:E-(d:Int)+d=E:=by omega
    have:=Qu (E:=E-d) od v1 v2 (by unfold Cl; rw [lV]; omega) (by unfold Cl; omega)
    rw [ee] at this
    exact this
theorem Adb {n t:Nat} (h:2^(t+t)≤n):2^t≤Ti n:=Ape (by rw [← Nat.pow_add]; exact h)
theorem pow_two (k d:Nat):2^(k+2*d)=2^k*(2^d*2^d):=by rw [Nat.pow_add,Nat.two_mul,Nat.pow_add]
theorem Aaz {m k l:Nat} {E F:Int} (h1:2^106≤m*2^k) (h2:2^106≤m*2^l) (he:2*E+k=2*F+l) :
    Cm (Gy (m*2^k)) E=Cm (Gy (m*2^l)) F∧flagsOf (Gy (m*2^k)) E=flagsOf (Gy (m*2^l)) F:=by
  rcases Nat.le_total k l with h | h
  · obtain ⟨d,rfl⟩:∃ d,l=k+2*d:=⟨(l-k) / 2,by omega⟩
    have:=Aay (n:=m*2^k) d E (Adb (t:=53) h1)
    rw [Nat.mul_assoc,← pow_two,show E-(d:Int)=F by omega] at this
    exact ⟨this.1.symm,this.2.symm⟩
  · obtain ⟨d,rfl⟩:∃ d,k=l+2*d:=⟨(k-l) / 2,by omega⟩
    have:=Aay (n:=m*2^l) d F (Adb (t:=53) h2)
    rw [Nat.mul_assoc,← pow_two,show F-(d:Int)=E by omega] at this
    exact this
def Md (b:Nat):Nat:=128+(A3 b%2).toNat
def Oq (b:Nat):Nat × Nat :=
  if An b=4 then (Ql,0)
  else if An b=0∨b=Ee then (b,0)
  else if Bu b=true then (Ql,16)
  else (Cm (Gy (Ax b*2^Md b)) ((A3 b-Md b) / 2-1),flagsOf (Gy (Ax b*2^Md b)) ((A3 b-Md b) / 2-1))
theorem Hr {b:Nat} (h3:An b≠3) (h4:An b≠4):Ax b=0↔An b=0:=by
  have:=Kl b
  have:=Jt b
  unfold Ax
  unfold An at *
  split at h3<;>split<;>(try split)<;>(try split)<;>simp_all<;>omega
theorem X1 {b:Nat} (h:An b=4):Oq b=(Ql,0):=if_pos h
theorem Oo {b:Nat} (h4:An b≠4) (h:An b=0∨b=Ee):Oq b=(b,0):=by unfold Oq; rw [if_neg h4,if_pos h]
theorem T3 {b:Nat} (h4:An b≠4) (h:¬ (An b=0∨b=Ee)) (hn:Bu b=true):Oq b=(Ql,16):=by unfold Oq; rw [if_neg h4,if_neg h,if_pos hn]
theorem Aeo {b:Nat} (h4:An b≠4) (h:¬ (An b=0∨b=Ee)) (hn:Bu b=false) :
    Oq b=(Cm (Gy (Ax b*2^Md b)) ((A3 b-Md b) / 2-1),flagsOf (Gy (Ax b*2^Md b)) ((A3 b-Md b) / 2-1)):=by
  unfold Oq; rw [if_neg h4,if_neg h,if_neg (by rw [hn]; decide)]
theorem Asr:Bu Ee=false:=by decide
theorem Aph:An Ee=3:=by decide
theorem Lb:D4 Ee=Ee:=by decide
theorem Amp {d:Nat} (h:An d=4):D4 d=Ql:=if_pos h
theorem Aen (b d:Nat) (x:Ieee.Datum) (h:Ieee.double.read b=x):(Ieee.double.sqrt b).getD d=((x.root 54).map Ieee.double.write).getD d:=by
  rw [← h]; rfl
theorem T4 (r:Nat):Bk false r=r:=rfl
def O5 (m:Nat) (i:Int):Nat:=2*54-m.log2+((i-((2*54-m.log2:Nat):Int))%2).toNat
theorem An1 {m:Nat} {i:Int} (h:m≠0):(Ieee.Datum.number false m i).root 54=some (.number false (2*Ieee.Datum.rootFrom (m <<< O5 m i) ((m <<< O5 m i).log2 / 2+1) 0+(Ieee.Datum.rootFrom (m <<< O5 m i) ((m <<< O5 m i).log2 / 2+1) 0*Ieee.Datum.rootFrom (m <<< O5 m i) ((m <<< O5 m i).log2 / 2+1) 0 !=m <<< O5 m i).toNat) ((i-O5 m i) / 2-1)):=by
  unfold Ieee.Datum.root O5
  dsimp only
  rw [if_neg h,if_neg (by decide)]
theorem Aul {m:Nat} {i:Int} {d:Nat} (h:m≠0) (hlog:m.log2≤52) (r:Int) (k:Nat) (hk:2^106≤m*2^k) (hr:2*r+k=i-2) :
    D4 ((((Ieee.Datum.number false m i).root 54).map Ieee.double.write).getD d)=Cm (Gy (m*2^k)) r:=by
  have hpow:2^m.log2≤m:=Nat.log2_self_le h
  have hmo:108≤m.log2+O5 m i∧(i-O5 m i)%2=0:=by unfold O5; omega
  rw [An1 h,Option.map_some,Option.getD_some,Mt,G7 _ (Le _ _),T4]
  generalize O5 m i=more at *
  have g1:2^106≤m*2^more:=by
    have:2^108≤2^(m.log2+more):=Azl (by decide) hmo.1
    rw [Nat.pow_add] at this
    have h5:=Azi (2^more) hpow
    omega
  have pe2:2*((i-(more:Int)) / 2-1)+more=i-2:=by omega
  rw [← (Aaz g1 hk (E:=(i-(more:Int)) / 2-1) (F:=r) (by omega)).1,Nat.shiftLeft_eq]
  have e:∀ w:Nat,2*w+(w*w !=m*2^more).toNat=2*w+(if w*w=m*2^more then 0 else 1):=fun w=>by
    by_cases hww:w*w=m*2^more
    · rw [if_pos hww,hww]; simp
    · rw [if_neg hww]
      have:(w*w !=m*2^more)=true:=by simpa using hww
      rw [this]; rfl
  rw [e]
  unfold Gy Ti
  rfl
theorem Aey {b:Nat} (hm:Ax b≠0):2^106≤Ax b*2^Md b∧2*((A3 b-(Md b:Int)) / 2-1)+Md b=A3 b-2:=by
  refine ⟨?_,by unfold Md; omega⟩
  have:2^128≤2^Md b:=Azl (by decide) (by unfold Md; omega)
  have h5:=Nat.mul_le_mul (show 1≤Ax b by omega) this
  omega
theorem Afk {b:Nat} (hm:Ax b≠0):(Ax b).log2≤52:=by
  have:=(Nat.log2_lt hm).2 (show Ax b<2^53 from Fs b)
  omega
theorem An2 (s:Bool) (f:Nat):(Ieee.Datum.nan s f).root 54=none:=rfl
theorem Ak5:(Ieee.Datum.infinity true).root 54=none:=rfl
theorem Ak6:(Ieee.Datum.infinity false).root 54=some (.infinity false):=rfl
theorem Ak4 (s:Bool) (i:Int):(Ieee.Datum.number s 0 i).root 54=some (.number s 0 i):=rfl
theorem Ahn {m:Nat} (i:Int) (h:m≠0):(Ieee.Datum.number true m i).root 54=none:=by
  unfold Ieee.Datum.root
  dsimp only
  rw [if_neg h,if_pos rfl]
theorem Tp {d:Nat} (hd:An d=4):D4 ((Option.map Ieee.double.write none).getD d)=Ql:=Amp hd
theorem Ak7 {b:Nat} (hb:b<2^64) {d:Nat} (hd:An d=4):D4 ((Ieee.double.sqrt b).getD d)=(Oq b).1:=by
  rw [Aen b d _ (Jf hb)]
  by_cases h4:An b=4
  · rw [X1 h4,Hf h4,An2,Tp hd]
  by_cases h3:An b=3
  · rw [Es h3]
    have hw:=Nt hb h3
    cases hn:Bu b with
    | true =>
      have hne:¬ (An b=0∨b=Ee):=by
        intro h
        rcases h with h | h
        · omega
        · rw [h,Asr] at hn; cases hn
      rw [T3 h4 hne hn,Ak5,Tp hd]
    | false =>
      rw [hn,T4] at hw
      rw [Oo h4 (.inr hw.symm),Ak6,Option.map_some,Option.getD_some,Akk,T4,Lb]
      exact hw
  rw [Er h3 h4]
  have hz:=Hr h3 h4
  by_cases h0:An b=0
  · have hm:=hz.2 h0
    have:=Af8 hb h4
    rw [hm] at this
    rw [Oo h4 (.inl h0),hm,Ak4,Option.map_some,Option.getD_some,Mt,G7 _ (Le _ _),this]
  have hi:¬ (An b=0∨b=Ee):=by
    intro h
    rcases h with h | h
    · exact h0 h
    · rw [h,Aph] at h3; exact h3 rfl
  have hm:Ax b≠0:=fun h=>h0 (hz.1 h)
  cases hn:Bu b with
  | true=>rw [T3 h4 hi hn,Ahn _ hm,Tp hd]
  | false =>
    obtain ⟨k1,k2⟩:=Aey hm
    rw [Aeo h4 hi hn,Aul hm (Afk hm) _ _ k1 k2]
end Go.Rnd
namespace Go.Rnd
def Gz (b:Nat) (n:Int):Nat × Nat :=
  if An b=4 then (Ql,0)
  else if An b=3∨An b=0 then (b,0)
  else (Bk (Bu b) (Cm (Ax b) (A3 b+n)),flagsOf (Ax b) (A3 b+n))
theorem Akr {V:Nat} {E:Int} (h0:V≠0) (h:E+V.log2+1≤-1075):Cm V E=0∧flagsOf V E=3:=by
  have hl:Cl V E=-1074:=by unfold Cl; omega
  obtain ⟨k,hk⟩:∃ k:Nat,(-1074:Int)-E=((k:Nat):Int):=⟨(-1074-E).toNat,by omega⟩
  have hV:V<2^(V.log2+1):=(Nat.log2_lt h0).1 (by omega)
  have hp:2^(V.log2+1)*2≤2^k:=by rw [← Nat.pow_succ]; exact Azl (by decide) (by omega)
  have e1:V*2^(-((-1074:Int)-E)).toNat=V:=by rw [hk]; simp
  have e2:((-1074:Int)-E).toNat=k:=by rw [hk]; rfl
  have hk2:kept V E=0:=by
    unfold kept Kh
    rw [hl,e1,e2]
    unfold Nb
    rw [Nat.div_eq_of_lt (by omega),Azj (by omega),if_neg (by omega)]
  have hx:exact V E=false:=by
    unfold exact M6
    rw [hl,e1,e2,Azj (by omega)]
    exact Azb h0
  have hr:Cm V E=0:=by
    unfold Cm
    rw [if_neg h0,hl,hk2]
    rfl
  refine ⟨hr,?_⟩
  unfold flagsOf
  rw [if_neg h0,hr,hx]
  rfl
theorem Alm (n:Bool) {m:Nat} {e:Int} {more:Bool} (hm:m<2^53) (h0:m≠0∨more=true) (he:e≤-1130) :
    Gx n m e more=(Bk n 0,3):=by
  have h1:more.toNat≤1:=by cases more<;>decide
  have hV:4*m+more.toNat≠0:=by
    rcases h0 with h | h
    · omega
    · rw [h]; simp
  have hl:(4*m+more.toNat).log2≤54:=by
    have:=(Nat.log2_lt hV).2 (show 4*m+more.toNat<2^55 by omega); omega
  have:=Akr hV (E:=e-2) (by omega)
  unfold Gx
  rw [this.1,this.2]
theorem Aom (n:Bool):Gx n 0 (-1074) true=(Bk n 0,3):=by
  cases n<;>decide +kernel
theorem Ahi {b:Nat} {n:Int} (h4:An b≠4) (h:¬ (An b=3∨An b=0)) (hn:A3 b+n≤-1130):Gz b n=(Bk (Bu b) 0,3):=by
  have hm:Ax b≠0:=fun h5=>h (.inr ((Hr (by omega) h4).1 h5))
  have:=Akr hm (E:=A3 b+n) (by have:=Afk hm; omega)
  unfold Gz
  rw [if_neg h4,if_neg h,this.1,this.2]
theorem Aky {b:Nat} {n:Int} (h4:An b≠4) (h:¬ (An b=3∨An b=0)):Gz b n=(Bk (Bu b) (Cm (Ax b) (A3 b+n)),flagsOf (Ax b) (A3 b+n)):=by
  unfold Gz; rw [if_neg h4,if_neg h]
def Amf (b:Nat):Int:=if Kp b=true∧An b≠0 then ((Ax b).log2:Int)+A3 b else 0
def Hl (b:Nat):Nat:=b%2^63
def Afa (a b:Nat):Int:=if An a=4∨An b=4 then 0 else if Ib a<Ib b then -1 else if Ib b<Ib a then 1 else 0
def Aae (a b:Nat):Bool:=!(decide (An a=4∨An b=4))
def Ah3 (a b:Nat):Nat:=if Aae a b=true then (if Afa a b<0 then b else a) else Ql
end Go.Rnd
namespace Go.Rnd
open Go.Den
def Aa1 (b:Int):Int:=Ib b.toNat
def Ta (a b:Int):Int:=Afa a.toNat b.toNat
def Aa6 (a b:Int):Bool:=Aae a.toNat b.toNat
def Jq (x:Int):Int:=Hl x.toNat
def O6 (a b:Int):Int:=Ah3 a.toNat b.toNat
def By (x n:Int):Int:=(Gz x.toNat n).1
def Ari (x n:Int):Int:=(Gz x.toNat n).2
def Dj (x n:Int):Bool:=Ag x&&Dh (-2300≤n∧n≤2300)
def Bs (x:Int):Int:=Amf x.toNat
def Zy:List Int→Nat→Nat
  | [],m=>m
  | x::l,m=>if An x.toNat=4 then Ql else Zy l (max m (Hl x.toNat))
def Bf (l:List Int):Int:=Zy l 0
def Di (l:List Int):Bool:=l.all Da
def B1 (r c:Int) (l:List Int):Int:=if Av r c l=true then (if Di l=true then 0 else 4) else 1
def Ar0 (c:Int) (l:List Int) (n:Nat):Bool:=(List.range n).any fun i:Nat=>decide (Be (Cj c l (i:Int) (i:Int))=0)
def Lv (r c:Int) (l:List Int) (p q:Int) (m:List Int):Int :=
  if B1 r c l≠0 then B1 r c l else if B1 p q m≠0 then B1 p q m
  else if r≠c∨r≠p then 3 else if Ar0 c l r.toNat=true then 5 else 0
def N0 (c:Int) (l:List Int) (i:Int):Int→Int→List Int→Int
  | s,_,[]=>s
  | s,j,x::xs=>N0 c l i (Db s (D1 (Cj c l i j) x)) (j+1) xs
def upL (c:Int) (l:List Int) (b:Nat→Int) (n:Nat):Nat→List Int
  | 0=>[]
  | k+1=>Ew (N0 c l ((n-1-k:Nat):Int) (b (n-1-k)) ((n-k:Nat):Int) (upL c l b n k)) (Cj c l ((n-1-k:Nat):Int) ((n-1-k:Nat):Int))::upL c l b n k
def loL (c:Int) (l:List Int) (b:Nat→Int):Nat→List Int
  | 0=>[]
  | k+1=>loL c l b k++[Ew (N0 c l (k:Int) (b k) 0 (loL c l b k)) (Cj c l (k:Int) (k:Int))]
def upG (c:Int) (l:List Int) (q:Int) (m:List Int) (n w:Nat):List Int:=Bg n w fun i j=>(upL c l (fun i=>Cj q m (i:Int) (j:Int)) n n).getD i 0
def loG (c:Int) (l:List Int) (q:Int) (m:List Int) (n w:Nat):List Int:=Bg n w fun i j=>(loL c l (fun i=>Cj q m (i:Int) (j:Int)) n).getD i 0
def G0 (r c:Int) (l:List Int):MX:=if Di l=true then (r,c,l,0) else Ij 2
def Wm (r c:Int) (l:List Int) (p q:Int) (m:List Int):MX :=
  if Lv r c l p q m≠0 then Ij (Lv r c l p q m) else G0 r q (upG c l q m r.toNat q.toNat)
def Qh (r c:Int) (l:List Int) (p q:Int) (m:List Int):MX :=
  if Lv r c l p q m≠0 then Ij (Lv r c l p q m) else G0 r q (loG c l q m r.toNat q.toNat)
def Ky (c:Int) (l:List Int) (n:Nat):List Int:=(List.range n).map fun i:Nat=>Jq (Cj c l (i:Int) (i:Int))
def Apq (d:List Int):Bool:=d.any fun x=>!(decide (Ta (By (Bf d) (-40)) x<0))
def Nh (r c:Int) (l:List Int):Bool:=Apq (Ky c l (min r.toNat c.toNat))
def Ko (r c:Int) (l:List Int):Bool × Int:=if B1 r c l≠0 then (false,B1 r c l) else (Nh r c l,0)
def Qr (r c:Int) (l:List Int) (p q:Int) (m:List Int):Bool:=(Av r c l&&Av p q m)&&((Ae l&&Ae m)&&Dh (r=c∧r=p))
def Jj (n:Nat):List Int:=Bg n n fun i k=>Ns (i:Int) (k:Int)
def Dm (r c:Int) (l:List Int) (p q:Int) (m:List Int):MX :=
  if (Cx r c l).2.2.2≠0 then Ij (Cx r c l).2.2.2 else Fa (Cx r c l).1 (Cx r c l).2.1 (Cx r c l).2.2.1 p q m
end Go.Rnd
end
