/- A verified evaluator of the program's form and its use for this seat: S1Env, Rnd, Flt, Words, NearL, IeeL, OrdL, MulL, Limb, DyL, DyV, ExactL, MulW, SumL, MatL, MatW, PowL, RootL, ScaleL, SolW. -/
import Derived.Test.YtjbokjpbiobjpaaGreatProg
import Derived.Test.YtjbokjpbiobjpaaGreatTD
set_option linter.unusedVariables false
set_option linter.unusedSimpArgs false
noncomputable section
namespace Go.Proofs.S1
open Go Go.Den Go.Proofs
set_option maxRecDepth 100000
abbrev tB:Nat:=37
abbrev tMR:Nat:=214
abbrev tW:Nat:=173
def tys:List (Nat × TI):=[
  (2,⟨1,8,(.int .i64),[.int .i64 (0:Int)]⟩),
  (3,⟨1,8,(.int .i64),[.int .i64 (0:Int)]⟩),
  (4,⟨1,1,.bool,[.bool false]⟩),
  (5,⟨1,1,(.int .u8),[.int .u8 (0:Int)]⟩),
  (22,⟨1,24,(.slice 37),[.nil]⟩),
  (24,⟨3,40,(.struct [(0,3),(1,3),(2,22)]),[.int .i64 (0:Int),.int .i64 (0:Int),.nil]⟩),
  (25,⟨1,8,(.int .i64),[.int .i64 (0:Int)]⟩),
  (36,⟨1,8,(.int .u64),[.int .u64 (0:Int)]⟩),
  (37,⟨1,8,(.int .u64),[.int .u64 (0:Int)]⟩),
  (38,⟨1,24,(.slice 41),[.nil]⟩),
  (41,⟨1,1,(.int .i8),[.int .i8 (0:Int)]⟩),
  (43,⟨1,24,(.slice 173),[.nil]⟩),
  (45,⟨2,32,(.struct [(0,4),(1,43)]),[.bool false,.nil]⟩),
  (47,⟨3,40,(.struct [(0,45),(2,3)]),[.bool false,.nil,.int .i64 (0:Int)]⟩),
  (57,⟨12,160,(.struct [(0,24),(3,24),(6,24),(9,24)]),[.int .i64 (0:Int),.int .i64 (0:Int),.nil,.int .i64 (0:Int),.int .i64 (0:Int),.nil,.int .i64 (0:Int),.int .i64 (0:Int),.nil,.int .i64 (0:Int),.int .i64 (0:Int),.nil]⟩),
  (60,⟨12,160,(.struct [(0,24),(3,24),(6,24),(9,24)]),[.int .i64 (0:Int),.int .i64 (0:Int),.nil,.int .i64 (0:Int),.int .i64 (0:Int),.nil,.int .i64 (0:Int),.int .i64 (0:Int),.nil,.int .i64 (0:Int),.int .i64 (0:Int),.nil]⟩),
  (71,⟨9,120,(.struct [(0,24),(3,24),(6,24)]),[.int .i64 (0:Int),.int .i64 (0:Int),.nil,.int .i64 (0:Int),.int .i64 (0:Int),.nil,.int .i64 (0:Int),.int .i64 (0:Int),.nil]⟩),
  (74,⟨9,120,(.struct [(0,24),(3,24),(6,24)]),[.int .i64 (0:Int),.int .i64 (0:Int),.nil,.int .i64 (0:Int),.int .i64 (0:Int),.nil,.int .i64 (0:Int),.int .i64 (0:Int),.nil]⟩),
  (80,⟨7,88,(.struct [(0,24),(3,24),(6,25)]),[.int .i64 (0:Int),.int .i64 (0:Int),.nil,.int .i64 (0:Int),.int .i64 (0:Int),.nil,.int .i64 (0:Int)]⟩),
  (88,⟨9,120,(.struct [(0,24),(3,24),(6,24)]),[.int .i64 (0:Int),.int .i64 (0:Int),.nil,.int .i64 (0:Int),.int .i64 (0:Int),.nil,.int .i64 (0:Int),.int .i64 (0:Int),.nil]⟩),
  (91,⟨1,24,(.slice 24),[.nil]⟩),
  (102,⟨1,8,(.int .i64),[.int .i64 (0:Int)]⟩),
  (114,⟨6,80,(.array 2 24),[.int .i64 (0:Int),.int .i64 (0:Int),.nil,.int .i64 (0:Int),.int .i64 (0:Int),.nil]⟩),
  (118,⟨7,88,(.struct [(0,24),(3,24),(6,4)]),[.int .i64 (0:Int),.int .i64 (0:Int),.nil,.int .i64 (0:Int),.int .i64 (0:Int),.nil,.bool false]⟩),
  (121,⟨1,8,.fl,[.fl 0]⟩),
  (131,⟨1,24,(.slice 47),[.nil]⟩),
  (134,⟨1,24,(.slice 135),[.nil]⟩),
  (135,⟨1,24,(.slice 45),[.nil]⟩),
  (145,⟨9,120,(.array 3 24),[.int .i64 (0:Int),.int .i64 (0:Int),.nil,.int .i64 (0:Int),.int .i64 (0:Int),.nil,.int .i64 (0:Int),.int .i64 (0:Int),.nil]⟩),
  (147,⟨15,200,(.struct [(0,24),(3,24),(6,24),(9,24),(12,24)]),[.int .i64 (0:Int),.int .i64 (0:Int),.nil,.int .i64 (0:Int),.int .i64 (0:Int),.nil,.int .i64 (0:Int),.int .i64 (0:Int),.nil,.int .i64 (0:Int),.int .i64 (0:Int),.nil,.int .i64 (0:Int),.int .i64 (0:Int),.nil]⟩),
  (155,⟨3,40,(.struct [(0,3),(1,3),(2,131)]),[.int .i64 (0:Int),.int .i64 (0:Int),.nil]⟩),
  (166,⟨1,1,(.int .u8),[.int .u8 (0:Int)]⟩),
  (173,⟨1,4,(.int .u32),[.int .u32 (0:Int)]⟩),
  (183,⟨12,160,(.array 4 24),[.int .i64 (0:Int),.int .i64 (0:Int),.nil,.int .i64 (0:Int),.int .i64 (0:Int),.nil,.int .i64 (0:Int),.int .i64 (0:Int),.nil,.int .i64 (0:Int),.int .i64 (0:Int),.nil]⟩),
  (188,⟨2,16,(.array 2 3),[.int .i64 (0:Int),.int .i64 (0:Int)]⟩),
  (189,⟨1,24,(.slice 191),[.nil]⟩),
  (191,⟨3,40,(.struct [(0,22),(1,37),(2,37)]),[.nil,.int .u64 (0:Int),.int .u64 (0:Int)]⟩),
  (199,⟨3,24,(.struct [(0,4),(1,3),(2,36)]),[.bool false,.int .i64 (0:Int),.int .u64 (0:Int)]⟩),
  (208,⟨1,24,(.slice 214),[.nil]⟩),
  (214,⟨2,32,(.struct [(0,22),(1,37)]),[.nil,.int .u64 (0:Int)]⟩)]
theorem ty2:B6 Tryz.prog 2 ⟨1,8,(.int .i64),[.int .i64 (0:Int)]⟩:=Cb (z:=.int .i64 (0:Int)) (by kernel_rfl) (fun c w=>by simp [Bc,Ao,Value.cells]) rfl (by simp [Value.cells,Value.oneCell']) (by simp only [Cf]; exact Tryz.underlying2)
theorem ty3:B6 Tryz.prog 3 ⟨1,8,(.int .i64),[.int .i64 (0:Int)]⟩:=Cb (z:=.int .i64 (0:Int)) (by kernel_rfl) (fun c w=>by simp [Bc,Ao,Value.cells]) rfl (by simp [Value.cells,Value.oneCell']) (by simp only [Cf]; exact Tryz.underlying3)
theorem ty4:B6 Tryz.prog 4 ⟨1,1,.bool,[.bool false]⟩:=Cb (z:=.bool false) (by kernel_rfl) (fun c w=>by simp [Bc,Ao,Value.cells]) rfl (by simp [Value.cells,Value.oneCell']) (by simp only [Cf]; exact Tryz.underlying4)
theorem ty5:B6 Tryz.prog 5 ⟨1,1,(.int .u8),[.int .u8 (0:Int)]⟩:=Cb (z:=.int .u8 (0:Int)) (by kernel_rfl) (fun c w=>by simp [Bc,Ao,Value.cells]) rfl (by simp [Value.cells,Value.oneCell']) (by simp only [Cf]; exact Tryz.underlying5)
theorem Awi:B6 Tryz.prog 22 ⟨1,24,(.slice 37),[.nil]⟩:=Cb (z:=.slice none 0 0) (by kernel_rfl) (fun c w=>by simp [Bc,Ao,Value.cells]) rfl (by simp [Value.cells,Value.oneCell']) (by simp only [Cf]; exact Tryz.underlying22)
theorem Awh:B6 Tryz.prog 24 ⟨3,40,(.struct [(0,3),(1,3),(2,22)]),[.int .i64 (0:Int),.int .i64 (0:Int),.nil]⟩:=Cb (z:=.agg #[.int .i64 (0:Int),.int .i64 (0:Int),.slice none 0 0]) (by kernel_rfl) (fun c w=>by simp [Bc,Ao,Value.cells]) rfl (by simp [Value.cells,Value.oneCell']) (by simp only [Cf]; exact ⟨_,Tryz.underlying24,by kernel_rfl⟩)
theorem Awg:B6 Tryz.prog 25 ⟨1,8,(.int .i64),[.int .i64 (0:Int)]⟩:=Cb (z:=.int .i64 (0:Int)) (by kernel_rfl) (fun c w=>by simp [Bc,Ao,Value.cells]) rfl (by simp [Value.cells,Value.oneCell']) (by simp only [Cf]; exact Tryz.underlying25)
theorem At1:B6 Tryz.prog 36 ⟨1,8,(.int .u64),[.int .u64 (0:Int)]⟩:=Cb (z:=.int .u64 (0:Int)) (by kernel_rfl) (fun c w=>by simp [Bc,Ao,Value.cells]) rfl (by simp [Value.cells,Value.oneCell']) (by simp only [Cf]; exact Tryz.underlying36)
theorem Awf:B6 Tryz.prog 37 ⟨1,8,(.int .u64),[.int .u64 (0:Int)]⟩:=Cb (z:=.int .u64 (0:Int)) (by kernel_rfl) (fun c w=>by simp [Bc,Ao,Value.cells]) rfl (by simp [Value.cells,Value.oneCell']) (by simp only [Cf]; exact Tryz.underlying37)
theorem Awe:B6 Tryz.prog 38 ⟨1,24,(.slice 41),[.nil]⟩:=Cb (z:=.slice none 0 0) (by kernel_rfl) (fun c w=>by simp [Bc,Ao,Value.cells]) rfl (by simp [Value.cells,Value.oneCell']) (by simp only [Cf]; exact Tryz.underlying38)
theorem Awd:B6 Tryz.prog 41 ⟨1,1,(.int .i8),[.int .i8 (0:Int)]⟩:=Cb (z:=.int .i8 (0:Int)) (by kernel_rfl) (fun c w=>by simp [Bc,Ao,Value.cells]) rfl (by simp [Value.cells,Value.oneCell']) (by simp only [Cf]; exact Tryz.underlying41)
theorem Awc:B6 Tryz.prog 43 ⟨1,24,(.slice 173),[.nil]⟩:=Cb (z:=.slice none 0 0) (by kernel_rfl) (fun c w=>by simp [Bc,Ao,Value.cells]) rfl (by simp [Value.cells,Value.oneCell']) (by simp only [Cf]; exact Tryz.underlying43)
theorem Awb:B6 Tryz.prog 45 ⟨2,32,(.struct [(0,4),(1,43)]),[.bool false,.nil]⟩:=Cb (z:=.agg #[.bool false,.slice none 0 0]) (by kernel_rfl) (fun c w=>by simp [Bc,Ao,Value.cells]) rfl (by simp [Value.cells,Value.oneCell']) (by simp only [Cf]; exact ⟨_,Tryz.underlying45,by kernel_rfl⟩)
theorem Awa:B6 Tryz.prog 47 ⟨3,40,(.struct [(0,45),(2,3)]),[.bool false,.nil,.int .i64 (0:Int)]⟩:=Cb (z:=.agg #[.bool false,.slice none 0 0,.int .i64 (0:Int)]) (by kernel_rfl) (fun c w=>by simp [Bc,Ao,Value.cells]) rfl (by simp [Value.cells,Value.oneCell']) (by simp only [Cf]; exact ⟨_,Tryz.underlying47,by kernel_rfl⟩)
theorem Av9:B6 Tryz.prog 57 ⟨12,160,(.struct [(0,24),(3,24),(6,24),(9,24)]),[.int .i64 (0:Int),.int .i64 (0:Int),.nil,.int .i64 (0:Int),.int .i64 (0:Int),.nil,.int .i64 (0:Int),.int .i64 (0:Int),.nil,.int .i64 (0:Int),.int .i64 (0:Int),.nil]⟩:=Cb (z:=.agg #[.int .i64 (0:Int),.int .i64 (0:Int),.slice none 0 0,.int .i64 (0:Int),.int .i64 (0:Int),.slice none 0 0,.int .i64 (0:Int),.int .i64 (0:Int),.slice none 0 0,.int .i64 (0:Int),.int .i64 (0:Int),.slice none 0 0]) (by kernel_rfl) (fun c w=>by simp [Bc,Ao,Value.cells]) rfl (by simp [Value.cells,Value.oneCell']) (by simp only [Cf]; exact ⟨_,Tryz.underlying57,by kernel_rfl⟩)
theorem Av8:B6 Tryz.prog 60 ⟨12,160,(.struct [(0,24),(3,24),(6,24),(9,24)]),[.int .i64 (0:Int),.int .i64 (0:Int),.nil,.int .i64 (0:Int),.int .i64 (0:Int),.nil,.int .i64 (0:Int),.int .i64 (0:Int),.nil,.int .i64 (0:Int),.int .i64 (0:Int),.nil]⟩:=Cb (z:=.agg #[.int .i64 (0:Int),.int .i64 (0:Int),.slice none 0 0,.int .i64 (0:Int),.int .i64 (0:Int),.slice none 0 0,.int .i64 (0:Int),.int .i64 (0:Int),.slice none 0 0,.int .i64 (0:Int),.int .i64 (0:Int),.slice none 0 0]) (by kernel_rfl) (fun c w=>by simp [Bc,Ao,Value.cells]) rfl (by simp [Value.cells,Value.oneCell']) (by simp only [Cf]; exact ⟨_,Tryz.underlying60,by kernel_rfl⟩)
theorem Av7:B6 Tryz.prog 71 ⟨9,120,(.struct [(0,24),(3,24),(6,24)]),[.int .i64 (0:Int),.int .i64 (0:Int),.nil,.int .i64 (0:Int),.int .i64 (0:Int),.nil,.int .i64 (0:Int),.int .i64 (0:Int),.nil]⟩:=Cb (z:=.agg #[.int .i64 (0:Int),.int .i64 (0:Int),.slice none 0 0,.int .i64 (0:Int),.int .i64 (0:Int),.slice none 0 0,.int .i64 (0:Int),.int .i64 (0:Int),.slice none 0 0]) (by kernel_rfl) (fun c w=>by simp [Bc,Ao,Value.cells]) rfl (by simp [Value.cells,Value.oneCell']) (by simp only [Cf]; exact ⟨_,Tryz.underlying71,by kernel_rfl⟩)
theorem Av6:B6 Tryz.prog 74 ⟨9,120,(.struct [(0,24),(3,24),(6,24)]),[.int .i64 (0:Int),.int .i64 (0:Int),.nil,.int .i64 (0:Int),.int .i64 (0:Int),.nil,.int .i64 (0:Int),.int .i64 (0:Int),.nil]⟩:=Cb (z:=.agg #[.int .i64 (0:Int),.int .i64 (0:Int),.slice none 0 0,.int .i64 (0:Int),.int .i64 (0:Int),.slice none 0 0,.int .i64 (0:Int),.int .i64 (0:Int),.slice none 0 0]) (by kernel_rfl) (fun c w=>by simp [Bc,Ao,Value.cells]) rfl (by simp [Value.cells,Value.oneCell']) (by simp only [Cf]; exact ⟨_,Tryz.underlying74,by kernel_rfl⟩)
theorem Av5:B6 Tryz.prog 80 ⟨7,88,(.struct [(0,24),(3,24),(6,25)]),[.int .i64 (0:Int),.int .i64 (0:Int),.nil,.int .i64 (0:Int),.int .i64 (0:Int),.nil,.int .i64 (0:Int)]⟩:=Cb (z:=.agg #[.int .i64 (0:Int),.int .i64 (0:Int),.slice none 0 0,.int .i64 (0:Int),.int .i64 (0:Int),.slice none 0 0,.int .i64 (0:Int)]) (by kernel_rfl) (fun c w=>by simp [Bc,Ao,Value.cells]) rfl (by simp [Value.cells,Value.oneCell']) (by simp only [Cf]; exact ⟨_,Tryz.underlying80,by kernel_rfl⟩)
theorem Av4:B6 Tryz.prog 88 ⟨9,120,(.struct [(0,24),(3,24),(6,24)]),[.int .i64 (0:Int),.int .i64 (0:Int),.nil,.int .i64 (0:Int),.int .i64 (0:Int),.nil,.int .i64 (0:Int),.int .i64 (0:Int),.nil]⟩:=Cb (z:=.agg #[.int .i64 (0:Int),.int .i64 (0:Int),.slice none 0 0,.int .i64 (0:Int),.int .i64 (0:Int),.slice none 0 0,.int .i64 (0:Int),.int .i64 (0:Int),.slice none 0 0]) (by kernel_rfl) (fun c w=>by simp [Bc,Ao,Value.cells]) rfl (by simp [Value.cells,Value.oneCell']) (by simp only [Cf]; exact ⟨_,Tryz.underlying88,by kernel_rfl⟩)
theorem Av3:B6 Tryz.prog 91 ⟨1,24,(.slice 24),[.nil]⟩:=Cb (z:=.slice none 0 0) (by kernel_rfl) (fun c w=>by simp [Bc,Ao,Value.cells]) rfl (by simp [Value.cells,Value.oneCell']) (by simp only [Cf]; exact Tryz.underlying91)
theorem Auk:B6 Tryz.prog 102 ⟨1,8,(.int .i64),[.int .i64 (0:Int)]⟩:=Cb (z:=.int .i64 (0:Int)) (by kernel_rfl) (fun c w=>by simp [Bc,Ao,Value.cells]) rfl (by simp [Value.cells,Value.oneCell']) (by simp only [Cf]; exact Tryz.underlying102)
theorem Auj:B6 Tryz.prog 114 ⟨6,80,(.array 2 24),[.int .i64 (0:Int),.int .i64 (0:Int),.nil,.int .i64 (0:Int),.int .i64 (0:Int),.nil]⟩:=Cb (z:=.agg #[.int .i64 (0:Int),.int .i64 (0:Int),.slice none 0 0,.int .i64 (0:Int),.int .i64 (0:Int),.slice none 0 0]) (by kernel_rfl) (fun c w=>by simp [Bc,Ao,Value.cells]) rfl (by simp [Value.cells,Value.oneCell']) (by simp only [Cf]; exact Tryz.underlying114)
theorem Aui:B6 Tryz.prog 118 ⟨7,88,(.struct [(0,24),(3,24),(6,4)]),[.int .i64 (0:Int),.int .i64 (0:Int),.nil,.int .i64 (0:Int),.int .i64 (0:Int),.nil,.bool false]⟩:=Cb (z:=.agg #[.int .i64 (0:Int),.int .i64 (0:Int),.slice none 0 0,.int .i64 (0:Int),.int .i64 (0:Int),.slice none 0 0,.bool false]) (by kernel_rfl) (fun c w=>by simp [Bc,Ao,Value.cells]) rfl (by simp [Value.cells,Value.oneCell']) (by simp only [Cf]; exact ⟨_,Tryz.underlying118,by kernel_rfl⟩)
theorem Auh:B6 Tryz.prog 121 ⟨1,8,.fl,[.fl 0]⟩:=Cb (z:=.float .f64 0) (by kernel_rfl) (fun c w=>by simp [Bc,Ao,Value.cells,P1]) rfl (by simp [Value.cells,Value.oneCell']) (by simp only [Cf]; exact Tryz.underlying121)
theorem Aug:B6 Tryz.prog 131 ⟨1,24,(.slice 47),[.nil]⟩:=Cb (z:=.slice none 0 0) (by kernel_rfl) (fun c w=>by simp [Bc,Ao,Value.cells]) rfl (by simp [Value.cells,Value.oneCell']) (by simp only [Cf]; exact Tryz.underlying131)
theorem Auf:B6 Tryz.prog 134 ⟨1,24,(.slice 135),[.nil]⟩:=Cb (z:=.slice none 0 0) (by kernel_rfl) (fun c w=>by simp [Bc,Ao,Value.cells]) rfl (by simp [Value.cells,Value.oneCell']) (by simp only [Cf]; exact Tryz.underlying134)
theorem Aue:B6 Tryz.prog 135 ⟨1,24,(.slice 45),[.nil]⟩:=Cb (z:=.slice none 0 0) (by kernel_rfl) (fun c w=>by simp [Bc,Ao,Value.cells]) rfl (by simp [Value.cells,Value.oneCell']) (by simp only [Cf]; exact Tryz.underlying135)
theorem Aud:B6 Tryz.prog 145 ⟨9,120,(.array 3 24),[.int .i64 (0:Int),.int .i64 (0:Int),.nil,.int .i64 (0:Int),.int .i64 (0:Int),.nil,.int .i64 (0:Int),.int .i64 (0:Int),.nil]⟩:=Cb (z:=.agg #[.int .i64 (0:Int),.int .i64 (0:Int),.slice none 0 0,.int .i64 (0:Int),.int .i64 (0:Int),.slice none 0 0,.int .i64 (0:Int),.int .i64 (0:Int),.slice none 0 0]) (by kernel_rfl) (fun c w=>by simp [Bc,Ao,Value.cells]) rfl (by simp [Value.cells,Value.oneCell']) (by simp only [Cf]; exact Tryz.underlying145)
theorem Auc:B6 Tryz.prog 147 ⟨15,200,(.struct [(0,24),(3,24),(6,24),(9,24),(12,24)]),[.int .i64 (0:Int),.int .i64 (0:Int),.nil,.int .i64 (0:Int),.int .i64 (0:Int),.nil,.int .i64 (0:Int),.int .i64 (0:Int),.nil,.int .i64 (0:Int),.int .i64 (0:Int),.nil,.int .i64 (0:Int),.int .i64 (0:Int),.nil]⟩:=Cb (z:=.agg #[.int .i64 (0:Int),.int .i64 (0:Int),.slice none 0 0,.int .i64 (0:Int),.int .i64 (0:Int),.slice none 0 0,.int .i64 (0:Int),.int .i64 (0:Int),.slice none 0 0,.int .i64 (0:Int),.int .i64 (0:Int),.slice none 0 0,.int .i64 (0:Int),.int .i64 (0:Int),.slice none 0 0]) (by kernel_rfl) (fun c w=>by simp [Bc,Ao,Value.cells]) rfl (by simp [Value.cells,Value.oneCell']) (by simp only [Cf]; exact ⟨_,Tryz.underlying147,by kernel_rfl⟩)
theorem Aub:B6 Tryz.prog 155 ⟨3,40,(.struct [(0,3),(1,3),(2,131)]),[.int .i64 (0:Int),.int .i64 (0:Int),.nil]⟩:=Cb (z:=.agg #[.int .i64 (0:Int),.int .i64 (0:Int),.slice none 0 0]) (by kernel_rfl) (fun c w=>by simp [Bc,Ao,Value.cells]) rfl (by simp [Value.cells,Value.oneCell']) (by simp only [Cf]; exact ⟨_,Tryz.underlying155,by kernel_rfl⟩)
theorem Aua:B6 Tryz.prog 166 ⟨1,1,(.int .u8),[.int .u8 (0:Int)]⟩:=Cb (z:=.int .u8 (0:Int)) (by kernel_rfl) (fun c w=>by simp [Bc,Ao,Value.cells]) rfl (by simp [Value.cells,Value.oneCell']) (by simp only [Cf]; exact Tryz.underlying166)
theorem At9:B6 Tryz.prog 173 ⟨1,4,(.int .u32),[.int .u32 (0:Int)]⟩:=Cb (z:=.int .u32 (0:Int)) (by kernel_rfl) (fun c w=>by simp [Bc,Ao,Value.cells]) rfl (by simp [Value.cells,Value.oneCell']) (by simp only [Cf]; exact Tryz.underlying173)
theorem At8:B6 Tryz.prog 183 ⟨12,160,(.array 4 24),[.int .i64 (0:Int),.int .i64 (0:Int),.nil,.int .i64 (0:Int),.int .i64 (0:Int),.nil,.int .i64 (0:Int),.int .i64 (0:Int),.nil,.int .i64 (0:Int),.int .i64 (0:Int),.nil]⟩:=Cb (z:=.agg #[.int .i64 (0:Int),.int .i64 (0:Int),.slice none 0 0,.int .i64 (0:Int),.int .i64 (0:Int),.slice none 0 0,.int .i64 (0:Int),.int .i64 (0:Int),.slice none 0 0,.int .i64 (0:Int),.int .i64 (0:Int),.slice none 0 0]) (by kernel_rfl) (fun c w=>by simp [Bc,Ao,Value.cells]) rfl (by simp [Value.cells,Value.oneCell']) (by simp only [Cf]; exact Tryz.underlying183)
theorem At7:B6 Tryz.prog 188 ⟨2,16,(.array 2 3),[.int .i64 (0:Int),.int .i64 (0:Int)]⟩:=Cb (z:=.agg #[.int .i64 (0:Int),.int .i64 (0:Int)]) (by kernel_rfl) (fun c w=>by simp [Bc,Ao,Value.cells]) rfl (by simp [Value.cells,Value.oneCell']) (by simp only [Cf]; exact Tryz.underlying188)
theorem At6:B6 Tryz.prog 189 ⟨1,24,(.slice 191),[.nil]⟩:=Cb (z:=.slice none 0 0) (by kernel_rfl) (fun c w=>by simp [Bc,Ao,Value.cells]) rfl (by simp [Value.cells,Value.oneCell']) (by simp only [Cf]; exact Tryz.underlying189)
theorem At5:B6 Tryz.prog 191 ⟨3,40,(.struct [(0,22),(1,37),(2,37)]),[.nil,.int .u64 (0:Int),.int .u64 (0:Int)]⟩:=Cb (z:=.agg #[.slice none 0 0,.int .u64 (0:Int),.int .u64 (0:Int)]) (by kernel_rfl) (fun c w=>by simp [Bc,Ao,Value.cells]) rfl (by simp [Value.cells,Value.oneCell']) (by simp only [Cf]; exact ⟨_,Tryz.underlying191,by kernel_rfl⟩)
theorem At4:B6 Tryz.prog 199 ⟨3,24,(.struct [(0,4),(1,3),(2,36)]),[.bool false,.int .i64 (0:Int),.int .u64 (0:Int)]⟩:=Cb (z:=.agg #[.bool false,.int .i64 (0:Int),.int .u64 (0:Int)]) (by kernel_rfl) (fun c w=>by simp [Bc,Ao,Value.cells]) rfl (by simp [Value.cells,Value.oneCell']) (by simp only [Cf]; exact ⟨_,Tryz.underlying199,by kernel_rfl⟩)
theorem At3:B6 Tryz.prog 208 ⟨1,24,(.slice 214),[.nil]⟩:=Cb (z:=.slice none 0 0) (by kernel_rfl) (fun c w=>by simp [Bc,Ao,Value.cells]) rfl (by simp [Value.cells,Value.oneCell']) (by simp only [Cf]; exact Tryz.underlying208)
theorem At2:B6 Tryz.prog 214 ⟨2,32,(.struct [(0,22),(1,37)]),[.nil,.int .u64 (0:Int)]⟩:=Cb (z:=.agg #[.slice none 0 0,.int .u64 (0:Int)]) (by kernel_rfl) (fun c w=>by simp [Bc,Ao,Value.cells]) rfl (by simp [Value.cells,Value.oneCell']) (by simp only [Cf]; exact ⟨_,Tryz.underlying214,by kernel_rfl⟩)
theorem Ase:Rw Tryz.prog tys:=.cons ty2 <| .cons ty3 <| .cons ty4 <| .cons ty5 <| .cons Awi <| .cons Awh <| .cons Awg <| .cons At1 <| .cons Awf <| .cons Awe <| .cons Awd <| .cons Awc <| .cons Awb <| .cons Awa <| .cons Av9 <| .cons Av8 <| .cons Av7 <| .cons Av6 <| .cons Av5 <| .cons Av4 <| .cons Av3 <| .cons Auk <| .cons Auj <| .cons Aui <| .cons Auh <| .cons Aug <| .cons Auf <| .cons Aue <| .cons Aud <| .cons Auc <| .cons Aub <| .cons Aua <| .cons At9 <| .cons At8 <| .cons At7 <| .cons At6 <| .cons At5 <| .cons At4 <| .cons At3 <| .cons At2 <| .nil
def exts:List (Nat × Ext):=[(169,.bits),(210,.frombits),(263,.sqrt),(266,.sub64)]
def Afm:List (Nat × Ext)→Nat→Option Ext
  | [],_=>none
  | (m,e)::l,n=>bif Nat.beq m n then some e else Afm l n
theorem Aoh (args:Array Value) (w:World):(callFunc 169 args).run Tryz.prog w=((S3 .bits args).run Tryz.prog w).andThen fun v w'=>.ok (.value v) w':=run_callFunc_extern (e:=Extern.MathFloatBits.float64bits) Tryz.func169 (by kernel_rfl) (by kernel_rfl) (by kernel_rfl) (by kernel_rfl) args w
theorem Aog (args:Array Value) (w:World):(callFunc 210 args).run Tryz.prog w=((S3 .frombits args).run Tryz.prog w).andThen fun v w'=>.ok (.value v) w':=run_callFunc_extern (e:=Extern.MathFloatBits.float64frombits) Tryz.func210 (by kernel_rfl) (by kernel_rfl) (by kernel_rfl) (by kernel_rfl) args w
theorem Aof (args:Array Value) (w:World):(callFunc 263 args).run Tryz.prog w=((S3 .sqrt args).run Tryz.prog w).andThen fun v w'=>.ok (.value v) w':=run_callFunc_extern (e:=Extern.MathSqrt.sqrt) Tryz.func263 (by kernel_rfl) (by kernel_rfl) (by kernel_rfl) (by kernel_rfl) args w
theorem Aoe (args:Array Value) (w:World):(callFunc 266 args).run Tryz.prog w=((S3 .sub64 args).run Tryz.prog w).andThen fun v w'=>.ok (.value v) w':=run_callFunc_extern (e:=Xk) Tryz.func266 (by kernel_rfl) (by kernel_rfl) (by kernel_rfl) (by kernel_rfl) args w
def Atj:List Nat:=[199,188]
theorem Avk:Ade Tryz.prog 199 ⟨3,24,(.struct [(0,4),(1,3),(2,36)]),[.bool false,.int .i64 (0:Int),.int .u64 (0:Int)]⟩ where
  guard:=by kernel_rfl
  eq:=by
    intro w c x y xs ys hx hy hlx hly
    obtain ⟨a0,x1,rfl,hx1⟩:=Xq hx
    obtain ⟨a1,x2,rfl,hx2⟩:=Jl hx1
    obtain ⟨a2,x3,rfl,hx3⟩:=Jl hx2
    obtain rfl:=Ra hx3
    obtain ⟨b0,y1,rfl,hy1⟩:=Xq hy
    obtain ⟨b1,y2,rfl,hy2⟩:=Jl hy1
    obtain ⟨b2,y3,rfl,hy3⟩:=Jl hy2
    obtain rfl:=Ra hy3
    obtain ⟨xs⟩:=xs
    obtain ⟨ys⟩:=ys
    simp only [Bc.Cr,Bc.Gd,Ao] at hlx hly
    obtain ⟨_,_,rfl,rfl,_,_,rfl,rfl,_,_,rfl,rfl,rfl⟩:=hlx
    obtain ⟨_,_,rfl,rfl,_,_,rfl,rfl,_,_,rfl,rfl,rfl⟩:=hly
    have hu:Tryz.prog.underlying 199=some (.struct (Tryz.prog.fieldsOf 199)):=by kernel_rfl
    have hp:Tryz.prog.stoodInHeld 199=false:=by kernel_rfl
    unfold Op.equal Op.maxDepth
    rw [run_equalIn_struct w 9999 199 _ _ hu hp]
    have hfs:Tryz.prog.fieldsOf 199=(match Tryz.prog.underlying 199 with | some (.struct fs)=>fs | _=>#[]):=rfl
    rw [hfs,Tryz.underlying199]
    simp [Op.eqFields,Ly w ty3 rfl,Ly w ty4 rfl,Ly w At1 rfl,run_equalIn_int w _ _ _ _ _ _ Tryz.underlying3,run_equalIn_bool w _ _ _ _ Tryz.underlying4,run_equalIn_int w _ _ _ _ _ _ Tryz.underlying36,Aa6,Zb]
    by_cases h0:a0=b0<;>by_cases h1:a1=b1<;>by_cases h2:a2=b2<;>simp [h0,h1,h2]
theorem Avl:Ade Tryz.prog 188 ⟨2,16,(.array 2 3),[.int .i64 (0:Int),.int .i64 (0:Int)]⟩ where
  guard:=by kernel_rfl
  eq:=by
    intro w c x y xs ys hx hy hlx hly
    obtain ⟨a0,x1,rfl,hx1⟩:=Jl hx
    obtain ⟨a1,x2,rfl,hx2⟩:=Jl hx1
    obtain rfl:=Ra hx2
    obtain ⟨b0,y1,rfl,hy1⟩:=Jl hy
    obtain ⟨b1,y2,rfl,hy2⟩:=Jl hy1
    obtain rfl:=Ra hy2
    obtain ⟨xs⟩:=xs
    obtain ⟨ys⟩:=ys
    simp only [Bc.Cr,Bc.Gd,Ao] at hlx hly
    obtain ⟨_,_,rfl,rfl,_,_,rfl,rfl,rfl⟩:=hlx
    obtain ⟨_,_,rfl,rfl,_,_,rfl,rfl,rfl⟩:=hly
    obtain ⟨i,_,hi,_⟩:=ty3.info
    have hc:Tryz.prog.cellsOf 3=1:=by kernel_rfl
    unfold Op.equal Op.maxDepth
    rw [run_equalIn_array w 9999 _ _ Tryz.underlying188 hi,hc]
    simp [Op.eqItems,List.range,List.range.loop,Ly w ty3 rfl,run_equalIn_int w _ _ _ _ _ _ Tryz.underlying3,Aa6,Zb]
    by_cases h0:a0=b0<;>by_cases h1:a1=b1<;>simp [h0,h1]
def A9 (A6:Nat→Option Entry) (adopt:Nat→Bool) (hint:Nat→Option Ba) (live:Nat→Option (List Nat)):Env:={ ty:=Al3 tys,A6:=A6,ext:=Afm exts,eqs:=fun t=>L7 t Atj,adopt:=adopt,live:=live,hint:=hint }
theorem Az {l:List (Nat × Entry)} (h:Ax Tryz.prog l) (adopt:Nat→Bool) (hint:Nat→Option Ba) (live:Nat→Option (List Nat)):Kb Tryz.prog (A9 (A5 l) adopt hint live) where
  ty:=fun t ti ht=>Ase.get ht
  A6:=fun g e hg=>(h.get hg).meets
  call:=fun g e hg=>(h.get hg).call
  ext:=by
    intro g x hx args w
    simp only [A9,exts,Afm] at hx
    cases hb:Nat.beq 169 g with
    | true =>
      rw [hb] at hx
      cases hx
      obtain rfl:=Ayb hb
      exact Aoh args w
    | false =>
    rw [hb,Axx] at hx
    clear hb
    cases hb:Nat.beq 210 g with
    | true =>
      rw [hb] at hx
      cases hx
      obtain rfl:=Ayb hb
      exact Aog args w
    | false =>
    rw [hb,Axx] at hx
    clear hb
    cases hb:Nat.beq 263 g with
    | true =>
      rw [hb] at hx
      cases hx
      obtain rfl:=Ayb hb
      exact Aof args w
    | false =>
    rw [hb,Axx] at hx
    clear hb
    cases hb:Nat.beq 266 g with
    | true =>
      rw [hb] at hx
      cases hx
      obtain rfl:=Ayb hb
      exact Aoe args w
    | false =>
    rw [hb,Axx] at hx
    clear hb
    cases hx
  eqs:=by
    intro t ti ht hti
    simp only [A9,Atj,L7] at ht hti
    cases hb:Nat.beq t 199 with
    | true =>
      obtain rfl:=Ayb hb
      cases hti
      exact Avk
    | false =>
    rw [hb,Axx] at ht
    clear hb
    cases hb:Nat.beq t 188 with
    | true =>
      obtain rfl:=Ayb hb
      cases hti
      exact Avl
    | false =>
    rw [hb,Axx] at ht
    clear hb
    cases ht
  mixed:=by kernel_rfl
def Ar4:List (Nat × Ext):=[(169,.bitsN),(210,.frombits),(263,.sqrt),(266,.sub64)]
def Af2:List (Nat × List CK)→Nat→List CK
  | [],_=>[]
  | (m,e)::l,n=>bif Nat.beq m n then e else Af2 l n
def Vo (A6:Nat→Option Entry) (adopt:Nat→Bool) (hint:Nat→Option Ba) (live:Nat→Option (List Nat)) (adv:Nat→List CK):Env:={ ty:=Al3 tys,A6:=A6,ext:=Afm Ar4,eqs:=fun t=>L7 t Atj,adopt:=adopt,live:=live,hint:=hint,adv:=adv }
theorem W9 {l:List (Nat × Entry)} (h:Ax Tryz.prog l) (adopt:Nat→Bool) (hint:Nat→Option Ba) (live:Nat→Option (List Nat)) (adv:Nat→List CK):Kb Tryz.prog (Vo (A5 l) adopt hint live adv) :=
  have k:=Az h adopt hint live
  ⟨k.ty,k.A6,k.call,(by
    intro g x hx args w
    simp only [Vo,Ar4,Afm] at hx
    cases hb:Nat.beq 169 g with
    | true =>
      rw [hb] at hx
      cases hx
      obtain rfl:=Ayb hb
      exact Aoh args w
    | false =>
    rw [hb,Axx] at hx
    clear hb
    cases hb:Nat.beq 210 g with
    | true =>
      rw [hb] at hx
      cases hx
      obtain rfl:=Ayb hb
      exact Aog args w
    | false =>
    rw [hb,Axx] at hx
    clear hb
    cases hb:Nat.beq 263 g with
    | true =>
      rw [hb] at hx
      cases hx
      obtain rfl:=Ayb hb
      exact Aof args w
    | false =>
    rw [hb,Axx] at hx
    clear hb
    cases hb:Nat.beq 266 g with
    | true =>
      rw [hb] at hx
      cases hx
      obtain rfl:=Ayb hb
      exact Aoe args w
    | false =>
    rw [hb,Axx] at hx
    clear hb
    cases hx),k.eqs,k.mixed,k.spoil⟩
end Go.Proofs.S1
namespace Go.Rnd
def Mq (V k:Nat):Nat:=V / 2^k+(if 2^k<2*(V%2^k)∨(2*(V%2^k)=2^k∧V / 2^k%2=1) then 1 else 0)
def Jz (V:Nat) (s:Int):Nat:=Mq (V*2^(-s).toNat) s.toNat
def Ml (V:Nat) (s:Int):Bool:=decide (V*2^(-s).toNat%2^s.toNat=0)
def Ch (M:Nat) (E:Int):Int:=max (E+M.log2-52) (-1074)
def kept (M:Nat) (E:Int):Nat:=Jz M (Ch M E-E)
def D8:Nat:=2047*2^52
def Ci (M:Nat) (E:Int):Nat:=if M=0 then 0 else min ((Ch M E+1074).toNat*2^52+kept M E) D8
def exact (M:Nat) (E:Int):Bool:=Ml M (Ch M E-E)
def flags (r:Nat) (ex:Bool):Nat:=if r=D8 then 5 else if ex then 0 else if 2^52≤r then 1 else 3
def flagsOf (M:Nat) (E:Int):Nat:=if M=0 then 0 else flags (Ci M E) (exact M E)
theorem Cj (k:Nat):0<2^k:=Nat.pow_pos (by decide)
theorem Oc (V:Nat):Mq V 0=V:=by
  unfold Mq; simp [Nat.mod_one]
theorem Ty (V a k:Nat):Mq (V*2^a) (a+k)=Mq V k:=by
  unfold Mq
  have hA:=Cj a
  have e:2^(a+k)=2^a*2^k:=Nat.pow_add 2 a k
  have hd:V*2^a / 2^(a+k)=V / 2^k:=by
    rw [e,Nat.mul_comm V,Nat.mul_div_mul_left _ _ hA]
  have hm:V*2^a%2^(a+k)=2^a*(V%2^k):=by
    rw [e,Nat.mul_comm V,Nat.mul_mod_mul_left]
  rw [hd,hm,e]
  have h1:(2^a*2^k<2*(2^a*(V%2^k)))↔(2^k<2*(V%2^k)):=by
    rw [Nat.mul_left_comm 2]
    exact Nat.mul_lt_mul_left hA
  have h2:(2*(2^a*(V%2^k))=2^a*2^k)↔(2*(V%2^k)=2^k):=by
    rw [Nat.mul_left_comm 2]
    exact Nat.mul_right_inj (by omega)
  simp only [h1,h2]
theorem mod_mul (V a k:Nat):(V*2^a%2^(a+k)=0)↔(V%2^k=0):=by
  have hA:=Cj a
  rw [Nat.pow_add,Nat.mul_comm V,Nat.mul_mod_mul_left]
  constructor
  · intro h
    rcases Nat.mul_eq_zero.1 h with h | h
    · omega
    · exact h
  · intro h; rw [h]; rfl
theorem V4 (V k:Nat) (s:Int):Jz (V*2^k) (s+k)=Jz V s∧Ml (V*2^k) (s+k)=Ml V s:=by
  unfold Jz Ml
  by_cases h0:0≤s
  · have e1:(-(s+k)).toNat=0:=by omega
    have e2:(-s).toNat=0:=by omega
    have e3:(s+k).toNat=k+s.toNat:=by omega
    rw [e1,e2,e3,Nat.pow_zero,Nat.mul_one,Nat.mul_one]
    exact ⟨Ty V k _,by simp only [mod_mul]⟩
  · by_cases h1:0≤s+k
    · have e1:(-(s+k)).toNat=0:=by omega
      have e2:s.toNat=0:=by omega
      have e3:k=(s+k).toNat+(-s).toNat:=by omega
      rw [e1,e2,Nat.pow_zero,Nat.mul_one]
      have e4:V*2^k=V*2^(-s).toNat*2^(s+k).toNat:=by
        rw [Nat.mul_assoc,← Nat.pow_add,Nat.add_comm (-s).toNat,← e3]
      rw [e4]
      refine ⟨?_,?_⟩
      · have:=Ty (V*2^(-s).toNat) (s+k).toNat 0
        rw [Nat.add_zero] at this; exact this
      · have:=mod_mul (V*2^(-s).toNat) (s+k).toNat 0
        rw [Nat.add_zero,Nat.pow_zero] at this
        simp only [this]
    · have e1:(s+k).toNat=0:=by omega
      have e2:s.toNat=0:=by omega
      have e3:(-s).toNat=k+(-(s+k)).toNat:=by omega
      rw [e1,e2,e3,Nat.pow_add,Nat.mul_assoc]
      exact ⟨rfl,rfl⟩
theorem La (M k:Nat) (hM:M≠0):(M*2^k).log2=M.log2+k:=by
  have hk:=Cj k
  have hne:M*2^k≠0:=by
    intro h
    rcases Nat.mul_eq_zero.1 h with h | h<;>omega
  have h1:=Nat.log2_self_le hM
  have h2:=Nat.lt_log2_self (n:=M)
  have a:M.log2+k≤(M*2^k).log2:=by
    rw [Nat.le_log2 hne,Nat.pow_add]
    exact Ax5 _ h1
  have b:(M*2^k).log2<M.log2+k+1:=by
    rw [Nat.log2_lt hne,Nat.add_right_comm,Nat.pow_add]
    exact (Nat.mul_lt_mul_right hk).2 h2
  omega
theorem Uh {n a:Nat} (h1:2^a≤n) (h2:n<2^(a+1)):n.log2=a:=by
  have:=Cj a
  have hn:n≠0:=by omega
  have b1:=(Nat.le_log2 hn).2 h1
  have b2:=(Nat.log2_lt hn).2 h2
  omega
theorem Ahe (M k:Nat) (E:Int) (hM:M≠0):Ch (M*2^k) (E-k)=Ch M E:=by
  unfold Ch; rw [La M k hM]; congr 1; omega
theorem Ip {M k:Nat} (hM:M≠0):M*2^k≠0:=by
  have:=Cj k
  intro h
  rcases Nat.mul_eq_zero.1 h with h | h<;>omega
theorem Eb (M k:Nat) (E:Int):Ci (M*2^k) (E-k)=Ci M E∧flagsOf (M*2^k) (E-k)=flagsOf M E:=by
  by_cases hM:M=0
  · subst hM; simp [Ci,flagsOf]
  · have hl:=Ahe M k E hM
    have e:Ch M E-(E-k)=Ch M E-E+k:=by omega
    have h1:Ci (M*2^k) (E-k)=Ci M E:=by
      unfold Ci kept
      rw [if_neg (Ip hM),if_neg hM,hl,e,(V4 M k _).1]
    refine ⟨h1,?_⟩
    unfold flagsOf
    rw [if_neg (Ip hM),if_neg hM,h1]
    unfold exact
    rw [hl,e,(V4 M k _).2]
theorem Amq {V s d k:Nat} (hs:s%2=1) (h1:(s-1)*2^d<V) (h2:V<(s+1)*2^d) (hk:2≤k) :
    Mq V (d+k)=Mq s k∧V%2^(d+k)≠0∧s%2^k≠0:=by
  have hA:=Cj d
  obtain ⟨j,rfl⟩:∃ j,k=j+2:=⟨k-2,by omega⟩
  have hB:2^(j+2)=4*2^j:=by rw [Nat.pow_add]; omega
  have hBp:=Cj (j+2)
  have hC:=Cj j
  have hsd:=Nat.div_add_mod s (2^(j+2))
  have hr2:s%2^(j+2)%2=1:=by
    rw [hB,show 4*2^j=2*(2*2^j) by omega,Nat.mod_mul_right_mod]; exact hs
  have hrlt:=Nat.mod_lt s hBp
  generalize hq:s / 2^(j+2)=q at *
  generalize hr:s%2^(j+2)=r at *
  have hAB:2^(d+(j+2))=2^d*2^(j+2):=Nat.pow_add 2 d (j+2)
  generalize hBB:2^(j+2)=b at *
  generalize hAA:2^d=a at *
  have e1:(s-1)*a=q*(a*b)+(r-1)*a:=by
    have:s-1=b*q+(r-1):=by omega
    rw [this,Nat.add_mul,Nat.mul_comm b q,Nat.mul_assoc,Nat.mul_comm b a]
  have e2:(s+1)*a=q*(a*b)+(r+1)*a:=by
    have:s+1=b*q+(r+1):=by omega
    rw [this,Nat.add_mul,Nat.mul_comm b q,Nat.mul_assoc,Nat.mul_comm b a]
  have e3:(r+1)*a≤b*a:=Ax5 a (by omega)
  rw [Nat.mul_comm b a] at e3
  rw [e1] at h1
  rw [e2] at h2
  have hdiv:V / (a*b)=q:=Nat.div_eq_of_lt_le (by omega) (by rw [Nat.add_mul]; omega)
  have hmod:V%(a*b)=V-q*(a*b):=by
    have:=Nat.div_add_mod V (a*b)
    rw [hdiv,Nat.mul_comm (a*b) q] at this; omega
  have hb2:b=2*(2*2^j):=by omega
  generalize hc:2^j=c at *
  have hR1:(r-1)*a<V-q*(a*b):=by omega
  have hR2:V-q*(a*b)<(r+1)*a:=by omega
  generalize hR:V-q*(a*b)=R at *
  have hab:a*b=2*(2*c*a):=by rw [hb2,Nat.mul_comm a,Nat.mul_assoc]
  have key:(a*b<2*R∨(2*R=a*b∧q%2=1))↔(b<2*r∨(2*r=b∧q%2=1)):=by
    rw [hab,hb2]
    rcases Nat.lt_or_ge r (2*c) with hlt | hge
    · have:(r+1)*a≤2*c*a:=Ax5 a (by omega)
      constructor<;>(intro h; omega)
    · have hgt:2*c+1≤r:=by omega
      have:2*c*a≤(r-1)*a:=Ax5 a (by omega)
      constructor
      · intro _; left; omega
      · intro _; left; omega
  refine ⟨?_,?_,?_⟩
  · unfold Mq
    rw [hAB,hdiv,hmod,hBB,hq,hr]
    simp only [key]
  · rw [hAB,hmod]
    have:=Nat.zero_le ((r-1)*a)
    omega
  · omega
theorem P9 {V s d:Nat} {E:Int} (hs:s%2=1) (h1:(s-1)*2^d<V) (h2:V<(s+1)*2^d) (hl:Ch V E=Ch s (E+d)) (hk:E+d+2≤Ch s (E+d)) :
    Ci V E=Ci s (E+d)∧flagsOf V E=flagsOf s (E+d):=by
  have hV:V≠0:=by omega
  have hs0:s≠0:=by omega
  generalize hL:Ch s (E+d)=L at *
  obtain ⟨k,hk2⟩:∃ k:Nat,L-(E+d)=k+2:=⟨(L-(E+d)-2).toNat,by omega⟩
  obtain ⟨a1,a2,a3⟩:=Amq (k:=k+2) hs h1 h2 (by omega)
  have e1:(L-E).toNat=d+(k+2):=by omega
  have e2:(-(L-E)).toNat=0:=by omega
  have e3:(L-(E+d)).toNat=k+2:=by omega
  have e4:(-(L-(E+d))).toNat=0:=by omega
  have hr:Ci V E=Ci s (E+d):=by
    unfold Ci kept Jz
    rw [if_neg hV,if_neg hs0,hl,hL,e1,e2,e3,e4]
    simp only [Nat.pow_zero,Nat.mul_one]
    rw [a1]
  refine ⟨hr,?_⟩
  unfold flagsOf exact Ml
  rw [if_neg hV,if_neg hs0,hr,hl,hL,e1,e2,e3,e4]
  simp only [Nat.pow_zero,Nat.mul_one,a2,a3,decide_false]
theorem Qg {V s d:Nat} (hs:s%2=1) (hs3:3≤s) (h1:(s-1)*2^d<V) (h2:V<(s+1)*2^d):V.log2=s.log2+d:=by
  have hs0:s≠0:=by omega
  have a1:=Nat.log2_self_le hs0
  have a2:=Nat.lt_log2_self (n:=s)
  have hl:1≤s.log2:=by rw [Nat.le_log2 hs0]; omega
  obtain ⟨t,ht⟩:∃ t,s.log2=t+1:=⟨s.log2-1,by omega⟩
  rw [ht] at a1 a2 ⊢
  have ev1:2^(t+1)=2*2^t:=by rw [Nat.pow_succ]; omega
  have ev2:2^(t+1+1)=2*(2*2^t):=by rw [Nat.pow_succ,ev1]; omega
  refine Uh ?_ ?_
  · rw [Nat.pow_add]
    have:2^(t+1)*2^d≤(s-1)*2^d:=Ax5 _ (by omega)
    omega
  · have e:t+1+d+1=(t+1+1)+d:=by omega
    rw [e,Nat.pow_add]
    have:(s+1)*2^d≤2^(t+1+1)*2^d:=Ax5 _ (by omega)
    omega
end Go.Rnd
namespace Go.Rnd
def Bs (b:Nat):Bool:=decide (2^63≤b)
def Dv (b:Nat):Nat:=b / 2^52%2048
def C4 (b:Nat):Nat:=b%2^52
def Al (b:Nat):Nat:=if Dv b=2047 then (if C4 b=0 then 3 else 4) else if 0<Dv b then 2 else if 0<C4 b then 1 else 0
def J4 (b:Nat):Bool:=decide (Dv b<2047)
def Hf (b:Nat):Nat:=if 2^63≤b then b-2^63 else b+2^63
def Av (b:Nat):Nat:=if Dv b=0 then C4 b else C4 b+2^52
def A2 (b:Nat):Int:=if Dv b=0 then -1074 else (Dv b:Int)-1075
def Bk (neg:Bool) (r:Nat):Nat:=if neg then 2^63+r else r
def H2 (neg:Bool) (m:Nat):Int:=if neg then -(m:Int) else m
def Jv (b:Nat) (e:Int):Int:=H2 (Bs b) (Av b*2^(A2 b-e).toNat)
def P0:Nat:=0x7ff8000000000000
def O9 (z:Nat) (S:Int) (e:Int):Nat × Nat :=
  if S=0 then (z,0) else (Bk (decide (S<0)) (Ci S.natAbs e),flagsOf S.natAbs e)
def Ku (a b:Nat):Nat × Nat :=
  if Al a=4∨Al b=4 then (P0,0)
  else if Al a=3 then (if Al b=3∧a≠b then (P0,16) else (a,0))
  else if Al b=3 then (b,0)
  else O9 (Bk (Bs a&&Bs b) 0) (Jv a (min (A2 a) (A2 b))+Jv b (min (A2 a) (A2 b))) (min (A2 a) (A2 b))
def Aso (a b:Nat):Nat × Nat:=Ku a (Hf b)
def Gf (neg:Bool) (m:Nat) (e:Int) (more:Bool):Nat × Nat :=
  (Bk neg (Ci (4*m+more.toNat) (e-2)),flagsOf (4*m+more.toNat) (e-2))
def Dp (x:Int):Bool:=Bs x.toNat
def Ll (x:Int):Int:=Dv x.toNat
def C0 (x:Int):Int:=C4 x.toNat
def Bd (x:Int):Int:=Al x.toNat
def Cq (x:Int):Bool:=J4 x.toNat
def C5 (x:Int):Int:=Hf x.toNat
def Bt (x:Int):Int:=Av x.toNat
def Bh (x:Int):Int:=A2 x.toNat
def E1 (neg:Bool) (m e:Int) (more:Bool):Int:=(Gf neg m.toNat e more).1
def E0 (neg:Bool) (m e:Int) (more:Bool):Int:=(Gf neg m.toNat e more).2
def Jq (a b:Int):Int:=(Ku a.toNat b.toNat).1
def Wi (a b:Int):Int:=(Ku a.toNat b.toNat).2
def Eu (a b:Int):Int:=(Aso a.toNat b.toNat).1
def Ava (a b:Int):Int:=(Aso a.toNat b.toNat).2
theorem Jb (b:Nat):Dv b<2048:=Nat.mod_lt _ (by decide)
theorem J2 (b:Nat):C4 b<4503599627370496:=Nat.mod_lt _ (by decide)
theorem E9 (b:Nat):Av b<9007199254740992:=by
  have:=J2 b
  unfold Av; split<;>omega
theorem El (b:Nat):-1074≤A2 b∧A2 b≤972:=by
  have:=Jb b
  unfold A2; split<;>omega
theorem Mh {m:Nat} {e:Int} (h1:2^52≤m) (h2:m<2^53) (he:-1074≤e):Ci m e=min ((e+1074).toNat*2^52+m) D8:=by
  have hl:m.log2=52:=Uh h1 h2
  have hm:m≠0:=by omega
  have hle:Ch m e=e:=by unfold Ch; rw [hl]; omega
  unfold Ci kept
  rw [if_neg hm,hle,Int.sub_self]
  unfold Jz
  simp [Oc]
theorem Xu {m:Nat} (h2:m<2^52):Ci m (-1074)=m:=by
  by_cases hm:m=0
  · subst hm; rfl
  · have hl:m.log2<52:=(Nat.log2_lt hm).2 h2
    have hle:Ch m (-1074)=-1074:=by unfold Ch; omega
    unfold Ci kept
    rw [if_neg hm,hle,Int.sub_self]
    unfold Jz D8
    simp [Oc]
    omega
theorem Kw (m:Nat) (e:Int):Ci m e≤D8:=by
  unfold Ci
  split
  · exact Nat.zero_le _
  · exact Nat.min_le_right _ _
theorem H4:D8=9218868437227405312:=rfl
theorem Wx (m:Nat) (e:Int):Ci m e<2^63:=by
  have:=Kw m e
  rw [H4] at this
  omega
theorem Tn (n:Bool) (m:Nat) (e:Int):Bk n (Ci m e)<2^64:=by
  have:=Wx m e
  unfold Bk; split<;>omega
theorem Yj {r:Nat} (h:r<2^63):Hf r=2^63+r:=by
  unfold Hf; rw [if_neg (by omega)]; omega
end Go.Rnd
namespace Go.Rnd
open Go.Den
def Ky (m e:Int):Bool:=Cu (0≤m∧m≤9007199254740992∧-1074≤e∧e+m / 9007199254740992≤100000)
def Pa (m e:Int):Nat:=if 9007199254740992≤m then 1 else if m<4503599627370496 then 2+(e+1074).toNat else 0
def T1 (n:Bool) (m e:Int):Int:=Bk n (Ci m.toNat e)
def Ec (m e:Int) (r:Bool):Bool :=
  Cu (0≤m∧m<18446744073709551616∧e≤50000∧(-1137≤e∨(m<4611686018427387904∧-1140≤e))∧(r=true→4503599627370496≤m∨e≤-1074))
def Fs (n D:Nat):Nat:=if n%2^D=0 then n / 2^D else 2*(n / 2^D / 2)+1
def Fb (m d:Int):Int:=Fs m.toNat (min d.toNat 63)
def Ck (l:List Int):Bool:=Cu (l.length<4611686018427387904∧∀ x∈l,Af x=true)
def Dt (x:Nat):Nat:=if Al x=4 then P0 else x
def Zi (x:Int):Int:=Dt x.toNat
def Ft (x:Nat):Int:=Dt x
def Kl (x:Int):Bool:=Cu (0≤x)
theorem Io (n:Nat):Kl (n:Int)=true:=Ar.2 (Int.natCast_nonneg n)
theorem Ua {x:Int} (h:Kl x=true):∃ n:Nat,x=n:=⟨x.toNat,by have:=Ar.1 h; omega⟩
end Go.Rnd
namespace Go.Rnd
theorem Avd (a c:Nat):(a+1)*c+c=a*c+(c+c):=by rw [Nat.add_mul,Nat.one_mul,Nat.add_assoc]
theorem Aul:2^52+2^52=2^53:=by decide
theorem Avc (a:Nat):(a+1)*2^52+2^52=a*2^52+2^53:=(Avd a (2^52)).trans (congrArg (fun x=>a*2^52+x) Aul)
theorem Asf:2^52*2^1=2^53:=by decide
theorem Ap3 {E:Int}:Ci (2^53) E=Ci (2^52) (E+1):=by
  have:=(Eb (2^52) 1 (E+1)).1
  have e1:E+1-((1:Nat):Int)=E:=by omega
  rw [e1,Asf] at this
  exact this
theorem Aml {E:Int} (hE:-1074≤E):Ci (2^53) E=min ((E+1074).toNat*2^52+2^53) D8:=by
  have e3:(E+1+1074).toNat=(E+1074).toNat+1:=by omega
  rw [Ap3,Mh (by decide) (by decide) (by omega),e3]
  exact congrArg (fun x=>min x D8) (Avc _)
theorem Ajv {q:Nat} {E:Int} (h1:q≤2^53) (hE:-1074≤E) (h2:2^52≤q∨E=-1074):Ci q E=min ((E+1074).toNat*2^52+q) D8:=by
  by_cases ha:q=2^53
  · rw [ha]; exact Aml hE
  · by_cases hb:2^52≤q
    · exact Mh hb (by omega) hE
    · obtain rfl:E=-1074:=h2.resolve_left hb
      rw [Xu (by omega)]
      unfold D8
      simp
      omega
theorem Aj5 {M D s:Nat} (hs:s≤1):Mq (4*M+s) (D+2)=M / 2^D+(if 0<D∧(2^(D-1)<M%2^D∨(M%2^D=2^(D-1)∧(s=1∨M / 2^D%2=1))) then 1 else 0) ∧
    ((4*M+s)%2^(D+2)=0↔M%2^D=0∧s=0):=by
  have hp:2^(D+2)=2^D*4:=by rw [Nat.pow_add]
  have hA:=Cj D
  have hdm:=Nat.div_add_mod M (2^D)
  have hlt:=Nat.mod_lt M hA
  have hdiv:(4*M+s) / (2^D*4)=M / 2^D:=by
    rw [Nat.mul_comm (2^D) 4,← Nat.div_div_eq_div_mul]
    congr 1; omega
  have hmod:(4*M+s)%(2^D*4)=4*(M%2^D)+s:=by
    have h:=Nat.div_add_mod (4*M+s) (2^D*4)
    rw [hdiv] at h
    have e:2^D*4*(M / 2^D)=4*(2^D*(M / 2^D)):=by rw [Nat.mul_comm (2^D) 4,Nat.mul_assoc]
    rw [e] at h
    omega
  unfold Mq
  rw [hp,hdiv,hmod]
  generalize M%2^D=r at *
  generalize M / 2^D=q at *
  refine ⟨?_,by omega⟩
  congr 1
  have key:(2^D*4<2*(4*r+s)∨2*(4*r+s)=2^D*4∧q%2=1)↔(0<D∧(2^(D-1)<r∨(r=2^(D-1)∧(s=1∨q%2=1)))):=by
    cases D with
    | zero=>simp only [Nat.pow_zero] at hlt ⊢; omega
    | succ d =>
      rw [Nat.pow_succ] at hlt ⊢
      simp only [Nat.add_sub_cancel]
      generalize 2^d=c at *
      omega
  simp only [key]
structure Drop (M:Nat) (e:Int) (D:Nat):Prop where
  le:D≤63
  stop:D<63→M / 2^D<2^53∧-1074≤e+D
  least:∀ d,d<D→2^53≤M / 2^d∨e+d < -1074
def qOf (M D s:Nat):Nat:=M / 2^D+(if 0<D∧(2^(D-1)<M%2^D∨(M%2^D=2^(D-1)∧(s=1∨M / 2^D%2=1))) then 1 else 0)
theorem Amv {M D s:Nat} (h:M / 2^D<2^53):qOf M D s≤2^53:=by
  unfold qOf; split<;>omega
theorem Amw {M D s:Nat}:M / 2^D≤qOf M D s:=by unfold qOf; omega
theorem Atm {M D:Nat} {c:Nat} (h:M / 2^D<c):M<c*2^D:=(Nat.div_lt_iff_lt_mul (Cj D)).1 h
theorem Anx {M D:Nat} {c:Nat} (h:c≤M / 2^D):c*2^D≤M:=(Nat.le_div_iff_mul_le (Cj D)).1 h
theorem Yt {V:Nat} {E L:Int} (h:(E+V.log2-52=L∧-1074≤L)∨(E+V.log2-52≤L∧L=-1074)):Ch V E=L:=by unfold Ch; omega
theorem Aku {M s:Nat} (hs:s≤1) (hM:M≠0):(4*M+s).log2=M.log2+2:=by
  have h1:=Nat.log2_self_le hM
  have h2:=Nat.lt_log2_self (n:=M)
  refine Uh ?_ ?_
  · rw [Nat.pow_add]; omega
  · have e:2^(M.log2+2+1)=2^(M.log2+1)*4:=by rw [show M.log2+2+1=M.log2+1+2 by omega,Nat.pow_add]
    omega
theorem Akl {M D s:Nat} {e:Int} (hD:Drop M e D) (hs:s≤1) (hV:4*M+s≠0) (hM:M<2^64) (he:-1137≤e∨(M<2^62∧-1140≤e)) (hr:s=1→2^52≤M∨e≤-1074) :
    Ci (4*M+s) (e-2)=Ci (if e+D < -1074 then 0 else qOf M D s) (max (e+D) (-1074)) ∧
    flagsOf (4*M+s) (e-2)=flags (Ci (4*M+s) (e-2)) (decide (M%2^D=0∧s=0)) ∧
    (if e+D < -1074 then 0 else qOf M D s)≤2^53:=by
  have hA:=Cj D
  by_cases hlow:e+D < -1074
  ·
    have hD63:D=63:=by
      rcases Nat.lt_or_ge D 63 with h | h
      · have:=(hD.stop h).2; omega
      · have:=hD.le; omega
    subst hD63
    have hM62:M<2^62:=by rcases he with h | h; omega; exact h.1
    have he2:-1140≤e:=by rcases he with h | h; omega; exact h.2
    have hV64:4*M+s<2^64:=by omega
    have hlog:(4*M+s).log2<64:=(Nat.log2_lt hV).2 hV64
    have hl:Ch (4*M+s) (e-2)=-1074:=Yt (.inr ⟨by omega,rfl⟩)
    obtain ⟨k,hk⟩:∃ k:Nat,(-1074-(e-2)).toNat=66+k:=⟨(-1074-(e-2)).toNat-66,by omega⟩
    have e2:(-(-1074-(e-2))).toNat=0:=by omega
    have hp:2^66≤2^(66+k):=Ax8 (by decide) (by omega)
    have hsm:4*M+s<2^(66+k):=by omega
    have hz:Jz (4*M+s) (-1074-(e-2))=0:=by
      unfold Jz Mq
      rw [e2,hk,Nat.pow_zero,Nat.mul_one,Nat.div_eq_of_lt hsm,Ax6 hsm,if_neg (by omega)]
    have hru:Ci (4*M+s) (e-2)=0:=by
      unfold Ci kept
      rw [if_neg hV,hl,hz]
      simp
    refine ⟨?_,?_,?_⟩
    · rw [hru,if_pos hlow]; rfl
    · unfold flagsOf exact Ml
      rw [if_neg hV,hl,e2,hk,Nat.pow_zero,Nat.mul_one,Ax6 hsm]
      congr 1
      have h63:M%2^63=M:=Ax6 (by omega)
      rw [h63,Ax9]
      simp only [Ax0]
      omega
    · rw [if_pos hlow]; exact Nat.zero_le _
  · have hmax:max (e+D) (-1074)=e+D:=by omega
    have hq:M / 2^D<2^53:=by
      rcases Nat.lt_or_ge D 63 with h | h
      · exact (hD.stop h).1
      · have:D=63:=by have:=hD.le; omega
        subst this
        exact Nat.lt_of_le_of_lt (Nat.div_le_of_le_mul (show M≤2^63*2 by omega)) (by decide)
    obtain ⟨c1,c2⟩:=Aj5 (M:=M) (D:=D) hs
    rw [if_neg hlow,hmax]
    refine ⟨?_,?_,Amv hq⟩
    all_goals
      by_cases hD0:D=0∧s=0
      · obtain ⟨rfl,rfl⟩:=hD0
        have hM0:M≠0:=by omega
        obtain ⟨s1,s2⟩:=Eb M 2 e
        have e1:M*2^2=4*M+0:=by omega
        have e2:e-((2:Nat):Int)=e-2:=by omega
        rw [e1,e2] at s1 s2
        have hq0:qOf M 0 0=M:=by unfold qOf; simp
        have hle:Ch M e≤e:=by
          have:M.log2<53:=(Nat.log2_lt hM0).2 (by simpa using hq)
          unfold Ch; simp only [Int.natCast_zero,Int.add_zero] at hlow; omega
        first
        | (rw [s1,hq0]; simp; done)
        | (rw [s2,s1]
           unfold flagsOf exact Ml
           have z:(Ch M e-e).toNat=0:=by omega
           rw [if_neg hM0,z]
           simp [Nat.mod_one])
      ·
        have hl:Ch (4*M+s) (e-2)=e+D:=by
          by_cases hM0:M=0
          · subst hM0
            have hs1:s=1:=by omega
            subst hs1
            have hle:e+D=-1074:=by
              rcases Nat.eq_zero_or_pos D with rfl | hpos
              · have:=hr rfl; omega
              · have h:=hD.least (D-1) (by omega)
                simp only [Nat.zero_div] at h
                omega
            refine Yt (.inr ⟨?_,hle⟩)
            have:(4*0+1:Nat).log2=0:=by decide
            rw [this]; omega
          · have hlog:=Aku hs hM0
            have hub:M.log2<53+D:=by
              rw [Nat.log2_lt hM0,Nat.pow_add]; exact Atm hq
            have hcase:52+D≤M.log2∨e+D=-1074:=by
              rcases Nat.eq_zero_or_pos D with rfl | hpos
              · have hs1:s=1:=by omega
                rcases hr hs1 with h | h
                · left; rw [Nat.le_log2 hM0]; simpa using h
                · right; simp only [Int.natCast_zero,Int.add_zero] at hlow ⊢; omega
              · rcases hD.least (D-1) (by omega) with h | h
                · left
                  rw [Nat.le_log2 hM0]
                  have:=Anx h
                  have e1:2^(52+D)=2^53*2^(D-1):=by rw [← Nat.pow_add]; congr 1; omega
                  rw [e1]; exact this
                · right; omega
            refine Yt ?_
            rw [hlog]
            rcases hcase with h | h
            · left; omega
            · right; omega
        have e1:(e+D-(e-2)).toNat=D+2:=by omega
        have e2:(-(e+(D:Int)-(e-2))).toNat=0:=by omega
        have hkept:kept (4*M+s) (e-2)=qOf M D s:=by
          unfold kept Jz
          rw [hl,e1,e2,Nat.pow_zero,Nat.mul_one,c1]; rfl
        first
        | (have hbig:2^52≤qOf M D s∨e+D=-1074:=by
             rcases Nat.eq_zero_or_pos D with rfl | hpos
             · have hs1:s=1:=by omega
               rcases hr hs1 with h | h
               · left; exact Nat.le_trans (by simpa using h) Amw
               · right; simp only [Int.natCast_zero,Int.add_zero] at hlow ⊢; omega
             · rcases hD.least (D-1) (by omega) with h | h
               · left
                 refine Nat.le_trans ?_ Amw
                 rw [Nat.le_div_iff_mul_le hA]
                 have:=Anx h
                 have e1:2^52*2^D=2^53*2^(D-1):=by rw [← Nat.pow_add,← Nat.pow_add]; congr 1; omega
                 rw [e1]; exact this
               · right; omega
           rw [Ajv (Amv hq) (by omega) hbig]
           unfold Ci
           rw [if_neg hV,hl,hkept]; done)
        | (unfold flagsOf exact Ml
           rw [if_neg hV,hl,e1,e2,Nat.pow_zero,Nat.mul_one]
           congr 1
           rw [Ax9]
           simp only [Ax0]
           exact c2)
theorem Aap (n:Bool) {r:Nat} (h:r<2^63):Dv (Bk n r)=r / 2^52:=by
  unfold Dv Bk; cases n
  · simp only [Bool.false_eq_true,if_false]; omega
  · simp only [if_true]; omega
theorem Y1 (n:Bool) (r:Nat):C4 (Bk n r)=r%2^52:=by
  unfold C4 Bk; cases n
  · rfl
  · simp only [if_true]; omega
theorem Vl (n:Bool) {r:Nat} (h:r≤D8):Al (Bk n r)=if r=D8 then 3 else if 2^52≤r then 2 else if 0<r then 1 else 0:=by
  rw [H4] at *
  unfold Al
  rw [Aap n (by omega),Y1]
  by_cases h1:r=9218868437227405312
  · subst h1; simp
  · rw [if_neg h1,if_neg (by omega)]
    by_cases h2:2^52≤r
    · rw [if_pos h2,if_pos (by omega)]
    · rw [if_neg h2,if_neg (by omega)]
      by_cases h3:0<r
      · rw [if_pos h3,if_pos (by omega)]
      · rw [if_neg h3,if_neg (by omega)]
end Go.Rnd
namespace Go.Rnd
open Ieee
theorem Atn (neg:Bool) (V k:Nat):Toward.even.cut neg V k=Mq V k:=by
  unfold Toward.cut Mq
  simp only [Nat.shiftLeft_eq,Nat.one_mul]
  by_cases h:k≤V.log2+2
  · rw [Nat.min_eq_left h]
    congr 1
    by_cases h1:2^k<2*(V%2^k)
    · simp [h1]
    · by_cases h2:2*(V%2^k)=2^k∧V / 2^k%2=1
      · simp [h2.1,h2.2]
      · simp [h1,h2]
        intro h3
        have:=Nat.mod_lt (V / 2^k) (show 0<2 by decide)
        omega
  · rw [Nat.min_eq_right (by omega)]
    have hV:V<2^(V.log2+1):=Nat.lt_log2_self
    have e:2^(V.log2+2)=2*2^(V.log2+1):=by rw [Nat.pow_succ,Nat.mul_comm]
    have hk:2^(V.log2+2)≤2^k:=Ax8 (by decide) (by omega)
    have d1:V / 2^(V.log2+2)=0:=Nat.div_eq_of_lt (by omega)
    have d2:V / 2^k=0:=Nat.div_eq_of_lt (by omega)
    have m1:V%2^(V.log2+2)=V:=Ax6 (by omega)
    have m2:V%2^k=V:=Ax6 (by omega)
    rw [d1,d2,m1,m2]
    have c1:¬ (2^(V.log2+2)<2*V):=by omega
    have c2:¬ (2^k<2*V):=by omega
    simp [c1,c2]
theorem Apg (neg:Bool) (r:Nat):Ieee.double.word neg r=Bk neg r:=rfl
theorem Ag0 (neg:Bool) (M:Nat) (E:Int):Ieee.double.nearest neg M E=Bk neg (Ci M E):=by
  unfold Format.nearest Ci
  by_cases h:M=0
  · rw [if_pos h,if_pos h]; rfl
  · rw [if_neg h,if_neg h,Apg]
    have e1:Ieee.double.leastPlace=-1074:=by decide
    have e2:max (E+(M.log2:Int)-(Ieee.double.fractionBits:Int)) Ieee.double.leastPlace=Ch M E:=by rw [e1]; rfl
    rw [e2,e1,Atn,Nat.shiftLeft_eq]
    unfold kept Jz
    have e3:(-(Ch M E-E)).toNat=(E-Ch M E).toNat:=by congr 1; omega
    have e4:Ch M E - -1074=Ch M E+1074:=by omega
    rw [e3,e4]
    rfl
theorem Hk (b:Nat):(Dv b=2047∧C4 b=0∧Al b=3)∨(Dv b=2047∧C4 b≠0∧Al b=4)∨(Dv b<2047∧Al b≠3∧Al b≠4):=by
  have:=Jb b
  unfold Al
  by_cases h1:Dv b=2047
  · by_cases h2:C4 b=0<;>simp [h1,h2]
  · refine .inr (.inr ⟨by omega,?_⟩)
    rw [if_neg h1]
    split
    · decide
    · split<;>decide
theorem O5 (b:Nat):b%2^63=Dv b*2^52+C4 b:=by unfold Dv C4; omega
def Ob (b:Nat):Datum:=if Al b=4 then .nan (Bs b) (C4 b) else if Al b=3 then .infinity (Bs b) else .number (Bs b) (Av b) (A2 b)
theorem Iw {b:Nat} (h:b<2^64):Ieee.double.read b=Ob b:=by
  unfold Format.read Ob
  have e0:Ieee.double.signWeight=2^63:=rfl
  have e1:Ieee.double.leastPlace=-1074:=by decide
  have e2:Ieee.double.binade=2^52:=rfl
  have e3:Ieee.double.infRung=D8:=rfl
  have hn:(b / 2^63%2==1)=Bs b:=by
    unfold Bs
    rw [Ax9]
    simp only [beq_iff_eq,Ax0]
    omega
  dsimp only
  rw [e0,e1,e2,e3,hn,O5,H4]
  have hf:C4 b<2^52:=J2 b
  rcases Hk b with ⟨h1,h2,h3⟩ | ⟨h1,h2,h3⟩ | ⟨h1,h2,h3⟩
  · rw [if_neg (by omega),if_neg (by omega),if_pos (by omega),if_neg (by omega),if_pos h3]
  · rw [if_neg (by omega),if_neg (by omega),if_neg (by omega),if_pos h3]
    have e:Dv b*2^52+C4 b-9218868437227405312=C4 b:=by omega
    rw [e]
  · rw [if_neg h3,if_neg h2]
    by_cases h0:Dv b=0
    · rw [if_pos (by omega)]
      unfold Av A2
      rw [if_pos h0,if_pos h0,h0,Nat.zero_mul,Nat.zero_add]
    · rw [if_neg (by omega),if_pos (by omega)]
      unfold Av A2
      rw [if_neg h0,if_neg h0]
      have m1:(Dv b*2^52+C4 b)%2^52=C4 b:=by omega
      have m2:(Dv b*2^52+C4 b) / 2^52=Dv b:=by omega
      have e:(-1074:Int)+((Dv b-1:Nat):Int)=(Dv b:Int)-1075:=by omega
      rw [m1,m2,Nat.add_comm (2^52),e]
theorem Ajf (s:Bool):Ieee.double.write (.infinity s)=Bk s D8:=rfl
theorem Me (s:Bool) (m:Nat) (e:Int):Ieee.double.write (.number s m e)=Bk s (Ci m e):=Ag0 s m e
theorem Nd {b:Nat} (h:b<2^64) (h3:Al b=3):Bk (Bs b) D8=b:=by
  rcases Hk b with ⟨h1,h2,_⟩ | ⟨_,_,h4⟩ | ⟨_,h4,_⟩
  · have e:=O5 b
    rw [h1,h2] at e
    rw [H4]
    unfold Bk Bs
    by_cases hb:2^63≤b
    · simp [hb]; omega
    · simp [hb]; omega
  · omega
  · omega
theorem Gq (s:Bool) {r:Nat} (h:r≤D8):Dt (Bk s r)=Bk s r:=by
  unfold Dt
  rw [if_neg]
  rw [Vl s h]
  split
  · decide
  · split
    · decide
    · split<;>decide
theorem Q8 (s:Bool) (m up:Nat):Ieee.signed s m up=H2 s (m*2^up):=by
  unfold Ieee.signed H2
  rw [Nat.shiftLeft_eq]
theorem G0 {b:Nat} (h:Al b=4):Ob b=.nan (Bs b) (C4 b):=if_pos h
theorem Eg {b:Nat} (h:Al b=3):Ob b=.infinity (Bs b):=by unfold Ob; rw [if_neg (by omega),if_pos h]
theorem Ef {b:Nat} (h3:Al b≠3) (h4:Al b≠4):Ob b=.number (Bs b) (Av b) (A2 b):=by unfold Ob; rw [if_neg h4,if_neg h3]
theorem Ao7 {a b:Nat} (h:Al a=4∨Al b=4):Ku a b=(P0,0):=if_pos h
theorem Ao8 {a b:Nat} (h4:¬ (Al a=4∨Al b=4)) (h:Al a=3):Ku a b=(if Al b=3∧a≠b then (P0,16) else (a,0)):=by unfold Ku; rw [if_neg h4,if_pos h]
theorem Alm {a b:Nat} (h4:¬ (Al a=4∨Al b=4)) (h:Al a≠3) (h':Al b=3):Ku a b=(b,0):=by unfold Ku; rw [if_neg h4,if_neg h,if_pos h']
theorem Ao6 {a b:Nat} (h4:¬ (Al a=4∨Al b=4)) (h:Al a≠3) (h':Al b≠3) :
    Ku a b=O9 (Bk (Bs a&&Bs b) 0) (Jv a (min (A2 a) (A2 b))+Jv b (min (A2 a) (A2 b))) (min (A2 a) (A2 b)):=by
  unfold Ku; rw [if_neg h4,if_neg h,if_neg h']
theorem Apx (s:Bool) (m:Nat) (i:Int) (t:Bool) (n:Nat) (j:Int):(Datum.number s m i).sum (Datum.number t n j) =
    some (.number (if H2 s (m*2^(i-min i j).toNat)+H2 t (n*2^(j-min i j).toNat)=0 then s&&t else H2 s (m*2^(i-min i j).toNat)+H2 t (n*2^(j-min i j).toNat)<0)
      (H2 s (m*2^(i-min i j).toNat)+H2 t (n*2^(j-min i j).toNat)).natAbs (min i j)):=by
  rw [← Q8,← Q8]
  rfl
theorem Ads {a b:Nat} (ha:a<2^64) (hb:b<2^64) {d:Nat} (hd:Al d=4) :
    Dt ((((Ob a).sum (Ob b)).map Ieee.double.write).getD d)=(Ku a b).1:=by
  have cd:Dt d=P0:=if_pos hd
  by_cases h4:Al a=4∨Al b=4
  · rw [Ao7 h4]
    by_cases a4:Al a=4
    · rw [G0 a4]; exact cd
    · have b4:=h4.resolve_left a4
      rw [G0 b4]
      by_cases a3:Al a=3
      · rw [Eg a3]; exact cd
      · rw [Ef a3 a4]; exact cd
  · have a4:Al a≠4:=fun h=>h4 (.inl h)
    have b4:Al b≠4:=fun h=>h4 (.inr h)
    by_cases a3:Al a=3
    · have wa:=Nd ha a3
      rw [Ao8 h4 a3,Eg a3]
      by_cases b3:Al b=3
      · have wb:=Nd hb b3
        rw [Eg b3]
        by_cases hs:Bs a=Bs b
        · have hab:a=b:=by rw [← wa,← wb,hs]
          rw [if_neg (fun h=>h.2 hab)]
          have:(Datum.infinity (Bs a)).sum (.infinity (Bs b))=some (.infinity (Bs a)):=if_pos hs
          rw [this]
          show Dt (Bk (Bs a) D8)=a
          rw [Gq _ (Nat.le_refl _),wa]
        · have hab:a≠b:=fun h=>hs (by rw [h])
          have:(Datum.infinity (Bs a)).sum (.infinity (Bs b))=none:=if_neg hs
          rw [this,if_pos ⟨b3,hab⟩]
          exact cd
      · rw [Ef b3 b4,if_neg (fun h=>b3 h.1)]
        show Dt (Bk (Bs a) D8)=a
        rw [Gq _ (Nat.le_refl _),wa]
    · rw [Ef a3 a4]
      by_cases b3:Al b=3
      · have wb:=Nd hb b3
        rw [Alm h4 a3 b3,Eg b3]
        show Dt (Bk (Bs b) D8)=b
        rw [Gq _ (Nat.le_refl _),wb]
      · rw [Ao6 h4 a3 b3,Ef b3 b4,Apx]
        show Dt (Ieee.double.write (.number _ _ _))=_
        rw [Me,Gq _ (Kw _ _)]
        unfold O9 Jv
        by_cases h0:H2 (Bs a) (Av a*2^(A2 a-min (A2 a) (A2 b)).toNat)+H2 (Bs b) (Av b*2^(A2 b-min (A2 a) (A2 b)).toNat)=0
        · rw [if_pos h0,if_pos h0,h0]
          have:Ci (Int.natAbs 0) (min (A2 a) (A2 b))=0:=if_pos rfl
          rw [this]
        · rw [if_neg h0,if_neg h0]
theorem Ao4 {a b:Nat} (ha:a<2^64) (hb:b<2^64) {d:Nat} (hd:Al d=4):Dt ((Ieee.double.add a b).getD d)=(Ku a b).1:=by
  unfold Format.add
  rw [Iw ha,Iw hb]
  exact Ads ha hb hd
theorem Aet {b:Nat} (h:b<2^64):Bs (Hf b)=!(Bs b)∧Dv (Hf b)=Dv b∧C4 (Hf b)=C4 b:=by
  unfold Bs Dv C4 Hf
  by_cases hb:2^63≤b
  · rw [if_pos hb]
    refine ⟨?_,by omega,by omega⟩
    have:¬ 2^63≤b-2^63:=by omega
    simp [hb,this]
  · rw [if_neg hb]
    refine ⟨?_,by omega,by omega⟩
    have:2^63≤b+2^63:=by omega
    simp [hb,this]
theorem Ag5 {b:Nat} (h:b<2^64):Hf b<2^64:=by unfold Hf; split<;>omega
theorem Agw {b:Nat} (h:b<2^64):Ob (Hf b)=(Ob b).opposite:=by
  obtain ⟨h1,h2,h3⟩:=Aet h
  have hk:Al (Hf b)=Al b:=by unfold Al; rw [h2,h3]
  have hm:Av (Hf b)=Av b:=by unfold Av; rw [h2,h3]
  have he:A2 (Hf b)=A2 b:=by unfold A2; rw [h2]
  by_cases b4:Al b=4
  · rw [G0 b4,G0 (by omega),h1,h3]; rfl
  · by_cases b3:Al b=3
    · rw [Eg b3,Eg (by omega),h1]; rfl
    · rw [Ef b3 b4,Ef (by omega) (by omega),h1,hm,he]; rfl
theorem Amb {a b:Nat} (ha:a<2^64) (hb:b<2^64) {d:Nat} (hd:Al d=4):Dt ((Ieee.double.sub a b).getD d)=(Aso a b).1:=by
  unfold Format.sub
  rw [Iw ha,Iw hb,← Agw hb]
  exact Ads ha (Ag5 hb) hd
theorem Ye (b:Nat):(Ieee.double.read b).isNaN=decide (Al b=4):=by
  unfold Format.read
  have e0:Ieee.double.signWeight=2^63:=rfl
  have e2:Ieee.double.binade=2^52:=rfl
  have e3:Ieee.double.infRung=D8:=rfl
  dsimp only
  rw [e0,e2,e3,O5,H4]
  have hf:C4 b<2^52:=J2 b
  rcases Hk b with ⟨h1,h2,h3⟩ | ⟨h1,h2,h3⟩ | ⟨h1,h2,h3⟩
  · rw [if_neg (by omega),if_neg (by omega),if_pos (by omega),Axy (by omega)]; rfl
  · rw [if_neg (by omega),if_neg (by omega),if_neg (by omega),Axu h3]; rfl
  · rw [Axy h3]
    by_cases h0:Dv b=0
    · rw [if_pos (by omega)]; rfl
    · rw [if_neg (by omega),if_pos (by omega)]; rfl
end Go.Rnd
namespace Go.Rnd
open Ieee
theorem Va {V W k:Nat} (h:V≤W):Mq V k≤Mq W k:=by
  unfold Mq
  have hA:=Cj k
  have hq:V / 2^k≤W / 2^k:=Nat.div_le_div_right h
  rcases Nat.lt_or_ge (V / 2^k) (W / 2^k) with h1 | h1
  · split<;>split<;>omega
  · have he:V / 2^k=W / 2^k:=by omega
    have v:=Nat.div_add_mod V (2^k)
    have w:=Nat.div_add_mod W (2^k)
    rw [he] at v ⊢
    have hr:V%2^k≤W%2^k:=by omega
    by_cases hc:2^k<2*(V%2^k)∨2*(V%2^k)=2^k∧W / 2^k%2=1
    · have hc':2^k<2*(W%2^k)∨2*(W%2^k)=2^k∧W / 2^k%2=1:=by
        rcases hc with hc | ⟨hc,hd⟩
        · exact .inl (by omega)
        · rcases Nat.lt_or_ge (2^k) (2*(W%2^k)) with h2 | h2
          · exact .inl h2
          · exact .inr ⟨by omega,hd⟩
      rw [if_pos hc,if_pos hc']
      exact Nat.le_refl _
    · rw [if_neg hc]
      exact Nat.le_add_right _ _
theorem Ap6 {V c k:Nat} (h:V≤c*2^k):Mq V k≤c:=by
  have h1:=Va (k:=k) h
  have:Mq (c*2^k) k=c:=by
    have:=Ty c k 0
    rw [Nat.add_zero,Oc] at this
    exact this
  omega
theorem Aqv {V c k:Nat} (h:c*2^k≤V):c≤Mq V k:=by
  have h1:=Va (k:=k) h
  have:Mq (c*2^k) k=c:=by
    have:=Ty c k 0
    rw [Nat.add_zero,Oc] at this
    exact this
  omega
theorem Agx {V W:Nat} {s:Int} (h:V≤W):Jz V s≤Jz W s:=Va (Ax5 _ h)
theorem Ahf {V W:Nat} {E:Int} (hV:V≠0) (h:V≤W):Ch V E≤Ch W E:=by
  have:V.log2≤W.log2:=(Nat.le_log2 (by omega)).2 (Nat.le_trans (Nat.log2_self_le hV) h)
  unfold Ch; omega
theorem Aqw {V:Nat} {E:Int}:kept V E≤2^53:=by
  have hV:V<2^(V.log2+1):=Nat.lt_log2_self
  unfold kept Jz
  refine Ap6 ?_
  have hl:E+V.log2-52≤Ch V E:=by unfold Ch; omega
  rw [← Nat.pow_add]
  have h1:V*2^(-(Ch V E-E)).toNat≤2^(V.log2+1)*2^(-(Ch V E-E)).toNat:=Ax5 _ (Nat.le_of_lt hV)
  rw [← Nat.pow_add] at h1
  exact Nat.le_trans h1 (Ax8 (by decide) (by omega))
theorem Acp {V:Nat} {E:Int} (hV:V≠0) (hl:Ch V E=E+V.log2-52):2^52≤kept V E:=by
  have h1:2^V.log2≤V:=Nat.log2_self_le hV
  unfold kept Jz
  refine Aqv ?_
  rw [← Nat.pow_add]
  have h2:2^V.log2*2^(-(Ch V E-E)).toNat≤V*2^(-(Ch V E-E)).toNat:=Ax5 _ h1
  rw [← Nat.pow_add] at h2
  exact Nat.le_trans (Ax8 (by decide) (by omega)) h2
theorem Aai {V W:Nat} {E:Int} (h:V≤W):Ci V E≤Ci W E:=by
  unfold Ci
  by_cases hV:V=0
  · rw [if_pos hV]; exact Nat.zero_le _
  · have hW:W≠0:=by omega
    rw [if_neg hV,if_neg hW]
    have hl:=Ahf (E:=E) hV h
    have key:(Ch V E+1074).toNat*2^52+kept V E≤(Ch W E+1074).toNat*2^52+kept W E:=by
      rcases Int.lt_or_eq_of_le hl with h1 | h1
      · have hb:-1074≤Ch V E:=by unfold Ch; omega
        have hn:Ch W E=E+W.log2-52:=by unfold Ch at h1 hb ⊢; omega
        have k1:=Aqw (V:=V) (E:=E)
        have k2:=Acp hW hn
        have h2:(Ch V E+1074).toNat+1≤(Ch W E+1074).toNat:=by omega
        have h3:((Ch V E+1074).toNat+1)*2^52≤(Ch W E+1074).toNat*2^52:=Ax5 _ h2
        rw [Nat.add_mul (Ch V E+1074).toNat 1 (2^52),Nat.one_mul] at h3
        omega
      · unfold kept
        rw [h1]
        exact Nat.add_le_add_left (Agx h) _
    omega
theorem Rd {b:Nat} (h4:Al b≠4):Ci (Av b) (A2 b)=b%2^63:=by
  have hf:C4 b<2^52:=J2 b
  have hr:=O5 b
  rw [hr]
  unfold Av A2
  by_cases h0:Dv b=0
  · rw [if_pos h0,if_pos h0,Xu hf,h0,Nat.zero_mul,Nat.zero_add]
  · rw [if_neg h0,if_neg h0,Mh (by omega) (by omega) (by omega),H4]
    have e:((Dv b:Int)-1075+1074).toNat=Dv b-1:=by omega
    rw [e]
    have h5:(Dv b-1)*2^52+(C4 b+2^52)=Dv b*2^52+C4 b:=by omega
    rw [h5]
    rcases Hk b with ⟨h1,h2,_⟩ | ⟨_,_,h⟩ | ⟨h1,_,_⟩
    · rw [h1,h2]; decide
    · exact absurd h h4
    · omega
def Hx (b:Nat):Int:=H2 (Bs b) (b%2^63)
def Sd (b:Nat) (f:Int):Nat:=Av b*2^(A2 b-f).toNat
theorem Ue {b:Nat} {f:Int} (h4:Al b≠4) (hf:f≤A2 b):Ci (Sd b f) f=b%2^63:=by
  rw [← Rd h4]
  have h:=(Eb (Av b) (A2 b-f).toNat (A2 b)).1
  have e:A2 b-((A2 b-f).toNat:Int)=f:=by omega
  rw [e] at h
  exact h
theorem Ank {a b:Nat} (h:a%2^63=b%2^63) (f:Int):Sd a f=Sd b f:=by
  have h1:Dv a=Dv b:=by unfold Dv; omega
  have h2:C4 a=C4 b:=by unfold C4; omega
  unfold Sd Av A2
  rw [h1,h2]
theorem Anl {a b:Nat} {f:Int} (ha:Al a≠4) (hb:Al b≠4) (hfa:f≤A2 a) (hfb:f≤A2 b):Sd a f<Sd b f↔a%2^63<b%2^63:=by
  constructor
  · intro h
    have h1:=Aai (E:=f) (Nat.le_of_lt h)
    rw [Ue ha hfa,Ue hb hfb] at h1
    rcases Nat.lt_or_eq_of_le h1 with h2 | h2
    · exact h2
    · have:=Ank h2 f; omega
  · intro h
    rcases Nat.lt_or_ge (Sd a f) (Sd b f) with h1 | h1
    · exact h1
    · have h1:=Aai (E:=f) h1
      rw [Ue ha hfa,Ue hb hfb] at h1
      omega
theorem Aex (b:Nat) (f:Int):Sd b f=0↔b%2^63=0:=by
  have hp:=Cj (A2 b-f).toNat
  unfold Sd
  rw [Nat.mul_eq_zero,O5]
  have h1:¬ (2^(A2 b-f).toNat=0):=by omega
  have h2:Av b=0↔Dv b*2^52+C4 b=0:=by unfold Av; split<;>omega
  rw [h2]
  exact ⟨fun h=>h.resolve_right h1,.inl⟩
theorem Ast {s t:Bool} {m n m' n':Nat} (h1:m<n↔m'<n') (h2:n<m↔n'<m') (h3:m=0↔m'=0) (h4:n=0↔n'=0):H2 s m<H2 t n↔H2 s m'<H2 t n':=by
  unfold H2
  cases s<;>cases t<;>simp<;>omega
theorem Abo {a b:Nat} {f:Int} (ha:Al a≠4) (hb:Al b≠4) (hfa:f≤A2 a) (hfb:f≤A2 b):Jv a f<Jv b f↔Hx a<Hx b :=
  Ast (Anl ha hb hfa hfb) (Anl hb ha hfb hfa) (Aex a f) (Aex b f)
theorem Ala {x y x' y':Int} (h1:x<y↔x'<y') (h2:y<x↔y'<x'):compare x y=compare x' y':=by
  show compareOfLessAndEq x y=compareOfLessAndEq x' y'
  unfold compareOfLessAndEq
  by_cases h:x<y
  · rw [if_pos h,if_pos (h1.1 h)]
  · rw [if_neg h,if_neg (fun k=>h (h1.2 k))]
    by_cases e:x=y
    · rw [if_pos e,if_pos (by omega)]
    · rw [if_neg e,if_neg (by omega)]
theorem Ate {b:Nat} (h4:Al b≠4):b%2^63≤D8:=by
  rw [← Rd h4]; exact Kw _ _
theorem Ul {b:Nat} (h:Al b=3):b%2^63=D8:=by
  rw [O5]
  rcases Hk b with ⟨h1,h2,_⟩ | ⟨_,_,h4⟩ | ⟨_,h4,_⟩
  · rw [h1,h2]; rfl
  · omega
  · omega
theorem Um {b:Nat} (h3:Al b≠3) (h4:Al b≠4):b%2^63<D8:=by
  have hf:C4 b<2^52:=J2 b
  rw [O5,H4]
  rcases Hk b with ⟨_,_,h⟩ | ⟨_,_,h⟩ | ⟨h1,_,_⟩
  · exact absurd h h3
  · exact absurd h h4
  · omega
theorem Ahn {x y:Int} (h:x<y):compare x y=.lt:=by
  show compareOfLessAndEq x y=_; unfold compareOfLessAndEq; rw [if_pos h]
theorem Aho {x y:Int} (h:y<x):compare x y=.gt:=by
  show compareOfLessAndEq x y=_; unfold compareOfLessAndEq; rw [if_neg (by omega),if_neg (by omega)]
theorem Oi {a b:Nat} (ha:a<2^64) (hb:b<2^64) (a4:Al a≠4) (b4:Al b≠4):Ieee.double.order a b=some (compare (Hx a) (Hx b)):=by
  unfold Format.order
  rw [Iw ha,Iw hb]
  have hpos:0<D8:=by decide
  by_cases a3:Al a=3
  · have ka:=Ul a3
    rw [Eg a3]
    by_cases b3:Al b=3
    · have kb:=Ul b3
      rw [Eg b3]
      show some (compare (Bs b).toNat (Bs a).toNat)=_
      unfold Hx
      rw [ka,kb]
      cases Bs a<;>cases Bs b<;>decide
    · have kb:=Um b3 b4
      rw [Ef b3 b4]
      show some (if Bs a then Ordering.lt else .gt)=_
      unfold Hx H2
      rw [ka]
      cases Bs a
      · rw [Aho (by simp; split<;>omega)]; rfl
      · rw [Ahn (by simp; split<;>omega)]; rfl
  · have ka:=Um a3 a4
    rw [Ef a3 a4]
    by_cases b3:Al b=3
    · have kb:=Ul b3
      rw [Eg b3]
      show some (if Bs b then Ordering.gt else .lt)=_
      unfold Hx H2
      rw [kb]
      cases Bs b
      · rw [Ahn (by simp; split<;>omega)]; rfl
      · rw [Aho (by simp; split<;>omega)]; rfl
    · rw [Ef b3 b4]
      show some (compare (Ieee.signed _ _ _) (Ieee.signed _ _ _))=_
      rw [Q8,Q8]
      congr 1
      exact Ala (Abo a4 b4 (Int.min_le_left _ _) (Int.min_le_right _ _)) (Abo b4 a4 (Int.min_le_right _ _) (Int.min_le_left _ _))
theorem Vf {a b:Nat} (ha:a<2^64) (hb:b<2^64) (h:Al a=4∨Al b=4):Ieee.double.order a b=none:=by
  unfold Format.order
  rw [Iw ha,Iw hb]
  by_cases a4:Al a=4
  · rw [G0 a4]; cases Ob b<;>rfl
  · rw [G0 (h.resolve_left a4)]; cases Ob a<;>rfl
theorem Oq (s:Bool) {r:Nat} (h:r<2^63):Hx (Bk s r)=H2 s r:=by
  unfold Hx Bk Bs
  cases s
  · have h1:¬ 2^63≤r:=by omega
    have h2:r%2^63=r:=Ax6 h
    simp only [Bool.false_eq_true,if_false,Axy h1,h2]
  · have h1:2^63≤2^63+r:=by omega
    have h2:(2^63+r)%2^63=r:=by omega
    simp only [if_true,Axu h1,h2]
end Go.Rnd
namespace Go.Rnd
def Nb (a b:Nat):Nat × Nat :=
  if Al a=4∨Al b=4 then (P0,0)
  else if Al a=3∨Al b=3 then (if Al a=0∨Al b=0 then (P0,16) else (Bk (Bs a !=Bs b) D8,0))
  else (Bk (Bs a !=Bs b) (Ci (Av a*Av b) (A2 a+A2 b)),flagsOf (Av a*Av b) (A2 a+A2 b))
def Fi (X Y K:Nat):Nat:=2*(X*2^K / Y)+(if X*2^K%Y=0 then 0 else 1)
def Ac1 (a b:Nat):Nat × Nat :=
  if Al a=4∨Al b=4 then (P0,0)
  else if Al a=Al b∧(Al a=3∨Al a=0) then (P0,16)
  else if Al a=3 then (Bk (Bs a !=Bs b) D8,0)
  else if Al b=3∨Al a=0 then (Bk (Bs a !=Bs b) 0,0)
  else if Al b=0 then (Bk (Bs a !=Bs b) D8,8)
  else (Bk (Bs a !=Bs b) (Ci (Fi (Av a) (Av b) 120) (A2 a-A2 b-121)),flagsOf (Fi (Av a) (Av b) 120) (A2 a-A2 b-121))
theorem Aav (a b:Nat):Nb a b=Nb b a:=by
  have e:(Bs a !=Bs b)=(Bs b !=Bs a):=by cases Bs a<;>cases Bs b<;>rfl
  unfold Nb
  rw [e,Nat.mul_comm (Av a),Int.add_comm (A2 a)]
  simp only [or_comm]
theorem Ag1 {V k:Nat} {E:Int} (hm:1≤V / 2^k) (hc:2^53≤V / 2^k∨E+k+1≤-1074) :
    Ci (4*(V / 2^k)+(if V%2^k=0 then 0 else 1)) (E+k-2)=Ci V E∧flagsOf (4*(V / 2^k)+(if V%2^k=0 then 0 else 1)) (E+k-2)=flagsOf V E:=by
  have hA:=Cj k
  have h1:=Nat.div_add_mod V (2^k)
  have h2:=Nat.mod_lt V hA
  generalize hq:V / 2^k=q at *
  generalize hr:V%2^k=r at *
  by_cases h0:r=0
  · rw [if_pos h0]
    obtain ⟨a1,a2⟩:=Eb q k (E+k)
    obtain ⟨b1,b2⟩:=Eb q 2 (E+k)
    have e1:E+(k:Int)-k=E:=by omega
    have e2:V=q*2^k:=by rw [Nat.mul_comm]; omega
    have e3:q*2^2=4*q+0:=by omega
    have e4:E+(k:Int)-((2:Nat):Int)=E+k-2:=by omega
    rw [e1,← e2] at a1 a2
    rw [e3,e4] at b1 b2
    rw [a1,a2,b1,b2]
    exact ⟨rfl,rfl⟩
  · rw [if_neg h0]
    obtain ⟨d,rfl⟩:∃ d,k=d+1:=by
      cases k with
      | zero=>simp only [Nat.pow_zero] at h2; omega
      | succ d=>exact ⟨d,rfl⟩
    have hD:2^(d+1)=2*2^d:=by rw [Nat.pow_succ]; omega
    rw [hD] at h1 h2
    generalize hc2:2^d=c at *
    have p1:(2*q+1-1)*c=2*c*q:=by rw [Nat.add_sub_cancel,Nat.mul_comm,Nat.mul_left_comm,Nat.mul_assoc]
    have p2:(2*q+1+1)*c=2*c*q+2*c:=by
      rw [show 2*q+1+1=2*(q+1) by omega,Nat.mul_assoc,Nat.add_mul,Nat.mul_add,Nat.mul_comm q c,Nat.mul_assoc]; omega
    have lt1:(2*q+1-1)*2^d<V:=by rw [hc2,p1]; omega
    have lt2:V<(2*q+1+1)*2^d:=by rw [hc2,p2]; omega
    have od:(2*q+1)%2=1:=by omega
    have lV:=Qg od (by omega) lt1 lt2
    have l4:(4*q+1).log2=(2*q+1).log2+1:=Qg (d:=1) od (by omega) (by omega) (by omega)
    have hs:(2*q+1).log2≥54∨E+d+2≤-1074:=by
      rcases hc with h | h
      · left; rw [ge_iff_le,Nat.le_log2 (by omega)]; omega
      · right; omega
    have hk:E+d+2≤Ch (2*q+1) (E+d):=by unfold Ch; omega
    obtain ⟨a1,a2⟩:=P9 (E:=E) od lt1 lt2 (by unfold Ch; rw [lV]; omega) hk
    have ee:E+((d+1:Nat):Int)-2+((1:Nat):Int)=E+d:=by omega
    obtain ⟨b1,b2⟩:=P9 (V:=4*q+1) (d:=1) (E:=E+((d+1:Nat):Int)-2) od (by omega) (by omega) (by unfold Ch; rw [l4]; omega) (by rw [ee]; unfold Ch; omega)
    rw [ee] at b1 b2
    rw [a1,a2,b1,b2]
    exact ⟨rfl,rfl⟩
theorem T9 (n:Bool) {V k:Nat} {E e:Int} {s:Bool} (he:e=E+k) (hs:s=decide (V%2^k≠0)) (hm:1≤V / 2^k) (hc:2^53≤V / 2^k∨E+k+1≤-1074) :
    Gf n (V / 2^k) e s=(Bk n (Ci V E),flagsOf V E):=by
  obtain ⟨a,b⟩:=Ag1 hm hc
  have e1:s.toNat=if V%2^k=0 then 0 else 1:=by
    rw [hs]
    by_cases h:V%2^k=0
    · rw [Axy (by omega),if_pos h]; rfl
    · rw [Axu h,if_neg h]; rfl
  unfold Gf
  rw [he,e1,a,b]
theorem Xl {X Y K:Nat} (d:Nat) (E:Int) (hY:0<Y) (h:2^53≤X*2^K / Y) :
    Ci (Fi X Y (K+d)) (E-d)=Ci (Fi X Y K) E∧flagsOf (Fi X Y (K+d)) (E-d)=flagsOf (Fi X Y K) E:=by
  have hA:=Cj d
  unfold Fi
  have e:X*2^(K+d)=X*2^K*2^d:=by rw [Nat.pow_add,Nat.mul_assoc]
  rw [e]
  generalize X*2^K=Z at *
  have h1:=Nat.div_add_mod Z Y
  have h2:=Nat.mod_lt Z hY
  by_cases h0:Z%Y=0
  · obtain ⟨q,rfl⟩:=Nat.dvd_of_mod_eq_zero h0
    have e1:Y*q*2^d=Y*(q*2^d):=Nat.mul_assoc _ _ _
    rw [e1,Nat.mul_mod_right,Nat.mul_mod_right,Nat.mul_div_cancel_left _ hY,Nat.mul_div_cancel_left _ hY,if_pos rfl]
    have:=Eb (2*q+0) d E
    rw [show (2*q+0)*2^d=2*(q*2^d)+0 by rw [Nat.add_zero,Nat.add_zero,Nat.mul_assoc]] at this
    exact this
  · have h3:=Nat.div_add_mod (Z*2^d) Y
    have h4:=Nat.mod_lt (Z*2^d) hY
    rw [if_neg h0]
    generalize hq:Z / Y=q at *
    generalize hr:Z%Y=r at *
    generalize hc:2^d=c at *
    have hz:Z*c=Y*(q*c)+r*c:=by rw [← h1,Nat.add_mul,Nat.mul_assoc]
    have hrc:r*c<Y*c:=(Nat.mul_lt_mul_right hA).2 h2
    have hrc0:0<r*c:=Nat.mul_pos (by omega) hA
    have q1:q*c≤Z*c / Y:=by rw [Nat.le_div_iff_mul_le hY,Nat.mul_comm (q*c)]; omega
    have q2:Z*c / Y<(q+1)*c:=by
      rw [Nat.div_lt_iff_lt_mul hY,Nat.add_mul,Nat.add_mul,Nat.one_mul,Nat.mul_comm (q*c),Nat.mul_comm c Y]; omega
    have q3:Z*c / Y=q*c→Z*c%Y≠0:=fun h5 h6=>by rw [h5,h6] at h3; omega
    generalize hQ:Z*c / Y=Q at *
    have p1:(2*q+1-1)*c=2*(q*c):=by rw [Nat.add_sub_cancel,Nat.mul_assoc]
    have p2:(2*q+1+1)*c=2*((q+1)*c):=by rw [show 2*q+1+1=2*(q+1) by omega,Nat.mul_assoc]
    have od:(2*q+1)%2=1:=by omega
    generalize hV:2*Q+(if Z*c%Y=0 then 0 else 1)=V
    have v1:(2*q+1-1)*2^d<V:=by
      rw [hc,p1,← hV]
      by_cases h5:Q=q*c
      · rw [if_neg (q3 h5)]; omega
      · split<;>omega
    have v2:V<(2*q+1+1)*2^d:=by
      rw [hc,p2,← hV]
      split<;>omega
    have lV:=Qg od (by omega) v1 v2
    have hs:54≤(2*q+1).log2:=by rw [Nat.le_log2 (by omega)]; omega
    have ee:E-(d:Int)+d=E:=by omega
    have:=P9 (E:=E-d) od v1 v2 (by unfold Ch; rw [lV]; omega) (by unfold Ch; omega)
    rw [ee] at this
    exact this
theorem Xm {X Y K L:Nat} {E F:Int} (hY:0<Y) (h1:2^53≤X*2^K / Y) (h2:2^53≤X*2^L / Y) (he:E+K=F+L) :
    Ci (Fi X Y K) E=Ci (Fi X Y L) F∧flagsOf (Fi X Y K) E=flagsOf (Fi X Y L) F:=by
  rcases Nat.le_total K L with h | h
  · obtain ⟨d,rfl⟩:=Nat.exists_eq_add_of_le h
    have:=Xl d E hY h1
    rw [show E-(d:Int)=F by omega] at this
    exact ⟨this.1.symm,this.2.symm⟩
  · obtain ⟨d,rfl⟩:=Nat.exists_eq_add_of_le h
    have:=Xl d F hY h2
    rw [show F-(d:Int)=E by omega] at this
    exact this
theorem Agi (X Y a K:Nat):Fi (X*2^a) Y K=Fi X Y (K+a):=by
  unfold Fi
  have:X*2^a*2^K=X*2^(K+a):=by rw [Nat.mul_assoc,← Nat.pow_add,Nat.add_comm a K]
  rw [this]
theorem Adu (X Y b K:Nat):Fi X (Y*2^b) (K+b)=Fi X Y K:=by
  have hp:=Cj b
  unfold Fi
  have:X*2^(K+b)=X*2^K*2^b:=by rw [Nat.pow_add,Nat.mul_assoc]
  rw [this,Nat.mul_div_mul_right _ _ hp,Nat.mul_mod_mul_right]
  have:(X*2^K%Y*2^b=0)↔(X*2^K%Y=0):=by
    constructor
    · intro h
      rcases Nat.mul_eq_zero.1 h with h | h
      · exact h
      · omega
    · intro h; rw [h,Nat.zero_mul]
  simp only [this]
theorem Amt {X Y K t:Nat} (hX:0<X) (hY0:0<Y) (hY:Y<2^t) (hK:53+t≤K):2^53≤X*2^K / Y:=by
  rw [Nat.le_div_iff_mul_le hY0]
  have h1:2^53*Y≤2^53*2^t:=Nat.mul_le_mul_left _ (by omega)
  have h2:2^(53+t)≤2^K:=Ax8 (by decide) hK
  have h3:1*2^K≤X*2^K:=Ax5 _ (by omega)
  rw [Nat.pow_add] at h2
  omega
theorem Akm (n:Bool) {X Y K:Nat} {e E:Int} {s:Bool} (hs:s=decide (X*2^K%Y≠0)) (he:E=e-1) (hq:2^53≤X*2^K / Y) :
    Gf n (X*2^K / Y) e s=(Bk n (Ci (Fi X Y K) E),flagsOf (Fi X Y K) E):=by
  have e1:Fi X Y K / 2^1=X*2^K / Y:=by
    unfold Fi
    split<;>omega
  have e2:decide (Fi X Y K%2^1≠0)=decide (X*2^K%Y≠0):=by
    unfold Fi
    by_cases h:X*2^K%Y=0
    · rw [if_pos h,Axy (by omega),Axy (by omega)]
    · rw [if_neg h,Axu (by omega),Axu h]
  have:=T9 n (V:=Fi X Y K) (k:=1) (E:=E) (e:=e) (s:=s) (by omega) (by rw [e2]; exact hs) (by omega) (.inl (by omega))
  rw [e1] at this
  exact this
end Go.Rnd
namespace Go.Rnd
open Go.Den
def Cm:List Int→Nat
  | []=>0
  | x::l=>x.toNat+4294967296*Cm l
def digits:Nat→Nat→List Int
  | 0,_=>[]
  | k+1,v=>((v%4294967296:Nat):Int)::digits k (v / 4294967296)
def Dn (n:Nat):Nat:=if n=0 then 0 else n.log2 / 32+1
def Qh (n:Nat):List Int:=digits (Dn n) n
def Ap (v:Int):List Int:=Qh v.natAbs
def Bi (v:Int):Bool:=decide (v<0)
def wv (n:Bool) (l:List Int):Int:=H2 n (Cm l)
def Y0 (l:List Int):Prop:=∀ x∈l,0≤x∧x<4294967296
def Hp (l:List Int):Bool:=Cu (l.length<1073741824∧Y0 l)
def Jf (n:Bool) (l:List Int):Bool:=Cu (l.length<268435456∧l=Qh (Cm l)∧(n=true→l≠[]))
def W2 (n:Bool) (l:List Int):Bool:=Cu (l.length<134217728∧l=Qh (Cm l)∧(n=true→l≠[]))
def As4 (k:Int):Bool:=Cu (-1000000≤k∧k≤1000000)
def Aix (k:Int):Bool:=Cu (-9223372036854775808≤k∧k≤9223372036854775807)
def G2 (l:List Int) (i:Int):Int:=if 0≤i then l.getD i.toNat 0 else 0
def J0 (a b:List Int):List Int:=digits (max a.length b.length+1) (Cm a+Cm b)
def Hg (a b:List Int):List Int:=digits a.length (Cm a-Cm b)
def leL (a b:List Int):Bool:=Cu (Cm a≤Cm b)
def Vr (a b:Nat):Int:=if a<b then -1 else if b<a then 1 else 0
def Wo (a b:Int):Int:=if a<b then -1 else if b<a then 1 else 0
def Kv (v:Int) (j:Nat):Int:=H2 (Bi v) (v.natAbs / 2^j)
def Gu (v k:Int):Int:=if 0≤k then v*((2^k.toNat:Nat):Int) else Kv v (-k).toNat
def Yr (v:Int):Int:=if v=0 then 0 else (v.natAbs.log2:Int)+1
def Akb (v:Int):Bool:=decide (v%2=1)
theorem two32:2^32=4294967296:=by decide
theorem Od (k:Nat):2^(32*(k+1))=4294967296*2^(32*k):=by
  rw [Nat.mul_add,Nat.mul_one,Nat.pow_add,Nat.mul_comm,two32]
theorem Fc:∀ (k v:Nat),(digits k v).length=k
  | 0,_=>rfl
  | k+1,v=>by rw [digits,List.length_cons,Fc k]
theorem Ox:∀ (k v:Nat),Y0 (digits k v)
  | 0,_=>fun x h=>by cases h
  | k+1,v=>fun x h=>by
    rw [digits,List.mem_cons] at h
    rcases h with rfl | h
    · omega
    · exact Ox k _ x h
theorem K3:∀ (k v:Nat),Cm (digits k v)=v%2^(32*k)
  | 0,v=>by rw [digits,Cm,Nat.mul_zero,Nat.pow_zero,Nat.mod_one]
  | k+1,v=>by
    rw [digits,Cm,K3 k,Axv,Od,Nat.mod_mul]
theorem Nf:∀ {l:List Int},Y0 l→Cm l<2^(32*l.length)
  | [],_=>by decide
  | x::l,h=>by
    have h1:=h x (List.mem_cons_self ..)
    have h2:=Nf (l:=l) (fun y hy=>h y (List.mem_cons_of_mem _ hy))
    rw [Cm,List.length_cons,Od]
    omega
theorem Qs:∀ {l:List Int},Y0 l→digits l.length (Cm l)=l
  | [],_=>rfl
  | x::l,h=>by
    have h1:=h x (List.mem_cons_self ..)
    have h2:=Qs (l:=l) (fun y hy=>h y (List.mem_cons_of_mem _ hy))
    rw [Cm,List.length_cons,digits]
    have e1:(x.toNat+4294967296*Cm l)%4294967296=x.toNat:=by omega
    have e2:(x.toNat+4294967296*Cm l) / 4294967296=Cm l:=by omega
    rw [e1,e2,h2]
    congr 1
    omega
theorem L8 (n:Nat):n<2^(32*Dn n):=by
  unfold Dn
  by_cases h:n=0
  · rw [if_pos h,h]; decide
  · rw [if_neg h]
    exact Nat.lt_of_lt_of_le Nat.lt_log2_self (Ax8 (by decide) (by omega))
theorem Nm {n k:Nat} (h:n<2^(32*k)):Dn n≤k:=by
  unfold Dn
  by_cases h0:n=0
  · rw [if_pos h0]; exact Nat.zero_le _
  · rw [if_neg h0]
    have:=(Nat.log2_lt h0).2 h
    omega
theorem Aqs {n k:Nat} (h:2^(32*k)≤n):k+1≤Dn n:=by
  have hp:=Cj (32*k)
  unfold Dn
  rw [if_neg (by omega)]
  have:=(Nat.le_log2 (by omega)).2 h
  omega
theorem Mj {n m:Nat} (h:n≤m):Dn n≤Dn m:=Nm (Nat.lt_of_le_of_lt h (L8 m))
theorem Sj (n:Nat):Cm (Qh n)=n:=by
  unfold Qh
  rw [K3,Ax6 (L8 n)]
theorem Hi (n:Nat):(Qh n).length=Dn n:=Fc _ _
theorem Ae2 (n:Nat):Y0 (Qh n):=Ox _ _
theorem Zf:∀ (k v i:Nat),i<k→(digits k v).getD i 0=((v / 2^(32*i)%4294967296:Nat):Int)
  | k+1,v,0,_=>by rw [digits,List.getD_cons_zero,Nat.mul_zero,Nat.pow_zero,Nat.div_one]
  | k+1,v,i+1,h=>by
    rw [digits,List.getD_cons_succ,Zf k _ i (by omega),Od,Nat.div_div_eq_div_mul]
theorem Rl {l:List Int} (h:Y0 l) (i:Nat):l.getD i 0=((Cm l / 2^(32*i)%4294967296:Nat):Int):=by
  by_cases hi:i<l.length
  · have:=Zf l.length (Cm l) i hi
    rw [Qs h] at this
    exact this
  · have h1:=Nf h
    have h2:2^(32*l.length)≤2^(32*i):=Ax8 (by decide) (by omega)
    rw [Nat.div_eq_of_lt (by omega),Ax3,List.getElem?_eq_none (by omega)]
    rfl
theorem Hj {l:List Int} (h:Y0 l) (i:Nat):G2 l (i:Int)=((Cm l / 2^(32*i)%4294967296:Nat):Int):=by
  unfold G2
  rw [if_pos (by omega),Axv,Rl h]
theorem Nq:∀ (k v:Nat),digits (k+1) v=digits k v++[((v / 2^(32*k)%4294967296:Nat):Int)]
  | 0,v=>by rw [digits,digits,digits,Nat.mul_zero,Nat.pow_zero,Nat.div_one]; rfl
  | k+1,v=>by
    rw [digits,Nq k,Od,← Nat.div_div_eq_div_mul]
    rfl
theorem Wd:∀ (j k v:Nat),j≤k→(digits k v).take j=digits j v
  | 0,_,_,_=>by rw [List.take_zero,digits]
  | j+1,k+1,v,h=>by rw [digits,List.take_succ_cons,Wd j k _ (by omega),digits]
theorem Ahc {l:List Int} (h:Y0 l):l.take (Dn (Cm l))=Qh (Cm l):=by
  have h1:=Wd (Dn (Cm l)) l.length (Cm l) (Nm (Nf h))
  rw [Qs h] at h1
  exact h1
theorem I8 {n:Nat} (h:n≠0):0<Dn n:=by unfold Dn; rw [if_neg h]; omega
theorem Hq (v:Int):wv (Bi v) (Ap v)=v:=by
  unfold wv Bi Ap H2
  rw [Sj]
  by_cases h:v<0
  · rw [Axu h,if_pos rfl]; omega
  · rw [Axy h,if_neg (by decide)]; omega
theorem Nw {l:List Int} (h:l.length<1073741824) (hi:Y0 l):Hp l=true:=Ar.2 ⟨h,hi⟩
theorem Kz {l:List Int} (h:Hp l=true):l.length<1073741824∧Y0 l:=Ar.1 h
theorem Afu (v:Int):Ap v=Qh (Cm (Ap v))∧(Bi v=true→Ap v≠[]):=by
  unfold Ap
  rw [Sj]
  refine ⟨rfl,fun h e=>?_⟩
  have h1:v<0:=of_decide_eq_true h
  have h2:=Hi v.natAbs
  rw [e] at h2
  have:=I8 (n:=v.natAbs) (by omega)
  rw [← h2] at this
  exact absurd this (by decide)
theorem Je {v:Int} (h:Dn v.natAbs<268435456):Jf (Bi v) (Ap v)=true :=
  Ar.2 ⟨by unfold Ap; rw [Hi]; exact h,Afu v⟩
theorem Am3 {v:Int} (h:Dn v.natAbs<134217728):W2 (Bi v) (Ap v)=true :=
  Ar.2 ⟨by unfold Ap; rw [Hi]; exact h,Afu v⟩
theorem Abd {n:Bool} {l:List Int} (h1:l=Qh (Cm l)) (h2:n=true→l≠[]):n=Bi (wv n l)∧l=Ap (wv n l):=by
  have e:(wv n l).natAbs=Cm l:=by unfold wv H2; split<;>omega
  refine ⟨?_,by unfold Ap; rw [e]; exact h1⟩
  unfold Bi wv H2
  cases n
  · simp
  · have h3:=h2 rfl
    have h4:Cm l≠0:=fun h=>by
      rw [h] at h1
      exact h3 h1
    simp; omega
theorem Jc {n:Bool} {l:List Int} (h:Jf n l=true):∃ v,n=Bi v∧l=Ap v∧Dn v.natAbs<268435456:=by
  obtain ⟨h0,h1,h2⟩:=Ar.1 h
  obtain ⟨e1,e2⟩:=Abd h1 h2
  refine ⟨_,e1,e2,?_⟩
  have:=congrArg List.length e2
  unfold Ap at this
  rw [Hi] at this
  omega
theorem Pf {n:Bool} {l:List Int} (h:W2 n l=true):∃ v,n=Bi v∧l=Ap v∧Dn v.natAbs<134217728:=by
  obtain ⟨h0,h1,h2⟩:=Ar.1 h
  obtain ⟨e1,e2⟩:=Abd h1 h2
  refine ⟨_,e1,e2,?_⟩
  have:=congrArg List.length e2
  unfold Ap at this
  rw [Hi] at this
  omega
theorem Oj {v:Int} (h:Dn v.natAbs<1073741824):Hp (Ap v)=true :=
  Nw (by unfold Ap; rw [Hi]; exact h) (Ae2 _)
theorem D0 (v:Int):Cm (Ap v)=v.natAbs:=Sj _
theorem Co (v:Int):(Ap v).length=Dn v.natAbs:=Hi _
theorem Ar6 (n:Bool) (l:List Int):wv (!n) l=- wv n l:=by
  unfold wv H2
  cases n<;>simp
theorem Aj9 {a b:List Int} (ha:Y0 a) (hb:Y0 b):Cm (J0 a b)=Cm a+Cm b:=by
  unfold J0
  rw [K3,Ax6]
  have h1:=Nf ha
  have h2:=Nf hb
  have h3:2^(32*a.length)≤2^(32*max a.length b.length):=Ax8 (by decide) (by omega)
  have h4:2^(32*b.length)≤2^(32*max a.length b.length):=Ax8 (by decide) (by omega)
  rw [Od]
  omega
theorem Tz (a b:List Int):(J0 a b).length=max a.length b.length+1:=Fc _ _
theorem Ael (a b:List Int):Y0 (J0 a b):=Ox _ _
theorem Ag6 {a:List Int} (b:List Int) (ha:Y0 a):Cm (Hg a b)=Cm a-Cm b:=by
  unfold Hg
  rw [K3,Ax6]
  have h1:=Nf ha
  omega
theorem Sc (a b:List Int):(Hg a b).length=a.length:=Fc _ _
theorem Aax (a b:List Int):Y0 (Hg a b):=Ox _ _
theorem Lx (v:Int) (j:Nat):(Kv v j).natAbs=v.natAbs / 2^j:=by
  unfold Kv
  generalize v.natAbs / 2^j=m
  unfold H2; split<;>omega
theorem Tq {v:Int} (h:v<0) (m:Nat):H2 (Bi v) m=-(m:Int):=by
  unfold H2 Bi; rw [Axu h,if_pos rfl]
theorem Tp {v:Int} (h:¬ v<0) (m:Nat):H2 (Bi v) m=(m:Int):=by
  unfold H2 Bi; rw [Axy h,if_neg (by decide)]
theorem Ab3 (v:Int) (i j:Nat):Kv (Kv v i) j=Kv v (i+j):=by
  have e:v.natAbs / 2^(i+j)=v.natAbs / 2^i / 2^j:=by rw [Nat.pow_add,Nat.div_div_eq_div_mul]
  have h1:=Lx v i
  by_cases hv:v<0
  · have h2:Kv v i=-((v.natAbs / 2^i:Nat):Int):=Tq hv _
    rw [show Kv v (i+j)=-((v.natAbs / 2^(i+j):Nat):Int) from Tq hv _,e]
    by_cases h0:v.natAbs / 2^i=0
    · rw [h2,h0]
      show Kv 0 j=_
      rw [Nat.zero_div]
      show H2 (Bi 0) (0 / 2^j)=_
      rw [Nat.zero_div]; rfl
    · have h3:Kv v i<0:=by omega
      rw [show Kv (Kv v i) j=-(((Kv v i).natAbs / 2^j:Nat):Int) from Tq h3 _,h1]
  · have h2:Kv v i=((v.natAbs / 2^i:Nat):Int):=Tp hv _
    have h3:¬ Kv v i<0:=by omega
    rw [show Kv (Kv v i) j=(((Kv v i).natAbs / 2^j:Nat):Int) from Tp h3 _,h1,show Kv v (i+j)=((v.natAbs / 2^(i+j):Nat):Int) from Tp hv _,e]
theorem Ad5 (v:Int):Kv v 0=v:=by
  unfold Kv H2 Bi
  rw [Nat.pow_zero,Nat.div_one]
  by_cases h:v<0
  · rw [Axu h,if_pos rfl]; omega
  · rw [Axy h,if_neg (by decide)]; omega
theorem Rb (j:Nat):Kv 0 j=0:=by
  unfold Kv
  rw [show (Int.natAbs 0)=0 from rfl,Nat.zero_div]
  rfl
theorem Ajh {l:List Int} (h:Y0 l):Cm (l.drop 1)=Cm l / 4294967296:=by
  cases l with
  | nil=>rfl
  | cons x l =>
    have:=h x (List.mem_cons_self ..)
    show Cm l=_
    rw [Cm]; omega
theorem Afa {l:List Int} (h:Y0 l):Y0 (l.drop 1):=fun x hx=>h x (List.mem_of_mem_drop hx)
theorem An4 {l:List Int} (h:Y0 l):Y0 ([(0:Int)]++l):=fun x hx=>by
  rcases List.mem_cons.1 hx with rfl | hx
  · omega
  · exact h x hx
theorem Ant (n:Nat):Dn (2*n)≤Dn n+1:=by
  refine Nm ?_
  have h:=L8 n
  rw [Od]
  omega
theorem Aqr (n:Nat):Dn (n*4294967296)≤Dn n+1:=by
  refine Nm ?_
  have h:=L8 n
  rw [Od]
  omega
theorem Ae0 {n m:Nat} (h:2^m≤n):(n / 2^m).log2+m=n.log2:=by
  have hp:=Cj m
  have h0:n≠0:=by omega
  have hm:m≤n.log2:=(Nat.le_log2 h0).2 h
  have e:(n / 2^m).log2=n.log2-m:=by
    refine Uh ?_ ?_
    · rw [Nat.le_div_iff_mul_le hp,← Nat.pow_add]
      exact Nat.le_trans (Ax8 (by decide) (by omega)) (Nat.log2_self_le h0)
    · rw [Nat.div_lt_iff_lt_mul hp,← Nat.pow_add]
      exact Nat.lt_of_lt_of_le Nat.lt_log2_self (Ax8 (by decide) (by omega))
  omega
end Go.Rnd
namespace Go.Rnd
open Go.Den
def Rz (n:Nat):Nat:=if h:n=0∨n%2=1 then 0 else Rz (n / 2)+1
termination_by n
decreasing_by omega
def mD (v:Int):Int:=Kv v (Rz v.natAbs)
def eD (v e:Int):Int:=if v=0 then 0 else e+Rz v.natAbs
def C3 (v e w f:Int):Int:=if v=0 then f else if w=0 then e else min e f
def Ao5 (v e w f:Int):Int:=Gu v (e-C3 v e w f)+Gu w (f-C3 v e w f)
def Q0 (v e w f:Int):Int:=mD (Ao5 v e w f)
def Apb (v e w f:Int):Int:=eD (Ao5 v e w f) (C3 v e w f)
def Ii (v e:Int):Int:=if v=0 then 0 else Yr v+e
def Na (v:Int):Int:=if v<0 then -1 else if v=0 then 0 else 1
def Wp (v e w f:Int):Int:=Wo (Gu v (e-C3 v e w f)) (Gu w (f-C3 v e w f))
def Z0 (e:Int):Bool:=Cu (-2000000≤e∧e≤2000000)
def Wm (e:Int):Bool:=Cu (-400000≤e∧e≤400000)
def Aer (v e f:Int):Bool:=Cu (v=0∨(-1000000≤e-f∧e-f≤1000000))&&Cu (-400000≤e∧e≤400000∧-1000000≤f∧f≤1000000)
theorem Agd {n:Nat} (h:n=0∨n%2=1):Rz n=0:=by rw [Rz,dif_pos h]
theorem Ah7 {n:Nat} (h0:n≠0) (h:n%2=0):Rz n=Rz (n / 2)+1:=by rw [Rz,dif_neg (by omega)]
theorem Abq {n:Nat} (h:n≠0):∀ k,Rz (n*2^k)=k+Rz n
  | 0=>by rw [Nat.pow_zero,Nat.mul_one,Nat.zero_add]
  | k+1=>by
    have hp:=Cj k
    have h1:n*2^k≠0:=by
      intro e
      rcases Nat.mul_eq_zero.1 e with e | e<;>omega
    have e:n*2^(k+1)=n*2^k*2:=by rw [Nat.pow_succ,Nat.mul_assoc]
    rw [e,Ah7 (by omega) (by omega),Nat.mul_div_cancel _ (by decide),Abq h k]
    omega
theorem Ah6 (n:Nat) (h:n≠0):∃ m,n=m*2^Rz n∧m%2=1:=by
  induction n using Nat.strongRecOn with
  | _ n ih =>
    by_cases h2:n%2=1
    · refine ⟨n,?_,h2⟩
      rw [Agd (.inr h2),Nat.pow_zero,Nat.mul_one]
    · obtain ⟨m,h3,h4⟩:=ih (n / 2) (by omega) (by omega)
      refine ⟨m,?_,h4⟩
      rw [Ah7 h (by omega),Nat.pow_succ,← Nat.mul_assoc,← h3]
      omega
theorem Aru {n:Nat} (h:n≠0):Rz n≤n.log2:=by
  obtain ⟨m,h1,h2⟩:=Ah6 n h
  refine (Nat.le_log2 h).2 ?_
  have:1*2^Rz n≤m*2^Rz n:=Ax5 _ (by omega)
  omega
theorem Aaz {n:Nat}:n.log2<32*Dn n+1:=by
  unfold Dn
  by_cases h:n=0
  · rw [h]; decide
  · rw [if_neg h]; omega
theorem Anm {v:Int} {k:Nat} (h:v.natAbs%2^k=0):mD (Kv v k)=mD v:=by
  unfold mD
  by_cases h0:v=0
  · rw [h0,Rb]
  · have hp:=Cj k
    have hv:=Nat.div_add_mod v.natAbs (2^k)
    rw [h,Nat.add_zero,Nat.mul_comm] at hv
    have hq:v.natAbs / 2^k≠0:=by
      intro e; rw [e] at hv; omega
    have:=Abq hq k
    rw [hv] at this
    rw [Lx,Ab3,this]
theorem Aoj {v e:Int} {k:Nat} (h:v.natAbs%2^k=0) (h0:v≠0):eD (Kv v k) (e+k)=eD v e:=by
  unfold eD
  have hp:=Cj k
  have hv:=Nat.div_add_mod v.natAbs (2^k)
  rw [h,Nat.add_zero,Nat.mul_comm] at hv
  have hq:v.natAbs / 2^k≠0:=by
    intro e; rw [e] at hv; omega
  have ht:=Abq hq k
  rw [hv] at ht
  have ha:=Lx v k
  rw [if_neg h0,if_neg (by omega),ha,ht]
  omega
theorem As9 {v:Int} (h:v%2=1):mD v=v:=by
  unfold mD
  rw [Agd (.inr (by omega)),Ad5]
theorem Atk {v:Int} (h:v%2=1) (e:Int):eD v e=e:=by
  unfold eD
  rw [Agd (.inr (by omega)),if_neg (by omega)]
  omega
theorem Anf {v:Int} (h:v≠0) (k:Nat):v*((2^k:Nat):Int)≠0:=by
  have hp:=Cj k
  intro e
  rcases Int.mul_eq_zero.1 e with e | e
  · exact h e
  · omega
theorem W5 (v:Int):v=mD v*((2^Rz v.natAbs:Nat):Int):=by
  by_cases h:v=0
  · rw [h]
    show (0:Int)=Kv 0 _*_
    rw [Rb,Int.zero_mul]
  · obtain ⟨m,h1,h2⟩:=Ah6 v.natAbs (by omega)
    have hp:=Cj (Rz v.natAbs)
    have hq:v.natAbs / 2^Rz v.natAbs=m:=Nat.div_eq_of_eq_mul_left hp h1
    unfold mD Kv
    rw [hq]
    by_cases hv:v<0
    · rw [Tq hv,Int.neg_mul,← Aye,← h1]; omega
    · rw [Tp hv,← Aye,← h1]; omega
theorem Pg {v:Int}:mD v=0↔v=0:=by
  constructor
  · intro h
    have:=W5 v
    rw [h,Int.zero_mul] at this
    exact this
  · intro h
    rw [h]
    exact Rb _
theorem Aay (v:Int):(mD v).natAbs≤v.natAbs:=by
  unfold mD
  rw [Lx]
  exact Nat.div_le_self _ _
end Go.Rnd
namespace Go.Rnd
open Go.Den
def vAt (v e g:Int):Int:=v*((2^(e-g).toNat:Nat):Int)
theorem Ih (e g:Int):vAt 0 e g=0:=Int.zero_mul _
theorem Z7 {v e g h:Int} (h1:h≤e) (h2:g≤h):vAt v e g=vAt v e h*((2^(h-g).toNat:Nat):Int):=by
  unfold vAt
  rw [Int.mul_assoc,← Aye,← Nat.pow_add]
  have:(e-h).toNat+(h-g).toNat=(e-g).toNat:=by omega
  rw [this]
theorem Ah1 {S l g:Int} (h:g≤l):vAt (mD S) (eD S l) g=vAt S l g:=by
  by_cases h0:S=0
  · rw [h0,Pg.2 rfl,Ih,Ih]
  · have e:eD S l=l+Rz S.natAbs:=by unfold eD; rw [if_neg h0]
    rw [e]
    unfold vAt
    have e1:(l+(Rz S.natAbs:Int)-g).toNat=Rz S.natAbs+(l-g).toNat:=by omega
    rw [e1,Nat.pow_add,Aye,← Int.mul_assoc,← W5]
theorem Aia {v e l:Int} (h:v≠0→l≤e):Gu v (e-l)=vAt v e l:=by
  by_cases h0:v=0
  · rw [h0,Ih]
    unfold Gu
    split
    · exact Int.zero_mul _
    · exact Rb _
  · unfold Gu vAt
    rw [if_pos (by have:=h h0; omega)]
theorem Ata {v e w f:Int}:(v≠0→C3 v e w f≤e)∧(w≠0→C3 v e w f≤f):=by
  unfold C3
  constructor
  · intro h
    rw [if_neg h]
    split<;>omega
  · intro h
    split
    · omega
    · omega
theorem Ar5 {v e g:Int} (h:g≤e) (h0:v≠0):g≤eD v e:=by
  unfold eD
  rw [if_neg h0]
  omega
theorem Aou (x y:Int) (k:Nat):Wo (x*((2^k:Nat):Int)) (y*((2^k:Nat):Int))=Wo x y:=by
  have hp:=Cj k
  have h1:x*((2^k:Nat):Int)<y*((2^k:Nat):Int)↔x<y:=Int.mul_lt_mul_right (by omega)
  have h2:y*((2^k:Nat):Int)<x*((2^k:Nat):Int)↔y<x:=Int.mul_lt_mul_right (by omega)
  unfold Wo
  simp only [h1,h2]
theorem Arc {v e w f g:Int} (h1:v≠0→g≤e) (h2:w≠0→g≤f):Wp v e w f=Wo (vAt v e g) (vAt w f g):=by
  obtain ⟨l1,l2⟩:=Ata (v:=v) (e:=e) (w:=w) (f:=f)
  unfold Wp
  rw [Aia l1,Aia l2]
  by_cases h0:v=0∧w=0
  · rw [h0.1,h0.2,Ih,Ih,Ih,Ih]
  · have hg:g≤C3 v e w f:=by
      unfold C3
      split
      · rename_i hv
        exact h2 (fun k=>h0 ⟨hv,k⟩)
      · split
        · exact h1 (by assumption)
        · have:=h1 (by assumption); have:=h2 (by assumption); omega
    have e1:vAt v e g=vAt v e (C3 v e w f)*((2^(C3 v e w f-g).toNat:Nat):Int):=by
      by_cases h0:v=0
      · rw [h0,Ih,Ih,Int.zero_mul]
      · exact Z7 (l1 h0) hg
    have e2:vAt w f g=vAt w f (C3 v e w f)*((2^(C3 v e w f-g).toNat:Nat):Int):=by
      by_cases h0:w=0
      · rw [h0,Ih,Ih,Int.zero_mul]
      · exact Z7 (l2 h0) hg
    rw [e1,e2,Aou]
def Ai (l:List Int):Bool:=Cu (∀ x∈l,Af x=true)
def E8 (x:Int):Int:=H2 (Bs x.toNat) (Av x.toNat)
def R8 (n:Bool) (b:Int):Int:=if n then C5 b else b
end Go.Rnd
namespace Go.Rnd
open Go.Den
theorem Af9 (s:Bool) {q:Nat} {L:Int} (hq:q<2^53) (hL:-1074≤L) (h:2^52≤q∨L=-1074) (hr:(L+1074).toNat*2^52+q<D8) :
    Av (Bk s ((L+1074).toNat*2^52+q))=q∧A2 (Bk s ((L+1074).toNat*2^52+q))=L:=by
  rw [H4] at hr
  obtain ⟨t,ht⟩:∃ t:Nat,L=t-1074:=⟨(L+1074).toNat,by omega⟩
  have et:(L+1074).toNat=t:=by omega
  rw [et] at hr ⊢
  have hp:=Aap s (r:=t*2^52+q) (by omega)
  have hf:=Y1 s (t*2^52+q)
  unfold Av A2
  by_cases h52:2^52≤q
  · have e1:Dv (Bk s (t*2^52+q))=t+1:=by rw [hp]; omega
    rw [e1,hf,if_neg (by omega),if_neg (by omega)]
    omega
  · have t0:t=0:=by omega
    subst t0
    have e1:Dv (Bk s (0*2^52+q))=0:=by rw [hp]; omega
    rw [e1,hf,if_pos rfl,if_pos rfl]
    omega
theorem sign_neg (s:Bool) {r:Nat} (h:r<2^63):Bs (Bk s r)=s:=by
  unfold Bs Bk
  cases s
  · simp only [Bool.false_eq_true,if_false,Ayc]; omega
  · simp only [if_true,Ax0]; omega
theorem Ahj (s:Bool) {V:Nat} {E:Int} (h0:V≠0) (hE:Ch V E≤E) (hi:Ci V E<D8) :
    flagsOf V E=0∧∃ k:Nat,Av (Bk s (Ci V E))=V*2^k∧A2 (Bk s (Ci V E))=E-k:=by
  have hl2:V.log2=V.log2:=rfl
  have ek:kept V E=V*2^(E-Ch V E).toNat:=by
    unfold kept Jz
    have e1:(Ch V E-E).toNat=0:=by omega
    have e2:(-(Ch V E-E)).toNat=(E-Ch V E).toNat:=by omega
    rw [e1,e2,Oc]
  have eex:exact V E=true:=by
    unfold exact Ml
    have e1:(Ch V E-E).toNat=0:=by omega
    rw [e1,Nat.pow_zero,Nat.mod_one]; rfl
  constructor
  · unfold flagsOf flags
    rw [if_neg h0,if_neg (by omega),eex]; rfl
  · have hr:Ci V E=(Ch V E+1074).toNat*2^52+kept V E:=by
      unfold Ci at hi ⊢
      rw [if_neg h0] at hi ⊢
      omega
    have hk:kept V E<2^53:=by
      rw [ek,← Nat.log2_lt (Ip h0),La V _ h0]
      unfold Ch at hE ⊢
      omega
    have hb:2^52≤kept V E∨Ch V E=-1074:=by
      by_cases h:Ch V E=-1074
      · exact .inr h
      · left
        refine Acp h0 ?_
        unfold Ch at h ⊢
        omega
    rw [hr] at hi
    obtain ⟨p1,p2⟩:=Af9 s hk (by unfold Ch; omega) hb hi
    refine ⟨(E-Ch V E).toNat,?_,?_⟩
    · rw [hr,p1,ek]
    · rw [hr,p2]; omega
theorem Ae7 {V:Nat} {E:Int} (h:V<2^53) (hE:-1074≤E):Ch V E≤E:=by
  by_cases h0:V=0
  · subst h0; unfold Ch; rw [Nat.log2_zero]; omega
  · have:=(Nat.log2_lt h0).2 h
    unfold Ch; omega
end Go.Rnd
namespace Go.Rnd
open Go.Den
def E2 (x:Int):Int:=if x=0 then 0 else (x.toNat.log2:Int)+1
def Sb (x y:Int):Int:=((x.toNat*y.toNat / 18446744073709551616:Nat):Int)
def Nj (x y:Int):Int:=((x.toNat*y.toNat%18446744073709551616:Nat):Int)
def Anc (a b:Int):Bool:=decide (Bd a=4)||decide (Bd b=4)
def Ce (b:Nat):Nat:=52-(Av b).log2
def C1 (b:Int):Int:=((Av b.toNat*2^Ce b.toNat:Nat):Int)
def Hb (b:Int):Int:=A2 b.toNat-Ce b.toNat
def L5 (b:Int):Bool:=Cu (Av b.toNat≠0)
def O2 (m e:Int):Bool:=Cu (1152921504606846976≤m∧m<4611686018427387904∧-6000≤e∧e≤6000)
def D1 (a b:Int):Int:=(Nb a.toNat b.toNat).1
def Avg (a b:Int):Int:=(Nb a.toNat b.toNat).2
def Fa (a b:Int):Int:=(Ac1 a.toNat b.toNat).1
def Avm (a b:Int):Int:=(Ac1 a.toNat b.toNat).2
end Go.Rnd
namespace Go.Rnd
theorem Aln (a b:Nat):Ku a b=Ku b a:=by
  unfold Ku
  by_cases ha:Al a=4
  · simp only [ha,true_or,or_true,if_true]
  · by_cases hb:Al b=4
    · simp only [hb,true_or,or_true,if_true]
    · simp only [ha,hb,or_self,if_false]
      by_cases ha3:Al a=3
      · by_cases hb3:Al b=3
        · simp only [ha3,hb3,if_true,true_and]
          by_cases e:a=b
          · subst e; rfl
          · rw [if_pos e,if_pos (fun h=>e h.symm)]
        · simp only [ha3,hb3,if_true,if_false,false_and]
      · by_cases hb3:Al b=3
        · simp only [ha3,hb3,if_true,if_false,false_and]
        · simp only [ha3,hb3,if_false]
          rw [Bool.and_comm,Int.min_comm,Int.add_comm]
theorem Aee {Y D:Nat} (h:Y%2^D=0):Fs Y D=Y / 2^D:=by unfold Fs; rw [if_pos h]
theorem Agr {Y D:Nat} (h:Y%2^D≠0):Fs Y D%2=1:=by unfold Fs; rw [if_neg h]; omega
theorem Aef {Y d:Nat} (hY:Y<2^62) (h:Y%2^d≠0):(Fs Y (min d 63)-1)*2^d<Y∧Y<(Fs Y (min d 63)+1)*2^d∧Fs Y (min d 63)%2=1:=by
  have hA:=Cj d
  by_cases hd:d≤63
  · rw [Nat.min_eq_left hd]
    refine ⟨?_,?_,Agr h⟩
    all_goals
      unfold Fs
      rw [if_neg h]
      have h1:=Nat.div_add_mod Y (2^d)
      have h2:=Nat.mod_lt Y hA
      generalize Y / 2^d=q at *
      generalize Y%2^d=r at *
      generalize 2^d=c at *
      rw [Nat.mul_comm] at h1
    · have h3:(2*(q / 2)+1-1)*c≤q*c:=Ax5 c (by omega)
      omega
    · have h3:(q+1)*c≤(2*(q / 2)+1+1)*c:=Ax5 c (by omega)
      rw [Nat.add_mul,Nat.one_mul] at h3
      omega
  · rw [Nat.min_eq_right (by omega)]
    have h63:Y%2^63=Y:=Ax6 (by omega)
    have hd0:Y / 2^63=0:=Nat.div_eq_of_lt (by omega)
    have hY0:Y≠0:=by intro e; rw [e] at h; simp at h
    have hr:Fs Y 63=1:=by unfold Fs; rw [h63,if_neg hY0,hd0]
    have hp:2^62≤2^d:=Ax8 (by decide) (by omega)
    rw [hr]
    refine ⟨by simp; omega,by omega,rfl⟩
theorem Axg {d M:Nat} (h:(M*2^9)%2^d≠0):10≤d:=by
  refine Nat.lt_of_not_le fun hle=>h ?_
  obtain ⟨k,hk⟩:∃ k,9=d+k:=⟨9-d,by omega⟩
  rw [hk,Nat.pow_add,Nat.mul_comm (2^d),← Nat.mul_assoc,Nat.mul_mod_left]
theorem O0 {V m d:Nat} {e f:Int} (hd:e=f+d) (h:V=m*2^d∨(m%2=1∧(m-1)*2^d<V∧V<(m+1)*2^d∧2^60≤m)) :
    Ci m (e-9)=Ci V (f-9)∧flagsOf m (e-9)=flagsOf V (f-9):=by
  rcases h with rfl | ⟨h1,h2,h3,h4⟩
  · have:=Eb m d (e-9)
    have e1:e-9-(d:Int)=f-9:=by omega
    rw [e1] at this
    exact ⟨this.1.symm,this.2.symm⟩
  · have hm0:m≠0:=by omega
    have hlog:=Qg h1 (by omega) h2 h3
    have hl60:60≤m.log2:=(Nat.le_log2 hm0).2 h4
    have e1:f-9+(d:Int)=e-9:=by omega
    have hle:Ch V (f-9)=Ch m (f-9+d):=by unfold Ch; rw [hlog]; congr 1; omega
    have hk:f-9+d+2≤Ch m (f-9+d):=by unfold Ch; omega
    obtain ⟨a1,a2⟩:=P9 h1 h2 h3 hle hk
    rw [e1] at a1 a2
    exact ⟨a1.symm,a2.symm⟩
theorem Agk (V:Nat) (f:Int):Ci (V*2^9) (f-9)=Ci V f∧flagsOf (V*2^9) (f-9)=flagsOf V f:=Eb V 9 f
structure Arr (Mx My d:Nat) (e f:Int) (X r:Nat):Prop where
  plus:Ci (X+r) (e-9)=Ci (Mx*2^d+My) f∧flagsOf (X+r) (e-9)=flagsOf (Mx*2^d+My) f
  less:r<X→My<Mx*2^d∧Ci (X-r) (e-9)=Ci (Mx*2^d-My) f∧flagsOf (X-r) (e-9)=flagsOf (Mx*2^d-My) f
  more:X<r→Mx*2^d<My∧Ci (r-X) (e-9)=Ci (My-Mx*2^d) f∧flagsOf (r-X) (e-9)=flagsOf (My-Mx*2^d) f
  same:X=r→Mx*2^d=My
  small:r≤2^62
theorem Aro {X My r d p:Nat} {e f:Int} (hd:e=f+d) (comm:X*2^d=p*2^9) (n1:(r-1)*2^d<My*2^9) (n2:My*2^9<r*2^d+2^d) (n3:r%2=1) (hX2:X%2=0) (hX:2^61≤X) (hr:r≤2^53) :
    (Ci (X+r) (e-9)=Ci (p+My) f∧flagsOf (X+r) (e-9)=flagsOf (p+My) f)∧My<p∧Ci (X-r) (e-9)=Ci (p-My) f∧flagsOf (X-r) (e-9)=flagsOf (p-My) f:=by
  have e1:(r-1)*2^d+2^d=r*2^d:=by
    obtain ⟨k,rfl⟩:∃ k,r=k+1:=⟨r-1,by omega⟩
    rw [Nat.add_sub_cancel,Nat.add_mul,Nat.one_mul]
  have e2:(r+1)*2^d=r*2^d+2^d:=by rw [Nat.add_mul,Nat.one_mul]
  have hXd:(r+1)*2^d≤X*2^d:=Ax5 _ (by omega)
  have hlt:My<p:=by rw [e2,comm] at hXd; omega
  have a1:Ci (X+r) (e-9)=Ci ((p+My)*2^9) (f-9)∧flagsOf (X+r) (e-9)=flagsOf ((p+My)*2^9) (f-9):=by
    refine O0 hd (.inr ⟨by omega,?_,?_,by omega⟩)
    · have h1:X+r-1=X+(r-1):=by omega
      rw [h1,Nat.add_mul X (r-1) (2^d),Nat.add_mul p My (2^9),comm]
      exact Nat.add_lt_add_left n1 _
    · have h1:X+r+1=X+(r+1):=by omega
      rw [h1,Nat.add_mul X (r+1) (2^d),Nat.add_mul p My (2^9),comm,e2]
      exact Nat.add_lt_add_left n2 _
  have a2:Ci (X-r) (e-9)=Ci ((p-My)*2^9) (f-9)∧flagsOf (X-r) (e-9)=flagsOf ((p-My)*2^9) (f-9):=by
    rw [e2,comm] at hXd
    refine O0 hd (.inr ⟨by omega,?_,?_,by omega⟩)
    · have h1:X-r-1=X-(r+1):=by omega
      rw [h1,Nat.sub_mul X (r+1) (2^d),Nat.sub_mul p My (2^9),comm,e2]
      omega
    · have h1:X-r+1=X-(r-1):=by omega
      rw [h1,Nat.sub_mul X (r-1) (2^d),Nat.sub_mul p My (2^9),comm]
      omega
  rw [(Agk _ f).1,(Agk _ f).2] at a1 a2
  exact ⟨a1,hlt,a2⟩
theorem Af4 {Mx My d:Nat} {e f:Int} (hd:e=f+d) (hx:Mx<2^53) (hy:My<2^53) (hbig:10≤d→2^52≤Mx) :
    Arr Mx My d e f (Mx*2^9) (Fs (My*2^9) (min d 63)):=by
  have hA:=Cj d
  have hY:My*2^9<2^62:=by omega
  have comm:Mx*2^9*2^d=Mx*2^d*2^9:=by rw [Nat.mul_assoc,Nat.mul_comm (2^9),← Nat.mul_assoc]
  have s9:=fun V=>Agk V f
  by_cases hz:(My*2^9)%2^d=0
  ·
    have hr:∃ r,Fs (My*2^9) (min d 63)=r∧My*2^9=r*2^d:=by
      by_cases hd63:d≤63
      · rw [Nat.min_eq_left hd63]
        exact ⟨_,rfl,by rw [Aee hz]; exact (Nat.div_mul_cancel (Nat.dvd_of_mod_eq_zero hz)).symm⟩
      · have hp:2^62≤2^d:=Ax8 (by decide) (by omega)
        have:My*2^9=0:=by rw [Ax6 (by omega)] at hz; exact hz
        rw [Nat.min_eq_right (by omega),this]
        exact ⟨0,by decide,by omega⟩
    obtain ⟨r,hr,hYr⟩:=hr
    rw [hr]
    have hle:r≤2^62:=by
      have:r*1≤r*2^d:=Nat.mul_le_mul_left r hA
      omega
    have cmp:∀ x y:Nat,x*2^d<y*2^d↔x<y:=fun x y=>Nat.mul_lt_mul_right hA
    refine ⟨?_,fun h=>?_,fun h=>?_,fun h=>?_,hle⟩
    · rw [← (s9 _).1,← (s9 _).2]
      exact O0 hd (.inl (by rw [Nat.add_mul (Mx*2^d) My (2^9),Nat.add_mul (Mx*2^9) r (2^d),comm,hYr]))
    · have h1:=(cmp r (Mx*2^9)).2 h
      refine ⟨by omega,?_⟩
      rw [← (s9 _).1,← (s9 _).2]
      exact O0 hd (.inl (by first | rw [Nat.sub_mul (Mx*2^d) My (2^9),Nat.sub_mul (Mx*2^9) r (2^d),comm,hYr] | rw [Nat.sub_mul My (Mx*2^d) (2^9),Nat.sub_mul r (Mx*2^9) (2^d),comm,hYr]))
    · have h1:=(cmp (Mx*2^9) r).2 h
      refine ⟨by omega,?_⟩
      rw [← (s9 _).1,← (s9 _).2]
      exact O0 hd (.inl (by first | rw [Nat.sub_mul (Mx*2^d) My (2^9),Nat.sub_mul (Mx*2^9) r (2^d),comm,hYr] | rw [Nat.sub_mul My (Mx*2^d) (2^9),Nat.sub_mul r (Mx*2^9) (2^d),comm,hYr]))
    · rw [← h] at hYr
      omega
  ·
    have hd10:=Axg hz
    have hMx:=hbig hd10
    obtain ⟨n1,n2,n3⟩:=Aef hY hz
    have hrle:Fs (My*2^9) (min d 63)≤2^53:=by
      refine Nat.le_of_not_lt fun h=>?_
      have h1:2^53*2^d≤(Fs (My*2^9) (min d 63)-1)*2^d:=Ax5 _ (by omega)
      have h2:2^10≤2^d:=Ax8 (by decide) hd10
      have h3:2^53*2^10≤2^53*2^d:=Nat.mul_le_mul_left _ h2
      omega
    generalize Fs (My*2^9) (min d 63)=r at *
    have hr1:1≤r:=by omega
    have e1:(r-1)*2^d+2^d=r*2^d:=by
      obtain ⟨k,rfl⟩:∃ k,r=k+1:=⟨r-1,by omega⟩
      rw [Nat.add_sub_cancel,Nat.add_mul,Nat.one_mul]
    have e2:(r+1)*2^d=r*2^d+2^d:=by rw [Nat.add_mul,Nat.one_mul]
    rw [e2] at n2
    have hXr:r<Mx*2^9:=by omega
    have hXd:(r+1)*2^d≤Mx*2^9*2^d:=Ax5 _ (by omega)
    rw [e2,comm] at hXd
    obtain ⟨p1,p2,p3⟩:=Aro hd comm n1 n2 n3 (by omega) (by omega) hrle
    exact ⟨p1,fun _=>⟨p2,p3⟩,fun h=>by omega,fun h=>by omega,by omega⟩
theorem V6 (n:Bool) (m:Nat) (e:Int):Gf n m e false=(Bk n (Ci m e),flagsOf m e):=by
  unfold Gf
  have:=Eb m 2 e
  have e1:m*2^2=4*m+false.toNat:=by simp; omega
  have e2:e-((2:Nat):Int)=e-2:=by omega
  rw [e1,e2] at this
  rw [this.1,this.2]
theorem Rc (E:Int):Ci 0 E=0:=if_pos rfl
theorem Pl (E:Int):flagsOf 0 E=0:=if_pos rfl
theorem Qq {b:Nat} (h:J4 b=true):Al b≠4∧Al b≠3:=by
  unfold J4 at h
  simp only [Ax0] at h
  unfold Al
  rw [if_neg (by omega)]
  split
  · omega
  · split<;>omega
theorem Aar {b:Nat} (h:-1064≤A2 b):2^52≤Av b:=by
  unfold A2 at h
  unfold Av
  split at h
  · omega
  · rw [if_neg (by assumption)]; omega
theorem Sk (z:Nat) (s:Bool) {V:Nat} (hV:V≠0) (f:Int):O9 z (H2 s V) f=(Bk s (Ci V f),flagsOf V f):=by
  unfold O9 H2
  cases s
  · have h1:¬ (V:Int)=0:=by omega
    have h2:¬ (V:Int)<0:=by omega
    simp only [Bool.false_eq_true,if_false,h1,h2,decide_false,Int.natAbs_natCast]
  · have h1:¬ -(V:Int)=0:=by omega
    have h2:-(V:Int)<0:=by omega
    simp only [if_true,h1,if_false,h2,decide_true,Int.natAbs_neg,Int.natAbs_natCast]
theorem Arp {p q X r:Nat} {e f:Int} (s t:Bool)
    (plus:Ci (X+r) e=Ci (p+q) f∧flagsOf (X+r) e=flagsOf (p+q) f)
    (less:r<X→q<p∧Ci (X-r) e=Ci (p-q) f∧flagsOf (X-r) e=flagsOf (p-q) f)
    (more:X<r→p<q∧Ci (r-X) e=Ci (q-p) f∧flagsOf (r-X) e=flagsOf (q-p) f)
    (same:X=r→p=q) :
    O9 (Bk (s&&t) 0) (H2 s p+H2 t q) f=(if s=t then Gf s (X+r) e false
      else if r<X then Gf s (X-r) e false
      else if X<r then Gf t (r-X) e false
      else (0,0)):=by
  simp only [V6]
  by_cases hs:s=t
  · rw [if_pos hs,← hs]
    have hsum:H2 s p+H2 s q=H2 s (p+q):=by unfold H2; cases s<;>simp<;>omega
    rw [hsum,plus.1,plus.2]
    by_cases h0:p+q=0
    · rw [h0,Rc,Pl]
      unfold O9
      have:H2 s 0=0:=by unfold H2; cases s<;>rfl
      rw [if_pos this,Axz]
    · exact Sk _ _ h0 _
  · rw [if_neg hs]
    by_cases h1:r<X
    · obtain ⟨c1,c2,c3⟩:=less h1
      rw [if_pos h1,c2,c3]
      have hsum:H2 s p+H2 t q=H2 s (p-q):=by
        unfold H2; cases s<;>cases t<;>simp at hs ⊢<;>omega
      rw [hsum]
      exact Sk _ _ (by omega) _
    · rw [if_neg h1]
      by_cases h2:X<r
      · obtain ⟨c1,c2,c3⟩:=more h2
        rw [if_pos h2,c2,c3]
        have hsum:H2 s p+H2 t q=H2 t (q-p):=by
          unfold H2; cases s<;>cases t<;>simp at hs ⊢<;>omega
        rw [hsum]
        exact Sk _ _ (by omega) _
      · rw [if_neg h2]
        have c:=same (by omega)
        have hsum:H2 s p+H2 t q=0:=by
          unfold H2; cases s<;>cases t<;>simp at hs ⊢<;>omega
        have hz:(s&&t)=false:=by cases s<;>cases t<;>simp at hs ⊢
        rw [hsum,hz]
        rfl
theorem Ao9 {a b:Nat} (ha:J4 a=true) (hb:J4 b=true) :
    Ku a b=O9 (Bk (Bs a&&Bs b) 0) (Jv a (min (A2 a) (A2 b))+Jv b (min (A2 a) (A2 b))) (min (A2 a) (A2 b)):=by
  have k1:=Qq ha
  have k2:=Qq hb
  unfold Ku
  rw [if_neg (fun h=>h.elim k1.1 k2.1),if_neg k1.2,if_neg k2.2]
theorem Aga (b:Nat):Jv b (A2 b)=H2 (Bs b) (Av b):=by
  unfold Jv; rw [Int.sub_self,Int.toNat_zero,Nat.pow_zero,Nat.mul_one]
theorem Alx {b:Nat} {f:Int} {d:Nat} (h:A2 b=f+d):Jv b f=H2 (Bs b) (Av b*2^d):=by
  unfold Jv
  have:(A2 b-f).toNat=d:=by omega
  rw [this]
theorem Af3 {a b:Nat} (ha:J4 a=true) (hb:J4 b=true) {d:Nat} (hd:A2 a=A2 b+d) :
    Ku a b=(if Bs a=Bs b then Gf (Bs a) (Av a*2^9+Fs (Av b*2^9) (min d 63)) (A2 a-9) false
      else if Fs (Av b*2^9) (min d 63)<Av a*2^9 then Gf (Bs a) (Av a*2^9-Fs (Av b*2^9) (min d 63)) (A2 a-9) false
      else if Av a*2^9<Fs (Av b*2^9) (min d 63) then Gf (Bs b) (Fs (Av b*2^9) (min d 63)-Av a*2^9) (A2 a-9) false
      else (0,0)):=by
  have hx:=E9 a
  have hy:=E9 b
  have C:=Af4 (Mx:=Av a) (My:=Av b) hd hx hy (fun h=>Aar (by have:=El b; omega))
  rw [Ao9 ha hb,Int.min_eq_right (by omega),Aga,Alx hd]
  exact Arp _ _ C.plus C.less C.more C.same
theorem Vi {b:Nat} (h:b<2^64):Hf b<2^64:=by unfold Hf; split<;>omega
theorem Ahh (m:Nat) (e:Int):flagsOf m e<32:=by
  unfold flagsOf flags
  split
  · decide
  · split
    · decide
    · split
      · decide
      · split<;>decide
theorem Uz {a b:Nat} (ha:a<2^64) (hb:b<2^64):(Ku a b).1<2^64∧(Ku a b).2<32:=by
  unfold Ku
  split
  · exact ⟨by decide,by decide⟩
  · split
    · split
      · decide
      · exact ⟨ha,(by decide:0<32)⟩
    · split
      · exact ⟨hb,(by decide:0<32)⟩
      · unfold O9
        split
        · refine ⟨?_,(by decide:0<32)⟩
          unfold Bk; split<;>decide
        · exact ⟨Tn _ _ _,Ahh _ _⟩
end Go.Rnd
namespace Go.Rnd
open Go.Den
def B5 (r c:Nat) (f:Nat→Nat→Int):List Int:=(List.range (r*c)).map fun j=>f (j / c) (j%c)
theorem B8 (r c:Nat) (f:Nat→Nat→Int):(B5 r c f).length=r*c:=by unfold B5; rw [List.length_map,List.length_range]
theorem Kk {r c i k:Nat} (hi:i<r) (hk:k<c):i*c+k<r*c:=by
  have:(i+1)*c≤r*c:=Ax5 c hi
  rw [Nat.add_mul,Nat.one_mul] at this
  omega
theorem Vc {c i k:Nat} (hk:k<c):(i*c+k) / c=i∧(i*c+k)%c=k:=by
  constructor
  · rw [Nat.mul_comm,Nat.mul_add_div (by omega),Nat.div_eq_of_lt hk,Nat.add_zero]
  · rw [Nat.mul_comm,Nat.mul_add_mod,Ax6 hk]
theorem Hw {r c:Nat} {f:Nat→Nat→Int} {j:Nat} (h:j<r*c):(B5 r c f)[j]?=some (f (j / c) (j%c)):=by
  unfold B5
  rw [List.getElem?_map,List.getElem?_range h]
  rfl
theorem An8 {r c i k:Nat} {f:Nat→Nat→Int} (hi:i<r) (hk:k<c):(B5 r c f).getD (i*c+k) 0=f i k:=by
  obtain ⟨d1,d2⟩:=Vc (i:=i) hk
  rw [Ax3,Hw (Kk hi hk),d1,d2]
  rfl
theorem Ui {l m:List Int} (h:l.length=m.length) (he:∀ j,j<l.length→l[j]?=m[j]?):l=m:=by
  refine List.ext_getElem? fun j=>?_
  by_cases hj:j<l.length
  · exact he j hj
  · rw [List.getElem?_eq_none (by omega),List.getElem?_eq_none (by omega)]
theorem D4 {r c:Nat} {f g:Nat→Nat→Int} (h:∀ i k,i<r→k<c→f i k=g i k):B5 r c f=B5 r c g:=by
  refine Ui (by rw [B8,B8]) fun j hj=>?_
  rw [B8] at hj
  have hc:0<c:=by
    rcases Nat.eq_zero_or_pos c with h0 | h0
    · subst h0; rw [Nat.mul_zero] at hj; omega
    · exact h0
  rw [Hw hj,Hw hj,h (j / c) (j%c) ((Nat.div_lt_iff_lt_mul hc).2 hj) (Nat.mod_lt _ hc)]
theorem Akz {r c:Nat} {l:List Int} (h:l.length=r*c):l=B5 r c fun i k=>l.getD (i*c+k) 0:=by
  refine Ui (by rw [B8,h]) fun j hj=>?_
  rw [Hw (by omega)]
  have e:j / c*c+j%c=j:=by rw [Nat.mul_comm]; exact Nat.div_add_mod j c
  rw [e,Ax3,Aya hj]
  rfl
theorem Uo {r c i k:Nat} {f:Nat→Nat→Int} (hk:k<c) (x:Int) :
    (B5 r c f).set (i*c+k) x=B5 r c fun a b=>if a=i∧b=k then x else f a b:=by
  refine Ui (by rw [List.length_set,B8,B8]) fun j hj=>?_
  rw [List.length_set,B8] at hj
  obtain ⟨d1,d2⟩:=Vc (i:=i) hk
  rw [Hw hj,List.getElem?_set]
  by_cases h:i*c+k=j
  · subst h
    rw [if_pos rfl,if_pos (by rw [B8]; exact hj),d1,d2,if_pos ⟨rfl,rfl⟩]
  · rw [if_neg h,Hw hj,if_neg]
    rintro ⟨h1,h2⟩
    exact h (by rw [← h1,← h2,Nat.mul_comm]; exact Nat.div_add_mod j c)
theorem Mk (r c:Nat) (f:Nat→Nat→Int):B5 (r+1) c f=B5 r c f++(List.range c).map (f r):=by
  unfold B5
  rw [Nat.add_mul,Nat.one_mul,List.range_add,List.map_append,List.map_map]
  congr 1
  refine List.map_congr_left fun k hk=>?_
  have hk:=List.mem_range.1 hk
  obtain ⟨d1,d2⟩:=Vc (i:=r) hk
  show f ((r*c+k) / c) ((r*c+k)%c)=f r k
  rw [d1,d2]
theorem Kq (c:Nat) (f:Nat→Nat→Int):B5 0 c f=[]:=by
  unfold B5; rw [Nat.zero_mul]; rfl
theorem Gz (k:Nat) (g:Nat→Int):(List.range (k+1)).map g=(List.range k).map g++[g k]:=by
  rw [List.range_succ,List.map_append]; rfl
theorem Sz (r c:Nat):B5 r c (fun _ _=>0)=List.replicate (r*c) 0:=by
  unfold B5
  rw [List.map_const',List.length_range]
def Acz:Nat→List Int→List Int→Nat
  | s,x::xs,y::ys=>Acz (Ku s (Nb x.toNat y.toNat).1).1 xs ys
  | s,_,_=>s
def I9 (x y:List Int):Int:=Acz 0 x y
theorem Rg {a b:Nat}:(Nb a b).1<2^64:=by
  unfold Nb
  split
  · decide
  · split
    · split
      · decide
      · unfold Bk; split<;>decide
    · exact Tn _ _ _
theorem Acy:∀ (x y:List Int) (s:Nat),s<2^64→Acz s x y<2^64
  | x::xs,y::ys,s,h=>Acy xs ys _ (Uz h Rg).1
  | [],_,_,h=>by unfold Acz; exact h
  | _::_,[],_,h=>by unfold Acz; exact h
end Go.Rnd
namespace Go.Rnd
open Go.Den
def Bg (n:Int):Bool:=decide (0≤n)&&decide (n≤6)
def A0 (r c:Int) (l:List Int):Bool:=(Bg r&&Bg c)&&decide ((l.length:Int)=r*c)
def Ks (r c:Int) (l:List Int):Int:=if A0 r c l=true then 0 else 1
def Xh (r c:Int) (l:List Int) (p q:Int) (m:List Int):Int:=if (A0 r c l&&A0 p q m)=true then 0 else 1
def Cw (_r c:Int) (l:List Int) (i k:Int):Bool:=Cu (0≤i∧i<10∧0≤k∧k<10∧0≤c∧c<10∧i*c+k<l.length∧l.length<1000)
def D6 (c:Int) (l:List Int) (i k:Int):Int:=l.getD (i*c+k).toNat 0
def Nc (i k:Int):Int:=if i=k then 4607182418800017408 else 0
def U6 (x y i k:Int):Bool:=Cu (0≤x∧x<10∧0≤y∧y<10∧0≤i∧i<10∧0≤k∧k<10)
def Hs (r c x y a b:Int):Bool:=decide (0≤x∧0≤y∧0≤a∧0≤b∧x≤r∧y≤c∧a≤r-x∧b≤c-y)
def Mo (r c:Int) (l:List Int) (p q:Int) (m:List Int) (i k:Int):Bool:=Cu (0≤r∧r<10∧0≤i∧i<20∧(if i<r then Cw r c l i k=true else Cw p q m (i-r) k=true))
def I4 (r c:Int) (l:List Int) (q:Int) (m:List Int) (i k:Int):Int:=if i<r then D6 c l i k else D6 q m (i-r) k
def O8 (r c:Int) (l:List Int) (i:Int):Bool:=A0 r c l&&Cu (0≤i∧i<r)
def G4 (r c:Int) (l:List Int) (k:Int):Bool:=A0 r c l&&Cu (0≤k∧k<c)
def Sr (r c:Int) (l:List Int) (p q:Int) (m:List Int) (i k:Int):Bool:=(O8 r c l i&&G4 p q m k)&&((Ai l&&Ai m)&&Cu (c=p))
def G8 (c:Int) (l:List Int) (i:Int):List Int:=List.drop (i*c).toNat (List.take ((i+1)*c).toNat l)
def Kd (r c:Int) (l:List Int) (k:Int):List Int:=(List.range r.toNat).map fun j:Nat=>D6 c l (j:Int) k
abbrev MX:=Int × Int × List Int × Int
def Ke (e:Int):MX:=(0,0,[],e)
def Cx (a b:Int):MX:=if (Bg a&&Bg b)=true then (a,b,B5 a.toNat b.toNat fun _ _=>0,0) else Ke 3
def Mw (n:Int):MX:=if Bg n=true then (n,n,B5 n.toNat n.toNat fun i k=>Nc i k,0) else Ke 3
def Fm (r c:Int) (l:List Int):MX:=if A0 r c l=true then (c,r,B5 c.toNat r.toNat fun i k=>D6 c l k i,0) else Ke 1
def Im (r c:Int) (l:List Int) (x y a b:Int):MX :=
  if A0 r c l=true then (if Hs r c x y a b=true then (a,b,B5 a.toNat b.toNat fun i k=>D6 c l (x+i) (y+k),0) else Ke 3) else Ke 1
def R3 (r c:Int) (l:List Int) (p q:Int) (m:List Int):MX :=
  if (A0 r c l&&A0 p q m)=true then (if c=p then (r,q,B5 r.toNat q.toNat fun i k=>I9 (G8 c l i) (Kd p q m k),0) else Ke 3) else Ke 1
def Au8 (r c:Int) (l:List Int) (p q:Int) (m:List Int):MX :=
  if (A0 r c l&&A0 p q m)=true then (if r=p∧c=q then (r,c,B5 r.toNat c.toNat fun i k=>Eu (D6 c l i k) (D6 q m i k),0) else Ke 3) else Ke 1
def Dw (r c:Int) (l:List Int) (p q:Int) (m:List Int):MX :=
  if (A0 r c l&&A0 p q m)=true then (if c=q∧r+p≤6 then (r+p,c,B5 (r+p).toNat c.toNat fun i k=>I4 r c l q m i k,0) else Ke 3) else Ke 1
def Ow (x y:List Int):Bool:=decide (x.length=y.length)&&decide (x.length≤64)
def Tu (x y:List Int):Bool:=decide (x=y)
def V3 (r c:Int) (l:List Int) (p q:Int) (m:List Int):Bool:=(decide (r=p)&&decide (c=q))&&decide (l=m)
def Mt (l:List Int):Bool:=Cu (l.length≤17592186044416)
theorem Ij {n:Int}:Bg n=true↔0≤n∧n≤6:=by unfold Bg; simp
theorem Hv {r c:Int} {l:List Int}:A0 r c l=true↔(0≤r∧r≤6)∧(0≤c∧c≤6)∧(l.length:Int)=r*c:=by
  unfold A0
  rw [Ax4,Ax4,Ij,Ij,Ax0,and_assoc]
theorem Cc {r c:Int} {l:List Int} (h:A0 r c l=true):∃ R C:Nat,r=R∧c=C∧R≤6∧C≤6∧l.length=R*C:=by
  obtain ⟨h1,h2,h3⟩:=Hv.1 h
  refine ⟨r.toNat,c.toNat,by omega,by omega,by omega,by omega,?_⟩
  have:(((r.toNat*c.toNat:Nat)):Int)=r*c:=by rw [Aye,Int.toNat_of_nonneg h1.1,Int.toNat_of_nonneg h2.1]
  omega
theorem Ek {n:Int} (h:Bg n=true):∃ R:Nat,n=R∧R≤6:=by
  have:=Ij.1 h
  exact ⟨n.toNat,by omega,by omega⟩
theorem Nh {n:Nat} (h:n≤6):Bg (n:Int)=true:=Ij.2 ⟨by omega,by omega⟩
theorem Fe {r c:Nat} {l:List Int} (hr:r≤6) (hc:c≤6) (hl:l.length=r*c):A0 (r:Int) (c:Int) l=true :=
  Hv.2 ⟨⟨by omega,by omega⟩,⟨by omega,by omega⟩,by rw [hl,Aye]⟩
theorem Rr (c:Nat) (l:List Int) (i k:Nat):D6 (c:Int) l (i:Int) (k:Int)=l.getD (i*c+k) 0:=by
  unfold D6
  have:((i:Int)*(c:Int)+(k:Int)).toNat=i*c+k:=by
    rw [← Aye,← Int.natCast_add,Axv]
  rw [this]
theorem Dq {r c i k:Nat} {R:Int} {l:List Int} (hr:r≤6) (hc:c≤6) (hl:l.length=r*c) (hi:i<r) (hk:k<c):Cw R (c:Int) l (i:Int) (k:Int)=true:=by
  have:=Kk hi hk
  have h36:=Nat.mul_le_mul hr hc
  refine Ar.2 ⟨by omega,by omega,by omega,by omega,by omega,by omega,?_,by omega⟩
  rw [← Aye]
  omega
theorem Aq0 {r c i k:Nat} {f:Nat→Nat→Int} (hi:i<r) (hk:k<c):D6 (c:Int) (B5 r c f) (i:Int) (k:Int)=f i k:=by
  rw [Rr,An8 hi hk]
theorem Pj {r c:Nat} (f:Nat→Nat→Int) (hr:r≤6) (hc:c≤6):A0 (r:Int) (c:Int) (B5 r c f)=true:=Fe hr hc (B8 r c f)
theorem Vm {r c:Nat} {l:List Int} (h:l.length=r*c):(B5 r c fun i k=>D6 (c:Int) l (i:Int) (k:Int))=l:=by
  conv=>rhs; rw [Akz h]
  exact D4 fun i k _ _=>Rr c l i k
theorem Pv {l:List Int} (h:Ai l=true) {j:Nat} (hj:j<l.length):Af (l.getD j 0)=true:=by
  have h:=Ar.1 h
  rw [Ax3,Aya hj]
  exact h _ (List.getElem_mem hj)
end Go.Rnd
namespace Go.Rnd
theorem Mg {b:Nat} (h:b<2^64):Bk (Bs b) (b%2^63)=b:=by
  unfold Bk Bs
  by_cases hb:2^63≤b
  · simp only [hb,decide_true,if_true]; omega
  · simp only [hb,decide_false,Bool.false_eq_true,if_false]; omega
theorem Afh {b:Nat} (h:b<2^64) (h4:Al b≠4):Bk (Bs b) (Ci (Av b) (A2 b))=b:=by
  rw [Rd h4,Mg h]
theorem Ak2 {b:Nat} (h3:Al b≠3) (h4:Al b≠4):flagsOf (Av b) (A2 b)=0:=by
  by_cases h0:Av b=0
  · rw [h0]; exact Pl _
  · have h1:=E9 b
    have h2:=El b
    have h5:=Um h3 h4
    exact (Ahj false h0 (Ae7 (by omega) h2.1) (by rw [Rd h4]; exact h5)).1
theorem mul_pow {a p:Nat} (a3:Al a≠3) (a4:Al a≠4) (p3:Al p≠3) (p4:Al p≠4) (hp:Av p=2^52) (hn:Bs p=false) :
    Nb a p=(Bk (Bs a) (Ci (Av a) (A2 a+A2 p+52)),flagsOf (Av a) (A2 a+A2 p+52)):=by
  obtain ⟨s1,s2⟩:=Eb (Av a) 52 (A2 a+A2 p+52)
  have e:A2 a+A2 p+52-((52:Nat):Int)=A2 a+A2 p:=by omega
  rw [e] at s1 s2
  have e2:(Bs a !=false)=Bs a:=by cases Bs a<;>rfl
  unfold Nb
  rw [if_neg (by omega),if_neg (by omega),hp,hn,s1,s2,e2]
theorem Amz:Av 4607182418800017408=2^52∧A2 4607182418800017408=-52∧Al 4607182418800017408=2∧Bs 4607182418800017408=false:=by decide +kernel
theorem mul_one {a:Nat} (h:a<2^64) (a3:Al a≠3) (a4:Al a≠4):Nb a 4607182418800017408=(a,0):=by
  obtain ⟨o1,o2,o3,o4⟩:=Amz
  have e:A2 a+-52+52=A2 a:=by omega
  rw [mul_pow a3 a4 (by omega) (by omega) o1 o4,o2,e,Afh h a4,Ak2 a3 a4]
end Go.Rnd
namespace Go.Rnd
def Sy (n:Nat):Nat:=Ieee.Datum.rootFrom n (n.log2 / 2+1) 0
theorem Ap0 (k:Nat):1 <<< k=2^k:=by rw [Nat.shiftLeft_eq,Nat.one_mul]
theorem U7 {n:Nat}:∀ (todo root:Nat),root*root≤n→n<(root+2^todo)*(root+2^todo) →
    Ieee.Datum.rootFrom n todo root*Ieee.Datum.rootFrom n todo root≤n∧n<(Ieee.Datum.rootFrom n todo root+1)*(Ieee.Datum.rootFrom n todo root+1)
  | 0,root,h1,h2=>⟨h1,h2⟩
  | todo+1,root,h1,h2=>by
    unfold Ieee.Datum.rootFrom
    simp only [Ap0]
    have hp:2^(todo+1)=2^todo+2^todo:=by rw [Nat.pow_succ]; omega
    rw [hp] at h2
    by_cases h:(root+2^todo)*(root+2^todo)≤n
    · rw [if_pos h]
      exact U7 todo _ h (by rw [Nat.add_assoc]; exact h2)
    · rw [if_neg h]
      exact U7 todo _ h1 (by omega)
theorem Qm (n:Nat):Sy n*Sy n≤n∧n<(Sy n+1)*(Sy n+1):=by
  refine U7 _ _ (by simp) ?_
  rw [Nat.zero_add,← Nat.pow_add]
  rcases Nat.eq_zero_or_pos n with rfl | hn
  · decide
  · refine (Nat.log2_lt (by omega)).1 ?_
    omega
theorem Ad3 {a b:Nat} (h:a*a<b*b):a<b:=by
  rcases Nat.lt_or_ge a b with h1 | h1
  · exact h1
  · have:=Nat.mul_le_mul h1 h1; omega
theorem Yw {n w:Nat} (h1:w*w≤n) (h2:n<(w+1)*(w+1)):w=Sy n:=by
  obtain ⟨a,b⟩:=Qm n
  have c1:=Ad3 (Nat.lt_of_le_of_lt h1 b)
  have c2:=Ad3 (Nat.lt_of_le_of_lt a h2)
  omega
theorem An0 {n w:Nat} (h:w*w≤n):w≤Sy n:=by
  have:=Ad3 (Nat.lt_of_le_of_lt h (Qm n).2)
  omega
def Gg (n:Nat):Nat:=2*Sy n+(if Sy n*Sy n=n then 0 else 1)
theorem U5 (a c:Nat):a*c*(a*c)=a*a*(c*c):=by
  rw [Nat.mul_assoc,Nat.mul_left_comm c,← Nat.mul_assoc a a]
theorem Aal {n:Nat} (d:Nat) (E:Int) (h:2^53≤Sy n) :
    Ci (Gg (n*(2^d*2^d))) (E-d)=Ci (Gg n) E∧flagsOf (Gg (n*(2^d*2^d))) (E-d)=flagsOf (Gg n) E:=by
  have hA:=Cj d
  obtain ⟨h1,h2⟩:=Qm n
  unfold Gg
  generalize hw:Sy n=w at *
  generalize hc:2^d=c at *
  have hcc:0<c*c:=Nat.mul_pos hA hA
  by_cases h0:w*w=n
  · have e1:Sy (n*(c*c))=w*c:=by
      refine (Yw ?_ ?_).symm
      · rw [U5,h0]; exact Nat.le_refl _
      · have:=U5 w c
        rw [h0] at this
        rw [Nat.add_mul,Nat.mul_add,this]; omega
    rw [e1,U5,h0,if_pos rfl,if_pos rfl]
    have:=Eb (2*w+0) d E
    rw [hc,show (2*w+0)*c=2*(w*c)+0 by rw [Nat.add_zero,Nat.add_zero,Nat.mul_assoc]] at this
    exact this
  · rw [if_neg h0]
    obtain ⟨g1,g2⟩:=Qm (n*(c*c))
    have q1:w*c≤Sy (n*(c*c)):=An0 (by rw [U5]; exact Ax5 _ h1)
    have q2:Sy (n*(c*c))<(w+1)*c:=by
      refine Ad3 (Nat.lt_of_le_of_lt g1 ?_)
      rw [U5]
      exact (Nat.mul_lt_mul_right hcc).2 h2
    have q3:Sy (n*(c*c))=w*c→Sy (n*(c*c))*Sy (n*(c*c))≠n*(c*c):=fun h5 h6=>by
      rw [h5,U5] at h6
      exact h0 (Nat.eq_of_mul_eq_mul_right hcc h6)
    generalize hQ:Sy (n*(c*c))=Q at *
    have p1:(2*w+1-1)*c=2*(w*c):=by rw [Nat.add_sub_cancel,Nat.mul_assoc]
    have p2:(2*w+1+1)*c=2*((w+1)*c):=by rw [show 2*w+1+1=2*(w+1) by omega,Nat.mul_assoc]
    have od:(2*w+1)%2=1:=by omega
    generalize hV:2*Q+(if Q*Q=n*(c*c) then 0 else 1)=V
    have v1:(2*w+1-1)*2^d<V:=by
      rw [hc,p1,← hV]
      by_cases h5:Q=w*c
      · rw [if_neg (q3 h5)]; omega
      · split<;>omega
    have v2:V<(2*w+1+1)*2^d:=by
      rw [hc,p2,← hV]
      split<;>omega
    have lV:=Qg od (by omega) v1 v2
    have hs:54≤(2*w+1).log2:=by rw [Nat.le_log2 (by omega)]; omega
    have ee:E-(d:Int)+d=E:=by omega
    have:=P9 (E:=E-d) od v1 v2 (by unfold Ch; rw [lV]; omega) (by unfold Ch; omega)
    rw [ee] at this
    exact this
theorem Acq {n t:Nat} (h:2^(t+t)≤n):2^t≤Sy n:=An0 (by rw [← Nat.pow_add]; exact h)
theorem pow_two (k d:Nat):2^(k+2*d)=2^k*(2^d*2^d):=by rw [Nat.pow_add,Nat.two_mul,Nat.pow_add]
theorem Aam {m k l:Nat} {E F:Int} (h1:2^106≤m*2^k) (h2:2^106≤m*2^l) (he:2*E+k=2*F+l) :
    Ci (Gg (m*2^k)) E=Ci (Gg (m*2^l)) F∧flagsOf (Gg (m*2^k)) E=flagsOf (Gg (m*2^l)) F:=by
  rcases Nat.le_total k l with h | h
  · obtain ⟨d,rfl⟩:∃ d,l=k+2*d:=⟨(l-k) / 2,by omega⟩
    have:=Aal (n:=m*2^k) d E (Acq (t:=53) h1)
    rw [Nat.mul_assoc,← pow_two,show E-(d:Int)=F by omega] at this
    exact ⟨this.1.symm,this.2.symm⟩
  · obtain ⟨d,rfl⟩:∃ d,k=l+2*d:=⟨(k-l) / 2,by omega⟩
    have:=Aal (n:=m*2^l) d F (Acq (t:=53) h2)
    rw [Nat.mul_assoc,← pow_two,show F-(d:Int)=E by omega] at this
    exact this
def Lr (b:Nat):Nat:=128+(A2 b%2).toNat
def N9 (b:Nat):Nat × Nat :=
  if Al b=4 then (P0,0)
  else if Al b=0∨b=D8 then (b,0)
  else if Bs b=true then (P0,16)
  else (Ci (Gg (Av b*2^Lr b)) ((A2 b-Lr b) / 2-1),flagsOf (Gg (Av b*2^Lr b)) ((A2 b-Lr b) / 2-1))
theorem He {b:Nat} (h3:Al b≠3) (h4:Al b≠4):Av b=0↔Al b=0:=by
  have:=J2 b
  have:=Jb b
  unfold Av
  unfold Al at *
  split at h3<;>split<;>(try split)<;>(try split)<;>simp_all<;>omega
theorem Xp {b:Nat} (h:Al b=4):N9 b=(P0,0):=if_pos h
theorem N8 {b:Nat} (h4:Al b≠4) (h:Al b=0∨b=D8):N9 b=(b,0):=by unfold N9; rw [if_neg h4,if_pos h]
theorem Tl {b:Nat} (h4:Al b≠4) (h:¬ (Al b=0∨b=D8)) (hn:Bs b=true):N9 b=(P0,16):=by unfold N9; rw [if_neg h4,if_neg h,if_pos hn]
theorem Ad2 {b:Nat} (h4:Al b≠4) (h:¬ (Al b=0∨b=D8)) (hn:Bs b=false) :
    N9 b=(Ci (Gg (Av b*2^Lr b)) ((A2 b-Lr b) / 2-1),flagsOf (Gg (Av b*2^Lr b)) ((A2 b-Lr b) / 2-1)):=by
  unfold N9; rw [if_neg h4,if_neg h,if_neg (by rw [hn]; decide)]
theorem Aqy:Bs D8=false:=by decide
theorem An3:Al D8=3:=by decide
theorem Kt:Dt D8=D8:=by decide
theorem Ale {d:Nat} (h:Al d=4):Dt d=P0:=if_pos h
theorem Ad1 (b d:Nat) (x:Ieee.Datum) (h:Ieee.double.read b=x):(Ieee.double.sqrt b).getD d=((x.root 54).map Ieee.double.write).getD d:=by
  rw [← h]; rfl
theorem Tm (r:Nat):Bk false r=r:=rfl
def Ol (m:Nat) (i:Int):Nat:=2*54-m.log2+((i-((2*54-m.log2:Nat):Int))%2).toNat
theorem Amn {m:Nat} {i:Int} (h:m≠0):(Ieee.Datum.number false m i).root 54=some (.number false (2*Ieee.Datum.rootFrom (m <<< Ol m i) ((m <<< Ol m i).log2 / 2+1) 0+(Ieee.Datum.rootFrom (m <<< Ol m i) ((m <<< Ol m i).log2 / 2+1) 0*Ieee.Datum.rootFrom (m <<< Ol m i) ((m <<< Ol m i).log2 / 2+1) 0 !=m <<< Ol m i).toNat) ((i-Ol m i) / 2-1)):=by
  unfold Ieee.Datum.root Ol
  dsimp only
  rw [if_neg h,if_neg (by decide)]
theorem Asw {m:Nat} {i:Int} {d:Nat} (h:m≠0) (hlog:m.log2≤52) (r:Int) (k:Nat) (hk:2^106≤m*2^k) (hr:2*r+k=i-2) :
    Dt ((((Ieee.Datum.number false m i).root 54).map Ieee.double.write).getD d)=Ci (Gg (m*2^k)) r:=by
  have hpow:2^m.log2≤m:=Nat.log2_self_le h
  have hmo:108≤m.log2+Ol m i∧(i-Ol m i)%2=0:=by unfold Ol; omega
  rw [Amn h,Option.map_some,Option.getD_some,Me,Gq _ (Kw _ _),Tm]
  generalize Ol m i=more at *
  have g1:2^106≤m*2^more:=by
    have:2^108≤2^(m.log2+more):=Ax8 (by decide) hmo.1
    rw [Nat.pow_add] at this
    have h5:=Ax5 (2^more) hpow
    omega
  have pe2:2*((i-(more:Int)) / 2-1)+more=i-2:=by omega
  rw [← (Aam g1 hk (E:=(i-(more:Int)) / 2-1) (F:=r) (by omega)).1,Nat.shiftLeft_eq]
  have e:∀ w:Nat,2*w+(w*w !=m*2^more).toNat=2*w+(if w*w=m*2^more then 0 else 1):=fun w=>by
    by_cases hww:w*w=m*2^more
    · rw [if_pos hww,hww]; simp
    · rw [if_neg hww]
      have:(w*w !=m*2^more)=true:=by simpa using hww
      rw [this]; rfl
  rw [e]
  unfold Gg Sy
  rfl
theorem Aec {b:Nat} (hm:Av b≠0):2^106≤Av b*2^Lr b∧2*((A2 b-(Lr b:Int)) / 2-1)+Lr b=A2 b-2:=by
  refine ⟨?_,by unfold Lr; omega⟩
  have:2^128≤2^Lr b:=Ax8 (by decide) (by unfold Lr; omega)
  have h5:=Nat.mul_le_mul (show 1≤Av b by omega) this
  omega
theorem Aez {b:Nat} (hm:Av b≠0):(Av b).log2≤52:=by
  have:=(Nat.log2_lt hm).2 (show Av b<2^53 from E9 b)
  omega
theorem Amo (s:Bool) (f:Nat):(Ieee.Datum.nan s f).root 54=none:=rfl
theorem Ajy:(Ieee.Datum.infinity true).root 54=none:=rfl
theorem Ajz:(Ieee.Datum.infinity false).root 54=some (.infinity false):=rfl
theorem Ajx (s:Bool) (i:Int):(Ieee.Datum.number s 0 i).root 54=some (.number s 0 i):=rfl
theorem Agq {m:Nat} (i:Int) (h:m≠0):(Ieee.Datum.number true m i).root 54=none:=by
  unfold Ieee.Datum.root
  dsimp only
  rw [if_neg h,if_pos rfl]
theorem S7 {d:Nat} (hd:Al d=4):Dt ((Option.map Ieee.double.write none).getD d)=P0:=Ale hd
theorem Aj0 {b:Nat} (hb:b<2^64) {d:Nat} (hd:Al d=4):Dt ((Ieee.double.sqrt b).getD d)=(N9 b).1:=by
  rw [Ad1 b d _ (Iw hb)]
  by_cases h4:Al b=4
  · rw [Xp h4,G0 h4,Amo,S7 hd]
  by_cases h3:Al b=3
  · rw [Eg h3]
    have hw:=Nd hb h3
    cases hn:Bs b with
    | true =>
      have hne:¬ (Al b=0∨b=D8):=by
        intro h
        rcases h with h | h
        · omega
        · rw [h,Aqy] at hn; cases hn
      rw [Tl h4 hne hn,Ajy,S7 hd]
    | false =>
      rw [hn,Tm] at hw
      rw [N8 h4 (.inr hw.symm),Ajz,Option.map_some,Option.getD_some,Ajf,Tm,Kt]
      exact hw
  rw [Ef h3 h4]
  have hz:=He h3 h4
  by_cases h0:Al b=0
  · have hm:=hz.2 h0
    have:=Afh hb h4
    rw [hm] at this
    rw [N8 h4 (.inl h0),hm,Ajx,Option.map_some,Option.getD_some,Me,Gq _ (Kw _ _),this]
  have hi:¬ (Al b=0∨b=D8):=by
    intro h
    rcases h with h | h
    · exact h0 h
    · rw [h,An3] at h3; exact h3 rfl
  have hm:Av b≠0:=fun h=>h0 (hz.1 h)
  cases hn:Bs b with
  | true=>rw [Tl h4 hi hn,Agq _ hm,S7 hd]
  | false =>
    obtain ⟨k1,k2⟩:=Aec hm
    rw [Ad2 h4 hi hn,Asw hm (Aez hm) _ _ k1 k2]
end Go.Rnd
namespace Go.Rnd
def Gh (b:Nat) (n:Int):Nat × Nat :=
  if Al b=4 then (P0,0)
  else if Al b=3∨Al b=0 then (b,0)
  else (Bk (Bs b) (Ci (Av b) (A2 b+n)),flagsOf (Av b) (A2 b+n))
theorem Ajk {V:Nat} {E:Int} (h0:V≠0) (h:E+V.log2+1≤-1075):Ci V E=0∧flagsOf V E=3:=by
  have hl:Ch V E=-1074:=by unfold Ch; omega
  obtain ⟨k,hk⟩:∃ k:Nat,(-1074:Int)-E=((k:Nat):Int):=⟨(-1074-E).toNat,by omega⟩
  have hV:V<2^(V.log2+1):=(Nat.log2_lt h0).1 (by omega)
  have hp:2^(V.log2+1)*2≤2^k:=by rw [← Nat.pow_succ]; exact Ax8 (by decide) (by omega)
  have e1:V*2^(-((-1074:Int)-E)).toNat=V:=by rw [hk]; simp
  have e2:((-1074:Int)-E).toNat=k:=by rw [hk]; rfl
  have hk2:kept V E=0:=by
    unfold kept Jz
    rw [hl,e1,e2]
    unfold Mq
    rw [Nat.div_eq_of_lt (by omega),Ax6 (by omega),if_neg (by omega)]
  have hx:exact V E=false:=by
    unfold exact Ml
    rw [hl,e1,e2,Ax6 (by omega)]
    exact Axy h0
  have hr:Ci V E=0:=by
    unfold Ci
    rw [if_neg h0,hl,hk2]
    rfl
  refine ⟨hr,?_⟩
  unfold flagsOf
  rw [if_neg h0,hr,hx]
  rfl
theorem Akh (n:Bool) {m:Nat} {e:Int} {more:Bool} (hm:m<2^53) (h0:m≠0∨more=true) (he:e≤-1130) :
    Gf n m e more=(Bk n 0,3):=by
  have h1:more.toNat≤1:=by cases more<;>decide
  have hV:4*m+more.toNat≠0:=by
    rcases h0 with h | h
    · omega
    · rw [h]; simp
  have hl:(4*m+more.toNat).log2≤54:=by
    have:=(Nat.log2_lt hV).2 (show 4*m+more.toNat<2^55 by omega); omega
  have:=Ajk hV (E:=e-2) (by omega)
  unfold Gf
  rw [this.1,this.2]
theorem Am9 (n:Bool):Gf n 0 (-1074) true=(Bk n 0,3):=by
  cases n<;>decide +kernel
theorem Agl {b:Nat} {n:Int} (h4:Al b≠4) (h:¬ (Al b=3∨Al b=0)) (hn:A2 b+n≤-1130):Gh b n=(Bk (Bs b) 0,3):=by
  have hm:Av b≠0:=fun h5=>h (.inr ((He (by omega) h4).1 h5))
  have:=Ajk hm (E:=A2 b+n) (by have:=Aez hm; omega)
  unfold Gh
  rw [if_neg h4,if_neg h,this.1,this.2]
theorem Ajq {b:Nat} {n:Int} (h4:Al b≠4) (h:¬ (Al b=3∨Al b=0)):Gh b n=(Bk (Bs b) (Ci (Av b) (A2 b+n)),flagsOf (Av b) (A2 b+n)):=by
  unfold Gh; rw [if_neg h4,if_neg h]
def Ak6 (b:Nat):Int:=if J4 b=true∧Al b≠0 then ((Av b).log2:Int)+A2 b else 0
def G7 (b:Nat):Nat:=b%2^63
def Aep (a b:Nat):Int:=if Al a=4∨Al b=4 then 0 else if Hx a<Hx b then -1 else if Hx b<Hx a then 1 else 0
def Zz (a b:Nat):Bool:=!(decide (Al a=4∨Al b=4))
def Ag8 (a b:Nat):Nat:=if Zz a b=true then (if Aep a b<0 then b else a) else P0
end Go.Rnd
namespace Go.Rnd
open Go.Den
def Aao (b:Int):Int:=Hx b.toNat
def Sp (a b:Int):Int:=Aep a.toNat b.toNat
def Aat (a b:Int):Bool:=Zz a.toNat b.toNat
def I7 (x:Int):Int:=G7 x.toNat
def Om (a b:Int):Int:=Ag8 a.toNat b.toNat
def Bw (x n:Int):Int:=(Gh x.toNat n).1
def Ap2 (x n:Int):Int:=(Gh x.toNat n).2
def Db (x n:Int):Bool:=Af x&&Cu (-2300≤n∧n≤2300)
def Bq (x:Int):Int:=Ak6 x.toNat
def Zl:List Int→Nat→Nat
  | [],m=>m
  | x::l,m=>if Al x.toNat=4 then P0 else Zl l (max m (G7 x.toNat))
def Be (l:List Int):Int:=Zl l 0
def Da (l:List Int):Bool:=l.all Cq
def Cd (r c:Int) (l:List Int):Int:=if A0 r c l=true then (if Da l=true then 0 else 4) else 1
def Aqh (c:Int) (l:List Int) (n:Nat):Bool:=(List.range n).any fun i:Nat=>decide (Bd (D6 c l (i:Int) (i:Int))=0)
def N1 (r c:Int) (l:List Int) (p q:Int) (m:List Int):Int :=
  if Cd r c l≠0 then Cd r c l else if Cd p q m≠0 then Cd p q m
  else if r≠c∨r≠p then 3 else if Aqh c l r.toNat=true then 5 else 0
def Qi (c:Int) (l:List Int) (i:Int):Int→Int→List Int→Int
  | s,_,[]=>s
  | s,j,x::xs=>Qi c l i (Eu s (D1 (D6 c l i j) x)) (j+1) xs
def Z8 (c:Int) (l:List Int) (b:Nat→Int) (n:Nat):Nat→List Int
  | 0=>[]
  | k+1=>Fa (Qi c l ((n-1-k:Nat):Int) (b (n-1-k)) ((n-k:Nat):Int) (Z8 c l b n k)) (D6 c l ((n-1-k:Nat):Int) ((n-1-k:Nat):Int))::Z8 c l b n k
def loL (c:Int) (l:List Int) (b:Nat→Int):Nat→List Int
  | 0=>[]
  | k+1=>loL c l b k++[Fa (Qi c l (k:Int) (b k) 0 (loL c l b k)) (D6 c l (k:Int) (k:Int))]
def upG (c:Int) (l:List Int) (q:Int) (m:List Int) (n w:Nat):List Int:=B5 n w fun i j=>(Z8 c l (fun i=>D6 q m (i:Int) (j:Int)) n n).getD i 0
def loG (c:Int) (l:List Int) (q:Int) (m:List Int) (n w:Nat):List Int:=B5 n w fun i j=>(loL c l (fun i=>D6 q m (i:Int) (j:Int)) n).getD i 0
def Kc (r c:Int) (l:List Int):MX:=if Da l=true then (r,c,l,0) else Ke 2
def Tf (r c:Int) (l:List Int) (p q:Int) (m:List Int):MX :=
  if N1 r c l p q m≠0 then Ke (N1 r c l p q m) else Kc r q (upG c l q m r.toNat q.toNat)
def loX (r c:Int) (l:List Int) (p q:Int) (m:List Int):MX :=
  if N1 r c l p q m≠0 then Ke (N1 r c l p q m) else Kc r q (loG c l q m r.toNat q.toNat)
def Kf (c:Int) (l:List Int) (n:Nat):List Int:=(List.range n).map fun i:Nat=>I7 (D6 c l (i:Int) (i:Int))
def Aoa (d:List Int):Bool:=d.any fun x=>!(decide (Sp (Bw (Be d) (-40)) x<0))
def Qp (r c:Int) (l:List Int):Bool:=Aoa (Kf c l (min r.toNat c.toNat))
def Ov (r c:Int) (l:List Int):Bool × Int:=if Cd r c l≠0 then (false,Cd r c l) else (Qp r c l,0)
def Abv (r c:Int) (l:List Int) (p q:Int) (m:List Int):Bool:=(A0 r c l&&A0 p q m)&&((Ai l&&Ai m)&&Cu (r=c∧r=p))
def I1 (n:Nat):List Int:=B5 n n fun i k=>Nc (i:Int) (k:Int)
def Dr (r c:Int) (l:List Int) (p q:Int) (m:List Int):MX :=
  if (Fm r c l).2.2.2≠0 then Ke (Fm r c l).2.2.2 else R3 (Fm r c l).1 (Fm r c l).2.1 (Fm r c l).2.2.1 p q m
end Go.Rnd
end
