/- A verified evaluator of the program's form and its use for this seat: S1Env, Rnd, Flt, Words, NearL, IeeL, OrdL, MulL, Limb, DyL, DyV, ExactL, MulW, SumL, MatL, MatW, PowL, RootL, ScaleL, SolW. -/
import Derived.Test.YtjbokjpbiobjpaaGreatProg
import Derived.Test.YtjbokjpbiobjpaaGreatTD
set_option linter.unusedVariables false
set_option linter.unusedSimpArgs false
noncomputable section
namespace Go.Proofs.S1
open Go Go.Den Go.Proofs
set_option maxRecDepth 100000
abbrev tB:Nat:=37
abbrev tM:Nat:=24
abbrev tMR:Nat:=214
abbrev tW:Nat:=173
def tys:List (Nat × TI):=[
  (2,⟨1,8,(.int .i64),[.int .i64 (0:Int)]⟩),
  (3,⟨1,8,(.int .i64),[.int .i64 (0:Int)]⟩),
  (4,⟨1,1,.bool,[.bool false]⟩),
  (5,⟨1,1,(.int .u8),[.int .u8 (0:Int)]⟩),
  (22,⟨1,24,(.slice 37),[.nil]⟩),
  (24,⟨3,40,(.struct [(0,3),(1,3),(2,22)]),[.int .i64 (0:Int),.int .i64 (0:Int),.nil]⟩),
  (25,⟨1,8,(.int .i64),[.int .i64 (0:Int)]⟩),
  (36,⟨1,8,(.int .u64),[.int .u64 (0:Int)]⟩),
  (37,⟨1,8,(.int .u64),[.int .u64 (0:Int)]⟩),
  (38,⟨1,24,(.slice 41),[.nil]⟩),
  (41,⟨1,1,(.int .i8),[.int .i8 (0:Int)]⟩),
  (43,⟨1,24,(.slice 173),[.nil]⟩),
  (45,⟨2,32,(.struct [(0,4),(1,43)]),[.bool false,.nil]⟩),
  (47,⟨3,40,(.struct [(0,45),(2,3)]),[.bool false,.nil,.int .i64 (0:Int)]⟩),
  (57,⟨12,160,(.struct [(0,24),(3,24),(6,24),(9,24)]),[.int .i64 (0:Int),.int .i64 (0:Int),.nil,.int .i64 (0:Int),.int .i64 (0:Int),.nil,.int .i64 (0:Int),.int .i64 (0:Int),.nil,.int .i64 (0:Int),.int .i64 (0:Int),.nil]⟩),
  (60,⟨12,160,(.struct [(0,24),(3,24),(6,24),(9,24)]),[.int .i64 (0:Int),.int .i64 (0:Int),.nil,.int .i64 (0:Int),.int .i64 (0:Int),.nil,.int .i64 (0:Int),.int .i64 (0:Int),.nil,.int .i64 (0:Int),.int .i64 (0:Int),.nil]⟩),
  (71,⟨9,120,(.struct [(0,24),(3,24),(6,24)]),[.int .i64 (0:Int),.int .i64 (0:Int),.nil,.int .i64 (0:Int),.int .i64 (0:Int),.nil,.int .i64 (0:Int),.int .i64 (0:Int),.nil]⟩),
  (74,⟨9,120,(.struct [(0,24),(3,24),(6,24)]),[.int .i64 (0:Int),.int .i64 (0:Int),.nil,.int .i64 (0:Int),.int .i64 (0:Int),.nil,.int .i64 (0:Int),.int .i64 (0:Int),.nil]⟩),
  (80,⟨7,88,(.struct [(0,24),(3,24),(6,25)]),[.int .i64 (0:Int),.int .i64 (0:Int),.nil,.int .i64 (0:Int),.int .i64 (0:Int),.nil,.int .i64 (0:Int)]⟩),
  (88,⟨9,120,(.struct [(0,24),(3,24),(6,24)]),[.int .i64 (0:Int),.int .i64 (0:Int),.nil,.int .i64 (0:Int),.int .i64 (0:Int),.nil,.int .i64 (0:Int),.int .i64 (0:Int),.nil]⟩),
  (91,⟨1,24,(.slice 24),[.nil]⟩),
  (102,⟨1,8,(.int .i64),[.int .i64 (0:Int)]⟩),
  (114,⟨6,80,(.array 2 24),[.int .i64 (0:Int),.int .i64 (0:Int),.nil,.int .i64 (0:Int),.int .i64 (0:Int),.nil]⟩),
  (118,⟨7,88,(.struct [(0,24),(3,24),(6,4)]),[.int .i64 (0:Int),.int .i64 (0:Int),.nil,.int .i64 (0:Int),.int .i64 (0:Int),.nil,.bool false]⟩),
  (121,⟨1,8,.fl,[.fl 0]⟩),
  (131,⟨1,24,(.slice 47),[.nil]⟩),
  (134,⟨1,24,(.slice 135),[.nil]⟩),
  (135,⟨1,24,(.slice 45),[.nil]⟩),
  (145,⟨9,120,(.array 3 24),[.int .i64 (0:Int),.int .i64 (0:Int),.nil,.int .i64 (0:Int),.int .i64 (0:Int),.nil,.int .i64 (0:Int),.int .i64 (0:Int),.nil]⟩),
  (147,⟨15,200,(.struct [(0,24),(3,24),(6,24),(9,24),(12,24)]),[.int .i64 (0:Int),.int .i64 (0:Int),.nil,.int .i64 (0:Int),.int .i64 (0:Int),.nil,.int .i64 (0:Int),.int .i64 (0:Int),.nil,.int .i64 (0:Int),.int .i64 (0:Int),.nil,.int .i64 (0:Int),.int .i64 (0:Int),.nil]⟩),
  (155,⟨3,40,(.struct [(0,3),(1,3),(2,131)]),[.int .i64 (0:Int),.int .i64 (0:Int),.nil]⟩),
  (166,⟨1,1,(.int .u8),[.int .u8 (0:Int)]⟩),
  (173,⟨1,4,(.int .u32),[.int .u32 (0:Int)]⟩),
  (183,⟨12,160,(.array 4 24),[.int .i64 (0:Int),.int .i64 (0:Int),.nil,.int .i64 (0:Int),.int .i64 (0:Int),.nil,.int .i64 (0:Int),.int .i64 (0:Int),.nil,.int .i64 (0:Int),.int .i64 (0:Int),.nil]⟩),
  (188,⟨2,16,(.array 2 3),[.int .i64 (0:Int),.int .i64 (0:Int)]⟩),
  (189,⟨1,24,(.slice 191),[.nil]⟩),
  (191,⟨3,40,(.struct [(0,22),(1,37),(2,37)]),[.nil,.int .u64 (0:Int),.int .u64 (0:Int)]⟩),
  (199,⟨3,24,(.struct [(0,4),(1,3),(2,36)]),[.bool false,.int .i64 (0:Int),.int .u64 (0:Int)]⟩),
  (208,⟨1,24,(.slice 214),[.nil]⟩),
  (214,⟨2,32,(.struct [(0,22),(1,37)]),[.nil,.int .u64 (0:Int)]⟩)]
theorem ty2:B8 Tryz.prog 2 ⟨1,8,(.int .i64),[.int .i64 (0:Int)]⟩:=Cd (z:=.int .i64 (0:Int)) (by kernel_rfl) (fun c w=>by simp [Bc,Ao,Value.cells]) rfl (by simp [Value.cells,Value.oneCell']) (by simp only [Ci]; exact Tryz.underlying2)
theorem ty3:B8 Tryz.prog 3 ⟨1,8,(.int .i64),[.int .i64 (0:Int)]⟩:=Cd (z:=.int .i64 (0:Int)) (by kernel_rfl) (fun c w=>by simp [Bc,Ao,Value.cells]) rfl (by simp [Value.cells,Value.oneCell']) (by simp only [Ci]; exact Tryz.underlying3)
theorem ty4:B8 Tryz.prog 4 ⟨1,1,.bool,[.bool false]⟩:=Cd (z:=.bool false) (by kernel_rfl) (fun c w=>by simp [Bc,Ao,Value.cells]) rfl (by simp [Value.cells,Value.oneCell']) (by simp only [Ci]; exact Tryz.underlying4)
theorem ty5:B8 Tryz.prog 5 ⟨1,1,(.int .u8),[.int .u8 (0:Int)]⟩:=Cd (z:=.int .u8 (0:Int)) (by kernel_rfl) (fun c w=>by simp [Bc,Ao,Value.cells]) rfl (by simp [Value.cells,Value.oneCell']) (by simp only [Ci]; exact Tryz.underlying5)
theorem Axi:B8 Tryz.prog 22 ⟨1,24,(.slice 37),[.nil]⟩:=Cd (z:=.slice none 0 0) (by kernel_rfl) (fun c w=>by simp [Bc,Ao,Value.cells]) rfl (by simp [Value.cells,Value.oneCell']) (by simp only [Ci]; exact Tryz.underlying22)
theorem Axh:B8 Tryz.prog 24 ⟨3,40,(.struct [(0,3),(1,3),(2,22)]),[.int .i64 (0:Int),.int .i64 (0:Int),.nil]⟩:=Cd (z:=.agg #[.int .i64 (0:Int),.int .i64 (0:Int),.slice none 0 0]) (by kernel_rfl) (fun c w=>by simp [Bc,Ao,Value.cells]) rfl (by simp [Value.cells,Value.oneCell']) (by simp only [Ci]; exact ⟨_,Tryz.underlying24,by kernel_rfl⟩)
theorem Axg:B8 Tryz.prog 25 ⟨1,8,(.int .i64),[.int .i64 (0:Int)]⟩:=Cd (z:=.int .i64 (0:Int)) (by kernel_rfl) (fun c w=>by simp [Bc,Ao,Value.cells]) rfl (by simp [Value.cells,Value.oneCell']) (by simp only [Ci]; exact Tryz.underlying25)
theorem Auk:B8 Tryz.prog 36 ⟨1,8,(.int .u64),[.int .u64 (0:Int)]⟩:=Cd (z:=.int .u64 (0:Int)) (by kernel_rfl) (fun c w=>by simp [Bc,Ao,Value.cells]) rfl (by simp [Value.cells,Value.oneCell']) (by simp only [Ci]; exact Tryz.underlying36)
theorem Axf:B8 Tryz.prog 37 ⟨1,8,(.int .u64),[.int .u64 (0:Int)]⟩:=Cd (z:=.int .u64 (0:Int)) (by kernel_rfl) (fun c w=>by simp [Bc,Ao,Value.cells]) rfl (by simp [Value.cells,Value.oneCell']) (by simp only [Ci]; exact Tryz.underlying37)
theorem Axe:B8 Tryz.prog 38 ⟨1,24,(.slice 41),[.nil]⟩:=Cd (z:=.slice none 0 0) (by kernel_rfl) (fun c w=>by simp [Bc,Ao,Value.cells]) rfl (by simp [Value.cells,Value.oneCell']) (by simp only [Ci]; exact Tryz.underlying38)
theorem Axd:B8 Tryz.prog 41 ⟨1,1,(.int .i8),[.int .i8 (0:Int)]⟩:=Cd (z:=.int .i8 (0:Int)) (by kernel_rfl) (fun c w=>by simp [Bc,Ao,Value.cells]) rfl (by simp [Value.cells,Value.oneCell']) (by simp only [Ci]; exact Tryz.underlying41)
theorem Axc:B8 Tryz.prog 43 ⟨1,24,(.slice 173),[.nil]⟩:=Cd (z:=.slice none 0 0) (by kernel_rfl) (fun c w=>by simp [Bc,Ao,Value.cells]) rfl (by simp [Value.cells,Value.oneCell']) (by simp only [Ci]; exact Tryz.underlying43)
theorem Axb:B8 Tryz.prog 45 ⟨2,32,(.struct [(0,4),(1,43)]),[.bool false,.nil]⟩:=Cd (z:=.agg #[.bool false,.slice none 0 0]) (by kernel_rfl) (fun c w=>by simp [Bc,Ao,Value.cells]) rfl (by simp [Value.cells,Value.oneCell']) (by simp only [Ci]; exact ⟨_,Tryz.underlying45,by kernel_rfl⟩)
theorem Axa:B8 Tryz.prog 47 ⟨3,40,(.struct [(0,45),(2,3)]),[.bool false,.nil,.int .i64 (0:Int)]⟩:=Cd (z:=.agg #[.bool false,.slice none 0 0,.int .i64 (0:Int)]) (by kernel_rfl) (fun c w=>by simp [Bc,Ao,Value.cells]) rfl (by simp [Value.cells,Value.oneCell']) (by simp only [Ci]; exact ⟨_,Tryz.underlying47,by kernel_rfl⟩)
theorem Aw9:B8 Tryz.prog 57 ⟨12,160,(.struct [(0,24),(3,24),(6,24),(9,24)]),[.int .i64 (0:Int),.int .i64 (0:Int),.nil,.int .i64 (0:Int),.int .i64 (0:Int),.nil,.int .i64 (0:Int),.int .i64 (0:Int),.nil,.int .i64 (0:Int),.int .i64 (0:Int),.nil]⟩:=Cd (z:=.agg #[.int .i64 (0:Int),.int .i64 (0:Int),.slice none 0 0,.int .i64 (0:Int),.int .i64 (0:Int),.slice none 0 0,.int .i64 (0:Int),.int .i64 (0:Int),.slice none 0 0,.int .i64 (0:Int),.int .i64 (0:Int),.slice none 0 0]) (by kernel_rfl) (fun c w=>by simp [Bc,Ao,Value.cells]) rfl (by simp [Value.cells,Value.oneCell']) (by simp only [Ci]; exact ⟨_,Tryz.underlying57,by kernel_rfl⟩)
theorem Aw8:B8 Tryz.prog 60 ⟨12,160,(.struct [(0,24),(3,24),(6,24),(9,24)]),[.int .i64 (0:Int),.int .i64 (0:Int),.nil,.int .i64 (0:Int),.int .i64 (0:Int),.nil,.int .i64 (0:Int),.int .i64 (0:Int),.nil,.int .i64 (0:Int),.int .i64 (0:Int),.nil]⟩:=Cd (z:=.agg #[.int .i64 (0:Int),.int .i64 (0:Int),.slice none 0 0,.int .i64 (0:Int),.int .i64 (0:Int),.slice none 0 0,.int .i64 (0:Int),.int .i64 (0:Int),.slice none 0 0,.int .i64 (0:Int),.int .i64 (0:Int),.slice none 0 0]) (by kernel_rfl) (fun c w=>by simp [Bc,Ao,Value.cells]) rfl (by simp [Value.cells,Value.oneCell']) (by simp only [Ci]; exact ⟨_,Tryz.underlying60,by kernel_rfl⟩)
theorem Aw7:B8 Tryz.prog 71 ⟨9,120,(.struct [(0,24),(3,24),(6,24)]),[.int .i64 (0:Int),.int .i64 (0:Int),.nil,.int .i64 (0:Int),.int .i64 (0:Int),.nil,.int .i64 (0:Int),.int .i64 (0:Int),.nil]⟩:=Cd (z:=.agg #[.int .i64 (0:Int),.int .i64 (0:Int),.slice none 0 0,.int .i64 (0:Int),.int .i64 (0:Int),.slice none 0 0,.int .i64 (0:Int),.int .i64 (0:Int),.slice none 0 0]) (by kernel_rfl) (fun c w=>by simp [Bc,Ao,Value.cells]) rfl (by simp [Value.cells,Value.oneCell']) (by simp only [Ci]; exact ⟨_,Tryz.underlying71,by kernel_rfl⟩)
theorem Aw6:B8 Tryz.prog 74 ⟨9,120,(.struct [(0,24),(3,24),(6,24)]),[.int .i64 (0:Int),.int .i64 (0:Int),.nil,.int .i64 (0:Int),.int .i64 (0:Int),.nil,.int .i64 (0:Int),.int .i64 (0:Int),.nil]⟩:=Cd (z:=.agg #[.int .i64 (0:Int),.int .i64 (0:Int),.slice none 0 0,.int .i64 (0:Int),.int .i64 (0:Int),.slice none 0 0,.int .i64 (0:Int),.int .i64 (0:Int),.slice none 0 0]) (by kernel_rfl) (fun c w=>by simp [Bc,Ao,Value.cells]) rfl (by simp [Value.cells,Value.oneCell']) (by simp only [Ci]; exact ⟨_,Tryz.underlying74,by kernel_rfl⟩)
theorem Aw5:B8 Tryz.prog 80 ⟨7,88,(.struct [(0,24),(3,24),(6,25)]),[.int .i64 (0:Int),.int .i64 (0:Int),.nil,.int .i64 (0:Int),.int .i64 (0:Int),.nil,.int .i64 (0:Int)]⟩:=Cd (z:=.agg #[.int .i64 (0:Int),.int .i64 (0:Int),.slice none 0 0,.int .i64 (0:Int),.int .i64 (0:Int),.slice none 0 0,.int .i64 (0:Int)]) (by kernel_rfl) (fun c w=>by simp [Bc,Ao,Value.cells]) rfl (by simp [Value.cells,Value.oneCell']) (by simp only [Ci]; exact ⟨_,Tryz.underlying80,by kernel_rfl⟩)
theorem Aw4:B8 Tryz.prog 88 ⟨9,120,(.struct [(0,24),(3,24),(6,24)]),[.int .i64 (0:Int),.int .i64 (0:Int),.nil,.int .i64 (0:Int),.int .i64 (0:Int),.nil,.int .i64 (0:Int),.int .i64 (0:Int),.nil]⟩:=Cd (z:=.agg #[.int .i64 (0:Int),.int .i64 (0:Int),.slice none 0 0,.int .i64 (0:Int),.int .i64 (0:Int),.slice none 0 0,.int .i64 (0:Int),.int .i64 (0:Int),.slice none 0 0]) (by kernel_rfl) (fun c w=>by simp [Bc,Ao,Value.cells]) rfl (by simp [Value.cells,Value.oneCell']) (by simp only [Ci]; exact ⟨_,Tryz.underlying88,by kernel_rfl⟩)
theorem Aw3:B8 Tryz.prog 91 ⟨1,24,(.slice 24),[.nil]⟩:=Cd (z:=.slice none 0 0) (by kernel_rfl) (fun c w=>by simp [Bc,Ao,Value.cells]) rfl (by simp [Value.cells,Value.oneCell']) (by simp only [Ci]; exact Tryz.underlying91)
theorem Au3:B8 Tryz.prog 102 ⟨1,8,(.int .i64),[.int .i64 (0:Int)]⟩:=Cd (z:=.int .i64 (0:Int)) (by kernel_rfl) (fun c w=>by simp [Bc,Ao,Value.cells]) rfl (by simp [Value.cells,Value.oneCell']) (by simp only [Ci]; exact Tryz.underlying102)
theorem Au2:B8 Tryz.prog 114 ⟨6,80,(.array 2 24),[.int .i64 (0:Int),.int .i64 (0:Int),.nil,.int .i64 (0:Int),.int .i64 (0:Int),.nil]⟩:=Cd (z:=.agg #[.int .i64 (0:Int),.int .i64 (0:Int),.slice none 0 0,.int .i64 (0:Int),.int .i64 (0:Int),.slice none 0 0]) (by kernel_rfl) (fun c w=>by simp [Bc,Ao,Value.cells]) rfl (by simp [Value.cells,Value.oneCell']) (by simp only [Ci]; exact Tryz.underlying114)
theorem Au1:B8 Tryz.prog 118 ⟨7,88,(.struct [(0,24),(3,24),(6,4)]),[.int .i64 (0:Int),.int .i64 (0:Int),.nil,.int .i64 (0:Int),.int .i64 (0:Int),.nil,.bool false]⟩:=Cd (z:=.agg #[.int .i64 (0:Int),.int .i64 (0:Int),.slice none 0 0,.int .i64 (0:Int),.int .i64 (0:Int),.slice none 0 0,.bool false]) (by kernel_rfl) (fun c w=>by simp [Bc,Ao,Value.cells]) rfl (by simp [Value.cells,Value.oneCell']) (by simp only [Ci]; exact ⟨_,Tryz.underlying118,by kernel_rfl⟩)
theorem Au0:B8 Tryz.prog 121 ⟨1,8,.fl,[.fl 0]⟩:=Cd (z:=.float .f64 0) (by kernel_rfl) (fun c w=>by simp [Bc,Ao,Value.cells,P9]) rfl (by simp [Value.cells,Value.oneCell']) (by simp only [Ci]; exact Tryz.underlying121)
theorem Auz:B8 Tryz.prog 131 ⟨1,24,(.slice 47),[.nil]⟩:=Cd (z:=.slice none 0 0) (by kernel_rfl) (fun c w=>by simp [Bc,Ao,Value.cells]) rfl (by simp [Value.cells,Value.oneCell']) (by simp only [Ci]; exact Tryz.underlying131)
theorem Auy:B8 Tryz.prog 134 ⟨1,24,(.slice 135),[.nil]⟩:=Cd (z:=.slice none 0 0) (by kernel_rfl) (fun c w=>by simp [Bc,Ao,Value.cells]) rfl (by simp [Value.cells,Value.oneCell']) (by simp only [Ci]; exact Tryz.underlying134)
theorem Aux:B8 Tryz.prog 135 ⟨1,24,(.slice 45),[.nil]⟩:=Cd (z:=.slice none 0 0) (by kernel_rfl) (fun c w=>by simp [Bc,Ao,Value.cells]) rfl (by simp [Value.cells,Value.oneCell']) (by simp only [Ci]; exact Tryz.underlying135)
theorem Auw:B8 Tryz.prog 145 ⟨9,120,(.array 3 24),[.int .i64 (0:Int),.int .i64 (0:Int),.nil,.int .i64 (0:Int),.int .i64 (0:Int),.nil,.int .i64 (0:Int),.int .i64 (0:Int),.nil]⟩:=Cd (z:=.agg #[.int .i64 (0:Int),.int .i64 (0:Int),.slice none 0 0,.int .i64 (0:Int),.int .i64 (0:Int),.slice none 0 0,.int .i64 (0:Int),.int .i64 (0:Int),.slice none 0 0]) (by kernel_rfl) (fun c w=>by simp [Bc,Ao,Value.cells]) rfl (by simp [Value.cells,Value.oneCell']) (by simp only [Ci]; exact Tryz.underlying145)
theorem Auv:B8 Tryz.prog 147 ⟨15,200,(.struct [(0,24),(3,24),(6,24),(9,24),(12,24)]),[.int .i64 (0:Int),.int .i64 (0:Int),.nil,.int .i64 (0:Int),.int .i64 (0:Int),.nil,.int .i64 (0:Int),.int .i64 (0:Int),.nil,.int .i64 (0:Int),.int .i64 (0:Int),.nil,.int .i64 (0:Int),.int .i64 (0:Int),.nil]⟩:=Cd (z:=.agg #[.int .i64 (0:Int),.int .i64 (0:Int),.slice none 0 0,.int .i64 (0:Int),.int .i64 (0:Int),.slice none 0 0,.int .i64 (0:Int),.int .i64 (0:Int),.slice none 0 0,.int .i64 (0:Int),.int .i64 (0:Int),.slice none 0 0,.int .i64 (0:Int),.int .i64 (0:Int),.slice none 0 0]) (by kernel_rfl) (fun c w=>by simp [Bc,Ao,Value.cells]) rfl (by simp [Value.cells,Value.oneCell']) (by simp only [Ci]; exact ⟨_,Tryz.underlying147,by kernel_rfl⟩)
theorem Auu:B8 Tryz.prog 155 ⟨3,40,(.struct [(0,3),(1,3),(2,131)]),[.int .i64 (0:Int),.int .i64 (0:Int),.nil]⟩:=Cd (z:=.agg #[.int .i64 (0:Int),.int .i64 (0:Int),.slice none 0 0]) (by kernel_rfl) (fun c w=>by simp [Bc,Ao,Value.cells]) rfl (by simp [Value.cells,Value.oneCell']) (by simp only [Ci]; exact ⟨_,Tryz.underlying155,by kernel_rfl⟩)
theorem Aut:B8 Tryz.prog 166 ⟨1,1,(.int .u8),[.int .u8 (0:Int)]⟩:=Cd (z:=.int .u8 (0:Int)) (by kernel_rfl) (fun c w=>by simp [Bc,Ao,Value.cells]) rfl (by simp [Value.cells,Value.oneCell']) (by simp only [Ci]; exact Tryz.underlying166)
theorem Aus:B8 Tryz.prog 173 ⟨1,4,(.int .u32),[.int .u32 (0:Int)]⟩:=Cd (z:=.int .u32 (0:Int)) (by kernel_rfl) (fun c w=>by simp [Bc,Ao,Value.cells]) rfl (by simp [Value.cells,Value.oneCell']) (by simp only [Ci]; exact Tryz.underlying173)
theorem Aur:B8 Tryz.prog 183 ⟨12,160,(.array 4 24),[.int .i64 (0:Int),.int .i64 (0:Int),.nil,.int .i64 (0:Int),.int .i64 (0:Int),.nil,.int .i64 (0:Int),.int .i64 (0:Int),.nil,.int .i64 (0:Int),.int .i64 (0:Int),.nil]⟩:=Cd (z:=.agg #[.int .i64 (0:Int),.int .i64 (0:Int),.slice none 0 0,.int .i64 (0:Int),.int .i64 (0:Int),.slice none 0 0,.int .i64 (0:Int),.int .i64 (0:Int),.slice none 0 0,.int .i64 (0:Int),.int .i64 (0:Int),.slice none 0 0]) (by kernel_rfl) (fun c w=>by simp [Bc,Ao,Value.cells]) rfl (by simp [Value.cells,Value.oneCell']) (by simp only [Ci]; exact Tryz.underlying183)
theorem Auq:B8 Tryz.prog 188 ⟨2,16,(.array 2 3),[.int .i64 (0:Int),.int .i64 (0:Int)]⟩:=Cd (z:=.agg #[.int .i64 (0:Int),.int .i64 (0:Int)]) (by kernel_rfl) (fun c w=>by simp [Bc,Ao,Value.cells]) rfl (by simp [Value.cells,Value.oneCell']) (by simp only [Ci]; exact Tryz.underlying188)
theorem Aup:B8 Tryz.prog 189 ⟨1,24,(.slice 191),[.nil]⟩:=Cd (z:=.slice none 0 0) (by kernel_rfl) (fun c w=>by simp [Bc,Ao,Value.cells]) rfl (by simp [Value.cells,Value.oneCell']) (by simp only [Ci]; exact Tryz.underlying189)
theorem Auo:B8 Tryz.prog 191 ⟨3,40,(.struct [(0,22),(1,37),(2,37)]),[.nil,.int .u64 (0:Int),.int .u64 (0:Int)]⟩:=Cd (z:=.agg #[.slice none 0 0,.int .u64 (0:Int),.int .u64 (0:Int)]) (by kernel_rfl) (fun c w=>by simp [Bc,Ao,Value.cells]) rfl (by simp [Value.cells,Value.oneCell']) (by simp only [Ci]; exact ⟨_,Tryz.underlying191,by kernel_rfl⟩)
theorem Aun:B8 Tryz.prog 199 ⟨3,24,(.struct [(0,4),(1,3),(2,36)]),[.bool false,.int .i64 (0:Int),.int .u64 (0:Int)]⟩:=Cd (z:=.agg #[.bool false,.int .i64 (0:Int),.int .u64 (0:Int)]) (by kernel_rfl) (fun c w=>by simp [Bc,Ao,Value.cells]) rfl (by simp [Value.cells,Value.oneCell']) (by simp only [Ci]; exact ⟨_,Tryz.underlying199,by kernel_rfl⟩)
theorem Aum:B8 Tryz.prog 208 ⟨1,24,(.slice 214),[.nil]⟩:=Cd (z:=.slice none 0 0) (by kernel_rfl) (fun c w=>by simp [Bc,Ao,Value.cells]) rfl (by simp [Value.cells,Value.oneCell']) (by simp only [Ci]; exact Tryz.underlying208)
theorem Aul:B8 Tryz.prog 214 ⟨2,32,(.struct [(0,22),(1,37)]),[.nil,.int .u64 (0:Int)]⟩:=Cd (z:=.agg #[.slice none 0 0,.int .u64 (0:Int)]) (by kernel_rfl) (fun c w=>by simp [Bc,Ao,Value.cells]) rfl (by simp [Value.cells,Value.oneCell']) (by simp only [Ci]; exact ⟨_,Tryz.underlying214,by kernel_rfl⟩)
theorem Asy:R4 Tryz.prog tys:=.cons ty2 <| .cons ty3 <| .cons ty4 <| .cons ty5 <| .cons Axi <| .cons Axh <| .cons Axg <| .cons Auk <| .cons Axf <| .cons Axe <| .cons Axd <| .cons Axc <| .cons Axb <| .cons Axa <| .cons Aw9 <| .cons Aw8 <| .cons Aw7 <| .cons Aw6 <| .cons Aw5 <| .cons Aw4 <| .cons Aw3 <| .cons Au3 <| .cons Au2 <| .cons Au1 <| .cons Au0 <| .cons Auz <| .cons Auy <| .cons Aux <| .cons Auw <| .cons Auv <| .cons Auu <| .cons Aut <| .cons Aus <| .cons Aur <| .cons Auq <| .cons Aup <| .cons Auo <| .cons Aun <| .cons Aum <| .cons Aul <| .nil
def exts:List (Nat × Ext):=[(169,.bits),(210,.frombits),(263,.sqrt),(266,.sub64)]
def Af0:List (Nat × Ext)→Nat→Option Ext
  | [],_=>none
  | (m,e)::l,n=>bif Nat.beq m n then some e else Af0 l n
theorem Aoy (args:Array Value) (w:World):(callFunc 169 args).run Tryz.prog w=((Tb .bits args).run Tryz.prog w).andThen fun v w'=>.ok (.value v) w':=run_callFunc_extern (e:=Extern.MathFloatBits.float64bits) Tryz.func169 (by kernel_rfl) (by kernel_rfl) (by kernel_rfl) (by kernel_rfl) args w
theorem Aox (args:Array Value) (w:World):(callFunc 210 args).run Tryz.prog w=((Tb .frombits args).run Tryz.prog w).andThen fun v w'=>.ok (.value v) w':=run_callFunc_extern (e:=Extern.MathFloatBits.float64frombits) Tryz.func210 (by kernel_rfl) (by kernel_rfl) (by kernel_rfl) (by kernel_rfl) args w
theorem Aow (args:Array Value) (w:World):(callFunc 263 args).run Tryz.prog w=((Tb .sqrt args).run Tryz.prog w).andThen fun v w'=>.ok (.value v) w':=run_callFunc_extern (e:=Extern.MathSqrt.sqrt) Tryz.func263 (by kernel_rfl) (by kernel_rfl) (by kernel_rfl) (by kernel_rfl) args w
theorem Aov (args:Array Value) (w:World):(callFunc 266 args).run Tryz.prog w=((Tb .sub64 args).run Tryz.prog w).andThen fun v w'=>.ok (.value v) w':=run_callFunc_extern (e:=Xv) Tryz.func266 (by kernel_rfl) (by kernel_rfl) (by kernel_rfl) (by kernel_rfl) args w
def At2:List Nat:=[199,188]
theorem Awk:Adt Tryz.prog 199 ⟨3,24,(.struct [(0,4),(1,3),(2,36)]),[.bool false,.int .i64 (0:Int),.int .u64 (0:Int)]⟩ where
  guard:=by kernel_rfl
  eq:=by
    intro w c x y xs ys hx hy hlx hly
    obtain ⟨a0,x1,rfl,hx1⟩:=X1 hx
    obtain ⟨a1,x2,rfl,hx2⟩:=Js hx1
    obtain ⟨a2,x3,rfl,hx3⟩:=Js hx2
    obtain rfl:=Ri hx3
    obtain ⟨b0,y1,rfl,hy1⟩:=X1 hy
    obtain ⟨b1,y2,rfl,hy2⟩:=Js hy1
    obtain ⟨b2,y3,rfl,hy3⟩:=Js hy2
    obtain rfl:=Ri hy3
    obtain ⟨xs⟩:=xs
    obtain ⟨ys⟩:=ys
    simp only [Bc.Cw,Bc.Gg,Ao] at hlx hly
    obtain ⟨_,_,rfl,rfl,_,_,rfl,rfl,_,_,rfl,rfl,rfl⟩:=hlx
    obtain ⟨_,_,rfl,rfl,_,_,rfl,rfl,_,_,rfl,rfl,rfl⟩:=hly
    have hu:Tryz.prog.underlying 199=some (.struct (Tryz.prog.fieldsOf 199)):=by kernel_rfl
    have hp:Tryz.prog.stoodInHeld 199=false:=by kernel_rfl
    unfold Op.equal Op.maxDepth
    rw [run_equalIn_struct w 9999 199 _ _ hu hp]
    have hfs:Tryz.prog.fieldsOf 199=(match Tryz.prog.underlying 199 with | some (.struct fs)=>fs | _=>#[]):=rfl
    rw [hfs,Tryz.underlying199]
    simp [Op.eqFields,Ma w ty3 rfl,Ma w ty4 rfl,Ma w Auk rfl,run_equalIn_int w _ _ _ _ _ _ Tryz.underlying3,run_equalIn_bool w _ _ _ _ Tryz.underlying4,run_equalIn_int w _ _ _ _ _ _ Tryz.underlying36,Abl,Zp]
    by_cases h0:a0=b0<;>by_cases h1:a1=b1<;>by_cases h2:a2=b2<;>simp [h0,h1,h2]
theorem Awl:Adt Tryz.prog 188 ⟨2,16,(.array 2 3),[.int .i64 (0:Int),.int .i64 (0:Int)]⟩ where
  guard:=by kernel_rfl
  eq:=by
    intro w c x y xs ys hx hy hlx hly
    obtain ⟨a0,x1,rfl,hx1⟩:=Js hx
    obtain ⟨a1,x2,rfl,hx2⟩:=Js hx1
    obtain rfl:=Ri hx2
    obtain ⟨b0,y1,rfl,hy1⟩:=Js hy
    obtain ⟨b1,y2,rfl,hy2⟩:=Js hy1
    obtain rfl:=Ri hy2
    obtain ⟨xs⟩:=xs
    obtain ⟨ys⟩:=ys
    simp only [Bc.Cw,Bc.Gg,Ao] at hlx hly
    obtain ⟨_,_,rfl,rfl,_,_,rfl,rfl,rfl⟩:=hlx
    obtain ⟨_,_,rfl,rfl,_,_,rfl,rfl,rfl⟩:=hly
    obtain ⟨i,_,hi,_⟩:=ty3.info
    have hc:Tryz.prog.cellsOf 3=1:=by kernel_rfl
    unfold Op.equal Op.maxDepth
    rw [run_equalIn_array w 9999 _ _ Tryz.underlying188 hi,hc]
    simp [Op.eqItems,List.range,List.range.loop,Ma w ty3 rfl,run_equalIn_int w _ _ _ _ _ _ Tryz.underlying3,Abl,Zp]
    by_cases h0:a0=b0<;>by_cases h1:a1=b1<;>simp [h0,h1]
def A9 (A6:Nat→Option Entry) (adopt:Nat→Bool) (hint:Nat→Option Ba) (live:Nat→Option (List Nat)):Env:={ ty:=Amk tys,A6:=A6,ext:=Af0 exts,eqs:=fun t=>Mf t At2,adopt:=adopt,live:=live,hint:=hint }
theorem Az {l:List (Nat × Entry)} (h:Ax Tryz.prog l) (adopt:Nat→Bool) (hint:Nat→Option Ba) (live:Nat→Option (List Nat)):Ki Tryz.prog (A9 (A5 l) adopt hint live) where
  ty:=fun t ti ht=>Asy.get ht
  A6:=fun g e hg=>(h.get hg).meets
  call:=fun g e hg=>(h.get hg).call
  ext:=by
    intro g x hx args w
    simp only [A9,exts,Af0] at hx
    cases hb:Nat.beq 169 g with
    | true =>
      rw [hb] at hx
      cases hx
      obtain rfl:=Aza hb
      exact Aoy args w
    | false =>
    rw [hb,Ayw] at hx
    clear hb
    cases hb:Nat.beq 210 g with
    | true =>
      rw [hb] at hx
      cases hx
      obtain rfl:=Aza hb
      exact Aox args w
    | false =>
    rw [hb,Ayw] at hx
    clear hb
    cases hb:Nat.beq 263 g with
    | true =>
      rw [hb] at hx
      cases hx
      obtain rfl:=Aza hb
      exact Aow args w
    | false =>
    rw [hb,Ayw] at hx
    clear hb
    cases hb:Nat.beq 266 g with
    | true =>
      rw [hb] at hx
      cases hx
      obtain rfl:=Aza hb
      exact Aov args w
    | false =>
    rw [hb,Ayw] at hx
    clear hb
    cases hx
  eqs:=by
    intro t ti ht hti
    simp only [A9,At2,Mf] at ht hti
    cases hb:Nat.beq t 199 with
    | true =>
      obtain rfl:=Aza hb
      cases hti
      exact Awk
    | false =>
    rw [hb,Ayw] at ht
    clear hb
    cases hb:Nat.beq t 188 with
    | true =>
      obtain rfl:=Aza hb
      cases hti
      exact Awl
    | false =>
    rw [hb,Ayw] at ht
    clear hb
    cases ht
  mixed:=by kernel_rfl
def Aso:List (Nat × Ext):=[(169,.bitsN),(210,.frombits),(263,.sqrt),(266,.sub64)]
def Ab1:List (Nat × List CK)→Nat→List CK
  | [],_=>[]
  | (m,e)::l,n=>bif Nat.beq m n then e else Ab1 l n
def Tc (A6:Nat→Option Entry) (adopt:Nat→Bool) (hint:Nat→Option Ba) (live:Nat→Option (List Nat)) (adv:Nat→List CK):Env:={ ty:=Amk tys,A6:=A6,ext:=Af0 Aso,eqs:=fun t=>Mf t At2,adopt:=adopt,live:=live,hint:=hint,adv:=adv }
theorem U4 {l:List (Nat × Entry)} (h:Ax Tryz.prog l) (adopt:Nat→Bool) (hint:Nat→Option Ba) (live:Nat→Option (List Nat)) (adv:Nat→List CK):Ki Tryz.prog (Tc (A5 l) adopt hint live adv) :=
  have k:=Az h adopt hint live
  ⟨k.ty,k.A6,k.call,(by
    intro g x hx args w
    simp only [Tc,Aso,Af0] at hx
    cases hb:Nat.beq 169 g with
    | true =>
      rw [hb] at hx
      cases hx
      obtain rfl:=Aza hb
      exact Aoy args w
    | false =>
    rw [hb,Ayw] at hx
    clear hb
    cases hb:Nat.beq 210 g with
    | true =>
      rw [hb] at hx
      cases hx
      obtain rfl:=Aza hb
      exact Aox args w
    | false =>
    rw [hb,Ayw] at hx
    clear hb
    cases hb:Nat.beq 263 g with
    | true =>
      rw [hb] at hx
      cases hx
      obtain rfl:=Aza hb
      exact Aow args w
    | false =>
    rw [hb,Ayw] at hx
    clear hb
    cases hb:Nat.beq 266 g with
    | true =>
      rw [hb] at hx
      cases hx
      obtain rfl:=Aza hb
      exact Aov args w
    | false =>
    rw [hb,Ayw] at hx
    clear hb
    cases hx),k.eqs,k.mixed,k.spoil⟩
end Go.Proofs.S1
namespace Go.Rnd
def M3 (V k:Nat):Nat:=V / 2^k+(if 2^k<2*(V%2^k)∨(2*(V%2^k)=2^k∧V / 2^k%2=1) then 1 else 0)
def J6 (V:Nat) (s:Int):Nat:=M3 (V*2^(-s).toNat) s.toNat
def Mt (V:Nat) (s:Int):Bool:=decide (V*2^(-s).toNat%2^s.toNat=0)
def Cn (M:Nat) (E:Int):Int:=max (E+M.log2-52) (-1074)
def kept (M:Nat) (E:Int):Nat:=J6 M (Cn M E-E)
def Eb:Nat:=2047*2^52
def Co (M:Nat) (E:Int):Nat:=if M=0 then 0 else min ((Cn M E+1074).toNat*2^52+kept M E) Eb
def exact (M:Nat) (E:Int):Bool:=Mt M (Cn M E-E)
def flags (r:Nat) (ex:Bool):Nat:=if r=Eb then 5 else if ex then 0 else if 2^52≤r then 1 else 3
def flagsOf (M:Nat) (E:Int):Nat:=if M=0 then 0 else flags (Co M E) (exact M E)
theorem Cp (k:Nat):0<2^k:=Nat.pow_pos (by decide)
theorem Ok (V:Nat):M3 V 0=V:=by
  unfold M3; simp [Nat.mod_one]
theorem T8 (V a k:Nat):M3 (V*2^a) (a+k)=M3 V k:=by
  unfold M3
  have hA:=Cp a
  have e:2^(a+k)=2^a*2^k:=Nat.pow_add 2 a k
  have hd:V*2^a / 2^(a+k)=V / 2^k:=by
    rw [e,Nat.mul_comm V,Nat.mul_div_mul_left _ _ hA]
  have hm:V*2^a%2^(a+k)=2^a*(V%2^k):=by
    rw [e,Nat.mul_comm V,Nat.mul_mod_mul_left]
  rw [hd,hm,e]
  have h1:(2^a*2^k<2*(2^a*(V%2^k)))↔(2^k<2*(V%2^k)):=by
    rw [Nat.mul_left_comm 2]
    exact Nat.mul_lt_mul_left hA
  have h2:(2*(2^a*(V%2^k))=2^a*2^k)↔(2*(V%2^k)=2^k):=by
    rw [Nat.mul_left_comm 2]
    exact Nat.mul_right_inj (by omega)
  simp only [h1,h2]
theorem mod_mul (V a k:Nat):(V*2^a%2^(a+k)=0)↔(V%2^k=0):=by
  have hA:=Cp a
  rw [Nat.pow_add,Nat.mul_comm V,Nat.mul_mod_mul_left]
  constructor
  · intro h
    rcases Nat.mul_eq_zero.1 h with h | h
    · omega
    · exact h
  · intro h; rw [h]; rfl
theorem Wf (V k:Nat) (s:Int):J6 (V*2^k) (s+k)=J6 V s∧Mt (V*2^k) (s+k)=Mt V s:=by
  unfold J6 Mt
  by_cases h0:0≤s
  · have e1:(-(s+k)).toNat=0:=by omega
    have e2:(-s).toNat=0:=by omega
    have e3:(s+k).toNat=k+s.toNat:=by omega
    rw [e1,e2,e3,Nat.pow_zero,Nat.mul_one,Nat.mul_one]
    exact ⟨T8 V k _,by simp only [mod_mul]⟩
  · by_cases h1:0≤s+k
    · have e1:(-(s+k)).toNat=0:=by omega
      have e2:s.toNat=0:=by omega
      have e3:k=(s+k).toNat+(-s).toNat:=by omega
      rw [e1,e2,Nat.pow_zero,Nat.mul_one]
      have e4:V*2^k=V*2^(-s).toNat*2^(s+k).toNat:=by
        rw [Nat.mul_assoc,← Nat.pow_add,Nat.add_comm (-s).toNat,← e3]
      rw [e4]
      refine ⟨?_,?_⟩
      · have:=T8 (V*2^(-s).toNat) (s+k).toNat 0
        rw [Nat.add_zero] at this; exact this
      · have:=mod_mul (V*2^(-s).toNat) (s+k).toNat 0
        rw [Nat.add_zero,Nat.pow_zero] at this
        simp only [this]
    · have e1:(s+k).toNat=0:=by omega
      have e2:s.toNat=0:=by omega
      have e3:(-s).toNat=k+(-(s+k)).toNat:=by omega
      rw [e1,e2,e3,Nat.pow_add,Nat.mul_assoc]
      exact ⟨rfl,rfl⟩
theorem Lk (M k:Nat) (hM:M≠0):(M*2^k).log2=M.log2+k:=by
  have hk:=Cp k
  have hne:M*2^k≠0:=by
    intro h
    rcases Nat.mul_eq_zero.1 h with h | h<;>omega
  have h1:=Nat.log2_self_le hM
  have h2:=Nat.lt_log2_self (n:=M)
  have a:M.log2+k≤(M*2^k).log2:=by
    rw [Nat.le_log2 hne,Nat.pow_add]
    exact Ay4 _ h1
  have b:(M*2^k).log2<M.log2+k+1:=by
    rw [Nat.log2_lt hne,Nat.add_right_comm,Nat.pow_add]
    exact (Nat.mul_lt_mul_right hk).2 h2
  omega
theorem Us {n a:Nat} (h1:2^a≤n) (h2:n<2^(a+1)):n.log2=a:=by
  have:=Cp a
  have hn:n≠0:=by omega
  have b1:=(Nat.le_log2 hn).2 h1
  have b2:=(Nat.log2_lt hn).2 h2
  omega
theorem Aht (M k:Nat) (E:Int) (hM:M≠0):Cn (M*2^k) (E-k)=Cn M E:=by
  unfold Cn; rw [Lk M k hM]; congr 1; omega
theorem Is {M k:Nat} (hM:M≠0):M*2^k≠0:=by
  have:=Cp k
  intro h
  rcases Nat.mul_eq_zero.1 h with h | h<;>omega
theorem Ee (M k:Nat) (E:Int):Co (M*2^k) (E-k)=Co M E∧flagsOf (M*2^k) (E-k)=flagsOf M E:=by
  by_cases hM:M=0
  · subst hM; simp [Co,flagsOf]
  · have hl:=Aht M k E hM
    have e:Cn M E-(E-k)=Cn M E-E+k:=by omega
    have h1:Co (M*2^k) (E-k)=Co M E:=by
      unfold Co kept
      rw [if_neg (Is hM),if_neg hM,hl,e,(Wf M k _).1]
    refine ⟨h1,?_⟩
    unfold flagsOf
    rw [if_neg (Is hM),if_neg hM,h1]
    unfold exact
    rw [hl,e,(Wf M k _).2]
theorem Am7 {V s d k:Nat} (hs:s%2=1) (h1:(s-1)*2^d<V) (h2:V<(s+1)*2^d) (hk:2≤k) :
    M3 V (d+k)=M3 s k∧V%2^(d+k)≠0∧s%2^k≠0:=by
  have hA:=Cp d
  obtain ⟨j,rfl⟩:∃ j,k=j+2:=⟨k-2,by omega⟩
  have hB:2^(j+2)=4*2^j:=by rw [Nat.pow_add]; omega
  have hBp:=Cp (j+2)
  have hC:=Cp j
  have hsd:=Nat.div_add_mod s (2^(j+2))
  have hr2:s%2^(j+2)%2=1:=by
    rw [hB,show 4*2^j=2*(2*2^j) by omega,Nat.mod_mul_right_mod]; exact hs
  have hrlt:=Nat.mod_lt s hBp
  generalize hq:s / 2^(j+2)=q at *
  generalize hr:s%2^(j+2)=r at *
  have hAB:2^(d+(j+2))=2^d*2^(j+2):=Nat.pow_add 2 d (j+2)
  generalize hBB:2^(j+2)=b at *
  generalize hAA:2^d=a at *
  have e1:(s-1)*a=q*(a*b)+(r-1)*a:=by
    have:s-1=b*q+(r-1):=by omega
    rw [this,Nat.add_mul,Nat.mul_comm b q,Nat.mul_assoc,Nat.mul_comm b a]
  have e2:(s+1)*a=q*(a*b)+(r+1)*a:=by
    have:s+1=b*q+(r+1):=by omega
    rw [this,Nat.add_mul,Nat.mul_comm b q,Nat.mul_assoc,Nat.mul_comm b a]
  have e3:(r+1)*a≤b*a:=Ay4 a (by omega)
  rw [Nat.mul_comm b a] at e3
  rw [e1] at h1
  rw [e2] at h2
  have hdiv:V / (a*b)=q:=Nat.div_eq_of_lt_le (by omega) (by rw [Nat.add_mul]; omega)
  have hmod:V%(a*b)=V-q*(a*b):=by
    have:=Nat.div_add_mod V (a*b)
    rw [hdiv,Nat.mul_comm (a*b) q] at this; omega
  have hb2:b=2*(2*2^j):=by omega
  generalize hc:2^j=c at *
  have hR1:(r-1)*a<V-q*(a*b):=by omega
  have hR2:V-q*(a*b)<(r+1)*a:=by omega
  generalize hR:V-q*(a*b)=R at *
  have hab:a*b=2*(2*c*a):=by rw [hb2,Nat.mul_comm a,Nat.mul_assoc]
  have key:(a*b<2*R∨(2*R=a*b∧q%2=1))↔(b<2*r∨(2*r=b∧q%2=1)):=by
    rw [hab,hb2]
    rcases Nat.lt_or_ge r (2*c) with hlt | hge
    · have:(r+1)*a≤2*c*a:=Ay4 a (by omega)
      constructor<;>(intro h; omega)
    · have hgt:2*c+1≤r:=by omega
      have:2*c*a≤(r-1)*a:=Ay4 a (by omega)
      constructor
      · intro _; left; omega
      · intro _; left; omega
  refine ⟨?_,?_,?_⟩
  · unfold M3
    rw [hAB,hdiv,hmod,hBB,hq,hr]
    simp only [key]
  · rw [hAB,hmod]
    have:=Nat.zero_le ((r-1)*a)
    omega
  · omega
theorem Qh {V s d:Nat} {E:Int} (hs:s%2=1) (h1:(s-1)*2^d<V) (h2:V<(s+1)*2^d) (hl:Cn V E=Cn s (E+d)) (hk:E+d+2≤Cn s (E+d)) :
    Co V E=Co s (E+d)∧flagsOf V E=flagsOf s (E+d):=by
  have hV:V≠0:=by omega
  have hs0:s≠0:=by omega
  generalize hL:Cn s (E+d)=L at *
  obtain ⟨k,hk2⟩:∃ k:Nat,L-(E+d)=k+2:=⟨(L-(E+d)-2).toNat,by omega⟩
  obtain ⟨a1,a2,a3⟩:=Am7 (k:=k+2) hs h1 h2 (by omega)
  have e1:(L-E).toNat=d+(k+2):=by omega
  have e2:(-(L-E)).toNat=0:=by omega
  have e3:(L-(E+d)).toNat=k+2:=by omega
  have e4:(-(L-(E+d))).toNat=0:=by omega
  have hr:Co V E=Co s (E+d):=by
    unfold Co kept J6
    rw [if_neg hV,if_neg hs0,hl,hL,e1,e2,e3,e4]
    simp only [Nat.pow_zero,Nat.mul_one]
    rw [a1]
  refine ⟨hr,?_⟩
  unfold flagsOf exact Mt
  rw [if_neg hV,if_neg hs0,hr,hl,hL,e1,e2,e3,e4]
  simp only [Nat.pow_zero,Nat.mul_one,a2,a3,decide_false]
theorem Qo {V s d:Nat} (hs:s%2=1) (hs3:3≤s) (h1:(s-1)*2^d<V) (h2:V<(s+1)*2^d):V.log2=s.log2+d:=by
  have hs0:s≠0:=by omega
  have a1:=Nat.log2_self_le hs0
  have a2:=Nat.lt_log2_self (n:=s)
  have hl:1≤s.log2:=by rw [Nat.le_log2 hs0]; omega
  obtain ⟨t,ht⟩:∃ t,s.log2=t+1:=⟨s.log2-1,by omega⟩
  rw [ht] at a1 a2 ⊢
  have ev1:2^(t+1)=2*2^t:=by rw [Nat.pow_succ]; omega
  have ev2:2^(t+1+1)=2*(2*2^t):=by rw [Nat.pow_succ,ev1]; omega
  refine Us ?_ ?_
  · rw [Nat.pow_add]
    have:2^(t+1)*2^d≤(s-1)*2^d:=Ay4 _ (by omega)
    omega
  · have e:t+1+d+1=(t+1+1)+d:=by omega
    rw [e,Nat.pow_add]
    have:(s+1)*2^d≤2^(t+1+1)*2^d:=Ay4 _ (by omega)
    omega
end Go.Rnd
namespace Go.Rnd
def Bt (b:Nat):Bool:=decide (2^63≤b)
def Dz (b:Nat):Nat:=b / 2^52%2048
def Da (b:Nat):Nat:=b%2^52
def Am (b:Nat):Nat:=if Dz b=2047 then (if Da b=0 then 3 else 4) else if 0<Dz b then 2 else if 0<Da b then 1 else 0
def Kb (b:Nat):Bool:=decide (Dz b<2047)
def Hi (b:Nat):Nat:=if 2^63≤b then b-2^63 else b+2^63
def Aw (b:Nat):Nat:=if Dz b=0 then Da b else Da b+2^52
def A2 (b:Nat):Int:=if Dz b=0 then -1074 else (Dz b:Int)-1075
def Bl (neg:Bool) (r:Nat):Nat:=if neg then 2^63+r else r
def H5 (neg:Bool) (m:Nat):Int:=if neg then -(m:Int) else m
def J2 (b:Nat) (e:Int):Int:=H5 (Bt b) (Aw b*2^(A2 b-e).toNat)
def P8:Nat:=0x7ff8000000000000
def Ph (z:Nat) (S:Int) (e:Int):Nat × Nat :=
  if S=0 then (z,0) else (Bl (decide (S<0)) (Co S.natAbs e),flagsOf S.natAbs e)
def K3 (a b:Nat):Nat × Nat :=
  if Am a=4∨Am b=4 then (P8,0)
  else if Am a=3 then (if Am b=3∧a≠b then (P8,16) else (a,0))
  else if Am b=3 then (b,0)
  else Ph (Bl (Bt a&&Bt b) 0) (J2 a (min (A2 a) (A2 b))+J2 b (min (A2 a) (A2 b))) (min (A2 a) (A2 b))
def As7 (a b:Nat):Nat × Nat:=K3 a (Hi b)
def Gi (neg:Bool) (m:Nat) (e:Int) (more:Bool):Nat × Nat :=
  (Bl neg (Co (4*m+more.toNat) (e-2)),flagsOf (4*m+more.toNat) (e-2))
def Dt (x:Int):Bool:=Bt x.toNat
def Lv (x:Int):Int:=Dz x.toNat
def C6 (x:Int):Int:=Da x.toNat
def Bd (x:Int):Int:=Am x.toNat
def Cv (x:Int):Bool:=Kb x.toNat
def Db (x:Int):Int:=Hi x.toNat
def Bv (x:Int):Int:=Aw x.toNat
def Bh (x:Int):Int:=A2 x.toNat
def E3 (neg:Bool) (m e:Int) (more:Bool):Int:=(Gi neg m.toNat e more).1
def E2 (neg:Bool) (m e:Int) (more:Bool):Int:=(Gi neg m.toNat e more).2
def Jx (a b:Int):Int:=(K3 a.toNat b.toNat).1
def Wt (a b:Int):Int:=(K3 a.toNat b.toNat).2
def Ew (a b:Int):Int:=(As7 a.toNat b.toNat).1
def Awa (a b:Int):Int:=(As7 a.toNat b.toNat).2
theorem Ji (b:Nat):Dz b<2048:=Nat.mod_lt _ (by decide)
theorem J9 (b:Nat):Da b<4503599627370496:=Nat.mod_lt _ (by decide)
theorem Fb (b:Nat):Aw b<9007199254740992:=by
  have:=J9 b
  unfold Aw; split<;>omega
theorem En (b:Nat):-1074≤A2 b∧A2 b≤972:=by
  have:=Ji b
  unfold A2; split<;>omega
theorem Mp {m:Nat} {e:Int} (h1:2^52≤m) (h2:m<2^53) (he:-1074≤e):Co m e=min ((e+1074).toNat*2^52+m) Eb:=by
  have hl:m.log2=52:=Us h1 h2
  have hm:m≠0:=by omega
  have hle:Cn m e=e:=by unfold Cn; rw [hl]; omega
  unfold Co kept
  rw [if_neg hm,hle,Int.sub_self]
  unfold J6
  simp [Ok]
theorem X6 {m:Nat} (h2:m<2^52):Co m (-1074)=m:=by
  by_cases hm:m=0
  · subst hm; rfl
  · have hl:m.log2<52:=(Nat.log2_lt hm).2 h2
    have hle:Cn m (-1074)=-1074:=by unfold Cn; omega
    unfold Co kept
    rw [if_neg hm,hle,Int.sub_self]
    unfold J6 Eb
    simp [Ok]
    omega
theorem K5 (m:Nat) (e:Int):Co m e≤Eb:=by
  unfold Co
  split
  · exact Nat.zero_le _
  · exact Nat.min_le_right _ _
theorem H7:Eb=9218868437227405312:=rfl
theorem W8 (m:Nat) (e:Int):Co m e<2^63:=by
  have:=K5 m e
  rw [H7] at this
  omega
theorem Tx (n:Bool) (m:Nat) (e:Int):Bl n (Co m e)<2^64:=by
  have:=W8 m e
  unfold Bl; split<;>omega
theorem Yv {r:Nat} (h:r<2^63):Hi r=2^63+r:=by
  unfold Hi; rw [if_neg (by omega)]; omega
end Go.Rnd
namespace Go.Rnd
open Go.Den
def K6 (m e:Int):Bool:=Cz (0≤m∧m≤9007199254740992∧-1074≤e∧e+m / 9007199254740992≤100000)
def Pj (m e:Int):Nat:=if 9007199254740992≤m then 1 else if m<4503599627370496 then 2+(e+1074).toNat else 0
def Ub (n:Bool) (m e:Int):Int:=Bl n (Co m.toNat e)
def Eg (m e:Int) (r:Bool):Bool :=
  Cz (0≤m∧m<18446744073709551616∧e≤50000∧(-1137≤e∨(m<4611686018427387904∧-1140≤e))∧(r=true→4503599627370496≤m∨e≤-1074))
def Fv (n D:Nat):Nat:=if n%2^D=0 then n / 2^D else 2*(n / 2^D / 2)+1
def Fe (m d:Int):Int:=Fv m.toNat (min d.toNat 63)
def Cl (l:List Int):Bool:=Cz (l.length<4611686018427387904∧∀ x∈l,Af x=true)
def Dx (x:Nat):Nat:=if Am x=4 then P8 else x
def Zv (x:Int):Int:=Dx x.toNat
def Fw (x:Nat):Int:=Dx x
def Kv (x:Int):Bool:=Cz (0≤x)
theorem Ir (n:Nat):Kv (n:Int)=true:=Aq.2 (Int.natCast_nonneg n)
theorem Uk {x:Int} (h:Kv x=true):∃ n:Nat,x=n:=⟨x.toNat,by have:=Aq.1 h; omega⟩
end Go.Rnd
namespace Go.Rnd
theorem Awd (a c:Nat):(a+1)*c+c=a*c+(c+c):=by rw [Nat.add_mul,Nat.one_mul,Nat.add_assoc]
theorem Au4:2^52+2^52=2^53:=by decide
theorem Awc (a:Nat):(a+1)*2^52+2^52=a*2^52+2^53:=(Awd a (2^52)).trans (congrArg (fun x=>a*2^52+x) Au4)
theorem Asz:2^52*2^1=2^53:=by decide
theorem Aqk {E:Int}:Co (2^53) E=Co (2^52) (E+1):=by
  have:=(Ee (2^52) 1 (E+1)).1
  have e1:E+1-((1:Nat):Int)=E:=by omega
  rw [e1,Asz] at this
  exact this
theorem Am2 {E:Int} (hE:-1074≤E):Co (2^53) E=min ((E+1074).toNat*2^52+2^53) Eb:=by
  have e3:(E+1+1074).toNat=(E+1074).toNat+1:=by omega
  rw [Aqk,Mp (by decide) (by decide) (by omega),e3]
  exact congrArg (fun x=>min x Eb) (Awc _)
theorem Akd {q:Nat} {E:Int} (h1:q≤2^53) (hE:-1074≤E) (h2:2^52≤q∨E=-1074):Co q E=min ((E+1074).toNat*2^52+q) Eb:=by
  by_cases ha:q=2^53
  · rw [ha]; exact Am2 hE
  · by_cases hb:2^52≤q
    · exact Mp hb (by omega) hE
    · obtain rfl:E=-1074:=h2.resolve_left hb
      rw [X6 (by omega)]
      unfold Eb
      simp
      omega
theorem Akn {M D s:Nat} (hs:s≤1):M3 (4*M+s) (D+2)=M / 2^D+(if 0<D∧(2^(D-1)<M%2^D∨(M%2^D=2^(D-1)∧(s=1∨M / 2^D%2=1))) then 1 else 0) ∧
    ((4*M+s)%2^(D+2)=0↔M%2^D=0∧s=0):=by
  have hp:2^(D+2)=2^D*4:=by rw [Nat.pow_add]
  have hA:=Cp D
  have hdm:=Nat.div_add_mod M (2^D)
  have hlt:=Nat.mod_lt M hA
  have hdiv:(4*M+s) / (2^D*4)=M / 2^D:=by
    rw [Nat.mul_comm (2^D) 4,← Nat.div_div_eq_div_mul]
    congr 1; omega
  have hmod:(4*M+s)%(2^D*4)=4*(M%2^D)+s:=by
    have h:=Nat.div_add_mod (4*M+s) (2^D*4)
    rw [hdiv] at h
    have e:2^D*4*(M / 2^D)=4*(2^D*(M / 2^D)):=by rw [Nat.mul_comm (2^D) 4,Nat.mul_assoc]
    rw [e] at h
    omega
  unfold M3
  rw [hp,hdiv,hmod]
  generalize M%2^D=r at *
  generalize M / 2^D=q at *
  refine ⟨?_,by omega⟩
  congr 1
  have key:(2^D*4<2*(4*r+s)∨2*(4*r+s)=2^D*4∧q%2=1)↔(0<D∧(2^(D-1)<r∨(r=2^(D-1)∧(s=1∨q%2=1)))):=by
    cases D with
    | zero=>simp only [Nat.pow_zero] at hlt ⊢; omega
    | succ d =>
      rw [Nat.pow_succ] at hlt ⊢
      simp only [Nat.add_sub_cancel]
      generalize 2^d=c at *
      omega
  simp only [key]
structure Drop (M:Nat) (e:Int) (D:Nat):Prop where
  le:D≤63
  stop:D<63→M / 2^D<2^53∧-1074≤e+D
  least:∀ d,d<D→2^53≤M / 2^d∨e+d < -1074
def qOf (M D s:Nat):Nat:=M / 2^D+(if 0<D∧(2^(D-1)<M%2^D∨(M%2^D=2^(D-1)∧(s=1∨M / 2^D%2=1))) then 1 else 0)
theorem Anc {M D s:Nat} (h:M / 2^D<2^53):qOf M D s≤2^53:=by
  unfold qOf; split<;>omega
theorem Ane {M D s:Nat}:M / 2^D≤qOf M D s:=by unfold qOf; omega
theorem At5 {M D:Nat} {c:Nat} (h:M / 2^D<c):M<c*2^D:=(Nat.div_lt_iff_lt_mul (Cp D)).1 h
theorem Aof {M D:Nat} {c:Nat} (h:c≤M / 2^D):c*2^D≤M:=(Nat.le_div_iff_mul_le (Cp D)).1 h
theorem Y6 {V:Nat} {E L:Int} (h:(E+V.log2-52=L∧-1074≤L)∨(E+V.log2-52≤L∧L=-1074)):Cn V E=L:=by unfold Cn; omega
theorem Alc {M s:Nat} (hs:s≤1) (hM:M≠0):(4*M+s).log2=M.log2+2:=by
  have h1:=Nat.log2_self_le hM
  have h2:=Nat.lt_log2_self (n:=M)
  refine Us ?_ ?_
  · rw [Nat.pow_add]; omega
  · have e:2^(M.log2+2+1)=2^(M.log2+1)*4:=by rw [show M.log2+2+1=M.log2+1+2 by omega,Nat.pow_add]
    omega
theorem Ak3 {M D s:Nat} {e:Int} (hD:Drop M e D) (hs:s≤1) (hV:4*M+s≠0) (hM:M<2^64) (he:-1137≤e∨(M<2^62∧-1140≤e)) (hr:s=1→2^52≤M∨e≤-1074) :
    Co (4*M+s) (e-2)=Co (if e+D < -1074 then 0 else qOf M D s) (max (e+D) (-1074)) ∧
    flagsOf (4*M+s) (e-2)=flags (Co (4*M+s) (e-2)) (decide (M%2^D=0∧s=0)) ∧
    (if e+D < -1074 then 0 else qOf M D s)≤2^53:=by
  have hA:=Cp D
  by_cases hlow:e+D < -1074
  ·
    have hD63:D=63:=by
      rcases Nat.lt_or_ge D 63 with h | h
      · have:=(hD.stop h).2; omega
      · have:=hD.le; omega
    subst hD63
    have hM62:M<2^62:=by rcases he with h | h; omega; exact h.1
    have he2:-1140≤e:=by rcases he with h | h; omega; exact h.2
    have hV64:4*M+s<2^64:=by omega
    have hlog:(4*M+s).log2<64:=(Nat.log2_lt hV).2 hV64
    have hl:Cn (4*M+s) (e-2)=-1074:=Y6 (.inr ⟨by omega,rfl⟩)
    obtain ⟨k,hk⟩:∃ k:Nat,(-1074-(e-2)).toNat=66+k:=⟨(-1074-(e-2)).toNat-66,by omega⟩
    have e2:(-(-1074-(e-2))).toNat=0:=by omega
    have hp:2^66≤2^(66+k):=Ay7 (by decide) (by omega)
    have hsm:4*M+s<2^(66+k):=by omega
    have hz:J6 (4*M+s) (-1074-(e-2))=0:=by
      unfold J6 M3
      rw [e2,hk,Nat.pow_zero,Nat.mul_one,Nat.div_eq_of_lt hsm,Ay5 hsm,if_neg (by omega)]
    have hru:Co (4*M+s) (e-2)=0:=by
      unfold Co kept
      rw [if_neg hV,hl,hz]
      simp
    refine ⟨?_,?_,?_⟩
    · rw [hru,if_pos hlow]; rfl
    · unfold flagsOf exact Mt
      rw [if_neg hV,hl,e2,hk,Nat.pow_zero,Nat.mul_one,Ay5 hsm]
      congr 1
      have h63:M%2^63=M:=Ay5 (by omega)
      rw [h63,Ay8]
      simp only [Ayz]
      omega
    · rw [if_pos hlow]; exact Nat.zero_le _
  · have hmax:max (e+D) (-1074)=e+D:=by omega
    have hq:M / 2^D<2^53:=by
      rcases Nat.lt_or_ge D 63 with h | h
      · exact (hD.stop h).1
      · have:D=63:=by have:=hD.le; omega
        subst this
        exact Nat.lt_of_le_of_lt (Nat.div_le_of_le_mul (show M≤2^63*2 by omega)) (by decide)
    obtain ⟨c1,c2⟩:=Akn (M:=M) (D:=D) hs
    rw [if_neg hlow,hmax]
    refine ⟨?_,?_,Anc hq⟩
    all_goals
      by_cases hD0:D=0∧s=0
      · obtain ⟨rfl,rfl⟩:=hD0
        have hM0:M≠0:=by omega
        obtain ⟨s1,s2⟩:=Ee M 2 e
        have e1:M*2^2=4*M+0:=by omega
        have e2:e-((2:Nat):Int)=e-2:=by omega
        rw [e1,e2] at s1 s2
        have hq0:qOf M 0 0=M:=by unfold qOf; simp
        have hle:Cn M e≤e:=by
          have:M.log2<53:=(Nat.log2_lt hM0).2 (by simpa using hq)
          unfold Cn; simp only [Int.natCast_zero,Int.add_zero] at hlow; omega
        first
        | (rw [s1,hq0]; simp; done)
        | (rw [s2,s1]
           unfold flagsOf exact Mt
           have z:(Cn M e-e).toNat=0:=by omega
           rw [if_neg hM0,z]
           simp [Nat.mod_one])
      ·
        have hl:Cn (4*M+s) (e-2)=e+D:=by
          by_cases hM0:M=0
          · subst hM0
            have hs1:s=1:=by omega
            subst hs1
            have hle:e+D=-1074:=by
              rcases Nat.eq_zero_or_pos D with rfl | hpos
              · have:=hr rfl; omega
              · have h:=hD.least (D-1) (by omega)
                simp only [Nat.zero_div] at h
                omega
            refine Y6 (.inr ⟨?_,hle⟩)
            have:(4*0+1:Nat).log2=0:=by decide
            rw [this]; omega
          · have hlog:=Alc hs hM0
            have hub:M.log2<53+D:=by
              rw [Nat.log2_lt hM0,Nat.pow_add]; exact At5 hq
            have hcase:52+D≤M.log2∨e+D=-1074:=by
              rcases Nat.eq_zero_or_pos D with rfl | hpos
              · have hs1:s=1:=by omega
                rcases hr hs1 with h | h
                · left; rw [Nat.le_log2 hM0]; simpa using h
                · right; simp only [Int.natCast_zero,Int.add_zero] at hlow ⊢; omega
              · rcases hD.least (D-1) (by omega) with h | h
                · left
                  rw [Nat.le_log2 hM0]
                  have:=Aof h
                  have e1:2^(52+D)=2^53*2^(D-1):=by rw [← Nat.pow_add]; congr 1; omega
                  rw [e1]; exact this
                · right; omega
            refine Y6 ?_
            rw [hlog]
            rcases hcase with h | h
            · left; omega
            · right; omega
        have e1:(e+D-(e-2)).toNat=D+2:=by omega
        have e2:(-(e+(D:Int)-(e-2))).toNat=0:=by omega
        have hkept:kept (4*M+s) (e-2)=qOf M D s:=by
          unfold kept J6
          rw [hl,e1,e2,Nat.pow_zero,Nat.mul_one,c1]; rfl
        first
        | (have hbig:2^52≤qOf M D s∨e+D=-1074:=by
             rcases Nat.eq_zero_or_pos D with rfl | hpos
             · have hs1:s=1:=by omega
               rcases hr hs1 with h | h
               · left; exact Nat.le_trans (by simpa using h) Ane
               · right; simp only [Int.natCast_zero,Int.add_zero] at hlow ⊢; omega
             · rcases hD.least (D-1) (by omega) with h | h
               · left
                 refine Nat.le_trans ?_ Ane
                 rw [Nat.le_div_iff_mul_le hA]
                 have:=Aof h
                 have e1:2^52*2^D=2^53*2^(D-1):=by rw [← Nat.pow_add,← Nat.pow_add]; congr 1; omega
                 rw [e1]; exact this
               · right; omega
           rw [Akd (Anc hq) (by omega) hbig]
           unfold Co
           rw [if_neg hV,hl,hkept]; done)
        | (unfold flagsOf exact Mt
           rw [if_neg hV,hl,e1,e2,Nat.pow_zero,Nat.mul_one]
           congr 1
           rw [Ay8]
           simp only [Ayz]
           exact c2)
theorem Aa4 (n:Bool) {r:Nat} (h:r<2^63):Dz (Bl n r)=r / 2^52:=by
  unfold Dz Bl; cases n
  · simp only [Bool.false_eq_true,if_false]; omega
  · simp only [if_true]; omega
theorem Zf (n:Bool) (r:Nat):Da (Bl n r)=r%2^52:=by
  unfold Da Bl; cases n
  · rfl
  · simp only [if_true]; omega
theorem Vx (n:Bool) {r:Nat} (h:r≤Eb):Am (Bl n r)=if r=Eb then 3 else if 2^52≤r then 2 else if 0<r then 1 else 0:=by
  rw [H7] at *
  unfold Am
  rw [Aa4 n (by omega),Zf]
  by_cases h1:r=9218868437227405312
  · subst h1; simp
  · rw [if_neg h1,if_neg (by omega)]
    by_cases h2:2^52≤r
    · rw [if_pos h2,if_pos (by omega)]
    · rw [if_neg h2,if_neg (by omega)]
      by_cases h3:0<r
      · rw [if_pos h3,if_pos (by omega)]
      · rw [if_neg h3,if_neg (by omega)]
end Go.Rnd
namespace Go.Rnd
open Ieee
theorem At6 (neg:Bool) (V k:Nat):Toward.even.cut neg V k=M3 V k:=by
  unfold Toward.cut M3
  simp only [Nat.shiftLeft_eq,Nat.one_mul]
  by_cases h:k≤V.log2+2
  · rw [Nat.min_eq_left h]
    congr 1
    by_cases h1:2^k<2*(V%2^k)
    · simp [h1]
    · by_cases h2:2*(V%2^k)=2^k∧V / 2^k%2=1
      · simp [h2.1,h2.2]
      · simp [h1,h2]
        intro h3
        have:=Nat.mod_lt (V / 2^k) (show 0<2 by decide)
        omega
  · rw [Nat.min_eq_right (by omega)]
    have hV:V<2^(V.log2+1):=Nat.lt_log2_self
    have e:2^(V.log2+2)=2*2^(V.log2+1):=by rw [Nat.pow_succ,Nat.mul_comm]
    have hk:2^(V.log2+2)≤2^k:=Ay7 (by decide) (by omega)
    have d1:V / 2^(V.log2+2)=0:=Nat.div_eq_of_lt (by omega)
    have d2:V / 2^k=0:=Nat.div_eq_of_lt (by omega)
    have m1:V%2^(V.log2+2)=V:=Ay5 (by omega)
    have m2:V%2^k=V:=Ay5 (by omega)
    rw [d1,d2,m1,m2]
    have c1:¬ (2^(V.log2+2)<2*V):=by omega
    have c2:¬ (2^k<2*V):=by omega
    simp [c1,c2]
theorem Apz (neg:Bool) (r:Nat):Ieee.double.word neg r=Bl neg r:=rfl
theorem Ahe (neg:Bool) (M:Nat) (E:Int):Ieee.double.nearest neg M E=Bl neg (Co M E):=by
  unfold Format.nearest Co
  by_cases h:M=0
  · rw [if_pos h,if_pos h]; rfl
  · rw [if_neg h,if_neg h,Apz]
    have e1:Ieee.double.leastPlace=-1074:=by decide
    have e2:max (E+(M.log2:Int)-(Ieee.double.fractionBits:Int)) Ieee.double.leastPlace=Cn M E:=by rw [e1]; rfl
    rw [e2,e1,At6,Nat.shiftLeft_eq]
    unfold kept J6
    have e3:(-(Cn M E-E)).toNat=(E-Cn M E).toNat:=by congr 1; omega
    have e4:Cn M E - -1074=Cn M E+1074:=by omega
    rw [e3,e4]
    rfl
theorem Hn (b:Nat):(Dz b=2047∧Da b=0∧Am b=3)∨(Dz b=2047∧Da b≠0∧Am b=4)∨(Dz b<2047∧Am b≠3∧Am b≠4):=by
  have:=Ji b
  unfold Am
  by_cases h1:Dz b=2047
  · by_cases h2:Da b=0<;>simp [h1,h2]
  · refine .inr (.inr ⟨by omega,?_⟩)
    rw [if_neg h1]
    split
    · decide
    · split<;>decide
theorem Pd (b:Nat):b%2^63=Dz b*2^52+Da b:=by unfold Dz Da; omega
def Oj (b:Nat):Datum:=if Am b=4 then .nan (Bt b) (Da b) else if Am b=3 then .infinity (Bt b) else .number (Bt b) (Aw b) (A2 b)
theorem I1 {b:Nat} (h:b<2^64):Ieee.double.read b=Oj b:=by
  unfold Format.read Oj
  have e0:Ieee.double.signWeight=2^63:=rfl
  have e1:Ieee.double.leastPlace=-1074:=by decide
  have e2:Ieee.double.binade=2^52:=rfl
  have e3:Ieee.double.infRung=Eb:=rfl
  have hn:(b / 2^63%2==1)=Bt b:=by
    unfold Bt
    rw [Ay8]
    simp only [beq_iff_eq,Ayz]
    omega
  dsimp only
  rw [e0,e1,e2,e3,hn,Pd,H7]
  have hf:Da b<2^52:=J9 b
  rcases Hn b with ⟨h1,h2,h3⟩ | ⟨h1,h2,h3⟩ | ⟨h1,h2,h3⟩
  · rw [if_neg (by omega),if_neg (by omega),if_pos (by omega),if_neg (by omega),if_pos h3]
  · rw [if_neg (by omega),if_neg (by omega),if_neg (by omega),if_pos h3]
    have e:Dz b*2^52+Da b-9218868437227405312=Da b:=by omega
    rw [e]
  · rw [if_neg h3,if_neg h2]
    by_cases h0:Dz b=0
    · rw [if_pos (by omega)]
      unfold Aw A2
      rw [if_pos h0,if_pos h0,h0,Nat.zero_mul,Nat.zero_add]
    · rw [if_neg (by omega),if_pos (by omega)]
      unfold Aw A2
      rw [if_neg h0,if_neg h0]
      have m1:(Dz b*2^52+Da b)%2^52=Da b:=by omega
      have m2:(Dz b*2^52+Da b) / 2^52=Dz b:=by omega
      have e:(-1074:Int)+((Dz b-1:Nat):Int)=(Dz b:Int)-1075:=by omega
      rw [m1,m2,Nat.add_comm (2^52),e]
theorem Ajw (s:Bool):Ieee.double.write (.infinity s)=Bl s Eb:=rfl
theorem Mm (s:Bool) (m:Nat) (e:Int):Ieee.double.write (.number s m e)=Bl s (Co m e):=Ahe s m e
theorem Nl {b:Nat} (h:b<2^64) (h3:Am b=3):Bl (Bt b) Eb=b:=by
  rcases Hn b with ⟨h1,h2,_⟩ | ⟨_,_,h4⟩ | ⟨_,h4,_⟩
  · have e:=Pd b
    rw [h1,h2] at e
    rw [H7]
    unfold Bl Bt
    by_cases hb:2^63≤b
    · simp [hb]; omega
    · simp [hb]; omega
  · omega
  · omega
theorem Gu (s:Bool) {r:Nat} (h:r≤Eb):Dx (Bl s r)=Bl s r:=by
  unfold Dx
  rw [if_neg]
  rw [Vx s h]
  split
  · decide
  · split
    · decide
    · split<;>decide
theorem Rg (s:Bool) (m up:Nat):Ieee.signed s m up=H5 s (m*2^up):=by
  unfold Ieee.signed H5
  rw [Nat.shiftLeft_eq]
theorem G2 {b:Nat} (h:Am b=4):Oj b=.nan (Bt b) (Da b):=if_pos h
theorem Ek {b:Nat} (h:Am b=3):Oj b=.infinity (Bt b):=by unfold Oj; rw [if_neg (by omega),if_pos h]
theorem Ej {b:Nat} (h3:Am b≠3) (h4:Am b≠4):Oj b=.number (Bt b) (Aw b) (A2 b):=by unfold Oj; rw [if_neg h4,if_neg h3]
theorem Apq {a b:Nat} (h:Am a=4∨Am b=4):K3 a b=(P8,0):=if_pos h
theorem Apr {a b:Nat} (h4:¬ (Am a=4∨Am b=4)) (h:Am a=3):K3 a b=(if Am b=3∧a≠b then (P8,16) else (a,0)):=by unfold K3; rw [if_neg h4,if_pos h]
theorem Al5 {a b:Nat} (h4:¬ (Am a=4∨Am b=4)) (h:Am a≠3) (h':Am b=3):K3 a b=(b,0):=by unfold K3; rw [if_neg h4,if_neg h,if_pos h']
theorem Apo {a b:Nat} (h4:¬ (Am a=4∨Am b=4)) (h:Am a≠3) (h':Am b≠3) :
    K3 a b=Ph (Bl (Bt a&&Bt b) 0) (J2 a (min (A2 a) (A2 b))+J2 b (min (A2 a) (A2 b))) (min (A2 a) (A2 b)):=by
  unfold K3; rw [if_neg h4,if_neg h,if_neg h']
theorem Aqe (s:Bool) (m:Nat) (i:Int) (t:Bool) (n:Nat) (j:Int):(Datum.number s m i).sum (Datum.number t n j) =
    some (.number (if H5 s (m*2^(i-min i j).toNat)+H5 t (n*2^(j-min i j).toNat)=0 then s&&t else H5 s (m*2^(i-min i j).toNat)+H5 t (n*2^(j-min i j).toNat)<0)
      (H5 s (m*2^(i-min i j).toNat)+H5 t (n*2^(j-min i j).toNat)).natAbs (min i j)):=by
  rw [← Rg,← Rg]
  rfl
theorem Ad7 {a b:Nat} (ha:a<2^64) (hb:b<2^64) {d:Nat} (hd:Am d=4) :
    Dx ((((Oj a).sum (Oj b)).map Ieee.double.write).getD d)=(K3 a b).1:=by
  have cd:Dx d=P8:=if_pos hd
  by_cases h4:Am a=4∨Am b=4
  · rw [Apq h4]
    by_cases a4:Am a=4
    · rw [G2 a4]; exact cd
    · have b4:=h4.resolve_left a4
      rw [G2 b4]
      by_cases a3:Am a=3
      · rw [Ek a3]; exact cd
      · rw [Ej a3 a4]; exact cd
  · have a4:Am a≠4:=fun h=>h4 (.inl h)
    have b4:Am b≠4:=fun h=>h4 (.inr h)
    by_cases a3:Am a=3
    · have wa:=Nl ha a3
      rw [Apr h4 a3,Ek a3]
      by_cases b3:Am b=3
      · have wb:=Nl hb b3
        rw [Ek b3]
        by_cases hs:Bt a=Bt b
        · have hab:a=b:=by rw [← wa,← wb,hs]
          rw [if_neg (fun h=>h.2 hab)]
          have:(Datum.infinity (Bt a)).sum (.infinity (Bt b))=some (.infinity (Bt a)):=if_pos hs
          rw [this]
          show Dx (Bl (Bt a) Eb)=a
          rw [Gu _ (Nat.le_refl _),wa]
        · have hab:a≠b:=fun h=>hs (by rw [h])
          have:(Datum.infinity (Bt a)).sum (.infinity (Bt b))=none:=if_neg hs
          rw [this,if_pos ⟨b3,hab⟩]
          exact cd
      · rw [Ej b3 b4,if_neg (fun h=>b3 h.1)]
        show Dx (Bl (Bt a) Eb)=a
        rw [Gu _ (Nat.le_refl _),wa]
    · rw [Ej a3 a4]
      by_cases b3:Am b=3
      · have wb:=Nl hb b3
        rw [Al5 h4 a3 b3,Ek b3]
        show Dx (Bl (Bt b) Eb)=b
        rw [Gu _ (Nat.le_refl _),wb]
      · rw [Apo h4 a3 b3,Ej b3 b4,Aqe]
        show Dx (Ieee.double.write (.number _ _ _))=_
        rw [Mm,Gu _ (K5 _ _)]
        unfold Ph J2
        by_cases h0:H5 (Bt a) (Aw a*2^(A2 a-min (A2 a) (A2 b)).toNat)+H5 (Bt b) (Aw b*2^(A2 b-min (A2 a) (A2 b)).toNat)=0
        · rw [if_pos h0,if_pos h0,h0]
          have:Co (Int.natAbs 0) (min (A2 a) (A2 b))=0:=if_pos rfl
          rw [this]
        · rw [if_neg h0,if_neg h0]
theorem Apm {a b:Nat} (ha:a<2^64) (hb:b<2^64) {d:Nat} (hd:Am d=4):Dx ((Ieee.double.add a b).getD d)=(K3 a b).1:=by
  unfold Format.add
  rw [I1 ha,I1 hb]
  exact Ad7 ha hb hd
theorem Ae8 {b:Nat} (h:b<2^64):Bt (Hi b)=!(Bt b)∧Dz (Hi b)=Dz b∧Da (Hi b)=Da b:=by
  unfold Bt Dz Da Hi
  by_cases hb:2^63≤b
  · rw [if_pos hb]
    refine ⟨?_,by omega,by omega⟩
    have:¬ 2^63≤b-2^63:=by omega
    simp [hb,this]
  · rw [if_neg hb]
    refine ⟨?_,by omega,by omega⟩
    have:2^63≤b+2^63:=by omega
    simp [hb,this]
theorem Ahj {b:Nat} (h:b<2^64):Hi b<2^64:=by unfold Hi; split<;>omega
theorem Aha {b:Nat} (h:b<2^64):Oj (Hi b)=(Oj b).opposite:=by
  obtain ⟨h1,h2,h3⟩:=Ae8 h
  have hk:Am (Hi b)=Am b:=by unfold Am; rw [h2,h3]
  have hm:Aw (Hi b)=Aw b:=by unfold Aw; rw [h2,h3]
  have he:A2 (Hi b)=A2 b:=by unfold A2; rw [h2]
  by_cases b4:Am b=4
  · rw [G2 b4,G2 (by omega),h1,h3]; rfl
  · by_cases b3:Am b=3
    · rw [Ek b3,Ek (by omega),h1]; rfl
    · rw [Ej b3 b4,Ej (by omega) (by omega),h1,hm,he]; rfl
theorem Ams {a b:Nat} (ha:a<2^64) (hb:b<2^64) {d:Nat} (hd:Am d=4):Dx ((Ieee.double.sub a b).getD d)=(As7 a b).1:=by
  unfold Format.sub
  rw [I1 ha,I1 hb,← Aha hb]
  exact Ad7 ha (Ahj hb) hd
theorem Yq (b:Nat):(Ieee.double.read b).isNaN=decide (Am b=4):=by
  unfold Format.read
  have e0:Ieee.double.signWeight=2^63:=rfl
  have e2:Ieee.double.binade=2^52:=rfl
  have e3:Ieee.double.infRung=Eb:=rfl
  dsimp only
  rw [e0,e2,e3,Pd,H7]
  have hf:Da b<2^52:=J9 b
  rcases Hn b with ⟨h1,h2,h3⟩ | ⟨h1,h2,h3⟩ | ⟨h1,h2,h3⟩
  · rw [if_neg (by omega),if_neg (by omega),if_pos (by omega),Ayx (by omega)]; rfl
  · rw [if_neg (by omega),if_neg (by omega),if_neg (by omega),Ayt h3]; rfl
  · rw [Ayx h3]
    by_cases h0:Dz b=0
    · rw [if_pos (by omega)]; rfl
    · rw [if_neg (by omega),if_pos (by omega)]; rfl
end Go.Rnd
namespace Go.Rnd
open Ieee
theorem Vm {V W k:Nat} (h:V≤W):M3 V k≤M3 W k:=by
  unfold M3
  have hA:=Cp k
  have hq:V / 2^k≤W / 2^k:=Nat.div_le_div_right h
  rcases Nat.lt_or_ge (V / 2^k) (W / 2^k) with h1 | h1
  · split<;>split<;>omega
  · have he:V / 2^k=W / 2^k:=by omega
    have v:=Nat.div_add_mod V (2^k)
    have w:=Nat.div_add_mod W (2^k)
    rw [he] at v ⊢
    have hr:V%2^k≤W%2^k:=by omega
    by_cases hc:2^k<2*(V%2^k)∨2*(V%2^k)=2^k∧W / 2^k%2=1
    · have hc':2^k<2*(W%2^k)∨2*(W%2^k)=2^k∧W / 2^k%2=1:=by
        rcases hc with hc | ⟨hc,hd⟩
        · exact .inl (by omega)
        · rcases Nat.lt_or_ge (2^k) (2*(W%2^k)) with h2 | h2
          · exact .inl h2
          · exact .inr ⟨by omega,hd⟩
      rw [if_pos hc,if_pos hc']
      exact Nat.le_refl _
    · rw [if_neg hc]
      exact Nat.le_add_right _ _
theorem Aqn {V c k:Nat} (h:V≤c*2^k):M3 V k≤c:=by
  have h1:=Vm (k:=k) h
  have:M3 (c*2^k) k=c:=by
    have:=T8 c k 0
    rw [Nat.add_zero,Ok] at this
    exact this
  omega
theorem Arc {V c k:Nat} (h:c*2^k≤V):c≤M3 V k:=by
  have h1:=Vm (k:=k) h
  have:M3 (c*2^k) k=c:=by
    have:=T8 c k 0
    rw [Nat.add_zero,Ok] at this
    exact this
  omega
theorem Ahb {V W:Nat} {s:Int} (h:V≤W):J6 V s≤J6 W s:=Vm (Ay4 _ h)
theorem Ahu {V W:Nat} {E:Int} (hV:V≠0) (h:V≤W):Cn V E≤Cn W E:=by
  have:V.log2≤W.log2:=(Nat.le_log2 (by omega)).2 (Nat.le_trans (Nat.log2_self_le hV) h)
  unfold Cn; omega
theorem Ard {V:Nat} {E:Int}:kept V E≤2^53:=by
  have hV:V<2^(V.log2+1):=Nat.lt_log2_self
  unfold kept J6
  refine Aqn ?_
  have hl:E+V.log2-52≤Cn V E:=by unfold Cn; omega
  rw [← Nat.pow_add]
  have h1:V*2^(-(Cn V E-E)).toNat≤2^(V.log2+1)*2^(-(Cn V E-E)).toNat:=Ay4 _ (Nat.le_of_lt hV)
  rw [← Nat.pow_add] at h1
  exact Nat.le_trans h1 (Ay7 (by decide) (by omega))
theorem Ac5 {V:Nat} {E:Int} (hV:V≠0) (hl:Cn V E=E+V.log2-52):2^52≤kept V E:=by
  have h1:2^V.log2≤V:=Nat.log2_self_le hV
  unfold kept J6
  refine Arc ?_
  rw [← Nat.pow_add]
  have h2:2^V.log2*2^(-(Cn V E-E)).toNat≤V*2^(-(Cn V E-E)).toNat:=Ay4 _ h1
  rw [← Nat.pow_add] at h2
  exact Nat.le_trans (Ay7 (by decide) (by omega)) h2
theorem Aax {V W:Nat} {E:Int} (h:V≤W):Co V E≤Co W E:=by
  unfold Co
  by_cases hV:V=0
  · rw [if_pos hV]; exact Nat.zero_le _
  · have hW:W≠0:=by omega
    rw [if_neg hV,if_neg hW]
    have hl:=Ahu (E:=E) hV h
    have key:(Cn V E+1074).toNat*2^52+kept V E≤(Cn W E+1074).toNat*2^52+kept W E:=by
      rcases Int.lt_or_eq_of_le hl with h1 | h1
      · have hb:-1074≤Cn V E:=by unfold Cn; omega
        have hn:Cn W E=E+W.log2-52:=by unfold Cn at h1 hb ⊢; omega
        have k1:=Ard (V:=V) (E:=E)
        have k2:=Ac5 hW hn
        have h2:(Cn V E+1074).toNat+1≤(Cn W E+1074).toNat:=by omega
        have h3:((Cn V E+1074).toNat+1)*2^52≤(Cn W E+1074).toNat*2^52:=Ay4 _ h2
        rw [Nat.add_mul (Cn V E+1074).toNat 1 (2^52),Nat.one_mul] at h3
        omega
      · unfold kept
        rw [h1]
        exact Nat.add_le_add_left (Ahb h) _
    omega
theorem Rl {b:Nat} (h4:Am b≠4):Co (Aw b) (A2 b)=b%2^63:=by
  have hf:Da b<2^52:=J9 b
  have hr:=Pd b
  rw [hr]
  unfold Aw A2
  by_cases h0:Dz b=0
  · rw [if_pos h0,if_pos h0,X6 hf,h0,Nat.zero_mul,Nat.zero_add]
  · rw [if_neg h0,if_neg h0,Mp (by omega) (by omega) (by omega),H7]
    have e:((Dz b:Int)-1075+1074).toNat=Dz b-1:=by omega
    rw [e]
    have h5:(Dz b-1)*2^52+(Da b+2^52)=Dz b*2^52+Da b:=by omega
    rw [h5]
    rcases Hn b with ⟨h1,h2,_⟩ | ⟨_,_,h⟩ | ⟨h1,_,_⟩
    · rw [h1,h2]; decide
    · exact absurd h h4
    · omega
def H0 (b:Nat):Int:=H5 (Bt b) (b%2^63)
def Sk (b:Nat) (f:Int):Nat:=Aw b*2^(A2 b-f).toNat
theorem Uo {b:Nat} {f:Int} (h4:Am b≠4) (hf:f≤A2 b):Co (Sk b f) f=b%2^63:=by
  rw [← Rl h4]
  have h:=(Ee (Aw b) (A2 b-f).toNat (A2 b)).1
  have e:A2 b-((A2 b-f).toNat:Int)=f:=by omega
  rw [e] at h
  exact h
theorem An2 {a b:Nat} (h:a%2^63=b%2^63) (f:Int):Sk a f=Sk b f:=by
  have h1:Dz a=Dz b:=by unfold Dz; omega
  have h2:Da a=Da b:=by unfold Da; omega
  unfold Sk Aw A2
  rw [h1,h2]
theorem An3 {a b:Nat} {f:Int} (ha:Am a≠4) (hb:Am b≠4) (hfa:f≤A2 a) (hfb:f≤A2 b):Sk a f<Sk b f↔a%2^63<b%2^63:=by
  constructor
  · intro h
    have h1:=Aax (E:=f) (Nat.le_of_lt h)
    rw [Uo ha hfa,Uo hb hfb] at h1
    rcases Nat.lt_or_eq_of_le h1 with h2 | h2
    · exact h2
    · have:=An2 h2 f; omega
  · intro h
    rcases Nat.lt_or_ge (Sk a f) (Sk b f) with h1 | h1
    · exact h1
    · have h1:=Aax (E:=f) h1
      rw [Uo ha hfa,Uo hb hfb] at h1
      omega
theorem Afc (b:Nat) (f:Int):Sk b f=0↔b%2^63=0:=by
  have hp:=Cp (A2 b-f).toNat
  unfold Sk
  rw [Nat.mul_eq_zero,Pd]
  have h1:¬ (2^(A2 b-f).toNat=0):=by omega
  have h2:Aw b=0↔Dz b*2^52+Da b=0:=by unfold Aw; split<;>omega
  rw [h2]
  exact ⟨fun h=>h.resolve_right h1,.inl⟩
theorem Atc {s t:Bool} {m n m' n':Nat} (h1:m<n↔m'<n') (h2:n<m↔n'<m') (h3:m=0↔m'=0) (h4:n=0↔n'=0):H5 s m<H5 t n↔H5 s m'<H5 t n':=by
  unfold H5
  cases s<;>cases t<;>simp<;>omega
theorem Ab5 {a b:Nat} {f:Int} (ha:Am a≠4) (hb:Am b≠4) (hfa:f≤A2 a) (hfb:f≤A2 b):J2 a f<J2 b f↔H0 a<H0 b :=
  Atc (An3 ha hb hfa hfb) (An3 hb ha hfb hfa) (Afc a f) (Afc b f)
theorem Alu {x y x' y':Int} (h1:x<y↔x'<y') (h2:y<x↔y'<x'):compare x y=compare x' y':=by
  show compareOfLessAndEq x y=compareOfLessAndEq x' y'
  unfold compareOfLessAndEq
  by_cases h:x<y
  · rw [if_pos h,if_pos (h1.1 h)]
  · rw [if_neg h,if_neg (fun k=>h (h1.2 k))]
    by_cases e:x=y
    · rw [if_pos e,if_pos (by omega)]
    · rw [if_neg e,if_neg (by omega)]
theorem Atx {b:Nat} (h4:Am b≠4):b%2^63≤Eb:=by
  rw [← Rl h4]; exact K5 _ _
theorem Uw {b:Nat} (h:Am b=3):b%2^63=Eb:=by
  rw [Pd]
  rcases Hn b with ⟨h1,h2,_⟩ | ⟨_,_,h4⟩ | ⟨_,h4,_⟩
  · rw [h1,h2]; rfl
  · omega
  · omega
theorem Ux {b:Nat} (h3:Am b≠3) (h4:Am b≠4):b%2^63<Eb:=by
  have hf:Da b<2^52:=J9 b
  rw [Pd,H7]
  rcases Hn b with ⟨_,_,h⟩ | ⟨_,_,h⟩ | ⟨h1,_,_⟩
  · exact absurd h h3
  · exact absurd h h4
  · omega
theorem Ah3 {x y:Int} (h:x<y):compare x y=.lt:=by
  show compareOfLessAndEq x y=_; unfold compareOfLessAndEq; rw [if_pos h]
theorem Ah4 {x y:Int} (h:y<x):compare x y=.gt:=by
  show compareOfLessAndEq x y=_; unfold compareOfLessAndEq; rw [if_neg (by omega),if_neg (by omega)]
theorem Oq {a b:Nat} (ha:a<2^64) (hb:b<2^64) (a4:Am a≠4) (b4:Am b≠4):Ieee.double.order a b=some (compare (H0 a) (H0 b)):=by
  unfold Format.order
  rw [I1 ha,I1 hb]
  have hpos:0<Eb:=by decide
  by_cases a3:Am a=3
  · have ka:=Uw a3
    rw [Ek a3]
    by_cases b3:Am b=3
    · have kb:=Uw b3
      rw [Ek b3]
      show some (compare (Bt b).toNat (Bt a).toNat)=_
      unfold H0
      rw [ka,kb]
      cases Bt a<;>cases Bt b<;>decide
    · have kb:=Ux b3 b4
      rw [Ej b3 b4]
      show some (if Bt a then Ordering.lt else .gt)=_
      unfold H0 H5
      rw [ka]
      cases Bt a
      · rw [Ah4 (by simp; split<;>omega)]; rfl
      · rw [Ah3 (by simp; split<;>omega)]; rfl
  · have ka:=Ux a3 a4
    rw [Ej a3 a4]
    by_cases b3:Am b=3
    · have kb:=Uw b3
      rw [Ek b3]
      show some (if Bt b then Ordering.gt else .lt)=_
      unfold H0 H5
      rw [kb]
      cases Bt b
      · rw [Ah3 (by simp; split<;>omega)]; rfl
      · rw [Ah4 (by simp; split<;>omega)]; rfl
    · rw [Ej b3 b4]
      show some (compare (Ieee.signed _ _ _) (Ieee.signed _ _ _))=_
      rw [Rg,Rg]
      congr 1
      exact Alu (Ab5 a4 b4 (Int.min_le_left _ _) (Int.min_le_right _ _)) (Ab5 b4 a4 (Int.min_le_right _ _) (Int.min_le_left _ _))
theorem Vr {a b:Nat} (ha:a<2^64) (hb:b<2^64) (h:Am a=4∨Am b=4):Ieee.double.order a b=none:=by
  unfold Format.order
  rw [I1 ha,I1 hb]
  by_cases a4:Am a=4
  · rw [G2 a4]; cases Oj b<;>rfl
  · rw [G2 (h.resolve_left a4)]; cases Oj a<;>rfl
theorem Oz (s:Bool) {r:Nat} (h:r<2^63):H0 (Bl s r)=H5 s r:=by
  unfold H0 Bl Bt
  cases s
  · have h1:¬ 2^63≤r:=by omega
    have h2:r%2^63=r:=Ay5 h
    simp only [Bool.false_eq_true,if_false,Ayx h1,h2]
  · have h1:2^63≤2^63+r:=by omega
    have h2:(2^63+r)%2^63=r:=by omega
    simp only [if_true,Ayt h1,h2]
end Go.Rnd
namespace Go.Rnd
def Nj (a b:Nat):Nat × Nat :=
  if Am a=4∨Am b=4 then (P8,0)
  else if Am a=3∨Am b=3 then (if Am a=0∨Am b=0 then (P8,16) else (Bl (Bt a !=Bt b) Eb,0))
  else (Bl (Bt a !=Bt b) (Co (Aw a*Aw b) (A2 a+A2 b)),flagsOf (Aw a*Aw b) (A2 a+A2 b))
def Fk (X Y K:Nat):Nat:=2*(X*2^K / Y)+(if X*2^K%Y=0 then 0 else 1)
def Adh (a b:Nat):Nat × Nat :=
  if Am a=4∨Am b=4 then (P8,0)
  else if Am a=Am b∧(Am a=3∨Am a=0) then (P8,16)
  else if Am a=3 then (Bl (Bt a !=Bt b) Eb,0)
  else if Am b=3∨Am a=0 then (Bl (Bt a !=Bt b) 0,0)
  else if Am b=0 then (Bl (Bt a !=Bt b) Eb,8)
  else (Bl (Bt a !=Bt b) (Co (Fk (Aw a) (Aw b) 120) (A2 a-A2 b-121)),flagsOf (Fk (Aw a) (Aw b) 120) (A2 a-A2 b-121))
theorem Aba (a b:Nat):Nj a b=Nj b a:=by
  have e:(Bt a !=Bt b)=(Bt b !=Bt a):=by cases Bt a<;>cases Bt b<;>rfl
  unfold Nj
  rw [e,Nat.mul_comm (Aw a),Int.add_comm (A2 a)]
  simp only [or_comm]
theorem Ahf {V k:Nat} {E:Int} (hm:1≤V / 2^k) (hc:2^53≤V / 2^k∨E+k+1≤-1074) :
    Co (4*(V / 2^k)+(if V%2^k=0 then 0 else 1)) (E+k-2)=Co V E∧flagsOf (4*(V / 2^k)+(if V%2^k=0 then 0 else 1)) (E+k-2)=flagsOf V E:=by
  have hA:=Cp k
  have h1:=Nat.div_add_mod V (2^k)
  have h2:=Nat.mod_lt V hA
  generalize hq:V / 2^k=q at *
  generalize hr:V%2^k=r at *
  by_cases h0:r=0
  · rw [if_pos h0]
    obtain ⟨a1,a2⟩:=Ee q k (E+k)
    obtain ⟨b1,b2⟩:=Ee q 2 (E+k)
    have e1:E+(k:Int)-k=E:=by omega
    have e2:V=q*2^k:=by rw [Nat.mul_comm]; omega
    have e3:q*2^2=4*q+0:=by omega
    have e4:E+(k:Int)-((2:Nat):Int)=E+k-2:=by omega
    rw [e1,← e2] at a1 a2
    rw [e3,e4] at b1 b2
    rw [a1,a2,b1,b2]
    exact ⟨rfl,rfl⟩
  · rw [if_neg h0]
    obtain ⟨d,rfl⟩:∃ d,k=d+1:=by
      cases k with
      | zero=>simp only [Nat.pow_zero] at h2; omega
      | succ d=>exact ⟨d,rfl⟩
    have hD:2^(d+1)=2*2^d:=by rw [Nat.pow_succ]; omega
    rw [hD] at h1 h2
    generalize hc2:2^d=c at *
    have p1:(2*q+1-1)*c=2*c*q:=by rw [Nat.add_sub_cancel,Nat.mul_comm,Nat.mul_left_comm,Nat.mul_assoc]
    have p2:(2*q+1+1)*c=2*c*q+2*c:=by
      rw [show 2*q+1+1=2*(q+1) by omega,Nat.mul_assoc,Nat.add_mul,Nat.mul_add,Nat.mul_comm q c,Nat.mul_assoc]; omega
    have lt1:(2*q+1-1)*2^d<V:=by rw [hc2,p1]; omega
    have lt2:V<(2*q+1+1)*2^d:=by rw [hc2,p2]; omega
    have od:(2*q+1)%2=1:=by omega
    have lV:=Qo od (by omega) lt1 lt2
    have l4:(4*q+1).log2=(2*q+1).log2+1:=Qo (d:=1) od (by omega) (by omega) (by omega)
    have hs:(2*q+1).log2≥54∨E+d+2≤-1074:=by
      rcases hc with h | h
      · left; rw [ge_iff_le,Nat.le_log2 (by omega)]; omega
      · right; omega
    have hk:E+d+2≤Cn (2*q+1) (E+d):=by unfold Cn; omega
    obtain ⟨a1,a2⟩:=Qh (E:=E) od lt1 lt2 (by unfold Cn; rw [lV]; omega) hk
    have ee:E+((d+1:Nat):Int)-2+((1:Nat):Int)=E+d:=by omega
    obtain ⟨b1,b2⟩:=Qh (V:=4*q+1) (d:=1) (E:=E+((d+1:Nat):Int)-2) od (by omega) (by omega) (by unfold Cn; rw [l4]; omega) (by rw [ee]; unfold Cn; omega)
    rw [ee] at b1 b2
    rw [a1,a2,b1,b2]
    exact ⟨rfl,rfl⟩
theorem Uj (n:Bool) {V k:Nat} {E e:Int} {s:Bool} (he:e=E+k) (hs:s=decide (V%2^k≠0)) (hm:1≤V / 2^k) (hc:2^53≤V / 2^k∨E+k+1≤-1074) :
    Gi n (V / 2^k) e s=(Bl n (Co V E),flagsOf V E):=by
  obtain ⟨a,b⟩:=Ahf hm hc
  have e1:s.toNat=if V%2^k=0 then 0 else 1:=by
    rw [hs]
    by_cases h:V%2^k=0
    · rw [Ayx (by omega),if_pos h]; rfl
    · rw [Ayt h,if_neg h]; rfl
  unfold Gi
  rw [he,e1,a,b]
theorem Xw {X Y K:Nat} (d:Nat) (E:Int) (hY:0<Y) (h:2^53≤X*2^K / Y) :
    Co (Fk X Y (K+d)) (E-d)=Co (Fk X Y K) E∧flagsOf (Fk X Y (K+d)) (E-d)=flagsOf (Fk X Y K) E:=by
  have hA:=Cp d
  unfold Fk
  have e:X*2^(K+d)=X*2^K*2^d:=by rw [Nat.pow_add,Nat.mul_assoc]
  rw [e]
  generalize X*2^K=Z at *
  have h1:=Nat.div_add_mod Z Y
  have h2:=Nat.mod_lt Z hY
  by_cases h0:Z%Y=0
  · obtain ⟨q,rfl⟩:=Nat.dvd_of_mod_eq_zero h0
    have e1:Y*q*2^d=Y*(q*2^d):=Nat.mul_assoc _ _ _
    rw [e1,Nat.mul_mod_right,Nat.mul_mod_right,Nat.mul_div_cancel_left _ hY,Nat.mul_div_cancel_left _ hY,if_pos rfl]
    have:=Ee (2*q+0) d E
    rw [show (2*q+0)*2^d=2*(q*2^d)+0 by rw [Nat.add_zero,Nat.add_zero,Nat.mul_assoc]] at this
    exact this
  · have h3:=Nat.div_add_mod (Z*2^d) Y
    have h4:=Nat.mod_lt (Z*2^d) hY
    rw [if_neg h0]
    generalize hq:Z / Y=q at *
    generalize hr:Z%Y=r at *
    generalize hc:2^d=c at *
    have hz:Z*c=Y*(q*c)+r*c:=by rw [← h1,Nat.add_mul,Nat.mul_assoc]
    have hrc:r*c<Y*c:=(Nat.mul_lt_mul_right hA).2 h2
    have hrc0:0<r*c:=Nat.mul_pos (by omega) hA
    have q1:q*c≤Z*c / Y:=by rw [Nat.le_div_iff_mul_le hY,Nat.mul_comm (q*c)]; omega
    have q2:Z*c / Y<(q+1)*c:=by
      rw [Nat.div_lt_iff_lt_mul hY,Nat.add_mul,Nat.add_mul,Nat.one_mul,Nat.mul_comm (q*c),Nat.mul_comm c Y]; omega
    have q3:Z*c / Y=q*c→Z*c%Y≠0:=fun h5 h6=>by rw [h5,h6] at h3; omega
    generalize hQ:Z*c / Y=Q at *
    have p1:(2*q+1-1)*c=2*(q*c):=by rw [Nat.add_sub_cancel,Nat.mul_assoc]
    have p2:(2*q+1+1)*c=2*((q+1)*c):=by rw [show 2*q+1+1=2*(q+1) by omega,Nat.mul_assoc]
    have od:(2*q+1)%2=1:=by omega
    generalize hV:2*Q+(if Z*c%Y=0 then 0 else 1)=V
    have v1:(2*q+1-1)*2^d<V:=by
      rw [hc,p1,← hV]
      by_cases h5:Q=q*c
      · rw [if_neg (q3 h5)]; omega
      · split<;>omega
    have v2:V<(2*q+1+1)*2^d:=by
      rw [hc,p2,← hV]
      split<;>omega
    have lV:=Qo od (by omega) v1 v2
    have hs:54≤(2*q+1).log2:=by rw [Nat.le_log2 (by omega)]; omega
    have ee:E-(d:Int)+d=E:=by omega
    have:=Qh (E:=E-d) od v1 v2 (by unfold Cn; rw [lV]; omega) (by unfold Cn; omega)
    rw [ee] at this
    exact this
theorem Xx {X Y K L:Nat} {E F:Int} (hY:0<Y) (h1:2^53≤X*2^K / Y) (h2:2^53≤X*2^L / Y) (he:E+K=F+L) :
    Co (Fk X Y K) E=Co (Fk X Y L) F∧flagsOf (Fk X Y K) E=flagsOf (Fk X Y L) F:=by
  rcases Nat.le_total K L with h | h
  · obtain ⟨d,rfl⟩:=Nat.exists_eq_add_of_le h
    have:=Xw d E hY h1
    rw [show E-(d:Int)=F by omega] at this
    exact ⟨this.1.symm,this.2.symm⟩
  · obtain ⟨d,rfl⟩:=Nat.exists_eq_add_of_le h
    have:=Xw d F hY h2
    rw [show F-(d:Int)=E by omega] at this
    exact this
theorem Agw (X Y a K:Nat):Fk (X*2^a) Y K=Fk X Y (K+a):=by
  unfold Fk
  have:X*2^a*2^K=X*2^(K+a):=by rw [Nat.mul_assoc,← Nat.pow_add,Nat.add_comm a K]
  rw [this]
theorem Ad9 (X Y b K:Nat):Fk X (Y*2^b) (K+b)=Fk X Y K:=by
  have hp:=Cp b
  unfold Fk
  have:X*2^(K+b)=X*2^K*2^b:=by rw [Nat.pow_add,Nat.mul_assoc]
  rw [this,Nat.mul_div_mul_right _ _ hp,Nat.mul_mod_mul_right]
  have:(X*2^K%Y*2^b=0)↔(X*2^K%Y=0):=by
    constructor
    · intro h
      rcases Nat.mul_eq_zero.1 h with h | h
      · exact h
      · omega
    · intro h; rw [h,Nat.zero_mul]
  simp only [this]
theorem Ana {X Y K t:Nat} (hX:0<X) (hY0:0<Y) (hY:Y<2^t) (hK:53+t≤K):2^53≤X*2^K / Y:=by
  rw [Nat.le_div_iff_mul_le hY0]
  have h1:2^53*Y≤2^53*2^t:=Nat.mul_le_mul_left _ (by omega)
  have h2:2^(53+t)≤2^K:=Ay7 (by decide) hK
  have h3:1*2^K≤X*2^K:=Ay4 _ (by omega)
  rw [Nat.pow_add] at h2
  omega
theorem Ak4 (n:Bool) {X Y K:Nat} {e E:Int} {s:Bool} (hs:s=decide (X*2^K%Y≠0)) (he:E=e-1) (hq:2^53≤X*2^K / Y) :
    Gi n (X*2^K / Y) e s=(Bl n (Co (Fk X Y K) E),flagsOf (Fk X Y K) E):=by
  have e1:Fk X Y K / 2^1=X*2^K / Y:=by
    unfold Fk
    split<;>omega
  have e2:decide (Fk X Y K%2^1≠0)=decide (X*2^K%Y≠0):=by
    unfold Fk
    by_cases h:X*2^K%Y=0
    · rw [if_pos h,Ayx (by omega),Ayx (by omega)]
    · rw [if_neg h,Ayt (by omega),Ayt h]
  have:=Uj n (V:=Fk X Y K) (k:=1) (E:=E) (e:=e) (s:=s) (by omega) (by rw [e2]; exact hs) (by omega) (.inl (by omega))
  rw [e1] at this
  exact this
end Go.Rnd
namespace Go.Rnd
open Go.Den
def Cr:List Int→Nat
  | []=>0
  | x::l=>x.toNat+4294967296*Cr l
def digits:Nat→Nat→List Int
  | 0,_=>[]
  | k+1,v=>((v%4294967296:Nat):Int)::digits k (v / 4294967296)
def Ds (n:Nat):Nat:=if n=0 then 0 else n.log2 / 32+1
def Qp (n:Nat):List Int:=digits (Ds n) n
def Ap (v:Int):List Int:=Qp v.natAbs
def Bj (v:Int):Bool:=decide (v<0)
def wv (n:Bool) (l:List Int):Int:=H5 n (Cr l)
def Zd (l:List Int):Prop:=∀ x∈l,0≤x∧x<4294967296
def Hs (l:List Int):Bool:=Cz (l.length<1073741824∧Zd l)
def Jm (n:Bool) (l:List Int):Bool:=Cz (l.length<268435456∧l=Qp (Cr l)∧(n=true→l≠[]))
def Xd (n:Bool) (l:List Int):Bool:=Cz (l.length<134217728∧l=Qp (Cr l)∧(n=true→l≠[]))
def Atn (k:Int):Bool:=Cz (-1000000≤k∧k≤1000000)
def Aje (k:Int):Bool:=Cz (-9223372036854775808≤k∧k≤9223372036854775807)
def G4 (l:List Int) (i:Int):Int:=if 0≤i then l.getD i.toNat 0 else 0
def J7 (a b:List Int):List Int:=digits (max a.length b.length+1) (Cr a+Cr b)
def Hj (a b:List Int):List Int:=digits a.length (Cr a-Cr b)
def leL (a b:List Int):Bool:=Cz (Cr a≤Cr b)
def V3 (a b:Nat):Int:=if a<b then -1 else if b<a then 1 else 0
def Wz (a b:Int):Int:=if a<b then -1 else if b<a then 1 else 0
def K4 (v:Int) (j:Nat):Int:=H5 (Bj v) (v.natAbs / 2^j)
def Gy (v k:Int):Int:=if 0≤k then v*((2^k.toNat:Nat):Int) else K4 v (-k).toNat
def Y3 (v:Int):Int:=if v=0 then 0 else (v.natAbs.log2:Int)+1
def Akt (v:Int):Bool:=decide (v%2=1)
theorem two32:2^32=4294967296:=by decide
theorem Ol (k:Nat):2^(32*(k+1))=4294967296*2^(32*k):=by
  rw [Nat.mul_add,Nat.mul_one,Nat.pow_add,Nat.mul_comm,two32]
theorem Ff:∀ (k v:Nat),(digits k v).length=k
  | 0,_=>rfl
  | k+1,v=>by rw [digits,List.length_cons,Ff k]
theorem O5:∀ (k v:Nat),Zd (digits k v)
  | 0,_=>fun x h=>by cases h
  | k+1,v=>fun x h=>by
    rw [digits,List.mem_cons] at h
    rcases h with rfl | h
    · omega
    · exact O5 k _ x h
theorem Lc:∀ (k v:Nat),Cr (digits k v)=v%2^(32*k)
  | 0,v=>by rw [digits,Cr,Nat.mul_zero,Nat.pow_zero,Nat.mod_one]
  | k+1,v=>by
    rw [digits,Cr,Lc k,Ayu,Ol,Nat.mod_mul]
theorem Nm:∀ {l:List Int},Zd l→Cr l<2^(32*l.length)
  | [],_=>by decide
  | x::l,h=>by
    have h1:=h x (List.mem_cons_self ..)
    have h2:=Nm (l:=l) (fun y hy=>h y (List.mem_cons_of_mem _ hy))
    rw [Cr,List.length_cons,Ol]
    omega
theorem Q0:∀ {l:List Int},Zd l→digits l.length (Cr l)=l
  | [],_=>rfl
  | x::l,h=>by
    have h1:=h x (List.mem_cons_self ..)
    have h2:=Q0 (l:=l) (fun y hy=>h y (List.mem_cons_of_mem _ hy))
    rw [Cr,List.length_cons,digits]
    have e1:(x.toNat+4294967296*Cr l)%4294967296=x.toNat:=by omega
    have e2:(x.toNat+4294967296*Cr l) / 4294967296=Cr l:=by omega
    rw [e1,e2,h2]
    congr 1
    omega
theorem Mg (n:Nat):n<2^(32*Ds n):=by
  unfold Ds
  by_cases h:n=0
  · rw [if_pos h,h]; decide
  · rw [if_neg h]
    exact Nat.lt_of_lt_of_le Nat.lt_log2_self (Ay7 (by decide) (by omega))
theorem Nt {n k:Nat} (h:n<2^(32*k)):Ds n≤k:=by
  unfold Ds
  by_cases h0:n=0
  · rw [if_pos h0]; exact Nat.zero_le _
  · rw [if_neg h0]
    have:=(Nat.log2_lt h0).2 h
    omega
theorem Aq9 {n k:Nat} (h:2^(32*k)≤n):k+1≤Ds n:=by
  have hp:=Cp (32*k)
  unfold Ds
  rw [if_neg (by omega)]
  have:=(Nat.le_log2 (by omega)).2 h
  omega
theorem Mr {n m:Nat} (h:n≤m):Ds n≤Ds m:=Nt (Nat.lt_of_le_of_lt h (Mg m))
theorem Sq (n:Nat):Cr (Qp n)=n:=by
  unfold Qp
  rw [Lc,Ay5 (Mg n)]
theorem Hl (n:Nat):(Qp n).length=Ds n:=Ff _ _
theorem Afh (n:Nat):Zd (Qp n):=O5 _ _
theorem Zs:∀ (k v i:Nat),i<k→(digits k v).getD i 0=((v / 2^(32*i)%4294967296:Nat):Int)
  | k+1,v,0,_=>by rw [digits,List.getD_cons_zero,Nat.mul_zero,Nat.pow_zero,Nat.div_one]
  | k+1,v,i+1,h=>by
    rw [digits,List.getD_cons_succ,Zs k _ i (by omega),Ol,Nat.div_div_eq_div_mul]
theorem Rt {l:List Int} (h:Zd l) (i:Nat):l.getD i 0=((Cr l / 2^(32*i)%4294967296:Nat):Int):=by
  by_cases hi:i<l.length
  · have:=Zs l.length (Cr l) i hi
    rw [Q0 h] at this
    exact this
  · have h1:=Nm h
    have h2:2^(32*l.length)≤2^(32*i):=Ay7 (by decide) (by omega)
    rw [Nat.div_eq_of_lt (by omega),Ay2,List.getElem?_eq_none (by omega)]
    rfl
theorem Hm {l:List Int} (h:Zd l) (i:Nat):G4 l (i:Int)=((Cr l / 2^(32*i)%4294967296:Nat):Int):=by
  unfold G4
  rw [if_pos (by omega),Ayu,Rt h]
theorem Nx:∀ (k v:Nat),digits (k+1) v=digits k v++[((v / 2^(32*k)%4294967296:Nat):Int)]
  | 0,v=>by rw [digits,digits,digits,Nat.mul_zero,Nat.pow_zero,Nat.div_one]; rfl
  | k+1,v=>by
    rw [digits,Nx k,Ol,← Nat.div_div_eq_div_mul]
    rfl
theorem Wo:∀ (j k v:Nat),j≤k→(digits k v).take j=digits j v
  | 0,_,_,_=>by rw [List.take_zero,digits]
  | j+1,k+1,v,h=>by rw [digits,List.take_succ_cons,Wo j k _ (by omega),digits]
theorem Ahq {l:List Int} (h:Zd l):l.take (Ds (Cr l))=Qp (Cr l):=by
  have h1:=Wo (Ds (Cr l)) l.length (Cr l) (Nt (Nm h))
  rw [Q0 h] at h1
  exact h1
theorem Jf {n:Nat} (h:n≠0):0<Ds n:=by unfold Ds; rw [if_neg h]; omega
theorem Ht (v:Int):wv (Bj v) (Ap v)=v:=by
  unfold wv Bj Ap H5
  rw [Sq]
  by_cases h:v<0
  · rw [Ayt h,if_pos rfl]; omega
  · rw [Ayx h,if_neg (by decide)]; omega
theorem N4 {l:List Int} (h:l.length<1073741824) (hi:Zd l):Hs l=true:=Aq.2 ⟨h,hi⟩
theorem K7 {l:List Int} (h:Hs l=true):l.length<1073741824∧Zd l:=Aq.1 h
theorem Af8 (v:Int):Ap v=Qp (Cr (Ap v))∧(Bj v=true→Ap v≠[]):=by
  unfold Ap
  rw [Sq]
  refine ⟨rfl,fun h e=>?_⟩
  have h1:v<0:=of_decide_eq_true h
  have h2:=Hl v.natAbs
  rw [e] at h2
  have:=Jf (n:=v.natAbs) (by omega)
  rw [← h2] at this
  exact absurd this (by decide)
theorem Jl {v:Int} (h:Ds v.natAbs<268435456):Jm (Bj v) (Ap v)=true :=
  Aq.2 ⟨by unfold Ap; rw [Hl]; exact h,Af8 v⟩
theorem Anl {v:Int} (h:Ds v.natAbs<134217728):Xd (Bj v) (Ap v)=true :=
  Aq.2 ⟨by unfold Ap; rw [Hl]; exact h,Af8 v⟩
theorem Abt {n:Bool} {l:List Int} (h1:l=Qp (Cr l)) (h2:n=true→l≠[]):n=Bj (wv n l)∧l=Ap (wv n l):=by
  have e:(wv n l).natAbs=Cr l:=by unfold wv H5; split<;>omega
  refine ⟨?_,by unfold Ap; rw [e]; exact h1⟩
  unfold Bj wv H5
  cases n
  · simp
  · have h3:=h2 rfl
    have h4:Cr l≠0:=fun h=>by
      rw [h] at h1
      exact h3 h1
    simp; omega
theorem Jj {n:Bool} {l:List Int} (h:Jm n l=true):∃ v,n=Bj v∧l=Ap v∧Ds v.natAbs<268435456:=by
  obtain ⟨h0,h1,h2⟩:=Aq.1 h
  obtain ⟨e1,e2⟩:=Abt h1 h2
  refine ⟨_,e1,e2,?_⟩
  have:=congrArg List.length e2
  unfold Ap at this
  rw [Hl] at this
  omega
theorem Po {n:Bool} {l:List Int} (h:Xd n l=true):∃ v,n=Bj v∧l=Ap v∧Ds v.natAbs<134217728:=by
  obtain ⟨h0,h1,h2⟩:=Aq.1 h
  obtain ⟨e1,e2⟩:=Abt h1 h2
  refine ⟨_,e1,e2,?_⟩
  have:=congrArg List.length e2
  unfold Ap at this
  rw [Hl] at this
  omega
theorem Ot {v:Int} (h:Ds v.natAbs<1073741824):Hs (Ap v)=true :=
  N4 (by unfold Ap; rw [Hl]; exact h) (Afh _)
theorem D2 (v:Int):Cr (Ap v)=v.natAbs:=Sq _
theorem Ct (v:Int):(Ap v).length=Ds v.natAbs:=Hl _
theorem Asq (n:Bool) (l:List Int):wv (!n) l=- wv n l:=by
  unfold wv H5
  cases n<;>simp
theorem Akr {a b:List Int} (ha:Zd a) (hb:Zd b):Cr (J7 a b)=Cr a+Cr b:=by
  unfold J7
  rw [Lc,Ay5]
  have h1:=Nm ha
  have h2:=Nm hb
  have h3:2^(32*a.length)≤2^(32*max a.length b.length):=Ay7 (by decide) (by omega)
  have h4:2^(32*b.length)≤2^(32*max a.length b.length):=Ay7 (by decide) (by omega)
  rw [Ol]
  omega
theorem T9 (a b:List Int):(J7 a b).length=max a.length b.length+1:=Ff _ _
theorem Ae0 (a b:List Int):Zd (J7 a b):=O5 _ _
theorem Ahk {a:List Int} (b:List Int) (ha:Zd a):Cr (Hj a b)=Cr a-Cr b:=by
  unfold Hj
  rw [Lc,Ay5]
  have h1:=Nm ha
  omega
theorem Sj (a b:List Int):(Hj a b).length=a.length:=Ff _ _
theorem Abc (a b:List Int):Zd (Hj a b):=O5 _ _
theorem L9 (v:Int) (j:Nat):(K4 v j).natAbs=v.natAbs / 2^j:=by
  unfold K4
  generalize v.natAbs / 2^j=m
  unfold H5; split<;>omega
theorem T0 {v:Int} (h:v<0) (m:Nat):H5 (Bj v) m=-(m:Int):=by
  unfold H5 Bj; rw [Ayt h,if_pos rfl]
theorem Tz {v:Int} (h:¬ v<0) (m:Nat):H5 (Bj v) m=(m:Int):=by
  unfold H5 Bj; rw [Ayx h,if_neg (by decide)]
theorem Acj (v:Int) (i j:Nat):K4 (K4 v i) j=K4 v (i+j):=by
  have e:v.natAbs / 2^(i+j)=v.natAbs / 2^i / 2^j:=by rw [Nat.pow_add,Nat.div_div_eq_div_mul]
  have h1:=L9 v i
  by_cases hv:v<0
  · have h2:K4 v i=-((v.natAbs / 2^i:Nat):Int):=T0 hv _
    rw [show K4 v (i+j)=-((v.natAbs / 2^(i+j):Nat):Int) from T0 hv _,e]
    by_cases h0:v.natAbs / 2^i=0
    · rw [h2,h0]
      show K4 0 j=_
      rw [Nat.zero_div]
      show H5 (Bj 0) (0 / 2^j)=_
      rw [Nat.zero_div]; rfl
    · have h3:K4 v i<0:=by omega
      rw [show K4 (K4 v i) j=-(((K4 v i).natAbs / 2^j:Nat):Int) from T0 h3 _,h1]
  · have h2:K4 v i=((v.natAbs / 2^i:Nat):Int):=Tz hv _
    have h3:¬ K4 v i<0:=by omega
    rw [show K4 (K4 v i) j=(((K4 v i).natAbs / 2^j:Nat):Int) from Tz h3 _,h1,show K4 v (i+j)=((v.natAbs / 2^(i+j):Nat):Int) from Tz hv _,e]
theorem Aek (v:Int):K4 v 0=v:=by
  unfold K4 H5 Bj
  rw [Nat.pow_zero,Nat.div_one]
  by_cases h:v<0
  · rw [Ayt h,if_pos rfl]; omega
  · rw [Ayx h,if_neg (by decide)]; omega
theorem Rj (j:Nat):K4 0 j=0:=by
  unfold K4
  rw [show (Int.natAbs 0)=0 from rfl,Nat.zero_div]
  rfl
theorem Ajy {l:List Int} (h:Zd l):Cr (l.drop 1)=Cr l / 4294967296:=by
  cases l with
  | nil=>rfl
  | cons x l =>
    have:=h x (List.mem_cons_self ..)
    show Cr l=_
    rw [Cr]; omega
theorem Afo {l:List Int} (h:Zd l):Zd (l.drop 1):=fun x hx=>h x (List.mem_of_mem_drop hx)
theorem Aol {l:List Int} (h:Zd l):Zd ([(0:Int)]++l):=fun x hx=>by
  rcases List.mem_cons.1 hx with rfl | hx
  · omega
  · exact h x hx
theorem Aob (n:Nat):Ds (2*n)≤Ds n+1:=by
  refine Nt ?_
  have h:=Mg n
  rw [Ol]
  omega
theorem Aq8 (n:Nat):Ds (n*4294967296)≤Ds n+1:=by
  refine Nt ?_
  have h:=Mg n
  rw [Ol]
  omega
theorem Aff {n m:Nat} (h:2^m≤n):(n / 2^m).log2+m=n.log2:=by
  have hp:=Cp m
  have h0:n≠0:=by omega
  have hm:m≤n.log2:=(Nat.le_log2 h0).2 h
  have e:(n / 2^m).log2=n.log2-m:=by
    refine Us ?_ ?_
    · rw [Nat.le_div_iff_mul_le hp,← Nat.pow_add]
      exact Nat.le_trans (Ay7 (by decide) (by omega)) (Nat.log2_self_le h0)
    · rw [Nat.div_lt_iff_lt_mul hp,← Nat.pow_add]
      exact Nat.lt_of_lt_of_le Nat.lt_log2_self (Ay7 (by decide) (by omega))
  omega
end Go.Rnd
namespace Go.Rnd
open Go.Den
def R7 (n:Nat):Nat:=if h:n=0∨n%2=1 then 0 else R7 (n / 2)+1
termination_by n
decreasing_by omega
def mD (v:Int):Int:=K4 v (R7 v.natAbs)
def eD (v e:Int):Int:=if v=0 then 0 else e+R7 v.natAbs
def C9 (v e w f:Int):Int:=if v=0 then f else if w=0 then e else min e f
def Apn (v e w f:Int):Int:=Gy v (e-C9 v e w f)+Gy w (f-C9 v e w f)
def Q8 (v e w f:Int):Int:=mD (Apn v e w f)
def Apu (v e w f:Int):Int:=eD (Apn v e w f) (C9 v e w f)
def Il (v e:Int):Int:=if v=0 then 0 else Y3 v+e
def Ni (v:Int):Int:=if v<0 then -1 else if v=0 then 0 else 1
def W0 (v e w f:Int):Int:=Wz (Gy v (e-C9 v e w f)) (Gy w (f-C9 v e w f))
def Aad (e:Int):Bool:=Cz (-2000000≤e∧e≤2000000)
def Wx (e:Int):Bool:=Cz (-400000≤e∧e≤400000)
def Ae6 (v e f:Int):Bool:=Cz (v=0∨(-1000000≤e-f∧e-f≤1000000))&&Cz (-400000≤e∧e≤400000∧-1000000≤f∧f≤1000000)
theorem Agq {n:Nat} (h:n=0∨n%2=1):R7 n=0:=by rw [R7,dif_pos h]
theorem Ain {n:Nat} (h0:n≠0) (h:n%2=0):R7 n=R7 (n / 2)+1:=by rw [R7,dif_neg (by omega)]
theorem Ab7 {n:Nat} (h:n≠0):∀ k,R7 (n*2^k)=k+R7 n
  | 0=>by rw [Nat.pow_zero,Nat.mul_one,Nat.zero_add]
  | k+1=>by
    have hp:=Cp k
    have h1:n*2^k≠0:=by
      intro e
      rcases Nat.mul_eq_zero.1 e with e | e<;>omega
    have e:n*2^(k+1)=n*2^k*2:=by rw [Nat.pow_succ,Nat.mul_assoc]
    rw [e,Ain (by omega) (by omega),Nat.mul_div_cancel _ (by decide),Ab7 h k]
    omega
theorem Aim (n:Nat) (h:n≠0):∃ m,n=m*2^R7 n∧m%2=1:=by
  induction n using Nat.strongRecOn with
  | _ n ih =>
    by_cases h2:n%2=1
    · refine ⟨n,?_,h2⟩
      rw [Agq (.inr h2),Nat.pow_zero,Nat.mul_one]
    · obtain ⟨m,h3,h4⟩:=ih (n / 2) (by omega) (by omega)
      refine ⟨m,?_,h4⟩
      rw [Ain h (by omega),Nat.pow_succ,← Nat.mul_assoc,← h3]
      omega
theorem Asb {n:Nat} (h:n≠0):R7 n≤n.log2:=by
  obtain ⟨m,h1,h2⟩:=Aim n h
  refine (Nat.le_log2 h).2 ?_
  have:1*2^R7 n≤m*2^R7 n:=Ay4 _ (by omega)
  omega
theorem Abe {n:Nat}:n.log2<32*Ds n+1:=by
  unfold Ds
  by_cases h:n=0
  · rw [h]; decide
  · rw [if_neg h]; omega
theorem An4 {v:Int} {k:Nat} (h:v.natAbs%2^k=0):mD (K4 v k)=mD v:=by
  unfold mD
  by_cases h0:v=0
  · rw [h0,Rj]
  · have hp:=Cp k
    have hv:=Nat.div_add_mod v.natAbs (2^k)
    rw [h,Nat.add_zero,Nat.mul_comm] at hv
    have hq:v.natAbs / 2^k≠0:=by
      intro e; rw [e] at hv; omega
    have:=Ab7 hq k
    rw [hv] at this
    rw [L9,Acj,this]
theorem Ao1 {v e:Int} {k:Nat} (h:v.natAbs%2^k=0) (h0:v≠0):eD (K4 v k) (e+k)=eD v e:=by
  unfold eD
  have hp:=Cp k
  have hv:=Nat.div_add_mod v.natAbs (2^k)
  rw [h,Nat.add_zero,Nat.mul_comm] at hv
  have hq:v.natAbs / 2^k≠0:=by
    intro e; rw [e] at hv; omega
  have ht:=Ab7 hq k
  rw [hv] at ht
  have ha:=L9 v k
  rw [if_neg h0,if_neg (by omega),ha,ht]
  omega
theorem Ats {v:Int} (h:v%2=1):mD v=v:=by
  unfold mD
  rw [Agq (.inr (by omega)),Aek]
theorem At3 {v:Int} (h:v%2=1) (e:Int):eD v e=e:=by
  unfold eD
  rw [Agq (.inr (by omega)),if_neg (by omega)]
  omega
theorem Anw {v:Int} (h:v≠0) (k:Nat):v*((2^k:Nat):Int)≠0:=by
  have hp:=Cp k
  intro e
  rcases Int.mul_eq_zero.1 e with e | e
  · exact h e
  · omega
theorem Xg (v:Int):v=mD v*((2^R7 v.natAbs:Nat):Int):=by
  by_cases h:v=0
  · rw [h]
    show (0:Int)=K4 0 _*_
    rw [Rj,Int.zero_mul]
  · obtain ⟨m,h1,h2⟩:=Aim v.natAbs (by omega)
    have hp:=Cp (R7 v.natAbs)
    have hq:v.natAbs / 2^R7 v.natAbs=m:=Nat.div_eq_of_eq_mul_left hp h1
    unfold mD K4
    rw [hq]
    by_cases hv:v<0
    · rw [T0 hv,Int.neg_mul,← Azd,← h1]; omega
    · rw [Tz hv,← Azd,← h1]; omega
theorem Pp {v:Int}:mD v=0↔v=0:=by
  constructor
  · intro h
    have:=Xg v
    rw [h,Int.zero_mul] at this
    exact this
  · intro h
    rw [h]
    exact Rj _
theorem Abd (v:Int):(mD v).natAbs≤v.natAbs:=by
  unfold mD
  rw [L9]
  exact Nat.div_le_self _ _
end Go.Rnd
namespace Go.Rnd
open Go.Den
def vAt (v e g:Int):Int:=v*((2^(e-g).toNat:Nat):Int)
theorem Ik (e g:Int):vAt 0 e g=0:=Int.zero_mul _
theorem Aam {v e g h:Int} (h1:h≤e) (h2:g≤h):vAt v e g=vAt v e h*((2^(h-g).toNat:Nat):Int):=by
  unfold vAt
  rw [Int.mul_assoc,← Azd,← Nat.pow_add]
  have:(e-h).toNat+(h-g).toNat=(e-g).toNat:=by omega
  rw [this]
theorem Aih {S l g:Int} (h:g≤l):vAt (mD S) (eD S l) g=vAt S l g:=by
  by_cases h0:S=0
  · rw [h0,Pp.2 rfl,Ik,Ik]
  · have e:eD S l=l+R7 S.natAbs:=by unfold eD; rw [if_neg h0]
    rw [e]
    unfold vAt
    have e1:(l+(R7 S.natAbs:Int)-g).toNat=R7 S.natAbs+(l-g).toNat:=by omega
    rw [e1,Nat.pow_add,Azd,← Int.mul_assoc,← Xg]
theorem Air {v e l:Int} (h:v≠0→l≤e):Gy v (e-l)=vAt v e l:=by
  by_cases h0:v=0
  · rw [h0,Ik]
    unfold Gy
    split
    · exact Int.zero_mul _
    · exact Rj _
  · unfold Gy vAt
    rw [if_pos (by have:=h h0; omega)]
theorem Att {v e w f:Int}:(v≠0→C9 v e w f≤e)∧(w≠0→C9 v e w f≤f):=by
  unfold C9
  constructor
  · intro h
    rw [if_neg h]
    split<;>omega
  · intro h
    split
    · omega
    · omega
theorem Asp {v e g:Int} (h:g≤e) (h0:v≠0):g≤eD v e:=by
  unfold eD
  rw [if_neg h0]
  omega
theorem Apc (x y:Int) (k:Nat):Wz (x*((2^k:Nat):Int)) (y*((2^k:Nat):Int))=Wz x y:=by
  have hp:=Cp k
  have h1:x*((2^k:Nat):Int)<y*((2^k:Nat):Int)↔x<y:=Int.mul_lt_mul_right (by omega)
  have h2:y*((2^k:Nat):Int)<x*((2^k:Nat):Int)↔y<x:=Int.mul_lt_mul_right (by omega)
  unfold Wz
  simp only [h1,h2]
theorem Aru {v e w f g:Int} (h1:v≠0→g≤e) (h2:w≠0→g≤f):W0 v e w f=Wz (vAt v e g) (vAt w f g):=by
  obtain ⟨l1,l2⟩:=Att (v:=v) (e:=e) (w:=w) (f:=f)
  unfold W0
  rw [Air l1,Air l2]
  by_cases h0:v=0∧w=0
  · rw [h0.1,h0.2,Ik,Ik,Ik,Ik]
  · have hg:g≤C9 v e w f:=by
      unfold C9
      split
      · rename_i hv
        exact h2 (fun k=>h0 ⟨hv,k⟩)
      · split
        · exact h1 (by assumption)
        · have:=h1 (by assumption); have:=h2 (by assumption); omega
    have e1:vAt v e g=vAt v e (C9 v e w f)*((2^(C9 v e w f-g).toNat:Nat):Int):=by
      by_cases h0:v=0
      · rw [h0,Ik,Ik,Int.zero_mul]
      · exact Aam (l1 h0) hg
    have e2:vAt w f g=vAt w f (C9 v e w f)*((2^(C9 v e w f-g).toNat:Nat):Int):=by
      by_cases h0:w=0
      · rw [h0,Ik,Ik,Int.zero_mul]
      · exact Aam (l2 h0) hg
    rw [e1,e2,Apc]
def Ah (l:List Int):Bool:=Cz (∀ x∈l,Af x=true)
def Fa (x:Int):Int:=H5 (Bt x.toNat) (Aw x.toNat)
def Sf (n:Bool) (b:Int):Int:=if n then Db b else b
end Go.Rnd
namespace Go.Rnd
open Go.Den
theorem Agm (s:Bool) {q:Nat} {L:Int} (hq:q<2^53) (hL:-1074≤L) (h:2^52≤q∨L=-1074) (hr:(L+1074).toNat*2^52+q<Eb) :
    Aw (Bl s ((L+1074).toNat*2^52+q))=q∧A2 (Bl s ((L+1074).toNat*2^52+q))=L:=by
  rw [H7] at hr
  obtain ⟨t,ht⟩:∃ t:Nat,L=t-1074:=⟨(L+1074).toNat,by omega⟩
  have et:(L+1074).toNat=t:=by omega
  rw [et] at hr ⊢
  have hp:=Aa4 s (r:=t*2^52+q) (by omega)
  have hf:=Zf s (t*2^52+q)
  unfold Aw A2
  by_cases h52:2^52≤q
  · have e1:Dz (Bl s (t*2^52+q))=t+1:=by rw [hp]; omega
    rw [e1,hf,if_neg (by omega),if_neg (by omega)]
    omega
  · have t0:t=0:=by omega
    subst t0
    have e1:Dz (Bl s (0*2^52+q))=0:=by rw [hp]; omega
    rw [e1,hf,if_pos rfl,if_pos rfl]
    omega
theorem sign_neg (s:Bool) {r:Nat} (h:r<2^63):Bt (Bl s r)=s:=by
  unfold Bt Bl
  cases s
  · simp only [Bool.false_eq_true,if_false,Azb]; omega
  · simp only [if_true,Ayz]; omega
theorem Ahy (s:Bool) {V:Nat} {E:Int} (h0:V≠0) (hE:Cn V E≤E) (hi:Co V E<Eb) :
    flagsOf V E=0∧∃ k:Nat,Aw (Bl s (Co V E))=V*2^k∧A2 (Bl s (Co V E))=E-k:=by
  have hl2:V.log2=V.log2:=rfl
  have ek:kept V E=V*2^(E-Cn V E).toNat:=by
    unfold kept J6
    have e1:(Cn V E-E).toNat=0:=by omega
    have e2:(-(Cn V E-E)).toNat=(E-Cn V E).toNat:=by omega
    rw [e1,e2,Ok]
  have eex:exact V E=true:=by
    unfold exact Mt
    have e1:(Cn V E-E).toNat=0:=by omega
    rw [e1,Nat.pow_zero,Nat.mod_one]; rfl
  constructor
  · unfold flagsOf flags
    rw [if_neg h0,if_neg (by omega),eex]; rfl
  · have hr:Co V E=(Cn V E+1074).toNat*2^52+kept V E:=by
      unfold Co at hi ⊢
      rw [if_neg h0] at hi ⊢
      omega
    have hk:kept V E<2^53:=by
      rw [ek,← Nat.log2_lt (Is h0),Lk V _ h0]
      unfold Cn at hE ⊢
      omega
    have hb:2^52≤kept V E∨Cn V E=-1074:=by
      by_cases h:Cn V E=-1074
      · exact .inr h
      · left
        refine Ac5 h0 ?_
        unfold Cn at h ⊢
        omega
    rw [hr] at hi
    obtain ⟨p1,p2⟩:=Agm s hk (by unfold Cn; omega) hb hi
    refine ⟨(E-Cn V E).toNat,?_,?_⟩
    · rw [hr,p1,ek]
    · rw [hr,p2]; omega
theorem Afl {V:Nat} {E:Int} (h:V<2^53) (hE:-1074≤E):Cn V E≤E:=by
  by_cases h0:V=0
  · subst h0; unfold Cn; rw [Nat.log2_zero]; omega
  · have:=(Nat.log2_lt h0).2 h
    unfold Cn; omega
end Go.Rnd
namespace Go.Rnd
open Go.Den
def E4 (x:Int):Int:=if x=0 then 0 else (x.toNat.log2:Int)+1
def Si (x y:Int):Int:=((x.toNat*y.toNat / 18446744073709551616:Nat):Int)
def Nq (x y:Int):Int:=((x.toNat*y.toNat%18446744073709551616:Nat):Int)
def Anu (a b:Int):Bool:=decide (Bd a=4)||decide (Bd b=4)
def Ch (b:Nat):Nat:=52-(Aw b).log2
def C8 (b:Int):Int:=((Aw b.toNat*2^Ch b.toNat:Nat):Int)
def Hd (b:Int):Int:=A2 b.toNat-Ch b.toNat
def Md (b:Int):Bool:=Cz (Aw b.toNat≠0)
def Pa (m e:Int):Bool:=Cz (1152921504606846976≤m∧m<4611686018427387904∧-6000≤e∧e≤6000)
def D3 (a b:Int):Int:=(Nj a.toNat b.toNat).1
def Awg (a b:Int):Int:=(Nj a.toNat b.toNat).2
def Fc (a b:Int):Int:=(Adh a.toNat b.toNat).1
def Awm (a b:Int):Int:=(Adh a.toNat b.toNat).2
end Go.Rnd
namespace Go.Rnd
theorem Al6 (a b:Nat):K3 a b=K3 b a:=by
  unfold K3
  by_cases ha:Am a=4
  · simp only [ha,true_or,or_true,if_true]
  · by_cases hb:Am b=4
    · simp only [hb,true_or,or_true,if_true]
    · simp only [ha,hb,or_self,if_false]
      by_cases ha3:Am a=3
      · by_cases hb3:Am b=3
        · simp only [ha3,hb3,if_true,true_and]
          by_cases e:a=b
          · subst e; rfl
          · rw [if_pos e,if_pos (fun h=>e h.symm)]
        · simp only [ha3,hb3,if_true,if_false,false_and]
      · by_cases hb3:Am b=3
        · simp only [ha3,hb3,if_true,if_false,false_and]
        · simp only [ha3,hb3,if_false]
          rw [Bool.and_comm,Int.min_comm,Int.add_comm]
theorem Aet {Y D:Nat} (h:Y%2^D=0):Fv Y D=Y / 2^D:=by unfold Fv; rw [if_pos h]
theorem Ag5 {Y D:Nat} (h:Y%2^D≠0):Fv Y D%2=1:=by unfold Fv; rw [if_neg h]; omega
theorem Aeu {Y d:Nat} (hY:Y<2^62) (h:Y%2^d≠0):(Fv Y (min d 63)-1)*2^d<Y∧Y<(Fv Y (min d 63)+1)*2^d∧Fv Y (min d 63)%2=1:=by
  have hA:=Cp d
  by_cases hd:d≤63
  · rw [Nat.min_eq_left hd]
    refine ⟨?_,?_,Ag5 h⟩
    all_goals
      unfold Fv
      rw [if_neg h]
      have h1:=Nat.div_add_mod Y (2^d)
      have h2:=Nat.mod_lt Y hA
      generalize Y / 2^d=q at *
      generalize Y%2^d=r at *
      generalize 2^d=c at *
      rw [Nat.mul_comm] at h1
    · have h3:(2*(q / 2)+1-1)*c≤q*c:=Ay4 c (by omega)
      omega
    · have h3:(q+1)*c≤(2*(q / 2)+1+1)*c:=Ay4 c (by omega)
      rw [Nat.add_mul,Nat.one_mul] at h3
      omega
  · rw [Nat.min_eq_right (by omega)]
    have h63:Y%2^63=Y:=Ay5 (by omega)
    have hd0:Y / 2^63=0:=Nat.div_eq_of_lt (by omega)
    have hY0:Y≠0:=by intro e; rw [e] at h; simp at h
    have hr:Fv Y 63=1:=by unfold Fv; rw [h63,if_neg hY0,hd0]
    have hp:2^62≤2^d:=Ay7 (by decide) (by omega)
    rw [hr]
    refine ⟨by simp; omega,by omega,rfl⟩
theorem Ayf {d M:Nat} (h:(M*2^9)%2^d≠0):10≤d:=by
  refine Nat.lt_of_not_le fun hle=>h ?_
  obtain ⟨k,hk⟩:∃ k,9=d+k:=⟨9-d,by omega⟩
  rw [hk,Nat.pow_add,Nat.mul_comm (2^d),← Nat.mul_assoc,Nat.mul_mod_left]
theorem O9 {V m d:Nat} {e f:Int} (hd:e=f+d) (h:V=m*2^d∨(m%2=1∧(m-1)*2^d<V∧V<(m+1)*2^d∧2^60≤m)) :
    Co m (e-9)=Co V (f-9)∧flagsOf m (e-9)=flagsOf V (f-9):=by
  rcases h with rfl | ⟨h1,h2,h3,h4⟩
  · have:=Ee m d (e-9)
    have e1:e-9-(d:Int)=f-9:=by omega
    rw [e1] at this
    exact ⟨this.1.symm,this.2.symm⟩
  · have hm0:m≠0:=by omega
    have hlog:=Qo h1 (by omega) h2 h3
    have hl60:60≤m.log2:=(Nat.le_log2 hm0).2 h4
    have e1:f-9+(d:Int)=e-9:=by omega
    have hle:Cn V (f-9)=Cn m (f-9+d):=by unfold Cn; rw [hlog]; congr 1; omega
    have hk:f-9+d+2≤Cn m (f-9+d):=by unfold Cn; omega
    obtain ⟨a1,a2⟩:=Qh h1 h2 h3 hle hk
    rw [e1] at a1 a2
    exact ⟨a1.symm,a2.symm⟩
theorem Agy (V:Nat) (f:Int):Co (V*2^9) (f-9)=Co V f∧flagsOf (V*2^9) (f-9)=flagsOf V f:=Ee V 9 f
structure Ar8 (Mx My d:Nat) (e f:Int) (X r:Nat):Prop where
  plus:Co (X+r) (e-9)=Co (Mx*2^d+My) f∧flagsOf (X+r) (e-9)=flagsOf (Mx*2^d+My) f
  less:r<X→My<Mx*2^d∧Co (X-r) (e-9)=Co (Mx*2^d-My) f∧flagsOf (X-r) (e-9)=flagsOf (Mx*2^d-My) f
  more:X<r→Mx*2^d<My∧Co (r-X) (e-9)=Co (My-Mx*2^d) f∧flagsOf (r-X) (e-9)=flagsOf (My-Mx*2^d) f
  same:X=r→Mx*2^d=My
  small:r≤2^62
theorem Ar5 {X My r d p:Nat} {e f:Int} (hd:e=f+d) (comm:X*2^d=p*2^9) (n1:(r-1)*2^d<My*2^9) (n2:My*2^9<r*2^d+2^d) (n3:r%2=1) (hX2:X%2=0) (hX:2^61≤X) (hr:r≤2^53) :
    (Co (X+r) (e-9)=Co (p+My) f∧flagsOf (X+r) (e-9)=flagsOf (p+My) f)∧My<p∧Co (X-r) (e-9)=Co (p-My) f∧flagsOf (X-r) (e-9)=flagsOf (p-My) f:=by
  have e1:(r-1)*2^d+2^d=r*2^d:=by
    obtain ⟨k,rfl⟩:∃ k,r=k+1:=⟨r-1,by omega⟩
    rw [Nat.add_sub_cancel,Nat.add_mul,Nat.one_mul]
  have e2:(r+1)*2^d=r*2^d+2^d:=by rw [Nat.add_mul,Nat.one_mul]
  have hXd:(r+1)*2^d≤X*2^d:=Ay4 _ (by omega)
  have hlt:My<p:=by rw [e2,comm] at hXd; omega
  have a1:Co (X+r) (e-9)=Co ((p+My)*2^9) (f-9)∧flagsOf (X+r) (e-9)=flagsOf ((p+My)*2^9) (f-9):=by
    refine O9 hd (.inr ⟨by omega,?_,?_,by omega⟩)
    · have h1:X+r-1=X+(r-1):=by omega
      rw [h1,Nat.add_mul X (r-1) (2^d),Nat.add_mul p My (2^9),comm]
      exact Nat.add_lt_add_left n1 _
    · have h1:X+r+1=X+(r+1):=by omega
      rw [h1,Nat.add_mul X (r+1) (2^d),Nat.add_mul p My (2^9),comm,e2]
      exact Nat.add_lt_add_left n2 _
  have a2:Co (X-r) (e-9)=Co ((p-My)*2^9) (f-9)∧flagsOf (X-r) (e-9)=flagsOf ((p-My)*2^9) (f-9):=by
    rw [e2,comm] at hXd
    refine O9 hd (.inr ⟨by omega,?_,?_,by omega⟩)
    · have h1:X-r-1=X-(r+1):=by omega
      rw [h1,Nat.sub_mul X (r+1) (2^d),Nat.sub_mul p My (2^9),comm,e2]
      omega
    · have h1:X-r+1=X-(r-1):=by omega
      rw [h1,Nat.sub_mul X (r-1) (2^d),Nat.sub_mul p My (2^9),comm]
      omega
  rw [(Agy _ f).1,(Agy _ f).2] at a1 a2
  exact ⟨a1,hlt,a2⟩
theorem Agh {Mx My d:Nat} {e f:Int} (hd:e=f+d) (hx:Mx<2^53) (hy:My<2^53) (hbig:10≤d→2^52≤Mx) :
    Ar8 Mx My d e f (Mx*2^9) (Fv (My*2^9) (min d 63)):=by
  have hA:=Cp d
  have hY:My*2^9<2^62:=by omega
  have comm:Mx*2^9*2^d=Mx*2^d*2^9:=by rw [Nat.mul_assoc,Nat.mul_comm (2^9),← Nat.mul_assoc]
  have s9:=fun V=>Agy V f
  by_cases hz:(My*2^9)%2^d=0
  ·
    have hr:∃ r,Fv (My*2^9) (min d 63)=r∧My*2^9=r*2^d:=by
      by_cases hd63:d≤63
      · rw [Nat.min_eq_left hd63]
        exact ⟨_,rfl,by rw [Aet hz]; exact (Nat.div_mul_cancel (Nat.dvd_of_mod_eq_zero hz)).symm⟩
      · have hp:2^62≤2^d:=Ay7 (by decide) (by omega)
        have:My*2^9=0:=by rw [Ay5 (by omega)] at hz; exact hz
        rw [Nat.min_eq_right (by omega),this]
        exact ⟨0,by decide,by omega⟩
    obtain ⟨r,hr,hYr⟩:=hr
    rw [hr]
    have hle:r≤2^62:=by
      have:r*1≤r*2^d:=Nat.mul_le_mul_left r hA
      omega
    have cmp:∀ x y:Nat,x*2^d<y*2^d↔x<y:=fun x y=>Nat.mul_lt_mul_right hA
    refine ⟨?_,fun h=>?_,fun h=>?_,fun h=>?_,hle⟩
    · rw [← (s9 _).1,← (s9 _).2]
      exact O9 hd (.inl (by rw [Nat.add_mul (Mx*2^d) My (2^9),Nat.add_mul (Mx*2^9) r (2^d),comm,hYr]))
    · have h1:=(cmp r (Mx*2^9)).2 h
      refine ⟨by omega,?_⟩
      rw [← (s9 _).1,← (s9 _).2]
      exact O9 hd (.inl (by first | rw [Nat.sub_mul (Mx*2^d) My (2^9),Nat.sub_mul (Mx*2^9) r (2^d),comm,hYr] | rw [Nat.sub_mul My (Mx*2^d) (2^9),Nat.sub_mul r (Mx*2^9) (2^d),comm,hYr]))
    · have h1:=(cmp (Mx*2^9) r).2 h
      refine ⟨by omega,?_⟩
      rw [← (s9 _).1,← (s9 _).2]
      exact O9 hd (.inl (by first | rw [Nat.sub_mul (Mx*2^d) My (2^9),Nat.sub_mul (Mx*2^9) r (2^d),comm,hYr] | rw [Nat.sub_mul My (Mx*2^d) (2^9),Nat.sub_mul r (Mx*2^9) (2^d),comm,hYr]))
    · rw [← h] at hYr
      omega
  ·
    have hd10:=Ayf hz
    have hMx:=hbig hd10
    obtain ⟨n1,n2,n3⟩:=Aeu hY hz
    have hrle:Fv (My*2^9) (min d 63)≤2^53:=by
      refine Nat.le_of_not_lt fun h=>?_
      have h1:2^53*2^d≤(Fv (My*2^9) (min d 63)-1)*2^d:=Ay4 _ (by omega)
      have h2:2^10≤2^d:=Ay7 (by decide) hd10
      have h3:2^53*2^10≤2^53*2^d:=Nat.mul_le_mul_left _ h2
      omega
    generalize Fv (My*2^9) (min d 63)=r at *
    have hr1:1≤r:=by omega
    have e1:(r-1)*2^d+2^d=r*2^d:=by
      obtain ⟨k,rfl⟩:∃ k,r=k+1:=⟨r-1,by omega⟩
      rw [Nat.add_sub_cancel,Nat.add_mul,Nat.one_mul]
    have e2:(r+1)*2^d=r*2^d+2^d:=by rw [Nat.add_mul,Nat.one_mul]
    rw [e2] at n2
    have hXr:r<Mx*2^9:=by omega
    have hXd:(r+1)*2^d≤Mx*2^9*2^d:=Ay4 _ (by omega)
    rw [e2,comm] at hXd
    obtain ⟨p1,p2,p3⟩:=Ar5 hd comm n1 n2 n3 (by omega) (by omega) hrle
    exact ⟨p1,fun _=>⟨p2,p3⟩,fun h=>by omega,fun h=>by omega,by omega⟩
theorem Wh (n:Bool) (m:Nat) (e:Int):Gi n m e false=(Bl n (Co m e),flagsOf m e):=by
  unfold Gi
  have:=Ee m 2 e
  have e1:m*2^2=4*m+false.toNat:=by simp; omega
  have e2:e-((2:Nat):Int)=e-2:=by omega
  rw [e1,e2] at this
  rw [this.1,this.2]
theorem Rk (E:Int):Co 0 E=0:=if_pos rfl
theorem Pu (E:Int):flagsOf 0 E=0:=if_pos rfl
theorem Qy {b:Nat} (h:Kb b=true):Am b≠4∧Am b≠3:=by
  unfold Kb at h
  simp only [Ayz] at h
  unfold Am
  rw [if_neg (by omega)]
  split
  · omega
  · split<;>omega
theorem Aa6 {b:Nat} (h:-1064≤A2 b):2^52≤Aw b:=by
  unfold A2 at h
  unfold Aw
  split at h
  · omega
  · rw [if_neg (by assumption)]; omega
theorem Ss (z:Nat) (s:Bool) {V:Nat} (hV:V≠0) (f:Int):Ph z (H5 s V) f=(Bl s (Co V f),flagsOf V f):=by
  unfold Ph H5
  cases s
  · have h1:¬ (V:Int)=0:=by omega
    have h2:¬ (V:Int)<0:=by omega
    simp only [Bool.false_eq_true,if_false,h1,h2,decide_false,Int.natAbs_natCast]
  · have h1:¬ -(V:Int)=0:=by omega
    have h2:-(V:Int)<0:=by omega
    simp only [if_true,h1,if_false,h2,decide_true,Int.natAbs_neg,Int.natAbs_natCast]
theorem Ar6 {p q X r:Nat} {e f:Int} (s t:Bool)
    (plus:Co (X+r) e=Co (p+q) f∧flagsOf (X+r) e=flagsOf (p+q) f)
    (less:r<X→q<p∧Co (X-r) e=Co (p-q) f∧flagsOf (X-r) e=flagsOf (p-q) f)
    (more:X<r→p<q∧Co (r-X) e=Co (q-p) f∧flagsOf (r-X) e=flagsOf (q-p) f)
    (same:X=r→p=q) :
    Ph (Bl (s&&t) 0) (H5 s p+H5 t q) f=(if s=t then Gi s (X+r) e false
      else if r<X then Gi s (X-r) e false
      else if X<r then Gi t (r-X) e false
      else (0,0)):=by
  simp only [Wh]
  by_cases hs:s=t
  · rw [if_pos hs,← hs]
    have hsum:H5 s p+H5 s q=H5 s (p+q):=by unfold H5; cases s<;>simp<;>omega
    rw [hsum,plus.1,plus.2]
    by_cases h0:p+q=0
    · rw [h0,Rk,Pu]
      unfold Ph
      have:H5 s 0=0:=by unfold H5; cases s<;>rfl
      rw [if_pos this,Ayy]
    · exact Ss _ _ h0 _
  · rw [if_neg hs]
    by_cases h1:r<X
    · obtain ⟨c1,c2,c3⟩:=less h1
      rw [if_pos h1,c2,c3]
      have hsum:H5 s p+H5 t q=H5 s (p-q):=by
        unfold H5; cases s<;>cases t<;>simp at hs ⊢<;>omega
      rw [hsum]
      exact Ss _ _ (by omega) _
    · rw [if_neg h1]
      by_cases h2:X<r
      · obtain ⟨c1,c2,c3⟩:=more h2
        rw [if_pos h2,c2,c3]
        have hsum:H5 s p+H5 t q=H5 t (q-p):=by
          unfold H5; cases s<;>cases t<;>simp at hs ⊢<;>omega
        rw [hsum]
        exact Ss _ _ (by omega) _
      · rw [if_neg h2]
        have c:=same (by omega)
        have hsum:H5 s p+H5 t q=0:=by
          unfold H5; cases s<;>cases t<;>simp at hs ⊢<;>omega
        have hz:(s&&t)=false:=by cases s<;>cases t<;>simp at hs ⊢
        rw [hsum,hz]
        rfl
theorem Aps {a b:Nat} (ha:Kb a=true) (hb:Kb b=true) :
    K3 a b=Ph (Bl (Bt a&&Bt b) 0) (J2 a (min (A2 a) (A2 b))+J2 b (min (A2 a) (A2 b))) (min (A2 a) (A2 b)):=by
  have k1:=Qy ha
  have k2:=Qy hb
  unfold K3
  rw [if_neg (fun h=>h.elim k1.1 k2.1),if_neg k1.2,if_neg k2.2]
theorem Agn (b:Nat):J2 b (A2 b)=H5 (Bt b) (Aw b):=by
  unfold J2; rw [Int.sub_self,Int.toNat_zero,Nat.pow_zero,Nat.mul_one]
theorem Ame {b:Nat} {f:Int} {d:Nat} (h:A2 b=f+d):J2 b f=H5 (Bt b) (Aw b*2^d):=by
  unfold J2
  have:(A2 b-f).toNat=d:=by omega
  rw [this]
theorem Agg {a b:Nat} (ha:Kb a=true) (hb:Kb b=true) {d:Nat} (hd:A2 a=A2 b+d) :
    K3 a b=(if Bt a=Bt b then Gi (Bt a) (Aw a*2^9+Fv (Aw b*2^9) (min d 63)) (A2 a-9) false
      else if Fv (Aw b*2^9) (min d 63)<Aw a*2^9 then Gi (Bt a) (Aw a*2^9-Fv (Aw b*2^9) (min d 63)) (A2 a-9) false
      else if Aw a*2^9<Fv (Aw b*2^9) (min d 63) then Gi (Bt b) (Fv (Aw b*2^9) (min d 63)-Aw a*2^9) (A2 a-9) false
      else (0,0)):=by
  have hx:=Fb a
  have hy:=Fb b
  have C:=Agh (Mx:=Aw a) (My:=Aw b) hd hx hy (fun h=>Aa6 (by have:=En b; omega))
  rw [Aps ha hb,Int.min_eq_right (by omega),Agn,Ame hd]
  exact Ar6 _ _ C.plus C.less C.more C.same
theorem Vu {b:Nat} (h:b<2^64):Hi b<2^64:=by unfold Hi; split<;>omega
theorem Ahw (m:Nat) (e:Int):flagsOf m e<32:=by
  unfold flagsOf flags
  split
  · decide
  · split
    · decide
    · split
      · decide
      · split<;>decide
theorem Va {a b:Nat} (ha:a<2^64) (hb:b<2^64):(K3 a b).1<2^64∧(K3 a b).2<32:=by
  unfold K3
  split
  · exact ⟨by decide,by decide⟩
  · split
    · split
      · decide
      · exact ⟨ha,(by decide:0<32)⟩
    · split
      · exact ⟨hb,(by decide:0<32)⟩
      · unfold Ph
        split
        · refine ⟨?_,(by decide:0<32)⟩
          unfold Bl; split<;>decide
        · exact ⟨Tx _ _ _,Ahw _ _⟩
end Go.Rnd
namespace Go.Rnd
open Go.Den
def B7 (r c:Nat) (f:Nat→Nat→Int):List Int:=(List.range (r*c)).map fun j=>f (j / c) (j%c)
theorem Ca (r c:Nat) (f:Nat→Nat→Int):(B7 r c f).length=r*c:=by unfold B7; rw [List.length_map,List.length_range]
theorem Ku {r c i k:Nat} (hi:i<r) (hk:k<c):i*c+k<r*c:=by
  have:(i+1)*c≤r*c:=Ay4 c hi
  rw [Nat.add_mul,Nat.one_mul] at this
  omega
theorem Vo {c i k:Nat} (hk:k<c):(i*c+k) / c=i∧(i*c+k)%c=k:=by
  constructor
  · rw [Nat.mul_comm,Nat.mul_add_div (by omega),Nat.div_eq_of_lt hk,Nat.add_zero]
  · rw [Nat.mul_comm,Nat.mul_add_mod,Ay5 hk]
theorem Hz {r c:Nat} {f:Nat→Nat→Int} {j:Nat} (h:j<r*c):(B7 r c f)[j]?=some (f (j / c) (j%c)):=by
  unfold B7
  rw [List.getElem?_map,List.getElem?_range h]
  rfl
theorem Aop {r c i k:Nat} {f:Nat→Nat→Int} (hi:i<r) (hk:k<c):(B7 r c f).getD (i*c+k) 0=f i k:=by
  obtain ⟨d1,d2⟩:=Vo (i:=i) hk
  rw [Ay2,Hz (Ku hi hk),d1,d2]
  rfl
theorem Ut {l m:List Int} (h:l.length=m.length) (he:∀ j,j<l.length→l[j]?=m[j]?):l=m:=by
  refine List.ext_getElem? fun j=>?_
  by_cases hj:j<l.length
  · exact he j hj
  · rw [List.getElem?_eq_none (by omega),List.getElem?_eq_none (by omega)]
theorem D7 {r c:Nat} {f g:Nat→Nat→Int} (h:∀ i k,i<r→k<c→f i k=g i k):B7 r c f=B7 r c g:=by
  refine Ut (by rw [Ca,Ca]) fun j hj=>?_
  rw [Ca] at hj
  have hc:0<c:=by
    rcases Nat.eq_zero_or_pos c with h0 | h0
    · subst h0; rw [Nat.mul_zero] at hj; omega
    · exact h0
  rw [Hz hj,Hz hj,h (j / c) (j%c) ((Nat.div_lt_iff_lt_mul hc).2 hj) (Nat.mod_lt _ hc)]
theorem Alh {r c:Nat} {l:List Int} (h:l.length=r*c):l=B7 r c fun i k=>l.getD (i*c+k) 0:=by
  refine Ut (by rw [Ca,h]) fun j hj=>?_
  rw [Hz (by omega)]
  have e:j / c*c+j%c=j:=by rw [Nat.mul_comm]; exact Nat.div_add_mod j c
  rw [e,Ay2,Ay9 hj]
  rfl
theorem Uz {r c i k:Nat} {f:Nat→Nat→Int} (hk:k<c) (x:Int) :
    (B7 r c f).set (i*c+k) x=B7 r c fun a b=>if a=i∧b=k then x else f a b:=by
  refine Ut (by rw [List.length_set,Ca,Ca]) fun j hj=>?_
  rw [List.length_set,Ca] at hj
  obtain ⟨d1,d2⟩:=Vo (i:=i) hk
  rw [Hz hj,List.getElem?_set]
  by_cases h:i*c+k=j
  · subst h
    rw [if_pos rfl,if_pos (by rw [Ca]; exact hj),d1,d2,if_pos ⟨rfl,rfl⟩]
  · rw [if_neg h,Hz hj,if_neg]
    rintro ⟨h1,h2⟩
    exact h (by rw [← h1,← h2,Nat.mul_comm]; exact Nat.div_add_mod j c)
theorem Ms (r c:Nat) (f:Nat→Nat→Int):B7 (r+1) c f=B7 r c f++(List.range c).map (f r):=by
  unfold B7
  rw [Nat.add_mul,Nat.one_mul,List.range_add,List.map_append,List.map_map]
  congr 1
  refine List.map_congr_left fun k hk=>?_
  have hk:=List.mem_range.1 hk
  obtain ⟨d1,d2⟩:=Vo (i:=r) hk
  show f ((r*c+k) / c) ((r*c+k)%c)=f r k
  rw [d1,d2]
theorem K0 (c:Nat) (f:Nat→Nat→Int):B7 0 c f=[]:=by
  unfold B7; rw [Nat.zero_mul]; rfl
theorem G1 (k:Nat) (g:Nat→Int):(List.range (k+1)).map g=(List.range k).map g++[g k]:=by
  rw [List.range_succ,List.map_append]; rfl
theorem S9 (r c:Nat):B7 r c (fun _ _=>0)=List.replicate (r*c) 0:=by
  unfold B7
  rw [List.map_const',List.length_range]
def Adf:Nat→List Int→List Int→Nat
  | s,x::xs,y::ys=>Adf (K3 s (Nj x.toNat y.toNat).1).1 xs ys
  | s,_,_=>s
def Jg (x y:List Int):Int:=Adf 0 x y
theorem Ro {a b:Nat}:(Nj a b).1<2^64:=by
  unfold Nj
  split
  · decide
  · split
    · split
      · decide
      · unfold Bl; split<;>decide
    · exact Tx _ _ _
theorem Ade:∀ (x y:List Int) (s:Nat),s<2^64→Adf s x y<2^64
  | x::xs,y::ys,s,h=>Ade xs ys _ (Va h Ro).1
  | [],_,_,h=>by unfold Adf; exact h
  | _::_,[],_,h=>by unfold Adf; exact h
end Go.Rnd
namespace Go.Rnd
open Go.Den
def Bg (n:Int):Bool:=decide (0≤n)&&decide (n≤6)
def A0 (r c:Int) (l:List Int):Bool:=(Bg r&&Bg c)&&decide ((l.length:Int)=r*c)
def K1 (r c:Int) (l:List Int):Int:=if A0 r c l=true then 0 else 1
def Xr (r c:Int) (l:List Int) (p q:Int) (m:List Int):Int:=if (A0 r c l&&A0 p q m)=true then 0 else 1
def C2 (_r c:Int) (l:List Int) (i k:Int):Bool:=Cz (0≤i∧i<10∧0≤k∧k<10∧0≤c∧c<10∧i*c+k<l.length∧l.length<1000)
def D9 (c:Int) (l:List Int) (i k:Int):Int:=l.getD (i*c+k).toNat 0
def Nk (i k:Int):Int:=if i=k then 4607182418800017408 else 0
def Vh (x y i k:Int):Bool:=Cz (0≤x∧x<10∧0≤y∧y<10∧0≤i∧i<10∧0≤k∧k<10)
def Hv (r c x y a b:Int):Bool:=decide (0≤x∧0≤y∧0≤a∧0≤b∧x≤r∧y≤c∧a≤r-x∧b≤c-y)
def Mw (r c:Int) (l:List Int) (p q:Int) (m:List Int) (i k:Int):Bool:=Cz (0≤r∧r<10∧0≤i∧i<20∧(if i<r then C2 r c l i k=true else C2 p q m (i-r) k=true))
def Ja (r c:Int) (l:List Int) (q:Int) (m:List Int) (i k:Int):Int:=if i<r then D9 c l i k else D9 q m (i-r) k
def Pg (r c:Int) (l:List Int) (i:Int):Bool:=A0 r c l&&Cz (0≤i∧i<r)
def G6 (r c:Int) (l:List Int) (k:Int):Bool:=A0 r c l&&Cz (0≤k∧k<c)
def S2 (r c:Int) (l:List Int) (p q:Int) (m:List Int) (i k:Int):Bool:=(Pg r c l i&&G6 p q m k)&&((Ah l&&Ah m)&&Cz (c=p))
def Ha (c:Int) (l:List Int) (i:Int):List Int:=List.drop (i*c).toNat (List.take ((i+1)*c).toNat l)
def Kk (r c:Int) (l:List Int) (k:Int):List Int:=(List.range r.toNat).map fun j:Nat=>D9 c l (j:Int) k
abbrev MX:=Int × Int × List Int × Int
def Kl (e:Int):MX:=(0,0,[],e)
def C3 (a b:Int):MX:=if (Bg a&&Bg b)=true then (a,b,B7 a.toNat b.toNat fun _ _=>0,0) else Kl 3
def M8 (n:Int):MX:=if Bg n=true then (n,n,B7 n.toNat n.toNat fun i k=>Nk i k,0) else Kl 3
def Fq (r c:Int) (l:List Int):MX:=if A0 r c l=true then (c,r,B7 c.toNat r.toNat fun i k=>D9 c l k i,0) else Kl 1
def Iq (r c:Int) (l:List Int) (x y a b:Int):MX :=
  if A0 r c l=true then (if Hv r c x y a b=true then (a,b,B7 a.toNat b.toNat fun i k=>D9 c l (x+i) (y+k),0) else Kl 3) else Kl 1
def Sa (r c:Int) (l:List Int) (p q:Int) (m:List Int):MX :=
  if (A0 r c l&&A0 p q m)=true then (if c=p then (r,q,B7 r.toNat q.toNat fun i k=>Jg (Ha c l i) (Kk p q m k),0) else Kl 3) else Kl 1
def Av8 (r c:Int) (l:List Int) (p q:Int) (m:List Int):MX :=
  if (A0 r c l&&A0 p q m)=true then (if r=p∧c=q then (r,c,B7 r.toNat c.toNat fun i k=>Ew (D9 c l i k) (D9 q m i k),0) else Kl 3) else Kl 1
def D0 (r c:Int) (l:List Int) (p q:Int) (m:List Int):MX :=
  if (A0 r c l&&A0 p q m)=true then (if c=q∧r+p≤6 then (r+p,c,B7 (r+p).toNat c.toNat fun i k=>Ja r c l q m i k,0) else Kl 3) else Kl 1
def O3 (x y:List Int):Bool:=decide (x.length=y.length)&&decide (x.length≤64)
def T4 (x y:List Int):Bool:=decide (x=y)
def X5 (r c:Int) (l:List Int) (p q:Int) (m:List Int):Bool:=(decide (r=p)&&decide (c=q))&&decide (l=m)
def Lg (l:List Int):Bool:=Cz (l.length≤17592186044416)
theorem Im {n:Int}:Bg n=true↔0≤n∧n≤6:=by unfold Bg; simp
theorem Hy {r c:Int} {l:List Int}:A0 r c l=true↔(0≤r∧r≤6)∧(0≤c∧c≤6)∧(l.length:Int)=r*c:=by
  unfold A0
  rw [Ay3,Ay3,Im,Im,Ayz,and_assoc]
theorem Ce {r c:Int} {l:List Int} (h:A0 r c l=true):∃ R C:Nat,r=R∧c=C∧R≤6∧C≤6∧l.length=R*C:=by
  obtain ⟨h1,h2,h3⟩:=Hy.1 h
  refine ⟨r.toNat,c.toNat,by omega,by omega,by omega,by omega,?_⟩
  have:(((r.toNat*c.toNat:Nat)):Int)=r*c:=by rw [Azd,Int.toNat_of_nonneg h1.1,Int.toNat_of_nonneg h2.1]
  omega
theorem Em {n:Int} (h:Bg n=true):∃ R:Nat,n=R∧R≤6:=by
  have:=Im.1 h
  exact ⟨n.toNat,by omega,by omega⟩
theorem No {n:Nat} (h:n≤6):Bg (n:Int)=true:=Im.2 ⟨by omega,by omega⟩
theorem Fg {r c:Nat} {l:List Int} (hr:r≤6) (hc:c≤6) (hl:l.length=r*c):A0 (r:Int) (c:Int) l=true :=
  Hy.2 ⟨⟨by omega,by omega⟩,⟨by omega,by omega⟩,by rw [hl,Azd]⟩
theorem Rz (c:Nat) (l:List Int) (i k:Nat):D9 (c:Int) l (i:Int) (k:Int)=l.getD (i*c+k) 0:=by
  unfold D9
  have:((i:Int)*(c:Int)+(k:Int)).toNat=i*c+k:=by
    rw [← Azd,← Int.natCast_add,Ayu]
  rw [this]
theorem Du {r c i k:Nat} {R:Int} {l:List Int} (hr:r≤6) (hc:c≤6) (hl:l.length=r*c) (hi:i<r) (hk:k<c):C2 R (c:Int) l (i:Int) (k:Int)=true:=by
  have:=Ku hi hk
  have h36:=Nat.mul_le_mul hr hc
  refine Aq.2 ⟨by omega,by omega,by omega,by omega,by omega,by omega,?_,by omega⟩
  rw [← Azd]
  omega
theorem Ari {r c i k:Nat} {f:Nat→Nat→Int} (hi:i<r) (hk:k<c):D9 (c:Int) (B7 r c f) (i:Int) (k:Int)=f i k:=by
  rw [Rz,Aop hi hk]
theorem Pr {r c:Nat} (f:Nat→Nat→Int) (hr:r≤6) (hc:c≤6):A0 (r:Int) (c:Int) (B7 r c f)=true:=Fg hr hc (Ca r c f)
theorem Vy {r c:Nat} {l:List Int} (h:l.length=r*c):(B7 r c fun i k=>D9 (c:Int) l (i:Int) (k:Int))=l:=by
  conv=>rhs; rw [Alh h]
  exact D7 fun i k _ _=>Rz c l i k
theorem La {l:List Int} (h:Ah l=true) {j:Nat} (hj:j<l.length):Af (l.getD j 0)=true:=by
  have h:=Aq.1 h
  rw [Ay2,Ay9 hj]
  exact h _ (List.getElem_mem hj)
end Go.Rnd
namespace Go.Rnd
theorem Mo {b:Nat} (h:b<2^64):Bl (Bt b) (b%2^63)=b:=by
  unfold Bl Bt
  by_cases hb:2^63≤b
  · simp only [hb,decide_true,if_true]; omega
  · simp only [hb,decide_false,Bool.false_eq_true,if_false]; omega
theorem Afv {b:Nat} (h:b<2^64) (h4:Am b≠4):Bl (Bt b) (Co (Aw b) (A2 b))=b:=by
  rw [Rl h4,Mo h]
theorem Alk {b:Nat} (h3:Am b≠3) (h4:Am b≠4):flagsOf (Aw b) (A2 b)=0:=by
  by_cases h0:Aw b=0
  · rw [h0]; exact Pu _
  · have h1:=Fb b
    have h2:=En b
    have h5:=Ux h3 h4
    exact (Ahy false h0 (Afl (by omega) h2.1) (by rw [Rl h4]; exact h5)).1
theorem mul_pow {a p:Nat} (a3:Am a≠3) (a4:Am a≠4) (p3:Am p≠3) (p4:Am p≠4) (hp:Aw p=2^52) (hn:Bt p=false) :
    Nj a p=(Bl (Bt a) (Co (Aw a) (A2 a+A2 p+52)),flagsOf (Aw a) (A2 a+A2 p+52)):=by
  obtain ⟨s1,s2⟩:=Ee (Aw a) 52 (A2 a+A2 p+52)
  have e:A2 a+A2 p+52-((52:Nat):Int)=A2 a+A2 p:=by omega
  rw [e] at s1 s2
  have e2:(Bt a !=false)=Bt a:=by cases Bt a<;>rfl
  unfold Nj
  rw [if_neg (by omega),if_neg (by omega),hp,hn,s1,s2,e2]
theorem Anh:Aw 4607182418800017408=2^52∧A2 4607182418800017408=-52∧Am 4607182418800017408=2∧Bt 4607182418800017408=false:=by decide +kernel
theorem mul_one {a:Nat} (h:a<2^64) (a3:Am a≠3) (a4:Am a≠4):Nj a 4607182418800017408=(a,0):=by
  obtain ⟨o1,o2,o3,o4⟩:=Anh
  have e:A2 a+-52+52=A2 a:=by omega
  rw [mul_pow a3 a4 (by omega) (by omega) o1 o4,o2,e,Afv h a4,Alk a3 a4]
end Go.Rnd
namespace Go.Rnd
def S8 (n:Nat):Nat:=Ieee.Datum.rootFrom n (n.log2 / 2+1) 0
theorem Aqh (k:Nat):1 <<< k=2^k:=by rw [Nat.shiftLeft_eq,Nat.one_mul]
theorem Vj {n:Nat}:∀ (todo root:Nat),root*root≤n→n<(root+2^todo)*(root+2^todo) →
    Ieee.Datum.rootFrom n todo root*Ieee.Datum.rootFrom n todo root≤n∧n<(Ieee.Datum.rootFrom n todo root+1)*(Ieee.Datum.rootFrom n todo root+1)
  | 0,root,h1,h2=>⟨h1,h2⟩
  | todo+1,root,h1,h2=>by
    unfold Ieee.Datum.rootFrom
    simp only [Aqh]
    have hp:2^(todo+1)=2^todo+2^todo:=by rw [Nat.pow_succ]; omega
    rw [hp] at h2
    by_cases h:(root+2^todo)*(root+2^todo)≤n
    · rw [if_pos h]
      exact Vj todo _ h (by rw [Nat.add_assoc]; exact h2)
    · rw [if_neg h]
      exact Vj todo _ h1 (by omega)
theorem Qu (n:Nat):S8 n*S8 n≤n∧n<(S8 n+1)*(S8 n+1):=by
  refine Vj _ _ (by simp) ?_
  rw [Nat.zero_add,← Nat.pow_add]
  rcases Nat.eq_zero_or_pos n with rfl | hn
  · decide
  · refine (Nat.log2_lt (by omega)).1 ?_
    omega
theorem Aei {a b:Nat} (h:a*a<b*b):a<b:=by
  rcases Nat.lt_or_ge a b with h1 | h1
  · exact h1
  · have:=Nat.mul_le_mul h1 h1; omega
theorem Y9 {n w:Nat} (h1:w*w≤n) (h2:n<(w+1)*(w+1)):w=S8 n:=by
  obtain ⟨a,b⟩:=Qu n
  have c1:=Aei (Nat.lt_of_le_of_lt h1 b)
  have c2:=Aei (Nat.lt_of_le_of_lt a h2)
  omega
theorem Aoh {n w:Nat} (h:w*w≤n):w≤S8 n:=by
  have:=Aei (Nat.lt_of_le_of_lt h (Qu n).2)
  omega
def Gk (n:Nat):Nat:=2*S8 n+(if S8 n*S8 n=n then 0 else 1)
theorem Vg (a c:Nat):a*c*(a*c)=a*a*(c*c):=by
  rw [Nat.mul_assoc,Nat.mul_left_comm c,← Nat.mul_assoc a a]
theorem Aa0 {n:Nat} (d:Nat) (E:Int) (h:2^53≤S8 n) :
    Co (Gk (n*(2^d*2^d))) (E-d)=Co (Gk n) E∧flagsOf (Gk (n*(2^d*2^d))) (E-d)=flagsOf (Gk n) E:=by
  have hA:=Cp d
  obtain ⟨h1,h2⟩:=Qu n
  unfold Gk
  generalize hw:S8 n=w at *
  generalize hc:2^d=c at *
  have hcc:0<c*c:=Nat.mul_pos hA hA
  by_cases h0:w*w=n
  · have e1:S8 (n*(c*c))=w*c:=by
      refine (Y9 ?_ ?_).symm
      · rw [Vg,h0]; exact Nat.le_refl _
      · have:=Vg w c
        rw [h0] at this
        rw [Nat.add_mul,Nat.mul_add,this]; omega
    rw [e1,Vg,h0,if_pos rfl,if_pos rfl]
    have:=Ee (2*w+0) d E
    rw [hc,show (2*w+0)*c=2*(w*c)+0 by rw [Nat.add_zero,Nat.add_zero,Nat.mul_assoc]] at this
    exact this
  · rw [if_neg h0]
    obtain ⟨g1,g2⟩:=Qu (n*(c*c))
    have q1:w*c≤S8 (n*(c*c)):=Aoh (by rw [Vg]; exact Ay4 _ h1)
    have q2:S8 (n*(c*c))<(w+1)*c:=by
      refine Aei (Nat.lt_of_le_of_lt g1 ?_)
      rw [Vg]
      exact (Nat.mul_lt_mul_right hcc).2 h2
    have q3:S8 (n*(c*c))=w*c→S8 (n*(c*c))*S8 (n*(c*c))≠n*(c*c):=fun h5 h6=>by
      rw [h5,Vg] at h6
      exact h0 (Nat.eq_of_mul_eq_mul_right hcc h6)
    generalize hQ:S8 (n*(c*c))=Q at *
    have p1:(2*w+1-1)*c=2*(w*c):=by rw [Nat.add_sub_cancel,Nat.mul_assoc]
    have p2:(2*w+1+1)*c=2*((w+1)*c):=by rw [show 2*w+1+1=2*(w+1) by omega,Nat.mul_assoc]
    have od:(2*w+1)%2=1:=by omega
    generalize hV:2*Q+(if Q*Q=n*(c*c) then 0 else 1)=V
    have v1:(2*w+1-1)*2^d<V:=by
      rw [hc,p1,← hV]
      by_cases h5:Q=w*c
      · rw [if_neg (q3 h5)]; omega
      · split<;>omega
    have v2:V<(2*w+1+1)*2^d:=by
      rw [hc,p2,← hV]
      split<;>omega
    have lV:=Qo od (by omega) v1 v2
    have hs:54≤(2*w+1).log2:=by rw [Nat.le_log2 (by omega)]; omega
    have ee:E-(d:Int)+d=E:=by omega
    have:=Qh (E:=E-d) od v1 v2 (by unfold Cn; rw [lV]; omega) (by unfold Cn; omega)
    rw [ee] at this
    exact this
theorem Ac6 {n t:Nat} (h:2^(t+t)≤n):2^t≤S8 n:=Aoh (by rw [← Nat.pow_add]; exact h)
theorem pow_two (k d:Nat):2^(k+2*d)=2^k*(2^d*2^d):=by rw [Nat.pow_add,Nat.two_mul,Nat.pow_add]
theorem Aa1 {m k l:Nat} {E F:Int} (h1:2^106≤m*2^k) (h2:2^106≤m*2^l) (he:2*E+k=2*F+l) :
    Co (Gk (m*2^k)) E=Co (Gk (m*2^l)) F∧flagsOf (Gk (m*2^k)) E=flagsOf (Gk (m*2^l)) F:=by
  rcases Nat.le_total k l with h | h
  · obtain ⟨d,rfl⟩:∃ d,l=k+2*d:=⟨(l-k) / 2,by omega⟩
    have:=Aa0 (n:=m*2^k) d E (Ac6 (t:=53) h1)
    rw [Nat.mul_assoc,← pow_two,show E-(d:Int)=F by omega] at this
    exact ⟨this.1.symm,this.2.symm⟩
  · obtain ⟨d,rfl⟩:∃ d,k=l+2*d:=⟨(k-l) / 2,by omega⟩
    have:=Aa0 (n:=m*2^l) d F (Ac6 (t:=53) h2)
    rw [Nat.mul_assoc,← pow_two,show F-(d:Int)=E by omega] at this
    exact this
def L4 (b:Nat):Nat:=128+(A2 b%2).toNat
def Oh (b:Nat):Nat × Nat :=
  if Am b=4 then (P8,0)
  else if Am b=0∨b=Eb then (b,0)
  else if Bt b=true then (P8,16)
  else (Co (Gk (Aw b*2^L4 b)) ((A2 b-L4 b) / 2-1),flagsOf (Gk (Aw b*2^L4 b)) ((A2 b-L4 b) / 2-1))
theorem Hh {b:Nat} (h3:Am b≠3) (h4:Am b≠4):Aw b=0↔Am b=0:=by
  have:=J9 b
  have:=Ji b
  unfold Aw
  unfold Am at *
  split at h3<;>split<;>(try split)<;>(try split)<;>simp_all<;>omega
theorem X0 {b:Nat} (h:Am b=4):Oh b=(P8,0):=if_pos h
theorem Og {b:Nat} (h4:Am b≠4) (h:Am b=0∨b=Eb):Oh b=(b,0):=by unfold Oh; rw [if_neg h4,if_pos h]
theorem Tv {b:Nat} (h4:Am b≠4) (h:¬ (Am b=0∨b=Eb)) (hn:Bt b=true):Oh b=(P8,16):=by unfold Oh; rw [if_neg h4,if_neg h,if_pos hn]
theorem Aeh {b:Nat} (h4:Am b≠4) (h:¬ (Am b=0∨b=Eb)) (hn:Bt b=false) :
    Oh b=(Co (Gk (Aw b*2^L4 b)) ((A2 b-L4 b) / 2-1),flagsOf (Gk (Aw b*2^L4 b)) ((A2 b-L4 b) / 2-1)):=by
  unfold Oh; rw [if_neg h4,if_neg h,if_neg (by rw [hn]; decide)]
theorem Arf:Bt Eb=false:=by decide
theorem Aok:Am Eb=3:=by decide
theorem K2:Dx Eb=Eb:=by decide
theorem Aly {d:Nat} (h:Am d=4):Dx d=P8:=if_pos h
theorem Aeg (b d:Nat) (x:Ieee.Datum) (h:Ieee.double.read b=x):(Ieee.double.sqrt b).getD d=((x.root 54).map Ieee.double.write).getD d:=by
  rw [← h]; rfl
theorem Tw (r:Nat):Bl false r=r:=rfl
def Ov (m:Nat) (i:Int):Nat:=2*54-m.log2+((i-((2*54-m.log2:Nat):Int))%2).toNat
theorem Am4 {m:Nat} {i:Int} (h:m≠0):(Ieee.Datum.number false m i).root 54=some (.number false (2*Ieee.Datum.rootFrom (m <<< Ov m i) ((m <<< Ov m i).log2 / 2+1) 0+(Ieee.Datum.rootFrom (m <<< Ov m i) ((m <<< Ov m i).log2 / 2+1) 0*Ieee.Datum.rootFrom (m <<< Ov m i) ((m <<< Ov m i).log2 / 2+1) 0 !=m <<< Ov m i).toNat) ((i-Ov m i) / 2-1)):=by
  unfold Ieee.Datum.root Ov
  dsimp only
  rw [if_neg h,if_neg (by decide)]
theorem Atf {m:Nat} {i:Int} {d:Nat} (h:m≠0) (hlog:m.log2≤52) (r:Int) (k:Nat) (hk:2^106≤m*2^k) (hr:2*r+k=i-2) :
    Dx ((((Ieee.Datum.number false m i).root 54).map Ieee.double.write).getD d)=Co (Gk (m*2^k)) r:=by
  have hpow:2^m.log2≤m:=Nat.log2_self_le h
  have hmo:108≤m.log2+Ov m i∧(i-Ov m i)%2=0:=by unfold Ov; omega
  rw [Am4 h,Option.map_some,Option.getD_some,Mm,Gu _ (K5 _ _),Tw]
  generalize Ov m i=more at *
  have g1:2^106≤m*2^more:=by
    have:2^108≤2^(m.log2+more):=Ay7 (by decide) hmo.1
    rw [Nat.pow_add] at this
    have h5:=Ay4 (2^more) hpow
    omega
  have pe2:2*((i-(more:Int)) / 2-1)+more=i-2:=by omega
  rw [← (Aa1 g1 hk (E:=(i-(more:Int)) / 2-1) (F:=r) (by omega)).1,Nat.shiftLeft_eq]
  have e:∀ w:Nat,2*w+(w*w !=m*2^more).toNat=2*w+(if w*w=m*2^more then 0 else 1):=fun w=>by
    by_cases hww:w*w=m*2^more
    · rw [if_pos hww,hww]; simp
    · rw [if_neg hww]
      have:(w*w !=m*2^more)=true:=by simpa using hww
      rw [this]; rfl
  rw [e]
  unfold Gk S8
  rfl
theorem Aer {b:Nat} (hm:Aw b≠0):2^106≤Aw b*2^L4 b∧2*((A2 b-(L4 b:Int)) / 2-1)+L4 b=A2 b-2:=by
  refine ⟨?_,by unfold L4; omega⟩
  have:2^128≤2^L4 b:=Ay7 (by decide) (by unfold L4; omega)
  have h5:=Nat.mul_le_mul (show 1≤Aw b by omega) this
  omega
theorem Afe {b:Nat} (hm:Aw b≠0):(Aw b).log2≤52:=by
  have:=(Nat.log2_lt hm).2 (show Aw b<2^53 from Fb b)
  omega
theorem Am5 (s:Bool) (f:Nat):(Ieee.Datum.nan s f).root 54=none:=rfl
theorem Akg:(Ieee.Datum.infinity true).root 54=none:=rfl
theorem Akh:(Ieee.Datum.infinity false).root 54=some (.infinity false):=rfl
theorem Akf (s:Bool) (i:Int):(Ieee.Datum.number s 0 i).root 54=some (.number s 0 i):=rfl
theorem Ag4 {m:Nat} (i:Int) (h:m≠0):(Ieee.Datum.number true m i).root 54=none:=by
  unfold Ieee.Datum.root
  dsimp only
  rw [if_neg h,if_pos rfl]
theorem Th {d:Nat} (hd:Am d=4):Dx ((Option.map Ieee.double.write none).getD d)=P8:=Aly hd
theorem Aki {b:Nat} (hb:b<2^64) {d:Nat} (hd:Am d=4):Dx ((Ieee.double.sqrt b).getD d)=(Oh b).1:=by
  rw [Aeg b d _ (I1 hb)]
  by_cases h4:Am b=4
  · rw [X0 h4,G2 h4,Am5,Th hd]
  by_cases h3:Am b=3
  · rw [Ek h3]
    have hw:=Nl hb h3
    cases hn:Bt b with
    | true =>
      have hne:¬ (Am b=0∨b=Eb):=by
        intro h
        rcases h with h | h
        · omega
        · rw [h,Arf] at hn; cases hn
      rw [Tv h4 hne hn,Akg,Th hd]
    | false =>
      rw [hn,Tw] at hw
      rw [Og h4 (.inr hw.symm),Akh,Option.map_some,Option.getD_some,Ajw,Tw,K2]
      exact hw
  rw [Ej h3 h4]
  have hz:=Hh h3 h4
  by_cases h0:Am b=0
  · have hm:=hz.2 h0
    have:=Afv hb h4
    rw [hm] at this
    rw [Og h4 (.inl h0),hm,Akf,Option.map_some,Option.getD_some,Mm,Gu _ (K5 _ _),this]
  have hi:¬ (Am b=0∨b=Eb):=by
    intro h
    rcases h with h | h
    · exact h0 h
    · rw [h,Aok] at h3; exact h3 rfl
  have hm:Aw b≠0:=fun h=>h0 (hz.1 h)
  cases hn:Bt b with
  | true=>rw [Tv h4 hi hn,Ag4 _ hm,Th hd]
  | false =>
    obtain ⟨k1,k2⟩:=Aer hm
    rw [Aeh h4 hi hn,Atf hm (Afe hm) _ _ k1 k2]
end Go.Rnd
namespace Go.Rnd
def Gl (b:Nat) (n:Int):Nat × Nat :=
  if Am b=4 then (P8,0)
  else if Am b=3∨Am b=0 then (b,0)
  else (Bl (Bt b) (Co (Aw b) (A2 b+n)),flagsOf (Aw b) (A2 b+n))
theorem Aj2 {V:Nat} {E:Int} (h0:V≠0) (h:E+V.log2+1≤-1075):Co V E=0∧flagsOf V E=3:=by
  have hl:Cn V E=-1074:=by unfold Cn; omega
  obtain ⟨k,hk⟩:∃ k:Nat,(-1074:Int)-E=((k:Nat):Int):=⟨(-1074-E).toNat,by omega⟩
  have hV:V<2^(V.log2+1):=(Nat.log2_lt h0).1 (by omega)
  have hp:2^(V.log2+1)*2≤2^k:=by rw [← Nat.pow_succ]; exact Ay7 (by decide) (by omega)
  have e1:V*2^(-((-1074:Int)-E)).toNat=V:=by rw [hk]; simp
  have e2:((-1074:Int)-E).toNat=k:=by rw [hk]; rfl
  have hk2:kept V E=0:=by
    unfold kept J6
    rw [hl,e1,e2]
    unfold M3
    rw [Nat.div_eq_of_lt (by omega),Ay5 (by omega),if_neg (by omega)]
  have hx:exact V E=false:=by
    unfold exact Mt
    rw [hl,e1,e2,Ay5 (by omega)]
    exact Ayx h0
  have hr:Co V E=0:=by
    unfold Co
    rw [if_neg h0,hl,hk2]
    rfl
  refine ⟨hr,?_⟩
  unfold flagsOf
  rw [if_neg h0,hr,hx]
  rfl
theorem Akz (n:Bool) {m:Nat} {e:Int} {more:Bool} (hm:m<2^53) (h0:m≠0∨more=true) (he:e≤-1130) :
    Gi n m e more=(Bl n 0,3):=by
  have h1:more.toNat≤1:=by cases more<;>decide
  have hV:4*m+more.toNat≠0:=by
    rcases h0 with h | h
    · omega
    · rw [h]; simp
  have hl:(4*m+more.toNat).log2≤54:=by
    have:=(Nat.log2_lt hV).2 (show 4*m+more.toNat<2^55 by omega); omega
  have:=Aj2 hV (E:=e-2) (by omega)
  unfold Gi
  rw [this.1,this.2]
theorem Anr (n:Bool):Gi n 0 (-1074) true=(Bl n 0,3):=by
  cases n<;>decide +kernel
theorem Agz {b:Nat} {n:Int} (h4:Am b≠4) (h:¬ (Am b=3∨Am b=0)) (hn:A2 b+n≤-1130):Gl b n=(Bl (Bt b) 0,3):=by
  have hm:Aw b≠0:=fun h5=>h (.inr ((Hh (by omega) h4).1 h5))
  have:=Aj2 hm (E:=A2 b+n) (by have:=Afe hm; omega)
  unfold Gl
  rw [if_neg h4,if_neg h,this.1,this.2]
theorem Aj8 {b:Nat} {n:Int} (h4:Am b≠4) (h:¬ (Am b=3∨Am b=0)):Gl b n=(Bl (Bt b) (Co (Aw b) (A2 b+n)),flagsOf (Aw b) (A2 b+n)):=by
  unfold Gl; rw [if_neg h4,if_neg h]
def Alp (b:Nat):Int:=if Kb b=true∧Am b≠0 then ((Aw b).log2:Int)+A2 b else 0
def G9 (b:Nat):Nat:=b%2^63
def Ae4 (a b:Nat):Int:=if Am a=4∨Am b=4 then 0 else if H0 a<H0 b then -1 else if H0 b<H0 a then 1 else 0
def Aac (a b:Nat):Bool:=!(decide (Am a=4∨Am b=4))
def Ahm (a b:Nat):Nat:=if Aac a b=true then (if Ae4 a b<0 then b else a) else P8
end Go.Rnd
namespace Go.Rnd
open Go.Den
def Aa3 (b:Int):Int:=H0 b.toNat
def Sy (a b:Int):Int:=Ae4 a.toNat b.toNat
def Aa8 (a b:Int):Bool:=Aac a.toNat b.toNat
def Je (x:Int):Int:=G9 x.toNat
def Ow (a b:Int):Int:=Ahm a.toNat b.toNat
def By (x n:Int):Int:=(Gl x.toNat n).1
def Aqj (x n:Int):Int:=(Gl x.toNat n).2
def Dh (x n:Int):Bool:=Af x&&Cz (-2300≤n∧n≤2300)
def Br (x:Int):Int:=Alp x.toNat
def Zy:List Int→Nat→Nat
  | [],m=>m
  | x::l,m=>if Am x.toNat=4 then P8 else Zy l (max m (G9 x.toNat))
def Be (l:List Int):Int:=Zy l 0
def Df (l:List Int):Bool:=l.all Cv
def Cg (r c:Int) (l:List Int):Int:=if A0 r c l=true then (if Df l=true then 0 else 4) else 1
def Aqy (c:Int) (l:List Int) (n:Nat):Bool:=(List.range n).any fun i:Nat=>decide (Bd (D9 c l (i:Int) (i:Int))=0)
def N9 (r c:Int) (l:List Int) (p q:Int) (m:List Int):Int :=
  if Cg r c l≠0 then Cg r c l else if Cg p q m≠0 then Cg p q m
  else if r≠c∨r≠p then 3 else if Aqy c l r.toNat=true then 5 else 0
def Qq (c:Int) (l:List Int) (i:Int):Int→Int→List Int→Int
  | s,_,[]=>s
  | s,j,x::xs=>Qq c l i (Ew s (D3 (D9 c l i j) x)) (j+1) xs
def upL (c:Int) (l:List Int) (b:Nat→Int) (n:Nat):Nat→List Int
  | 0=>[]
  | k+1=>Fc (Qq c l ((n-1-k:Nat):Int) (b (n-1-k)) ((n-k:Nat):Int) (upL c l b n k)) (D9 c l ((n-1-k:Nat):Int) ((n-1-k:Nat):Int))::upL c l b n k
def loL (c:Int) (l:List Int) (b:Nat→Int):Nat→List Int
  | 0=>[]
  | k+1=>loL c l b k++[Fc (Qq c l (k:Int) (b k) 0 (loL c l b k)) (D9 c l (k:Int) (k:Int))]
def upG (c:Int) (l:List Int) (q:Int) (m:List Int) (n w:Nat):List Int:=B7 n w fun i j=>(upL c l (fun i=>D9 q m (i:Int) (j:Int)) n n).getD i 0
def loG (c:Int) (l:List Int) (q:Int) (m:List Int) (n w:Nat):List Int:=B7 n w fun i j=>(loL c l (fun i=>D9 q m (i:Int) (j:Int)) n).getD i 0
def Kj (r c:Int) (l:List Int):MX:=if Df l=true then (r,c,l,0) else Kl 2
def Tq (r c:Int) (l:List Int) (p q:Int) (m:List Int):MX :=
  if N9 r c l p q m≠0 then Kl (N9 r c l p q m) else Kj r q (upG c l q m r.toNat q.toNat)
def loX (r c:Int) (l:List Int) (p q:Int) (m:List Int):MX :=
  if N9 r c l p q m≠0 then Kl (N9 r c l p q m) else Kj r q (loG c l q m r.toNat q.toNat)
def Km (c:Int) (l:List Int) (n:Nat):List Int:=(List.range n).map fun i:Nat=>Je (D9 c l (i:Int) (i:Int))
def Aor (d:List Int):Bool:=d.any fun x=>!(decide (Sy (By (Be d) (-40)) x<0))
def Qx (r c:Int) (l:List Int):Bool:=Aor (Km c l (min r.toNat c.toNat))
def O2 (r c:Int) (l:List Int):Bool × Int:=if Cg r c l≠0 then (false,Cg r c l) else (Qx r c l,0)
def Aca (r c:Int) (l:List Int) (p q:Int) (m:List Int):Bool:=(A0 r c l&&A0 p q m)&&((Ah l&&Ah m)&&Cz (r=c∧r=p))
def I5 (n:Nat):List Int:=B7 n n fun i k=>Nk (i:Int) (k:Int)
def Dv (r c:Int) (l:List Int) (p q:Int) (m:List Int):MX :=
  if (Fq r c l).2.2.2≠0 then Kl (Fq r c l).2.2.2 else Sa (Fq r c l).1 (Fq r c l).2.1 (Fq r c l).2.2.1 p q m
end Go.Rnd
end
