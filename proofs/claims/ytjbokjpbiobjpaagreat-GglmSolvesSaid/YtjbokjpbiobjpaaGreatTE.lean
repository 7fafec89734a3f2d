/- A verified evaluator of the program's form and its use for this seat: S1Env, Rnd, Flt, Words, NearL, IeeL, OrdL, MulL, Limb, DyL, DyV, ExactL, MulW, SumL, MatL, MatW, PowL, RootL, ScaleL, SolW, TriL, HouW, LseW. -/
import Derived.Test.YtjbokjpbiobjpaaGreatProg
import Derived.Test.YtjbokjpbiobjpaaGreatTD
set_option linter.unusedVariables false
set_option linter.unusedSimpArgs false
noncomputable section
open Int (toNat)
open List (length getD)
namespace Go.Proofs.S1
open Go Go.Den Go.Proofs
set_option maxRecDepth 100000
abbrev tB:Nat:=37
abbrev tMR:Nat:=214
abbrev tW:Nat:=173
def tys:List (Nat × TI):=[
 (2,⟨1,8,(.int .i64),[.int .i64 (0:Int)]⟩),
 (3,⟨1,8,(.int .i64),[.int .i64 (0:Int)]⟩),
 (4,⟨1,1,.bool,[.bool false]⟩),
 (5,⟨1,1,(.int .u8),[.int .u8 (0:Int)]⟩),
 (22,⟨1,24,(.slice 37),[.nil]⟩),
 (24,⟨3,40,(.struct [(0,3),(1,3),(2,22)]),[.int .i64 (0:Int),.int .i64 (0:Int),.nil]⟩),
 (25,⟨1,8,(.int .i64),[.int .i64 (0:Int)]⟩),
 (36,⟨1,8,(.int .u64),[.int .u64 (0:Int)]⟩),
 (37,⟨1,8,(.int .u64),[.int .u64 (0:Int)]⟩),
 (38,⟨1,24,(.slice 41),[.nil]⟩),
 (41,⟨1,1,(.int .i8),[.int .i8 (0:Int)]⟩),
 (43,⟨1,24,(.slice 173),[.nil]⟩),
 (45,⟨2,32,(.struct [(0,4),(1,43)]),[.bool false,.nil]⟩),
 (47,⟨3,40,(.struct [(0,45),(2,3)]),[.bool false,.nil,.int .i64 (0:Int)]⟩),
 (57,⟨12,160,(.struct [(0,24),(3,24),(6,24),(9,24)]),[.int .i64 (0:Int),.int .i64 (0:Int),.nil,.int .i64 (0:Int),.int .i64 (0:Int),.nil,.int .i64 (0:Int),.int .i64 (0:Int),.nil,.int .i64 (0:Int),.int .i64 (0:Int),.nil]⟩),
 (60,⟨12,160,(.struct [(0,24),(3,24),(6,24),(9,24)]),[.int .i64 (0:Int),.int .i64 (0:Int),.nil,.int .i64 (0:Int),.int .i64 (0:Int),.nil,.int .i64 (0:Int),.int .i64 (0:Int),.nil,.int .i64 (0:Int),.int .i64 (0:Int),.nil]⟩),
 (71,⟨9,120,(.struct [(0,24),(3,24),(6,24)]),[.int .i64 (0:Int),.int .i64 (0:Int),.nil,.int .i64 (0:Int),.int .i64 (0:Int),.nil,.int .i64 (0:Int),.int .i64 (0:Int),.nil]⟩),
 (74,⟨9,120,(.struct [(0,24),(3,24),(6,24)]),[.int .i64 (0:Int),.int .i64 (0:Int),.nil,.int .i64 (0:Int),.int .i64 (0:Int),.nil,.int .i64 (0:Int),.int .i64 (0:Int),.nil]⟩),
 (80,⟨7,88,(.struct [(0,24),(3,24),(6,25)]),[.int .i64 (0:Int),.int .i64 (0:Int),.nil,.int .i64 (0:Int),.int .i64 (0:Int),.nil,.int .i64 (0:Int)]⟩),
 (88,⟨9,120,(.struct [(0,24),(3,24),(6,24)]),[.int .i64 (0:Int),.int .i64 (0:Int),.nil,.int .i64 (0:Int),.int .i64 (0:Int),.nil,.int .i64 (0:Int),.int .i64 (0:Int),.nil]⟩),
 (91,⟨1,24,(.slice 24),[.nil]⟩),
 (102,⟨1,8,(.int .i64),[.int .i64 (0:Int)]⟩),
 (114,⟨6,80,(.array 2 24),[.int .i64 (0:Int),.int .i64 (0:Int),.nil,.int .i64 (0:Int),.int .i64 (0:Int),.nil]⟩),
 (118,⟨7,88,(.struct [(0,24),(3,24),(6,4)]),[.int .i64 (0:Int),.int .i64 (0:Int),.nil,.int .i64 (0:Int),.int .i64 (0:Int),.nil,.bool false]⟩),
 (121,⟨1,8,.fl,[.fl 0]⟩),
 (131,⟨1,24,(.slice 47),[.nil]⟩),
 (134,⟨1,24,(.slice 135),[.nil]⟩),
 (135,⟨1,24,(.slice 45),[.nil]⟩),
 (145,⟨9,120,(.array 3 24),[.int .i64 (0:Int),.int .i64 (0:Int),.nil,.int .i64 (0:Int),.int .i64 (0:Int),.nil,.int .i64 (0:Int),.int .i64 (0:Int),.nil]⟩),
 (147,⟨15,200,(.struct [(0,24),(3,24),(6,24),(9,24),(12,24)]),[.int .i64 (0:Int),.int .i64 (0:Int),.nil,.int .i64 (0:Int),.int .i64 (0:Int),.nil,.int .i64 (0:Int),.int .i64 (0:Int),.nil,.int .i64 (0:Int),.int .i64 (0:Int),.nil,.int .i64 (0:Int),.int .i64 (0:Int),.nil]⟩),
 (155,⟨3,40,(.struct [(0,3),(1,3),(2,131)]),[.int .i64 (0:Int),.int .i64 (0:Int),.nil]⟩),
 (166,⟨1,1,(.int .u8),[.int .u8 (0:Int)]⟩),
 (173,⟨1,4,(.int .u32),[.int .u32 (0:Int)]⟩),
 (183,⟨12,160,(.array 4 24),[.int .i64 (0:Int),.int .i64 (0:Int),.nil,.int .i64 (0:Int),.int .i64 (0:Int),.nil,.int .i64 (0:Int),.int .i64 (0:Int),.nil,.int .i64 (0:Int),.int .i64 (0:Int),.nil]⟩),
 (188,⟨2,16,(.array 2 3),[.int .i64 (0:Int),.int .i64 (0:Int)]⟩),
 (189,⟨1,24,(.slice 191),[.nil]⟩),
 (191,⟨3,40,(.struct [(0,22),(1,37),(2,37)]),[.nil,.int .u64 (0:Int),.int .u64 (0:Int)]⟩),
 (199,⟨3,24,(.struct [(0,4),(1,3),(2,36)]),[.bool false,.int .i64 (0:Int),.int .u64 (0:Int)]⟩),
 (208,⟨1,24,(.slice 214),[.nil]⟩),
 (214,⟨2,32,(.struct [(0,22),(1,37)]),[.nil,.int .u64 (0:Int)]⟩)]
theorem ty2:Cc Tryz.prog 2 ⟨1,8,(.int .i64),[.int .i64 (0:Int)]⟩:=Cg (z:=.int .i64 (0:Int)) (by kernel_rfl) (fun c w=>by simp [Bi,As,Value.cells]) rfl (by simp [Value.cells,Value.oneCell']) (by simp only [Cl]; exact Tryz.underlying2)
theorem ty3:Cc Tryz.prog 3 ⟨1,8,(.int .i64),[.int .i64 (0:Int)]⟩:=Cg (z:=.int .i64 (0:Int)) (by kernel_rfl) (fun c w=>by simp [Bi,As,Value.cells]) rfl (by simp [Value.cells,Value.oneCell']) (by simp only [Cl]; exact Tryz.underlying3)
theorem ty4:Cc Tryz.prog 4 ⟨1,1,.bool,[.bool false]⟩:=Cg (z:=.bool false) (by kernel_rfl) (fun c w=>by simp [Bi,As,Value.cells]) rfl (by simp [Value.cells,Value.oneCell']) (by simp only [Cl]; exact Tryz.underlying4)
theorem ty5:Cc Tryz.prog 5 ⟨1,1,(.int .u8),[.int .u8 (0:Int)]⟩:=Cg (z:=.int .u8 (0:Int)) (by kernel_rfl) (fun c w=>by simp [Bi,As,Value.cells]) rfl (by simp [Value.cells,Value.oneCell']) (by simp only [Cl]; exact Tryz.underlying5)
theorem Azl:Cc Tryz.prog 22 ⟨1,24,(.slice 37),[.nil]⟩:=Cg (z:=.slice none 0 0) (by kernel_rfl) (fun c w=>by simp [Bi,As,Value.cells]) rfl (by simp [Value.cells,Value.oneCell']) (by simp only [Cl]; exact Tryz.underlying22)
theorem Azk:Cc Tryz.prog 24 ⟨3,40,(.struct [(0,3),(1,3),(2,22)]),[.int .i64 (0:Int),.int .i64 (0:Int),.nil]⟩:=Cg (z:=.agg #[.int .i64 (0:Int),.int .i64 (0:Int),.slice none 0 0]) (by kernel_rfl) (fun c w=>by simp [Bi,As,Value.cells]) rfl (by simp [Value.cells,Value.oneCell']) (by simp only [Cl]; exact ⟨_,Tryz.underlying24,by kernel_rfl⟩)
theorem Azj:Cc Tryz.prog 25 ⟨1,8,(.int .i64),[.int .i64 (0:Int)]⟩:=Cg (z:=.int .i64 (0:Int)) (by kernel_rfl) (fun c w=>by simp [Bi,As,Value.cells]) rfl (by simp [Value.cells,Value.oneCell']) (by simp only [Cl]; exact Tryz.underlying25)
theorem Awy:Cc Tryz.prog 36 ⟨1,8,(.int .u64),[.int .u64 (0:Int)]⟩:=Cg (z:=.int .u64 (0:Int)) (by kernel_rfl) (fun c w=>by simp [Bi,As,Value.cells]) rfl (by simp [Value.cells,Value.oneCell']) (by simp only [Cl]; exact Tryz.underlying36)
theorem Azi:Cc Tryz.prog 37 ⟨1,8,(.int .u64),[.int .u64 (0:Int)]⟩:=Cg (z:=.int .u64 (0:Int)) (by kernel_rfl) (fun c w=>by simp [Bi,As,Value.cells]) rfl (by simp [Value.cells,Value.oneCell']) (by simp only [Cl]; exact Tryz.underlying37)
theorem Azh:Cc Tryz.prog 38 ⟨1,24,(.slice 41),[.nil]⟩:=Cg (z:=.slice none 0 0) (by kernel_rfl) (fun c w=>by simp [Bi,As,Value.cells]) rfl (by simp [Value.cells,Value.oneCell']) (by simp only [Cl]; exact Tryz.underlying38)
theorem Azg:Cc Tryz.prog 41 ⟨1,1,(.int .i8),[.int .i8 (0:Int)]⟩:=Cg (z:=.int .i8 (0:Int)) (by kernel_rfl) (fun c w=>by simp [Bi,As,Value.cells]) rfl (by simp [Value.cells,Value.oneCell']) (by simp only [Cl]; exact Tryz.underlying41)
theorem Azf:Cc Tryz.prog 43 ⟨1,24,(.slice 173),[.nil]⟩:=Cg (z:=.slice none 0 0) (by kernel_rfl) (fun c w=>by simp [Bi,As,Value.cells]) rfl (by simp [Value.cells,Value.oneCell']) (by simp only [Cl]; exact Tryz.underlying43)
theorem Aze:Cc Tryz.prog 45 ⟨2,32,(.struct [(0,4),(1,43)]),[.bool false,.nil]⟩:=Cg (z:=.agg #[.bool false,.slice none 0 0]) (by kernel_rfl) (fun c w=>by simp [Bi,As,Value.cells]) rfl (by simp [Value.cells,Value.oneCell']) (by simp only [Cl]; exact ⟨_,Tryz.underlying45,by kernel_rfl⟩)
theorem Azd:Cc Tryz.prog 47 ⟨3,40,(.struct [(0,45),(2,3)]),[.bool false,.nil,.int .i64 (0:Int)]⟩:=Cg (z:=.agg #[.bool false,.slice none 0 0,.int .i64 (0:Int)]) (by kernel_rfl) (fun c w=>by simp [Bi,As,Value.cells]) rfl (by simp [Value.cells,Value.oneCell']) (by simp only [Cl]; exact ⟨_,Tryz.underlying47,by kernel_rfl⟩)
theorem Azc:Cc Tryz.prog 57 ⟨12,160,(.struct [(0,24),(3,24),(6,24),(9,24)]),[.int .i64 (0:Int),.int .i64 (0:Int),.nil,.int .i64 (0:Int),.int .i64 (0:Int),.nil,.int .i64 (0:Int),.int .i64 (0:Int),.nil,.int .i64 (0:Int),.int .i64 (0:Int),.nil]⟩:=Cg (z:=.agg #[.int .i64 (0:Int),.int .i64 (0:Int),.slice none 0 0,.int .i64 (0:Int),.int .i64 (0:Int),.slice none 0 0,.int .i64 (0:Int),.int .i64 (0:Int),.slice none 0 0,.int .i64 (0:Int),.int .i64 (0:Int),.slice none 0 0]) (by kernel_rfl) (fun c w=>by simp [Bi,As,Value.cells]) rfl (by simp [Value.cells,Value.oneCell']) (by simp only [Cl]; exact ⟨_,Tryz.underlying57,by kernel_rfl⟩)
theorem Azb:Cc Tryz.prog 60 ⟨12,160,(.struct [(0,24),(3,24),(6,24),(9,24)]),[.int .i64 (0:Int),.int .i64 (0:Int),.nil,.int .i64 (0:Int),.int .i64 (0:Int),.nil,.int .i64 (0:Int),.int .i64 (0:Int),.nil,.int .i64 (0:Int),.int .i64 (0:Int),.nil]⟩:=Cg (z:=.agg #[.int .i64 (0:Int),.int .i64 (0:Int),.slice none 0 0,.int .i64 (0:Int),.int .i64 (0:Int),.slice none 0 0,.int .i64 (0:Int),.int .i64 (0:Int),.slice none 0 0,.int .i64 (0:Int),.int .i64 (0:Int),.slice none 0 0]) (by kernel_rfl) (fun c w=>by simp [Bi,As,Value.cells]) rfl (by simp [Value.cells,Value.oneCell']) (by simp only [Cl]; exact ⟨_,Tryz.underlying60,by kernel_rfl⟩)
theorem Aza:Cc Tryz.prog 71 ⟨9,120,(.struct [(0,24),(3,24),(6,24)]),[.int .i64 (0:Int),.int .i64 (0:Int),.nil,.int .i64 (0:Int),.int .i64 (0:Int),.nil,.int .i64 (0:Int),.int .i64 (0:Int),.nil]⟩:=Cg (z:=.agg #[.int .i64 (0:Int),.int .i64 (0:Int),.slice none 0 0,.int .i64 (0:Int),.int .i64 (0:Int),.slice none 0 0,.int .i64 (0:Int),.int .i64 (0:Int),.slice none 0 0]) (by kernel_rfl) (fun c w=>by simp [Bi,As,Value.cells]) rfl (by simp [Value.cells,Value.oneCell']) (by simp only [Cl]; exact ⟨_,Tryz.underlying71,by kernel_rfl⟩)
theorem Ay9:Cc Tryz.prog 74 ⟨9,120,(.struct [(0,24),(3,24),(6,24)]),[.int .i64 (0:Int),.int .i64 (0:Int),.nil,.int .i64 (0:Int),.int .i64 (0:Int),.nil,.int .i64 (0:Int),.int .i64 (0:Int),.nil]⟩:=Cg (z:=.agg #[.int .i64 (0:Int),.int .i64 (0:Int),.slice none 0 0,.int .i64 (0:Int),.int .i64 (0:Int),.slice none 0 0,.int .i64 (0:Int),.int .i64 (0:Int),.slice none 0 0]) (by kernel_rfl) (fun c w=>by simp [Bi,As,Value.cells]) rfl (by simp [Value.cells,Value.oneCell']) (by simp only [Cl]; exact ⟨_,Tryz.underlying74,by kernel_rfl⟩)
theorem Ay8:Cc Tryz.prog 80 ⟨7,88,(.struct [(0,24),(3,24),(6,25)]),[.int .i64 (0:Int),.int .i64 (0:Int),.nil,.int .i64 (0:Int),.int .i64 (0:Int),.nil,.int .i64 (0:Int)]⟩:=Cg (z:=.agg #[.int .i64 (0:Int),.int .i64 (0:Int),.slice none 0 0,.int .i64 (0:Int),.int .i64 (0:Int),.slice none 0 0,.int .i64 (0:Int)]) (by kernel_rfl) (fun c w=>by simp [Bi,As,Value.cells]) rfl (by simp [Value.cells,Value.oneCell']) (by simp only [Cl]; exact ⟨_,Tryz.underlying80,by kernel_rfl⟩)
theorem Ay7:Cc Tryz.prog 88 ⟨9,120,(.struct [(0,24),(3,24),(6,24)]),[.int .i64 (0:Int),.int .i64 (0:Int),.nil,.int .i64 (0:Int),.int .i64 (0:Int),.nil,.int .i64 (0:Int),.int .i64 (0:Int),.nil]⟩:=Cg (z:=.agg #[.int .i64 (0:Int),.int .i64 (0:Int),.slice none 0 0,.int .i64 (0:Int),.int .i64 (0:Int),.slice none 0 0,.int .i64 (0:Int),.int .i64 (0:Int),.slice none 0 0]) (by kernel_rfl) (fun c w=>by simp [Bi,As,Value.cells]) rfl (by simp [Value.cells,Value.oneCell']) (by simp only [Cl]; exact ⟨_,Tryz.underlying88,by kernel_rfl⟩)
theorem Ay6:Cc Tryz.prog 91 ⟨1,24,(.slice 24),[.nil]⟩:=Cg (z:=.slice none 0 0) (by kernel_rfl) (fun c w=>by simp [Bi,As,Value.cells]) rfl (by simp [Value.cells,Value.oneCell']) (by simp only [Cl]; exact Tryz.underlying91)
theorem Axh:Cc Tryz.prog 102 ⟨1,8,(.int .i64),[.int .i64 (0:Int)]⟩:=Cg (z:=.int .i64 (0:Int)) (by kernel_rfl) (fun c w=>by simp [Bi,As,Value.cells]) rfl (by simp [Value.cells,Value.oneCell']) (by simp only [Cl]; exact Tryz.underlying102)
theorem Axg:Cc Tryz.prog 114 ⟨6,80,(.array 2 24),[.int .i64 (0:Int),.int .i64 (0:Int),.nil,.int .i64 (0:Int),.int .i64 (0:Int),.nil]⟩:=Cg (z:=.agg #[.int .i64 (0:Int),.int .i64 (0:Int),.slice none 0 0,.int .i64 (0:Int),.int .i64 (0:Int),.slice none 0 0]) (by kernel_rfl) (fun c w=>by simp [Bi,As,Value.cells]) rfl (by simp [Value.cells,Value.oneCell']) (by simp only [Cl]; exact Tryz.underlying114)
theorem Axf:Cc Tryz.prog 118 ⟨7,88,(.struct [(0,24),(3,24),(6,4)]),[.int .i64 (0:Int),.int .i64 (0:Int),.nil,.int .i64 (0:Int),.int .i64 (0:Int),.nil,.bool false]⟩:=Cg (z:=.agg #[.int .i64 (0:Int),.int .i64 (0:Int),.slice none 0 0,.int .i64 (0:Int),.int .i64 (0:Int),.slice none 0 0,.bool false]) (by kernel_rfl) (fun c w=>by simp [Bi,As,Value.cells]) rfl (by simp [Value.cells,Value.oneCell']) (by simp only [Cl]; exact ⟨_,Tryz.underlying118,by kernel_rfl⟩)
theorem Axe:Cc Tryz.prog 121 ⟨1,8,.fl,[.fl 0]⟩:=Cg (z:=.float .f64 0) (by kernel_rfl) (fun c w=>by simp [Bi,As,Value.cells,Qx]) rfl (by simp [Value.cells,Value.oneCell']) (by simp only [Cl]; exact Tryz.underlying121)
theorem Axd:Cc Tryz.prog 131 ⟨1,24,(.slice 47),[.nil]⟩:=Cg (z:=.slice none 0 0) (by kernel_rfl) (fun c w=>by simp [Bi,As,Value.cells]) rfl (by simp [Value.cells,Value.oneCell']) (by simp only [Cl]; exact Tryz.underlying131)
theorem Axc:Cc Tryz.prog 134 ⟨1,24,(.slice 135),[.nil]⟩:=Cg (z:=.slice none 0 0) (by kernel_rfl) (fun c w=>by simp [Bi,As,Value.cells]) rfl (by simp [Value.cells,Value.oneCell']) (by simp only [Cl]; exact Tryz.underlying134)
theorem Axb:Cc Tryz.prog 135 ⟨1,24,(.slice 45),[.nil]⟩:=Cg (z:=.slice none 0 0) (by kernel_rfl) (fun c w=>by simp [Bi,As,Value.cells]) rfl (by simp [Value.cells,Value.oneCell']) (by simp only [Cl]; exact Tryz.underlying135)
theorem Axa:Cc Tryz.prog 145 ⟨9,120,(.array 3 24),[.int .i64 (0:Int),.int .i64 (0:Int),.nil,.int .i64 (0:Int),.int .i64 (0:Int),.nil,.int .i64 (0:Int),.int .i64 (0:Int),.nil]⟩:=Cg (z:=.agg #[.int .i64 (0:Int),.int .i64 (0:Int),.slice none 0 0,.int .i64 (0:Int),.int .i64 (0:Int),.slice none 0 0,.int .i64 (0:Int),.int .i64 (0:Int),.slice none 0 0]) (by kernel_rfl) (fun c w=>by simp [Bi,As,Value.cells]) rfl (by simp [Value.cells,Value.oneCell']) (by simp only [Cl]; exact Tryz.underlying145)
theorem Aw9:Cc Tryz.prog 147 ⟨15,200,(.struct [(0,24),(3,24),(6,24),(9,24),(12,24)]),[.int .i64 (0:Int),.int .i64 (0:Int),.nil,.int .i64 (0:Int),.int .i64 (0:Int),.nil,.int .i64 (0:Int),.int .i64 (0:Int),.nil,.int .i64 (0:Int),.int .i64 (0:Int),.nil,.int .i64 (0:Int),.int .i64 (0:Int),.nil]⟩:=Cg (z:=.agg #[.int .i64 (0:Int),.int .i64 (0:Int),.slice none 0 0,.int .i64 (0:Int),.int .i64 (0:Int),.slice none 0 0,.int .i64 (0:Int),.int .i64 (0:Int),.slice none 0 0,.int .i64 (0:Int),.int .i64 (0:Int),.slice none 0 0,.int .i64 (0:Int),.int .i64 (0:Int),.slice none 0 0]) (by kernel_rfl) (fun c w=>by simp [Bi,As,Value.cells]) rfl (by simp [Value.cells,Value.oneCell']) (by simp only [Cl]; exact ⟨_,Tryz.underlying147,by kernel_rfl⟩)
theorem Aw8:Cc Tryz.prog 155 ⟨3,40,(.struct [(0,3),(1,3),(2,131)]),[.int .i64 (0:Int),.int .i64 (0:Int),.nil]⟩:=Cg (z:=.agg #[.int .i64 (0:Int),.int .i64 (0:Int),.slice none 0 0]) (by kernel_rfl) (fun c w=>by simp [Bi,As,Value.cells]) rfl (by simp [Value.cells,Value.oneCell']) (by simp only [Cl]; exact ⟨_,Tryz.underlying155,by kernel_rfl⟩)
theorem Aw7:Cc Tryz.prog 166 ⟨1,1,(.int .u8),[.int .u8 (0:Int)]⟩:=Cg (z:=.int .u8 (0:Int)) (by kernel_rfl) (fun c w=>by simp [Bi,As,Value.cells]) rfl (by simp [Value.cells,Value.oneCell']) (by simp only [Cl]; exact Tryz.underlying166)
theorem Aw6:Cc Tryz.prog 173 ⟨1,4,(.int .u32),[.int .u32 (0:Int)]⟩:=Cg (z:=.int .u32 (0:Int)) (by kernel_rfl) (fun c w=>by simp [Bi,As,Value.cells]) rfl (by simp [Value.cells,Value.oneCell']) (by simp only [Cl]; exact Tryz.underlying173)
theorem Aw5:Cc Tryz.prog 183 ⟨12,160,(.array 4 24),[.int .i64 (0:Int),.int .i64 (0:Int),.nil,.int .i64 (0:Int),.int .i64 (0:Int),.nil,.int .i64 (0:Int),.int .i64 (0:Int),.nil,.int .i64 (0:Int),.int .i64 (0:Int),.nil]⟩:=Cg (z:=.agg #[.int .i64 (0:Int),.int .i64 (0:Int),.slice none 0 0,.int .i64 (0:Int),.int .i64 (0:Int),.slice none 0 0,.int .i64 (0:Int),.int .i64 (0:Int),.slice none 0 0,.int .i64 (0:Int),.int .i64 (0:Int),.slice none 0 0]) (by kernel_rfl) (fun c w=>by simp [Bi,As,Value.cells]) rfl (by simp [Value.cells,Value.oneCell']) (by simp only [Cl]; exact Tryz.underlying183)
theorem Aw4:Cc Tryz.prog 188 ⟨2,16,(.array 2 3),[.int .i64 (0:Int),.int .i64 (0:Int)]⟩:=Cg (z:=.agg #[.int .i64 (0:Int),.int .i64 (0:Int)]) (by kernel_rfl) (fun c w=>by simp [Bi,As,Value.cells]) rfl (by simp [Value.cells,Value.oneCell']) (by simp only [Cl]; exact Tryz.underlying188)
theorem Aw3:Cc Tryz.prog 189 ⟨1,24,(.slice 191),[.nil]⟩:=Cg (z:=.slice none 0 0) (by kernel_rfl) (fun c w=>by simp [Bi,As,Value.cells]) rfl (by simp [Value.cells,Value.oneCell']) (by simp only [Cl]; exact Tryz.underlying189)
theorem Aw2:Cc Tryz.prog 191 ⟨3,40,(.struct [(0,22),(1,37),(2,37)]),[.nil,.int .u64 (0:Int),.int .u64 (0:Int)]⟩:=Cg (z:=.agg #[.slice none 0 0,.int .u64 (0:Int),.int .u64 (0:Int)]) (by kernel_rfl) (fun c w=>by simp [Bi,As,Value.cells]) rfl (by simp [Value.cells,Value.oneCell']) (by simp only [Cl]; exact ⟨_,Tryz.underlying191,by kernel_rfl⟩)
theorem Aw1:Cc Tryz.prog 199 ⟨3,24,(.struct [(0,4),(1,3),(2,36)]),[.bool false,.int .i64 (0:Int),.int .u64 (0:Int)]⟩:=Cg (z:=.agg #[.bool false,.int .i64 (0:Int),.int .u64 (0:Int)]) (by kernel_rfl) (fun c w=>by simp [Bi,As,Value.cells]) rfl (by simp [Value.cells,Value.oneCell']) (by simp only [Cl]; exact ⟨_,Tryz.underlying199,by kernel_rfl⟩)
theorem Aw0:Cc Tryz.prog 208 ⟨1,24,(.slice 214),[.nil]⟩:=Cg (z:=.slice none 0 0) (by kernel_rfl) (fun c w=>by simp [Bi,As,Value.cells]) rfl (by simp [Value.cells,Value.oneCell']) (by simp only [Cl]; exact Tryz.underlying208)
theorem Awz:Cc Tryz.prog 214 ⟨2,32,(.struct [(0,22),(1,37)]),[.nil,.int .u64 (0:Int)]⟩:=Cg (z:=.agg #[.slice none 0 0,.int .u64 (0:Int)]) (by kernel_rfl) (fun c w=>by simp [Bi,As,Value.cells]) rfl (by simp [Value.cells,Value.oneCell']) (by simp only [Cl]; exact ⟨_,Tryz.underlying214,by kernel_rfl⟩)
theorem Auz:Sn Tryz.prog tys:=.cons ty2 <| .cons ty3 <| .cons ty4 <| .cons ty5 <| .cons Azl <| .cons Azk <| .cons Azj <| .cons Awy <| .cons Azi <| .cons Azh <| .cons Azg <| .cons Azf <| .cons Aze <| .cons Azd <| .cons Azc <| .cons Azb <| .cons Aza <| .cons Ay9 <| .cons Ay8 <| .cons Ay7 <| .cons Ay6 <| .cons Axh <| .cons Axg <| .cons Axf <| .cons Axe <| .cons Axd <| .cons Axc <| .cons Axb <| .cons Axa <| .cons Aw9 <| .cons Aw8 <| .cons Aw7 <| .cons Aw6 <| .cons Aw5 <| .cons Aw4 <| .cons Aw3 <| .cons Aw2 <| .cons Aw1 <| .cons Aw0 <| .cons Awz <| .nil
def exts:List (Nat × Ext):=[(169,.bits),(210,.frombits),(263,.sqrt),(266,.sub64)]
def Ahd:List (Nat × Ext)→Nat→Option Ext
 | [],_=>none
 | (m,e)::l,n=>bif Nat.beq m n then some e else Ahd l n
theorem Aqv (args:Array Value) (w:World):(callFunc 169 args).run Tryz.prog w=((Tz .bits args).run Tryz.prog w).andThen fun v w'=>.ok (.value v) w':=run_callFunc_extern (e:=Extern.MathFloatBits.float64bits) Tryz.func169 (by kernel_rfl) (by kernel_rfl) (by kernel_rfl) (by kernel_rfl) args w
theorem Aqu (args:Array Value) (w:World):(callFunc 210 args).run Tryz.prog w=((Tz .frombits args).run Tryz.prog w).andThen fun v w'=>.ok (.value v) w':=run_callFunc_extern (e:=Extern.MathFloatBits.float64frombits) Tryz.func210 (by kernel_rfl) (by kernel_rfl) (by kernel_rfl) (by kernel_rfl) args w
theorem Aqt (args:Array Value) (w:World):(callFunc 263 args).run Tryz.prog w=((Tz .sqrt args).run Tryz.prog w).andThen fun v w'=>.ok (.value v) w':=run_callFunc_extern (e:=Extern.MathSqrt.sqrt) Tryz.func263 (by kernel_rfl) (by kernel_rfl) (by kernel_rfl) (by kernel_rfl) args w
theorem Aqs (args:Array Value) (w:World):(callFunc 266 args).run Tryz.prog w=((Tz .sub64 args).run Tryz.prog w).andThen fun v w'=>.ok (.value v) w':=run_callFunc_extern (e:=Yi) Tryz.func266 (by kernel_rfl) (by kernel_rfl) (by kernel_rfl) (by kernel_rfl) args w
def Awf:List Nat:=[199,188]
theorem Ays:Aew Tryz.prog 199 ⟨3,24,(.struct [(0,4),(1,3),(2,36)]),[.bool false,.int .i64 (0:Int),.int .u64 (0:Int)]⟩ where
 guard:=by kernel_rfl
 eq:=by
  intro w c x y xs ys hx hy hlx hly
  obtain ⟨a0,x1,rfl,hx1⟩:=Yo hx
  obtain ⟨a1,x2,rfl,hx2⟩:=J5 hx1
  obtain ⟨a2,x3,rfl,hx3⟩:=J5 hx2
  obtain rfl:=R4 hx3
  obtain ⟨b0,y1,rfl,hy1⟩:=Yo hy
  obtain ⟨b1,y2,rfl,hy2⟩:=J5 hy1
  obtain ⟨b2,y3,rfl,hy3⟩:=J5 hy2
  obtain rfl:=R4 hy3
  obtain ⟨xs⟩:=xs
  obtain ⟨ys⟩:=ys
  simp only [Bi.C1,Bi.Gu,As] at hlx hly
  obtain ⟨_,_,rfl,rfl,_,_,rfl,rfl,_,_,rfl,rfl,rfl⟩:=hlx
  obtain ⟨_,_,rfl,rfl,_,_,rfl,rfl,_,_,rfl,rfl,rfl⟩:=hly
  have hu:Tryz.prog.underlying 199=some (.struct (Tryz.prog.fieldsOf 199)):=by kernel_rfl
  have hp:Tryz.prog.stoodInHeld 199=false:=by kernel_rfl
  unfold Op.equal Op.maxDepth
  rw [run_equalIn_struct w 9999 199 _ _ hu hp]
  have hfs:Tryz.prog.fieldsOf 199=(match Tryz.prog.underlying 199 with | some (.struct fs)=>fs | _=>#[]):=rfl
  rw [hfs,Tryz.underlying199]
  simp [Op.eqFields,Mk w ty3 rfl,Mk w ty4 rfl,Mk w Awy rfl,run_equalIn_int w _ _ _ _ _ _ Tryz.underlying3,run_equalIn_bool w _ _ _ _ Tryz.underlying4,run_equalIn_int w _ _ _ _ _ _ Tryz.underlying36,Acd,Aab]
  by_cases h0:a0=b0<;>by_cases h1:a1=b1<;>by_cases h2:a2=b2<;>simp [h0,h1,h2]
theorem Ayt:Aew Tryz.prog 188 ⟨2,16,(.array 2 3),[.int .i64 (0:Int),.int .i64 (0:Int)]⟩ where
 guard:=by kernel_rfl
 eq:=by
  intro w c x y xs ys hx hy hlx hly
  obtain ⟨a0,x1,rfl,hx1⟩:=J5 hx
  obtain ⟨a1,x2,rfl,hx2⟩:=J5 hx1
  obtain rfl:=R4 hx2
  obtain ⟨b0,y1,rfl,hy1⟩:=J5 hy
  obtain ⟨b1,y2,rfl,hy2⟩:=J5 hy1
  obtain rfl:=R4 hy2
  obtain ⟨xs⟩:=xs
  obtain ⟨ys⟩:=ys
  simp only [Bi.C1,Bi.Gu,As] at hlx hly
  obtain ⟨_,_,rfl,rfl,_,_,rfl,rfl,rfl⟩:=hlx
  obtain ⟨_,_,rfl,rfl,_,_,rfl,rfl,rfl⟩:=hly
  obtain ⟨i,_,hi,_⟩:=ty3.info
  have hc:Tryz.prog.cellsOf 3=1:=by kernel_rfl
  unfold Op.equal Op.maxDepth
  rw [run_equalIn_array w 9999 _ _ Tryz.underlying188 hi,hc]
  simp [Op.eqItems,List.range,List.range.loop,Mk w ty3 rfl,run_equalIn_int w _ _ _ _ _ _ Tryz.underlying3,Acd,Aab]
  by_cases h0:a0=b0<;>by_cases h1:a1=b1<;>simp [h0,h1]
def Be (Bc:Nat→Option Entry) (adopt:Nat→Bool) (hint:Nat→Option Bg) (live:Nat→Option (List Nat)):Env:={ ty:=Aoe tys,Bc:=Bc,ext:=Ahd exts,eqs:=fun t=>Mp t Awf,adopt:=adopt,live:=live,hint:=hint }
theorem A2 {l:List (Nat × Entry)} (h:A1 Tryz.prog l) (adopt:Nat→Bool) (hint:Nat→Option Bg) (live:Nat→Option (List Nat)):Ke Tryz.prog (Be (Bb l) adopt hint live) where
 ty:=fun t ti ht=>Auz.get ht
 Bc:=fun g e hg=>(h.get hg).meets
 call:=fun g e hg=>(h.get hg).call
 ext:=by
  intro g x hx args w
  simp only [Be,exts,Ahd] at hx
  cases hb:Nat.beq 169 g with
  | true =>
    rw [hb] at hx
    cases hx
    obtain rfl:=A1m hb
    exact Aqv args w
  | false =>
  rw [hb,A08] at hx
  clear hb
  cases hb:Nat.beq 210 g with
  | true =>
    rw [hb] at hx
    cases hx
    obtain rfl:=A1m hb
    exact Aqu args w
  | false =>
  rw [hb,A08] at hx
  clear hb
  cases hb:Nat.beq 263 g with
  | true =>
    rw [hb] at hx
    cases hx
    obtain rfl:=A1m hb
    exact Aqt args w
  | false =>
  rw [hb,A08] at hx
  clear hb
  cases hb:Nat.beq 266 g with
  | true =>
    rw [hb] at hx
    cases hx
    obtain rfl:=A1m hb
    exact Aqs args w
  | false =>
  rw [hb,A08] at hx
  clear hb
  cases hx
 eqs:=by
  intro t ti ht hti
  simp only [Be,Awf,Mp] at ht hti
  cases hb:Nat.beq t 199 with
  | true =>
    obtain rfl:=A1m hb
    cases hti
    exact Ays
  | false =>
  rw [hb,A08] at ht
  clear hb
  cases hb:Nat.beq t 188 with
  | true =>
    obtain rfl:=A1m hb
    cases hti
    exact Ayt
  | false =>
  rw [hb,A08] at ht
  clear hb
  cases ht
 mixed:=by kernel_rfl
def Aus:List (Nat × Ext):=[(169,.bitsN),(210,.frombits),(263,.sqrt),(266,.sub64)]
def Ahr:List (Nat × List CK)→Nat→List CK
 | [],_=>[]
 | (m,e)::l,n=>bif Nat.beq m n then e else Ahr l n
def Ws (Bc:Nat→Option Entry) (adopt:Nat→Bool) (hint:Nat→Option Bg) (live:Nat→Option (List Nat)) (adv:Nat→List CK):Env:={ ty:=Aoe tys,Bc:=Bc,ext:=Ahd Aus,eqs:=fun t=>Mp t Awf,adopt:=adopt,live:=live,hint:=hint,adv:=adv }
theorem X6 {l:List (Nat × Entry)} (h:A1 Tryz.prog l) (adopt:Nat→Bool) (hint:Nat→Option Bg) (live:Nat→Option (List Nat)) (adv:Nat→List CK):Ke Tryz.prog (Ws (Bb l) adopt hint live adv) :=
 have k:=A2 h adopt hint live
 ⟨k.ty,k.Bc,k.call,(by
  intro g x hx args w
  simp only [Ws,Aus,Ahd] at hx
  cases hb:Nat.beq 169 g with
  | true =>
    rw [hb] at hx
    cases hx
    obtain rfl:=A1m hb
    exact Aqv args w
  | false =>
  rw [hb,A08] at hx
  clear hb
  cases hb:Nat.beq 210 g with
  | true =>
    rw [hb] at hx
    cases hx
    obtain rfl:=A1m hb
    exact Aqu args w
  | false =>
  rw [hb,A08] at hx
  clear hb
  cases hb:Nat.beq 263 g with
  | true =>
    rw [hb] at hx
    cases hx
    obtain rfl:=A1m hb
    exact Aqt args w
  | false =>
  rw [hb,A08] at hx
  clear hb
  cases hb:Nat.beq 266 g with
  | true =>
    rw [hb] at hx
    cases hx
    obtain rfl:=A1m hb
    exact Aqs args w
  | false =>
  rw [hb,A08] at hx
  clear hb
  cases hx),k.eqs,k.mixed,k.spoil⟩
end Go.Proofs.S1
namespace Go.Rnd
def Nh (V k:Nat):Nat:=V / 2^k+(if 2^k<2*(V%2^k)∨(2*(V%2^k)=2^k∧V / 2^k%2=1) then 1 else 0)
def Kk (V:Nat) (s:Int):Nat:=Nh (V*2^(-s).toNat) s.toNat
def Nb (V:Nat) (s:Int):Bool:=decide (V*2^(-s).toNat%2^s.toNat=0)
def Cs (M:Nat) (E:Int):Int:=max (E+M.log2-52) (-1074)
def kept (M:Nat) (E:Int):Nat:=Kk M (Cs M E-E)
def Eh:Nat:=2047*2^52
def Cv (M:Nat) (E:Int):Nat:=if M=0 then 0 else min ((Cs M E+1074).toNat*2^52+kept M E) Eh
def exact (M:Nat) (E:Int):Bool:=Nb M (Cs M E-E)
def flags (r:Nat) (ex:Bool):Nat:=if r=Eh then 5 else if ex then 0 else if 2^52≤r then 1 else 3
def flagsOf (M:Nat) (E:Int):Nat:=if M=0 then 0 else flags (Cv M E) (exact M E)
theorem Cw (k:Nat):0<2^k:=Nat.pow_pos (by decide)
theorem O3 (V:Nat):Nh V 0=V:=by
 unfold Nh; simp [Nat.mod_one]
theorem Ux (V a k:Nat):Nh (V*2^a) (a+k)=Nh V k:=by
 unfold Nh
 have hA:=Cw a
 have e:2^(a+k)=2^a*2^k:=A1t 2 a k
 have hd:V*2^a / 2^(a+k)=V / 2^k:=by
  rw [e,A1s V,Nat.mul_div_mul_left _ _ hA]
 have hm:V*2^a%2^(a+k)=2^a*(V%2^k):=by
  rw [e,A1s V,Nat.mul_mod_mul_left]
 rw [hd,hm,e]
 have h1:(2^a*2^k<2*(2^a*(V%2^k)))↔(2^k<2*(V%2^k)):=by
  rw [Nat.mul_left_comm 2]
  exact Nat.mul_lt_mul_left hA
 have h2:(2*(2^a*(V%2^k))=2^a*2^k)↔(2*(V%2^k)=2^k):=by
  rw [Nat.mul_left_comm 2]
  exact Nat.mul_right_inj (by omega)
 simp only [h1,h2]
theorem mod_mul (V a k:Nat):(V*2^a%2^(a+k)=0)↔(V%2^k=0):=by
 have hA:=Cw a
 rw [A1t,A1s V,Nat.mul_mod_mul_left]
 constructor
 ·intro h
  rcases Nat.mul_eq_zero.1 h with h | h
  ·omega
  ·exact h
 ·intro h; rw [h]; rfl
theorem Xa (V k:Nat) (s:Int):Kk (V*2^k) (s+k)=Kk V s∧Nb (V*2^k) (s+k)=Nb V s:=by
 unfold Kk Nb
 by_cases h0:0≤s
 ·have e1:(-(s+k)).toNat=0:=by omega
  have e2:(-s).toNat=0:=by omega
  have e3:(s+k).toNat=k+s.toNat:=by omega
  rw [e1,e2,e3,A12,A2d,A2d]
  exact ⟨Ux V k _,by simp only [mod_mul]⟩
 ·by_cases h1:0≤s+k
  ·have e1:(-(s+k)).toNat=0:=by omega
   have e2:s.toNat=0:=by omega
   have e3:k=(s+k).toNat+(-s).toNat:=by omega
   rw [e1,e2,A12,A2d]
   have e4:V*2^k=V*2^(-s).toNat*2^(s+k).toNat:=by
    rw [A1v,← A1t,Nat.add_comm (-s).toNat,← e3]
   rw [e4]
   refine ⟨?_,?_⟩
   ·have:=Ux (V*2^(-s).toNat) (s+k).toNat 0
    rw [A2c] at this; exact this
   ·have:=mod_mul (V*2^(-s).toNat) (s+k).toNat 0
    rw [A2c,A12] at this
    simp only [this]
  ·have e1:(s+k).toNat=0:=by omega
   have e2:s.toNat=0:=by omega
   have e3:(-s).toNat=k+(-(s+k)).toNat:=by omega
   rw [e1,e2,e3,A1t,A1v]
   exact ⟨rfl,rfl⟩
theorem Lu (M k:Nat) (hM:M≠0):(M*2^k).log2=M.log2+k:=by
 have hk:=Cw k
 have hne:M*2^k≠0:=by
  intro h
  rcases Nat.mul_eq_zero.1 h with h | h<;>omega
 have h1:=Nat.log2_self_le hM
 have h2:=Nat.lt_log2_self (n:=M)
 have a:M.log2+k≤(M*2^k).log2:=by
  rw [Nat.le_log2 hne,A1t]
  exact A1g _ h1
 have b:(M*2^k).log2<M.log2+k+1:=by
  rw [A2k hne,Nat.add_right_comm,A1t]
  exact (Nat.mul_lt_mul_right hk).2 h2
 omega
theorem Vg {n a:Nat} (h1:2^a≤n) (h2:n<2^(a+1)):n.log2=a:=by
 have:=Cw a
 have hn:n≠0:=by omega
 have b1:=(Nat.le_log2 hn).2 h1
 have b2:=(A2k hn).2 h2
 omega
theorem Ai8 (M k:Nat) (E:Int) (hM:M≠0):Cs (M*2^k) (E-k)=Cs M E:=by
 unfold Cs; rw [Lu M k hM]; congr 1; omega
theorem I3 {M k:Nat} (hM:M≠0):M*2^k≠0:=by
 have:=Cw k
 intro h
 rcases Nat.mul_eq_zero.1 h with h | h<;>omega
theorem Eo (M k:Nat) (E:Int):Cv (M*2^k) (E-k)=Cv M E∧flagsOf (M*2^k) (E-k)=flagsOf M E:=by
 by_cases hM:M=0
 ·subst hM; simp [Cv,flagsOf]
 ·have hl:=Ai8 M k E hM
  have e:Cs M E-(E-k)=Cs M E-E+k:=by omega
  have h1:Cv (M*2^k) (E-k)=Cv M E:=by
   unfold Cv kept
   rw [A1q (I3 hM),A1q hM,hl,e,(Xa M k _).1]
  refine ⟨h1,?_⟩
  unfold flagsOf
  rw [A1q (I3 hM),A1q hM,h1]
  unfold exact
  rw [hl,e,(Xa M k _).2]
theorem Ao3 {V s d k:Nat} (hs:s%2=1) (h1:(s-1)*2^d<V) (h2:V<(s+1)*2^d) (hk:2≤k) :
 Nh V (d+k)=Nh s k∧V%2^(d+k)≠0∧s%2^k≠0:=by
 have hA:=Cw d
 obtain ⟨j,rfl⟩:∃ j,k=j+2:=⟨k-2,by omega⟩
 have hB:2^(j+2)=4*2^j:=by rw [A1t]; omega
 have hBp:=Cw (j+2)
 have hC:=Cw j
 have hsd:=Nat.div_add_mod s (2^(j+2))
 have hr2:s%2^(j+2)%2=1:=by
  rw [hB,show 4*2^j=2*(2*2^j) by omega,Nat.mod_mul_right_mod]; exact hs
 have hrlt:=Nat.mod_lt s hBp
 generalize hq:s / 2^(j+2)=q at *
 generalize hr:s%2^(j+2)=r at *
 have hAB:2^(d+(j+2))=2^d*2^(j+2):=A1t 2 d (j+2)
 generalize hBB:2^(j+2)=b at *
 generalize hAA:2^d=a at *
 have e1:(s-1)*a=q*(a*b)+(r-1)*a:=by
  have:s-1=b*q+(r-1):=by omega
  rw [this,A18,A1s b q,A1v,A1s b a]
 have e2:(s+1)*a=q*(a*b)+(r+1)*a:=by
  have:s+1=b*q+(r+1):=by omega
  rw [this,A18,A1s b q,A1v,A1s b a]
 have e3:(r+1)*a≤b*a:=A1g a (by omega)
 rw [A1s b a] at e3
 rw [e1] at h1
 rw [e2] at h2
 have hdiv:V / (a*b)=q:=Nat.div_eq_of_lt_le (by omega) (by rw [A18]; omega)
 have hmod:V%(a*b)=V-q*(a*b):=by
  have:=Nat.div_add_mod V (a*b)
  rw [hdiv,A1s (a*b) q] at this; omega
 have hb2:b=2*(2*2^j):=by omega
 generalize hc:2^j=c at *
 have hR1:(r-1)*a<V-q*(a*b):=by omega
 have hR2:V-q*(a*b)<(r+1)*a:=by omega
 generalize hR:V-q*(a*b)=R at *
 have hab:a*b=2*(2*c*a):=by rw [hb2,A1s a,A1v]
 have key:(a*b<2*R∨(2*R=a*b∧q%2=1))↔(b<2*r∨(2*r=b∧q%2=1)):=by
  rw [hab,hb2]
  rcases A11 r (2*c) with hlt | hge
  ·have:(r+1)*a≤2*c*a:=A1g a (by omega)
   constructor<;>(intro h; omega)
  ·have hgt:2*c+1≤r:=by omega
   have:2*c*a≤(r-1)*a:=A1g a (by omega)
   constructor
   ·intro _; left; omega
   ·intro _; left; omega
 refine ⟨?_,?_,?_⟩
 ·unfold Nh
  rw [hAB,hdiv,hmod,hBB,hq,hr]
  simp only [key]
 ·rw [hAB,hmod]
  have:=Nat.zero_le ((r-1)*a)
  omega
 ·omega
theorem Q5 {V s d:Nat} {E:Int} (hs:s%2=1) (h1:(s-1)*2^d<V) (h2:V<(s+1)*2^d) (hl:Cs V E=Cs s (E+d)) (hk:E+d+2≤Cs s (E+d)) :
 Cv V E=Cv s (E+d)∧flagsOf V E=flagsOf s (E+d):=by
 have hV:V≠0:=by omega
 have hs0:s≠0:=by omega
 generalize hL:Cs s (E+d)=L at *
 obtain ⟨k,hk2⟩:∃ k:Nat,L-(E+d)=k+2:=⟨(L-(E+d)-2).toNat,by omega⟩
 obtain ⟨a1,a2,a3⟩:=Ao3 (k:=k+2) hs h1 h2 (by omega)
 have e1:(L-E).toNat=d+(k+2):=by omega
 have e2:(-(L-E)).toNat=0:=by omega
 have e3:(L-(E+d)).toNat=k+2:=by omega
 have e4:(-(L-(E+d))).toNat=0:=by omega
 have hr:Cv V E=Cv s (E+d):=by
  unfold Cv kept Kk
  rw [A1q hV,A1q hs0,hl,hL,e1,e2,e3,e4]
  simp only [A12,A2d]
  rw [a1]
 refine ⟨hr,?_⟩
 unfold flagsOf exact Nb
 rw [A1q hV,A1q hs0,hr,hl,hL,e1,e2,e3,e4]
 simp only [A12,A2d,a2,a3,decide_false]
theorem Re {V s d:Nat} (hs:s%2=1) (hs3:3≤s) (h1:(s-1)*2^d<V) (h2:V<(s+1)*2^d):V.log2=s.log2+d:=by
 have hs0:s≠0:=by omega
 have a1:=Nat.log2_self_le hs0
 have a2:=Nat.lt_log2_self (n:=s)
 have hl:1≤s.log2:=by rw [Nat.le_log2 hs0]; omega
 obtain ⟨t,ht⟩:∃ t,s.log2=t+1:=⟨s.log2-1,by omega⟩
 rw [ht] at a1 a2 ⊢
 have ev1:2^(t+1)=2*2^t:=by rw [Nat.pow_succ]; omega
 have ev2:2^(t+1+1)=2*(2*2^t):=by rw [Nat.pow_succ,ev1]; omega
 refine Vg ?_ ?_
 ·rw [A1t]
  have:2^(t+1)*2^d≤(s-1)*2^d:=A1g _ (by omega)
  omega
 ·have e:t+1+d+1=(t+1+1)+d:=by omega
  rw [e,A1t]
  have:(s+1)*2^d≤2^(t+1+1)*2^d:=A1g _ (by omega)
  omega
end Go.Rnd
namespace Go.Rnd
def B0 (b:Nat):Bool:=decide (2^63≤b)
def Ea (b:Nat):Nat:=b / 2^52%2048
def Di (b:Nat):Nat:=b%2^52
def Ao (b:Nat):Nat:=if Ea b=2047 then (if Di b=0 then 3 else 4) else if 0<Ea b then 2 else if 0<Di b then 1 else 0
def Ku (b:Nat):Bool:=decide (Ea b<2047)
def H4 (b:Nat):Nat:=if 2^63≤b then b-2^63 else b+2^63
def Ay (b:Nat):Nat:=if Ea b=0 then Di b else Di b+2^52
def A9 (b:Nat):Int:=if Ea b=0 then -1074 else (Ea b:Int)-1075
def Bp (neg:Bool) (r:Nat):Nat:=if neg then 2^63+r else r
def Hv (neg:Bool) (m:Nat):Int:=if neg then -(m:Int) else m
def Kh (b:Nat) (e:Int):Int:=Hv (B0 b) (Ay b*2^(A9 b-e).toNat)
def Qw:Nat:=0x7ff8000000000000
def Pz (z:Nat) (S:Int) (e:Int):Nat × Nat :=
 if S=0 then (z,0) else (Bp (decide (S<0)) (Cv S.natAbs e),flagsOf S.natAbs e)
def Lg (a b:Nat):Nat × Nat :=
 if Ao a=4∨Ao b=4 then (Qw,0)
 else if Ao a=3 then (if Ao b=3∧a≠b then (Qw,16) else (a,0))
 else if Ao b=3 then (b,0)
 else Pz (Bp (B0 a&&B0 b) 0) (Kh a (min (A9 a) (A9 b))+Kh b (min (A9 a) (A9 b))) (min (A9 a) (A9 b))
def Avc (a b:Nat):Nat × Nat:=Lg a (H4 b)
def Gz (neg:Bool) (m:Nat) (e:Int) (more:Bool):Nat × Nat :=
 (Bp neg (Cv (4*m+more.toNat) (e-2)),flagsOf (4*m+more.toNat) (e-2))
def D4 (x:Int):Bool:=B0 x.toNat
def L8 (x:Int):Int:=Ea x.toNat
def Da (x:Int):Int:=Di x.toNat
def Bk (x:Int):Int:=Ao x.toNat
def Dg (x:Int):Bool:=Ku x.toNat
def Dk (x:Int):Int:=H4 x.toNat
def B1 (x:Int):Int:=Ay x.toNat
def Ba (x:Int):Int:=A9 x.toNat
def Fe (neg:Bool) (m e:Int) (more:Bool):Int:=(Gz neg m.toNat e more).1
def Fc (neg:Bool) (m e:Int) (more:Bool):Int:=(Gz neg m.toNat e more).2
def Kd (a b:Int):Int:=(Lg a.toNat b.toNat).1
def Xm (a b:Int):Int:=(Lg a.toNat b.toNat).2
def Dl (a b:Int):Int:=(Avc a.toNat b.toNat).1
def Ayc (a b:Int):Int:=(Avc a.toNat b.toNat).2
theorem Jx (b:Nat):Ea b<2048:=Nat.mod_lt _ (by decide)
theorem Ks (b:Nat):Di b<4503599627370496:=Nat.mod_lt _ (by decide)
theorem E1 (b:Nat):Ay b<9007199254740992:=by
 have:=Ks b
 unfold Ay; split<;>omega
theorem Ey (b:Nat):-1074≤A9 b∧A9 b≤972:=by
 have:=Jx b
 unfold A9; split<;>omega
theorem M4 {m:Nat} {e:Int} (h1:2^52≤m) (h2:m<2^53) (he:-1074≤e):Cv m e=min ((e+1074).toNat*2^52+m) Eh:=by
 have hl:m.log2=52:=Vg h1 h2
 have hm:m≠0:=by omega
 have hle:Cs m e=e:=by unfold Cs; rw [hl]; omega
 unfold Cv kept
 rw [A1q hm,hle,Int.sub_self]
 unfold Kk
 simp [O3]
theorem Yt {m:Nat} (h2:m<2^52):Cv m (-1074)=m:=by
 by_cases hm:m=0
 ·subst hm; rfl
 ·have hl:m.log2<52:=(A2k hm).2 h2
  have hle:Cs m (-1074)=-1074:=by unfold Cs; omega
  unfold Cv kept
  rw [A1q hm,hle,Int.sub_self]
  unfold Kk Eh
  simp [O3]
  omega
theorem Lj (m:Nat) (e:Int):Cv m e≤Eh:=by
 unfold Cv
 split
 ·exact Nat.zero_le _
 ·exact Nat.min_le_right _ _
theorem Ir:Eh=9218868437227405312:=rfl
theorem Xw (m:Nat) (e:Int):Cv m e<2^63:=by
 have:=Lj m e
 rw [Ir] at this
 omega
theorem Un (n:Bool) (m:Nat) (e:Int):Bp n (Cv m e)<2^64:=by
 have:=Xw m e
 unfold Bp; split<;>omega
theorem Zh {r:Nat} (h:r<2^63):H4 r=2^63+r:=by
 unfold H4; rw [A1q (by omega)]; omega
end Go.Rnd
namespace Go.Rnd
open Go.Den
def Lk (m e:Int):Bool:=Co (0≤m∧m≤9007199254740992∧-1074≤e∧e+m / 9007199254740992≤100000)
def P1 (m e:Int):Nat:=if 9007199254740992≤m then 1 else if m<4503599627370496 then 2+(e+1074).toNat else 0
def U0 (n:Bool) (m e:Int):Int:=Bp n (Cv m.toNat e)
def Er (m e:Int) (r:Bool):Bool :=
 Co (0≤m∧m<18446744073709551616∧e≤50000∧(-1137≤e∨(m<4611686018427387904∧-1140≤e))∧(r=true→4503599627370496≤m∨e≤-1074))
def Gd (n D:Nat):Nat:=if n%2^D=0 then n / 2^D else 2*(n / 2^D / 2)+1
def Fm (m d:Int):Int:=Gd m.toNat (min d.toNat 63)
def Cy (l:List Int):Bool:=Co (l.length<4611686018427387904∧∀ x∈l,Ak x=true)
def D8 (x:Nat):Nat:=if Ao x=4 then Qw else x
def Aal (x:Int):Int:=D8 x.toNat
def Ge (x:Nat):Int:=D8 x
def K9 (x:Int):Bool:=Co (0≤x)
theorem I2 (n:Nat):K9 (n:Int)=true:=Au.2 (Int.natCast_nonneg n)
theorem U9 {x:Int} (h:K9 x=true):∃ n:Nat,x=n:=⟨x.toNat,by have:=Au.1 h; omega⟩
end Go.Rnd
namespace Go.Rnd
theorem Ayf (a c:Nat):(a+1)*c+c=a*c+(c+c):=by rw [A18,Nat.one_mul,Nat.add_assoc]
theorem Axi:2^52+2^52=2^53:=by decide
theorem Aye (a:Nat):(a+1)*2^52+2^52=a*2^52+2^53:=(Ayf a (2^52)).trans (congrArg (fun x=>a*2^52+x) Axi)
theorem Au0:2^52*2^1=2^53:=by decide
theorem Asj {E:Int}:Cv (2^53) E=Cv (2^52) (E+1):=by
 have:=(Eo (2^52) 1 (E+1)).1
 have e1:E+1-((1:Nat):Int)=E:=by omega
 rw [e1,Au0] at this
 exact this
theorem Aoz {E:Int} (hE:-1074≤E):Cv (2^53) E=min ((E+1074).toNat*2^52+2^53) Eh:=by
 have e3:(E+1+1074).toNat=(E+1074).toNat+1:=by omega
 rw [Asj,M4 (by decide) (by decide) (by omega),e3]
 exact congrArg (fun x=>min x Eh) (Aye _)
theorem Al3 {q:Nat} {E:Int} (h1:q≤2^53) (hE:-1074≤E) (h2:2^52≤q∨E=-1074):Cv q E=min ((E+1074).toNat*2^52+q) Eh:=by
 by_cases ha:q=2^53
 ·rw [ha]; exact Aoz hE
 ·by_cases hb:2^52≤q
  ·exact M4 hb (by omega) hE
  ·obtain rfl:E=-1074:=h2.resolve_left hb
   rw [Yt (by omega)]
   unfold Eh
   simp
   omega
theorem Amc {M D s:Nat} (hs:s≤1):Nh (4*M+s) (D+2)=M / 2^D+(if 0<D∧(2^(D-1)<M%2^D∨(M%2^D=2^(D-1)∧(s=1∨M / 2^D%2=1))) then 1 else 0) ∧
 ((4*M+s)%2^(D+2)=0↔M%2^D=0∧s=0):=by
 have hp:2^(D+2)=2^D*4:=by rw [A1t]
 have hA:=Cw D
 have hdm:=Nat.div_add_mod M (2^D)
 have hlt:=Nat.mod_lt M hA
 have hdiv:(4*M+s) / (2^D*4)=M / 2^D:=by
  rw [A1s (2^D) 4,← A1x]
  congr 1; omega
 have hmod:(4*M+s)%(2^D*4)=4*(M%2^D)+s:=by
  have h:=Nat.div_add_mod (4*M+s) (2^D*4)
  rw [hdiv] at h
  have e:2^D*4*(M / 2^D)=4*(2^D*(M / 2^D)):=by rw [A1s (2^D) 4,A1v]
  rw [e] at h
  omega
 unfold Nh
 rw [hp,hdiv,hmod]
 generalize M%2^D=r at *
 generalize M / 2^D=q at *
 refine ⟨?_,by omega⟩
 congr 1
 have key:(2^D*4<2*(4*r+s)∨2*(4*r+s)=2^D*4∧q%2=1)↔(0<D∧(2^(D-1)<r∨(r=2^(D-1)∧(s=1∨q%2=1)))):=by
  cases D with
  | zero=>simp only [A12] at hlt ⊢; omega
  | succ d =>
    rw [Nat.pow_succ] at hlt ⊢
    simp only [Nat.add_sub_cancel]
    generalize 2^d=c at *
    omega
 simp only [key]
structure Drop (M:Nat) (e:Int) (D:Nat):Prop where
 le:D≤63
 stop:D<63→M / 2^D<2^53∧-1074≤e+D
 least:∀ d,d<D→2^53≤M / 2^d∨e+d < -1074
def qOf (M D s:Nat):Nat:=M / 2^D+(if 0<D∧(2^(D-1)<M%2^D∨(M%2^D=2^(D-1)∧(s=1∨M / 2^D%2=1))) then 1 else 0)
theorem Ao8 {M D s:Nat} (h:M / 2^D<2^53):qOf M D s≤2^53:=by
 unfold qOf; split<;>omega
theorem Ao9 {M D s:Nat}:M / 2^D≤qOf M D s:=by unfold qOf; omega
theorem Awi {M D:Nat} {c:Nat} (h:M / 2^D<c):M<c*2^D:=(Nat.div_lt_iff_lt_mul (Cw D)).1 h
theorem Aqc {M D:Nat} {c:Nat} (h:c≤M / 2^D):c*2^D≤M:=(Nat.le_div_iff_mul_le (Cw D)).1 h
theorem Zt {V:Nat} {E L:Int} (h:(E+V.log2-52=L∧-1074≤L)∨(E+V.log2-52≤L∧L=-1074)):Cs V E=L:=by unfold Cs; omega
theorem Amz {M s:Nat} (hs:s≤1) (hM:M≠0):(4*M+s).log2=M.log2+2:=by
 have h1:=Nat.log2_self_le hM
 have h2:=Nat.lt_log2_self (n:=M)
 refine Vg ?_ ?_
 ·rw [A1t]; omega
 ·have e:2^(M.log2+2+1)=2^(M.log2+1)*4:=by rw [show M.log2+2+1=M.log2+1+2 by omega,A1t]
  omega
theorem Amq {M D s:Nat} {e:Int} (hD:Drop M e D) (hs:s≤1) (hV:4*M+s≠0) (hM:M<2^64) (he:-1137≤e∨(M<2^62∧-1140≤e)) (hr:s=1→2^52≤M∨e≤-1074) :
 Cv (4*M+s) (e-2)=Cv (if e+D < -1074 then 0 else qOf M D s) (max (e+D) (-1074)) ∧
 flagsOf (4*M+s) (e-2)=flags (Cv (4*M+s) (e-2)) (decide (M%2^D=0∧s=0)) ∧
 (if e+D < -1074 then 0 else qOf M D s)≤2^53:=by
 have hA:=Cw D
 by_cases hlow:e+D < -1074
 ·
  have hD63:D=63:=by
   rcases A11 D 63 with h | h
   ·have:=(hD.stop h).2; omega
   ·have:=hD.le; omega
  subst hD63
  have hM62:M<2^62:=by rcases he with h | h; omega; exact h.1
  have he2:-1140≤e:=by rcases he with h | h; omega; exact h.2
  have hV64:4*M+s<2^64:=by omega
  have hlog:(4*M+s).log2<64:=(A2k hV).2 hV64
  have hl:Cs (4*M+s) (e-2)=-1074:=Zt (.inr ⟨by omega,rfl⟩)
  obtain ⟨k,hk⟩:∃ k:Nat,(-1074-(e-2)).toNat=66+k:=⟨(-1074-(e-2)).toNat-66,by omega⟩
  have e2:(-(-1074-(e-2))).toNat=0:=by omega
  have hp:2^66≤2^(66+k):=A1j (by decide) (by omega)
  have hsm:4*M+s<2^(66+k):=by omega
  have hz:Kk (4*M+s) (-1074-(e-2))=0:=by
   unfold Kk Nh
   rw [e2,hk,A12,A2d,Nat.div_eq_of_lt hsm,A1h hsm,A1q (by omega)]
  have hru:Cv (4*M+s) (e-2)=0:=by
   unfold Cv kept
   rw [A1q hV,hl,hz]
   simp
  refine ⟨?_,?_,?_⟩
  ·rw [hru,A1r hlow]; rfl
  ·unfold flagsOf exact Nb
   rw [A1q hV,hl,e2,hk,A12,A2d,A1h hsm]
   congr 1
   have h63:M%2^63=M:=A1h (by omega)
   rw [h63,A1k]
   simp only [A1b]
   omega
  ·rw [A1r hlow]; exact Nat.zero_le _
 ·have hmax:max (e+D) (-1074)=e+D:=by omega
  have hq:M / 2^D<2^53:=by
   rcases A11 D 63 with h | h
   ·exact (hD.stop h).1
   ·have:D=63:=by have:=hD.le; omega
    subst this
    exact A16 (Nat.div_le_of_le_mul (show M≤2^63*2 by omega)) (by decide)
  obtain ⟨c1,c2⟩:=Amc (M:=M) (D:=D) hs
  rw [A1q hlow,hmax]
  refine ⟨?_,?_,Ao8 hq⟩
  all_goals
   by_cases hD0:D=0∧s=0
   ·obtain ⟨rfl,rfl⟩:=hD0
    have hM0:M≠0:=by omega
    obtain ⟨s1,s2⟩:=Eo M 2 e
    have e1:M*2^2=4*M+0:=by omega
    have e2:e-((2:Nat):Int)=e-2:=by omega
    rw [e1,e2] at s1 s2
    have hq0:qOf M 0 0=M:=by unfold qOf; simp
    have hle:Cs M e≤e:=by
     have:M.log2<53:=(A2k hM0).2 (by simpa using hq)
     unfold Cs; simp only [Int.natCast_zero,Int.add_zero] at hlow; omega
    first
    | (rw [s1,hq0]; simp; done)
    | (rw [s2,s1]
       unfold flagsOf exact Nb
       have z:(Cs M e-e).toNat=0:=by omega
       rw [A1q hM0,z]
       simp [Nat.mod_one])
   ·
    have hl:Cs (4*M+s) (e-2)=e+D:=by
     by_cases hM0:M=0
     ·subst hM0
      have hs1:s=1:=by omega
      subst hs1
      have hle:e+D=-1074:=by
       rcases Nat.eq_zero_or_pos D with rfl | hpos
       ·have:=hr rfl; omega
       ·have h:=hD.least (D-1) (by omega)
        simp only [Nat.zero_div] at h
        omega
      refine Zt (.inr ⟨?_,hle⟩)
      have:(4*0+1:Nat).log2=0:=by decide
      rw [this]; omega
     ·have hlog:=Amz hs hM0
      have hub:M.log2<53+D:=by
       rw [A2k hM0,A1t]; exact Awi hq
      have hcase:52+D≤M.log2∨e+D=-1074:=by
       rcases Nat.eq_zero_or_pos D with rfl | hpos
       ·have hs1:s=1:=by omega
        rcases hr hs1 with h | h
        ·left; rw [Nat.le_log2 hM0]; simpa using h
        ·right; simp only [Int.natCast_zero,Int.add_zero] at hlow ⊢; omega
       ·rcases hD.least (D-1) (by omega) with h | h
        ·left
         rw [Nat.le_log2 hM0]
         have:=Aqc h
         have e1:2^(52+D)=2^53*2^(D-1):=by rw [← A1t]; congr 1; omega
         rw [e1]; exact this
        ·right; omega
      refine Zt ?_
      rw [hlog]
      rcases hcase with h | h
      ·left; omega
      ·right; omega
    have e1:(e+D-(e-2)).toNat=D+2:=by omega
    have e2:(-(e+(D:Int)-(e-2))).toNat=0:=by omega
    have hkept:kept (4*M+s) (e-2)=qOf M D s:=by
     unfold kept Kk
     rw [hl,e1,e2,A12,A2d,c1]; rfl
    first
    | (have hbig:2^52≤qOf M D s∨e+D=-1074:=by
        rcases Nat.eq_zero_or_pos D with rfl | hpos
        ·have hs1:s=1:=by omega
         rcases hr hs1 with h | h
         ·left; exact A2b (by simpa using h) Ao9
         ·right; simp only [Int.natCast_zero,Int.add_zero] at hlow ⊢; omega
        ·rcases hD.least (D-1) (by omega) with h | h
         ·left
          refine A2b ?_ Ao9
          rw [Nat.le_div_iff_mul_le hA]
          have:=Aqc h
          have e1:2^52*2^D=2^53*2^(D-1):=by rw [← A1t,← A1t]; congr 1; omega
          rw [e1]; exact this
         ·right; omega
       rw [Al3 (Ao8 hq) (by omega) hbig]
       unfold Cv
       rw [A1q hV,hl,hkept]; done)
    | (unfold flagsOf exact Nb
       rw [A1q hV,hl,e1,e2,A12,A2d]
       congr 1
       rw [A1k]
       simp only [A1b]
       exact c2)
theorem Abr (n:Bool) {r:Nat} (h:r<2^63):Ea (Bp n r)=r / 2^52:=by
 unfold Ea Bp; cases n
 ·simp only [Bool.false_eq_true,if_false]; omega
 ·simp only [if_true]; omega
theorem Z1 (n:Bool) (r:Nat):Di (Bp n r)=r%2^52:=by
 unfold Di Bp; cases n
 ·rfl
 ·simp only [if_true]; omega
theorem Wp (n:Bool) {r:Nat} (h:r≤Eh):Ao (Bp n r)=if r=Eh then 3 else if 2^52≤r then 2 else if 0<r then 1 else 0:=by
 rw [Ir] at *
 unfold Ao
 rw [Abr n (by omega),Z1]
 by_cases h1:r=9218868437227405312
 ·subst h1; simp
 ·rw [A1q h1,A1q (by omega)]
  by_cases h2:2^52≤r
  ·rw [A1r h2,A1r (by omega)]
  ·rw [A1q h2,A1q (by omega)]
   by_cases h3:0<r
   ·rw [A1r h3,A1r (by omega)]
   ·rw [A1q h3,A1q (by omega)]
end Go.Rnd
namespace Go.Rnd
open Ieee
theorem Awj (neg:Bool) (V k:Nat):Toward.even.cut neg V k=Nh V k:=by
 unfold Toward.cut Nh
 simp only [Nat.shiftLeft_eq,Nat.one_mul]
 by_cases h:k≤V.log2+2
 ·rw [Nat.min_eq_left h]
  congr 1
  by_cases h1:2^k<2*(V%2^k)
  ·simp [h1]
  ·by_cases h2:2*(V%2^k)=2^k∧V / 2^k%2=1
   ·simp [h2.1,h2.2]
   ·simp [h1,h2]
    intro h3
    have:=Nat.mod_lt (V / 2^k) (show 0<2 by decide)
    omega
 ·rw [Nat.min_eq_right (by omega)]
  have hV:V<2^(V.log2+1):=Nat.lt_log2_self
  have e:2^(V.log2+2)=2*2^(V.log2+1):=by rw [Nat.pow_succ,A1s]
  have hk:2^(V.log2+2)≤2^k:=A1j (by decide) (by omega)
  have d1:V / 2^(V.log2+2)=0:=Nat.div_eq_of_lt (by omega)
  have d2:V / 2^k=0:=Nat.div_eq_of_lt (by omega)
  have m1:V%2^(V.log2+2)=V:=A1h (by omega)
  have m2:V%2^k=V:=A1h (by omega)
  rw [d1,d2,m1,m2]
  have c1:¬ (2^(V.log2+2)<2*V):=by omega
  have c2:¬ (2^k<2*V):=by omega
  simp [c1,c2]
theorem Ar0 (neg:Bool) (r:Nat):Ieee.double.word neg r=Bp neg r:=rfl
theorem Air (neg:Bool) (M:Nat) (E:Int):Ieee.double.nearest neg M E=Bp neg (Cv M E):=by
 unfold Format.nearest Cv
 by_cases h:M=0
 ·rw [A1r h,A1r h]; rfl
 ·rw [A1q h,A1q h,Ar0]
  have e1:Ieee.double.leastPlace=-1074:=by decide
  have e2:max (E+(M.log2:Int)-(Ieee.double.fractionBits:Int)) Ieee.double.leastPlace=Cs M E:=by rw [e1]; rfl
  rw [e2,e1,Awj,Nat.shiftLeft_eq]
  unfold kept Kk
  have e3:(-(Cs M E-E)).toNat=(E-Cs M E).toNat:=by congr 1; omega
  have e4:Cs M E - -1074=Cs M E+1074:=by omega
  rw [e3,e4]
  rfl
theorem H9 (b:Nat):(Ea b=2047∧Di b=0∧Ao b=3)∨(Ea b=2047∧Di b≠0∧Ao b=4)∨(Ea b<2047∧Ao b≠3∧Ao b≠4):=by
 have:=Jx b
 unfold Ao
 by_cases h1:Ea b=2047
 ·by_cases h2:Di b=0<;>simp [h1,h2]
 ·refine .inr (.inr ⟨by omega,?_⟩)
  rw [A1q h1]
  split
  ·decide
  ·split<;>decide
theorem Pv (b:Nat):b%2^63=Ea b*2^52+Di b:=by unfold Ea Di; omega
def O2 (b:Nat):Datum:=if Ao b=4 then .nan (B0 b) (Di b) else if Ao b=3 then .infinity (B0 b) else .number (B0 b) (Ay b) (A9 b)
theorem Jb {b:Nat} (h:b<2^64):Ieee.double.read b=O2 b:=by
 unfold Format.read O2
 have e0:Ieee.double.signWeight=2^63:=rfl
 have e1:Ieee.double.leastPlace=-1074:=by decide
 have e2:Ieee.double.binade=2^52:=rfl
 have e3:Ieee.double.infRung=Eh:=rfl
 have hn:(b / 2^63%2==1)=B0 b:=by
  unfold B0
  rw [A1k]
  simp only [beq_iff_eq,A1b]
  omega
 dsimp only
 rw [e0,e1,e2,e3,hn,Pv,Ir]
 have hf:Di b<2^52:=Ks b
 rcases H9 b with ⟨h1,h2,h3⟩ | ⟨h1,h2,h3⟩ | ⟨h1,h2,h3⟩
 ·rw [A1q (by omega),A1q (by omega),A1r (by omega),A1q (by omega),A1r h3]
 ·rw [A1q (by omega),A1q (by omega),A1q (by omega),A1r h3]
  have e:Ea b*2^52+Di b-9218868437227405312=Di b:=by omega
  rw [e]
 ·rw [A1q h3,A1q h2]
  by_cases h0:Ea b=0
  ·rw [A1r (by omega)]
   unfold Ay A9
   rw [A1r h0,A1r h0,h0,Nat.zero_mul,A2e]
  ·rw [A1q (by omega),A1r (by omega)]
   unfold Ay A9
   rw [A1q h0,A1q h0]
   have m1:(Ea b*2^52+Di b)%2^52=Di b:=by omega
   have m2:(Ea b*2^52+Di b) / 2^52=Ea b:=by omega
   have e:(-1074:Int)+((Ea b-1:Nat):Int)=(Ea b:Int)-1075:=by omega
   rw [m1,m2,Nat.add_comm (2^52),e]
theorem All (s:Bool):Ieee.double.write (.infinity s)=Bp s Eh:=rfl
theorem Mv (s:Bool) (m:Nat) (e:Int):Ieee.double.write (.number s m e)=Bp s (Cv m e):=Air s m e
theorem N2 {b:Nat} (h:b<2^64) (h3:Ao b=3):Bp (B0 b) Eh=b:=by
 rcases H9 b with ⟨h1,h2,_⟩ | ⟨_,_,h4⟩ | ⟨_,h4,_⟩
 ·have e:=Pv b
  rw [h1,h2] at e
  rw [Ir]
  unfold Bp B0
  by_cases hb:2^63≤b
  ·simp [hb]; omega
  ·simp [hb]; omega
 ·omega
 ·omega
theorem G8 (s:Bool) {r:Nat} (h:r≤Eh):D8 (Bp s r)=Bp s r:=by
 unfold D8
 rw [A1q]
 rw [Wp s h]
 split
 ·decide
 ·split
  ·decide
  ·split<;>decide
theorem R1 (s:Bool) (m up:Nat):Ieee.signed s m up=Hv s (m*2^up):=by
 unfold Ieee.signed Hv
 rw [Nat.shiftLeft_eq]
theorem Hf {b:Nat} (h:Ao b=4):O2 b=.nan (B0 b) (Di b):=A1r h
theorem Ev {b:Nat} (h:Ao b=3):O2 b=.infinity (B0 b):=by unfold O2; rw [A1q (by omega),A1r h]
theorem Eu {b:Nat} (h3:Ao b≠3) (h4:Ao b≠4):O2 b=.number (B0 b) (Ay b) (A9 b):=by unfold O2; rw [A1q h4,A1q h3]
theorem Arn {a b:Nat} (h:Ao a=4∨Ao b=4):Lg a b=(Qw,0):=A1r h
theorem Aro {a b:Nat} (h4:¬ (Ao a=4∨Ao b=4)) (h:Ao a=3):Lg a b=(if Ao b=3∧a≠b then (Qw,16) else (a,0)):=by unfold Lg; rw [A1q h4,A1r h]
theorem Anw {a b:Nat} (h4:¬ (Ao a=4∨Ao b=4)) (h:Ao a≠3) (h':Ao b=3):Lg a b=(b,0):=by unfold Lg; rw [A1q h4,A1q h,A1r h']
theorem Arm {a b:Nat} (h4:¬ (Ao a=4∨Ao b=4)) (h:Ao a≠3) (h':Ao b≠3) :
 Lg a b=Pz (Bp (B0 a&&B0 b) 0) (Kh a (min (A9 a) (A9 b))+Kh b (min (A9 a) (A9 b))) (min (A9 a) (A9 b)):=by
 unfold Lg; rw [A1q h4,A1q h,A1q h']
theorem Asb (s:Bool) (m:Nat) (i:Int) (t:Bool) (n:Nat) (j:Int):(Datum.number s m i).sum (Datum.number t n j) =
 some (.number (if Hv s (m*2^(i-min i j).toNat)+Hv t (n*2^(j-min i j).toNat)=0 then s&&t else Hv s (m*2^(i-min i j).toNat)+Hv t (n*2^(j-min i j).toNat)<0)
  (Hv s (m*2^(i-min i j).toNat)+Hv t (n*2^(j-min i j).toNat)).natAbs (min i j)):=by
 rw [← R1,← R1]
 rfl
theorem Ae9 {a b:Nat} (ha:a<2^64) (hb:b<2^64) {d:Nat} (hd:Ao d=4) :
 D8 ((((O2 a).sum (O2 b)).map Ieee.double.write).getD d)=(Lg a b).1:=by
 have cd:D8 d=Qw:=A1r hd
 by_cases h4:Ao a=4∨Ao b=4
 ·rw [Arn h4]
  by_cases a4:Ao a=4
  ·rw [Hf a4]; exact cd
  ·have b4:=h4.resolve_left a4
   rw [Hf b4]
   by_cases a3:Ao a=3
   ·rw [Ev a3]; exact cd
   ·rw [Eu a3 a4]; exact cd
 ·have a4:Ao a≠4:=fun h=>h4 (.inl h)
  have b4:Ao b≠4:=fun h=>h4 (.inr h)
  by_cases a3:Ao a=3
  ·have wa:=N2 ha a3
   rw [Aro h4 a3,Ev a3]
   by_cases b3:Ao b=3
   ·have wb:=N2 hb b3
    rw [Ev b3]
    by_cases hs:B0 a=B0 b
    ·have hab:a=b:=by rw [← wa,← wb,hs]
     rw [A1q (fun h=>h.2 hab)]
     have:(Datum.infinity (B0 a)).sum (.infinity (B0 b))=some (.infinity (B0 a)):=A1r hs
     rw [this]
     show D8 (Bp (B0 a) Eh)=a
     rw [G8 _ (A1y _),wa]
    ·have hab:a≠b:=fun h=>hs (by rw [h])
     have:(Datum.infinity (B0 a)).sum (.infinity (B0 b))=none:=A1q hs
     rw [this,A1r ⟨b3,hab⟩]
     exact cd
   ·rw [Eu b3 b4,A1q (fun h=>b3 h.1)]
    show D8 (Bp (B0 a) Eh)=a
    rw [G8 _ (A1y _),wa]
  ·rw [Eu a3 a4]
   by_cases b3:Ao b=3
   ·have wb:=N2 hb b3
    rw [Anw h4 a3 b3,Ev b3]
    show D8 (Bp (B0 b) Eh)=b
    rw [G8 _ (A1y _),wb]
   ·rw [Arm h4 a3 b3,Eu b3 b4,Asb]
    show D8 (Ieee.double.write (.number _ _ _))=_
    rw [Mv,G8 _ (Lj _ _)]
    unfold Pz Kh
    by_cases h0:Hv (B0 a) (Ay a*2^(A9 a-min (A9 a) (A9 b)).toNat)+Hv (B0 b) (Ay b*2^(A9 b-min (A9 a) (A9 b)).toNat)=0
    ·rw [A1r h0,A1r h0,h0]
     have:Cv (Int.natAbs 0) (min (A9 a) (A9 b))=0:=A1r rfl
     rw [this]
    ·rw [A1q h0,A1q h0]
theorem Ark {a b:Nat} (ha:a<2^64) (hb:b<2^64) {d:Nat} (hd:Ao d=4):D8 ((Ieee.double.add a b).getD d)=(Lg a b).1:=by
 unfold Format.add
 rw [Jb ha,Jb hb]
 exact Ae9 ha hb hd
theorem Aga {b:Nat} (h:b<2^64):B0 (H4 b)=!(B0 b)∧Ea (H4 b)=Ea b∧Di (H4 b)=Di b:=by
 unfold B0 Ea Di H4
 by_cases hb:2^63≤b
 ·rw [A1r hb]
  refine ⟨?_,by omega,by omega⟩
  have:¬ 2^63≤b-2^63:=by omega
  simp [hb,this]
 ·rw [A1q hb]
  refine ⟨?_,by omega,by omega⟩
  have:2^63≤b+2^63:=by omega
  simp [hb,this]
theorem Aiw {b:Nat} (h:b<2^64):H4 b<2^64:=by unfold H4; split<;>omega
theorem Ail {b:Nat} (h:b<2^64):O2 (H4 b)=(O2 b).opposite:=by
 obtain ⟨h1,h2,h3⟩:=Aga h
 have hk:Ao (H4 b)=Ao b:=by unfold Ao; rw [h2,h3]
 have hm:Ay (H4 b)=Ay b:=by unfold Ay; rw [h2,h3]
 have he:A9 (H4 b)=A9 b:=by unfold A9; rw [h2]
 by_cases b4:Ao b=4
 ·rw [Hf b4,Hf (by omega),h1,h3]; rfl
 ·by_cases b3:Ao b=3
  ·rw [Ev b3,Ev (by omega),h1]; rfl
  ·rw [Eu b3 b4,Eu (by omega) (by omega),h1,hm,he]; rfl
theorem Aon {a b:Nat} (ha:a<2^64) (hb:b<2^64) {d:Nat} (hd:Ao d=4):D8 ((Ieee.double.sub a b).getD d)=(Avc a b).1:=by
 unfold Format.sub
 rw [Jb ha,Jb hb,← Ail hb]
 exact Ae9 ha (Aiw hb) hd
theorem Zc (b:Nat):(Ieee.double.read b).isNaN=decide (Ao b=4):=by
 unfold Format.read
 have e0:Ieee.double.signWeight=2^63:=rfl
 have e2:Ieee.double.binade=2^52:=rfl
 have e3:Ieee.double.infRung=Eh:=rfl
 dsimp only
 rw [e0,e2,e3,Pv,Ir]
 have hf:Di b<2^52:=Ks b
 rcases H9 b with ⟨h1,h2,h3⟩ | ⟨h1,h2,h3⟩ | ⟨h1,h2,h3⟩
 ·rw [A1q (by omega),A1q (by omega),A1r (by omega),A09 (by omega)]; rfl
 ·rw [A1q (by omega),A1q (by omega),A1q (by omega),A05 h3]; rfl
 ·rw [A09 h3]
  by_cases h0:Ea b=0
  ·rw [A1r (by omega)]; rfl
  ·rw [A1q (by omega),A1r (by omega)]; rfl
end Go.Rnd
namespace Go.Rnd
open Ieee
theorem Wb {V W k:Nat} (h:V≤W):Nh V k≤Nh W k:=by
 unfold Nh
 have hA:=Cw k
 have hq:V / 2^k≤W / 2^k:=Nat.div_le_div_right h
 rcases A11 (V / 2^k) (W / 2^k) with h1 | h1
 ·split<;>split<;>omega
 ·have he:V / 2^k=W / 2^k:=by omega
  have v:=Nat.div_add_mod V (2^k)
  have w:=Nat.div_add_mod W (2^k)
  rw [he] at v ⊢
  have hr:V%2^k≤W%2^k:=by omega
  by_cases hc:2^k<2*(V%2^k)∨2*(V%2^k)=2^k∧W / 2^k%2=1
  ·have hc':2^k<2*(W%2^k)∨2*(W%2^k)=2^k∧W / 2^k%2=1:=by
    rcases hc with hc | ⟨hc,hd⟩
    ·exact .inl (by omega)
    ·rcases A11 (2^k) (2*(W%2^k)) with h2 | h2
     ·exact .inl h2
     ·exact .inr ⟨by omega,hd⟩
   rw [A1r hc,A1r hc']
   exact A1y _
  ·rw [A1q hc]
   exact Nat.le_add_right _ _
theorem Asm {V c k:Nat} (h:V≤c*2^k):Nh V k≤c:=by
 have h1:=Wb (k:=k) h
 have:Nh (c*2^k) k=c:=by
  have:=Ux c k 0
  rw [A2c,O3] at this
  exact this
 omega
theorem Atk {V c k:Nat} (h:c*2^k≤V):c≤Nh V k:=by
 have h1:=Wb (k:=k) h
 have:Nh (c*2^k) k=c:=by
  have:=Ux c k 0
  rw [A2c,O3] at this
  exact this
 omega
theorem Aim {V W:Nat} {s:Int} (h:V≤W):Kk V s≤Kk W s:=Wb (A1g _ h)
theorem Ai9 {V W:Nat} {E:Int} (hV:V≠0) (h:V≤W):Cs V E≤Cs W E:=by
 have:V.log2≤W.log2:=(Nat.le_log2 (by omega)).2 (A2b (Nat.log2_self_le hV) h)
 unfold Cs; omega
theorem Atl {V:Nat} {E:Int}:kept V E≤2^53:=by
 have hV:V<2^(V.log2+1):=Nat.lt_log2_self
 unfold kept Kk
 refine Asm ?_
 have hl:E+V.log2-52≤Cs V E:=by unfold Cs; omega
 rw [← A1t]
 have h1:V*2^(-(Cs V E-E)).toNat≤2^(V.log2+1)*2^(-(Cs V E-E)).toNat:=A1g _ (Nat.le_of_lt hV)
 rw [← A1t] at h1
 exact A2b h1 (A1j (by decide) (by omega))
theorem Ad8 {V:Nat} {E:Int} (hV:V≠0) (hl:Cs V E=E+V.log2-52):2^52≤kept V E:=by
 have h1:2^V.log2≤V:=Nat.log2_self_le hV
 unfold kept Kk
 refine Atk ?_
 rw [← A1t]
 have h2:2^V.log2*2^(-(Cs V E-E)).toNat≤V*2^(-(Cs V E-E)).toNat:=A1g _ h1
 rw [← A1t] at h2
 exact A2b (A1j (by decide) (by omega)) h2
theorem Abl {V W:Nat} {E:Int} (h:V≤W):Cv V E≤Cv W E:=by
 unfold Cv
 by_cases hV:V=0
 ·rw [A1r hV]; exact Nat.zero_le _
 ·have hW:W≠0:=by omega
  rw [A1q hV,A1q hW]
  have hl:=Ai9 (E:=E) hV h
  have key:(Cs V E+1074).toNat*2^52+kept V E≤(Cs W E+1074).toNat*2^52+kept W E:=by
   rcases Int.lt_or_eq_of_le hl with h1 | h1
   ·have hb:-1074≤Cs V E:=by unfold Cs; omega
    have hn:Cs W E=E+W.log2-52:=by unfold Cs at h1 hb ⊢; omega
    have k1:=Atl (V:=V) (E:=E)
    have k2:=Ad8 hW hn
    have h2:(Cs V E+1074).toNat+1≤(Cs W E+1074).toNat:=by omega
    have h3:((Cs V E+1074).toNat+1)*2^52≤(Cs W E+1074).toNat*2^52:=A1g _ h2
    rw [A18 (Cs V E+1074).toNat 1 (2^52),Nat.one_mul] at h3
    omega
   ·unfold kept
    rw [h1]
    exact Nat.add_le_add_left (Aim h) _
  omega
theorem R7 {b:Nat} (h4:Ao b≠4):Cv (Ay b) (A9 b)=b%2^63:=by
 have hf:Di b<2^52:=Ks b
 have hr:=Pv b
 rw [hr]
 unfold Ay A9
 by_cases h0:Ea b=0
 ·rw [A1r h0,A1r h0,Yt hf,h0,Nat.zero_mul,A2e]
 ·rw [A1q h0,A1q h0,M4 (by omega) (by omega) (by omega),Ir]
  have e:((Ea b:Int)-1075+1074).toNat=Ea b-1:=by omega
  rw [e]
  have h5:(Ea b-1)*2^52+(Di b+2^52)=Ea b*2^52+Di b:=by omega
  rw [h5]
  rcases H9 b with ⟨h1,h2,_⟩ | ⟨_,_,h⟩ | ⟨h1,_,_⟩
  ·rw [h1,h2]; decide
  ·exact absurd h h4
  ·omega
def Im (b:Nat):Int:=Hv (B0 b) (b%2^63)
def S7 (b:Nat) (f:Int):Nat:=Ay b*2^(A9 b-f).toNat
theorem Vd {b:Nat} {f:Int} (h4:Ao b≠4) (hf:f≤A9 b):Cv (S7 b f) f=b%2^63:=by
 rw [← R7 h4]
 have h:=(Eo (Ay b) (A9 b-f).toNat (A9 b)).1
 have e:A9 b-((A9 b-f).toNat:Int)=f:=by omega
 rw [e] at h
 exact h
theorem Apx {a b:Nat} (h:a%2^63=b%2^63) (f:Int):S7 a f=S7 b f:=by
 have h1:Ea a=Ea b:=by unfold Ea; omega
 have h2:Di a=Di b:=by unfold Di; omega
 unfold S7 Ay A9
 rw [h1,h2]
theorem Apy {a b:Nat} {f:Int} (ha:Ao a≠4) (hb:Ao b≠4) (hfa:f≤A9 a) (hfb:f≤A9 b):S7 a f<S7 b f↔a%2^63<b%2^63:=by
 constructor
 ·intro h
  have h1:=Abl (E:=f) (Nat.le_of_lt h)
  rw [Vd ha hfa,Vd hb hfb] at h1
  rcases Nat.lt_or_eq_of_le h1 with h2 | h2
  ·exact h2
  ·have:=Apx h2 f; omega
 ·intro h
  rcases A11 (S7 a f) (S7 b f) with h1 | h1
  ·exact h1
  ·have h1:=Abl (E:=f) h1
   rw [Vd ha hfa,Vd hb hfb] at h1
   omega
theorem Age (b:Nat) (f:Int):S7 b f=0↔b%2^63=0:=by
 have hp:=Cw (A9 b-f).toNat
 unfold S7
 rw [Nat.mul_eq_zero,Pv]
 have h1:¬ (2^(A9 b-f).toNat=0):=by omega
 have h2:Ay b=0↔Ea b*2^52+Di b=0:=by unfold Ay; split<;>omega
 rw [h2]
 exact ⟨fun h=>h.resolve_right h1,.inl⟩
theorem Avk {s t:Bool} {m n m' n':Nat} (h1:m<n↔m'<n') (h2:n<m↔n'<m') (h3:m=0↔m'=0) (h4:n=0↔n'=0):Hv s m<Hv t n↔Hv s m'<Hv t n':=by
 unfold Hv
 cases s<;>cases t<;>simp<;>omega
theorem Acy {a b:Nat} {f:Int} (ha:Ao a≠4) (hb:Ao b≠4) (hfa:f≤A9 a) (hfb:f≤A9 b):Kh a f<Kh b f↔Im a<Im b :=
 Avk (Apy ha hb hfa hfb) (Apy hb ha hfb hfa) (Age a f) (Age b f)
theorem Anl {x y x' y':Int} (h1:x<y↔x'<y') (h2:y<x↔y'<x'):compare x y=compare x' y':=by
 show compareOfLessAndEq x y=compareOfLessAndEq x' y'
 unfold compareOfLessAndEq
 by_cases h:x<y
 ·rw [A1r h,A1r (h1.1 h)]
 ·rw [A1q h,A1q (fun k=>h (h1.2 k))]
  by_cases e:x=y
  ·rw [A1r e,A1r (by omega)]
  ·rw [A1q e,A1q (by omega)]
theorem Av4 {b:Nat} (h4:Ao b≠4):b%2^63≤Eh:=by
 rw [← R7 h4]; exact Lj _ _
theorem Vj {b:Nat} (h:Ao b=3):b%2^63=Eh:=by
 rw [Pv]
 rcases H9 b with ⟨h1,h2,_⟩ | ⟨_,_,h4⟩ | ⟨_,h4,_⟩
 ·rw [h1,h2]; rfl
 ·omega
 ·omega
theorem Vk {b:Nat} (h3:Ao b≠3) (h4:Ao b≠4):b%2^63<Eh:=by
 have hf:Di b<2^52:=Ks b
 rw [Pv,Ir]
 rcases H9 b with ⟨_,_,h⟩ | ⟨_,_,h⟩ | ⟨h1,_,_⟩
 ·exact absurd h h3
 ·exact absurd h h4
 ·omega
theorem Ajm {x y:Int} (h:x<y):compare x y=.lt:=by
 show compareOfLessAndEq x y=_; unfold compareOfLessAndEq; rw [A1r h]
theorem Ajn {x y:Int} (h:y<x):compare x y=.gt:=by
 show compareOfLessAndEq x y=_; unfold compareOfLessAndEq; rw [A1q (by omega),A1q (by omega)]
theorem O7 {a b:Nat} (ha:a<2^64) (hb:b<2^64) (a4:Ao a≠4) (b4:Ao b≠4):Ieee.double.order a b=some (compare (Im a) (Im b)):=by
 unfold Format.order
 rw [Jb ha,Jb hb]
 have hpos:0<Eh:=by decide
 by_cases a3:Ao a=3
 ·have ka:=Vj a3
  rw [Ev a3]
  by_cases b3:Ao b=3
  ·have kb:=Vj b3
   rw [Ev b3]
   show some (compare (B0 b).toNat (B0 a).toNat)=_
   unfold Im
   rw [ka,kb]
   cases B0 a<;>cases B0 b<;>decide
  ·have kb:=Vk b3 b4
   rw [Eu b3 b4]
   show some (if B0 a then Ordering.lt else .gt)=_
   unfold Im Hv
   rw [ka]
   cases B0 a
   ·rw [Ajn (by simp; split<;>omega)]; rfl
   ·rw [Ajm (by simp; split<;>omega)]; rfl
 ·have ka:=Vk a3 a4
  rw [Eu a3 a4]
  by_cases b3:Ao b=3
  ·have kb:=Vj b3
   rw [Ev b3]
   show some (if B0 b then Ordering.gt else .lt)=_
   unfold Im Hv
   rw [kb]
   cases B0 b
   ·rw [Ajm (by simp; split<;>omega)]; rfl
   ·rw [Ajn (by simp; split<;>omega)]; rfl
  ·rw [Eu b3 b4]
   show some (compare (Ieee.signed _ _ _) (Ieee.signed _ _ _))=_
   rw [R1,R1]
   congr 1
   exact Anl (Acy a4 b4 (Int.min_le_left _ _) (Int.min_le_right _ _)) (Acy b4 a4 (Int.min_le_right _ _) (Int.min_le_left _ _))
theorem Wg {a b:Nat} (ha:a<2^64) (hb:b<2^64) (h:Ao a=4∨Ao b=4):Ieee.double.order a b=none:=by
 unfold Format.order
 rw [Jb ha,Jb hb]
 by_cases a4:Ao a=4
 ·rw [Hf a4]; cases O2 b<;>rfl
 ·rw [Hf (h.resolve_left a4)]; cases O2 a<;>rfl
theorem Pg (s:Bool) {r:Nat} (h:r<2^63):Im (Bp s r)=Hv s r:=by
 unfold Im Bp B0
 cases s
 ·have h1:¬ 2^63≤r:=by omega
  have h2:r%2^63=r:=A1h h
  simp only [Bool.false_eq_true,if_false,A09 h1,h2]
 ·have h1:2^63≤2^63+r:=by omega
  have h2:(2^63+r)%2^63=r:=by omega
  simp only [if_true,A05 h1,h2]
end Go.Rnd
namespace Go.Rnd
def Nz (a b:Nat):Nat × Nat :=
 if Ao a=4∨Ao b=4 then (Qw,0)
 else if Ao a=3∨Ao b=3 then (if Ao a=0∨Ao b=0 then (Qw,16) else (Bp (B0 a !=B0 b) Eh,0))
 else (Bp (B0 a !=B0 b) (Cv (Ay a*Ay b) (A9 a+A9 b)),flagsOf (Ay a*Ay b) (A9 a+A9 b))
def F3 (X Y K:Nat):Nat:=2*(X*2^K / Y)+(if X*2^K%Y=0 then 0 else 1)
def Aek (a b:Nat):Nat × Nat :=
 if Ao a=4∨Ao b=4 then (Qw,0)
 else if Ao a=Ao b∧(Ao a=3∨Ao a=0) then (Qw,16)
 else if Ao a=3 then (Bp (B0 a !=B0 b) Eh,0)
 else if Ao b=3∨Ao a=0 then (Bp (B0 a !=B0 b) 0,0)
 else if Ao b=0 then (Bp (B0 a !=B0 b) Eh,8)
 else (Bp (B0 a !=B0 b) (Cv (F3 (Ay a) (Ay b) 120) (A9 a-A9 b-121)),flagsOf (F3 (Ay a) (Ay b) 120) (A9 a-A9 b-121))
theorem Ab0 (a b:Nat):Nz a b=Nz b a:=by
 have e:(B0 a !=B0 b)=(B0 b !=B0 a):=by cases B0 a<;>cases B0 b<;>rfl
 unfold Nz
 rw [e,A1s (Ay a),Int.add_comm (A9 a)]
 simp only [or_comm]
theorem Ais {V k:Nat} {E:Int} (hm:1≤V / 2^k) (hc:2^53≤V / 2^k∨E+k+1≤-1074) :
 Cv (4*(V / 2^k)+(if V%2^k=0 then 0 else 1)) (E+k-2)=Cv V E∧flagsOf (4*(V / 2^k)+(if V%2^k=0 then 0 else 1)) (E+k-2)=flagsOf V E:=by
 have hA:=Cw k
 have h1:=Nat.div_add_mod V (2^k)
 have h2:=Nat.mod_lt V hA
 generalize hq:V / 2^k=q at *
 generalize hr:V%2^k=r at *
 by_cases h0:r=0
 ·rw [A1r h0]
  obtain ⟨a1,a2⟩:=Eo q k (E+k)
  obtain ⟨b1,b2⟩:=Eo q 2 (E+k)
  have e1:E+(k:Int)-k=E:=by omega
  have e2:V=q*2^k:=by rw [A1s]; omega
  have e3:q*2^2=4*q+0:=by omega
  have e4:E+(k:Int)-((2:Nat):Int)=E+k-2:=by omega
  rw [e1,← e2] at a1 a2
  rw [e3,e4] at b1 b2
  rw [a1,a2,b1,b2]
  exact ⟨rfl,rfl⟩
 ·rw [A1q h0]
  obtain ⟨d,rfl⟩:∃ d,k=d+1:=by
   cases k with
   | zero=>simp only [A12] at h2; omega
   | succ d=>exact ⟨d,rfl⟩
  have hD:2^(d+1)=2*2^d:=by rw [Nat.pow_succ]; omega
  rw [hD] at h1 h2
  generalize hc2:2^d=c at *
  have p1:(2*q+1-1)*c=2*c*q:=by rw [Nat.add_sub_cancel,A1s,Nat.mul_left_comm,A1v]
  have p2:(2*q+1+1)*c=2*c*q+2*c:=by
   rw [show 2*q+1+1=2*(q+1) by omega,A1v,A18,Nat.mul_add,A1s q c,A1v]; omega
  have lt1:(2*q+1-1)*2^d<V:=by rw [hc2,p1]; omega
  have lt2:V<(2*q+1+1)*2^d:=by rw [hc2,p2]; omega
  have od:(2*q+1)%2=1:=by omega
  have lV:=Re od (by omega) lt1 lt2
  have l4:(4*q+1).log2=(2*q+1).log2+1:=Re (d:=1) od (by omega) (by omega) (by omega)
  have hs:(2*q+1).log2≥54∨E+d+2≤-1074:=by
   rcases hc with h | h
   ·left; rw [ge_iff_le,Nat.le_log2 (by omega)]; omega
   ·right; omega
  have hk:E+d+2≤Cs (2*q+1) (E+d):=by unfold Cs; omega
  obtain ⟨a1,a2⟩:=Q5 (E:=E) od lt1 lt2 (by unfold Cs; rw [lV]; omega) hk
  have ee:E+((d+1:Nat):Int)-2+((1:Nat):Int)=E+d:=by omega
  obtain ⟨b1,b2⟩:=Q5 (V:=4*q+1) (d:=1) (E:=E+((d+1:Nat):Int)-2) od (by omega) (by omega) (by unfold Cs; rw [l4]; omega) (by rw [ee]; unfold Cs; omega)
  rw [ee] at b1 b2
  rw [a1,a2,b1,b2]
  exact ⟨rfl,rfl⟩
theorem U8 (n:Bool) {V k:Nat} {E e:Int} {s:Bool} (he:e=E+k) (hs:s=decide (V%2^k≠0)) (hm:1≤V / 2^k) (hc:2^53≤V / 2^k∨E+k+1≤-1074) :
 Gz n (V / 2^k) e s=(Bp n (Cv V E),flagsOf V E):=by
 obtain ⟨a,b⟩:=Ais hm hc
 have e1:s.toNat=if V%2^k=0 then 0 else 1:=by
  rw [hs]
  by_cases h:V%2^k=0
  ·rw [A09 (by omega),A1r h]; rfl
  ·rw [A05 h,A1q h]; rfl
 unfold Gz
 rw [he,e1,a,b]
theorem Yj {X Y K:Nat} (d:Nat) (E:Int) (hY:0<Y) (h:2^53≤X*2^K / Y) :
 Cv (F3 X Y (K+d)) (E-d)=Cv (F3 X Y K) E∧flagsOf (F3 X Y (K+d)) (E-d)=flagsOf (F3 X Y K) E:=by
 have hA:=Cw d
 unfold F3
 have e:X*2^(K+d)=X*2^K*2^d:=by rw [A1t,A1v]
 rw [e]
 generalize X*2^K=Z at *
 have h1:=Nat.div_add_mod Z Y
 have h2:=Nat.mod_lt Z hY
 by_cases h0:Z%Y=0
 ·obtain ⟨q,rfl⟩:=Nat.dvd_of_mod_eq_zero h0
  have e1:Y*q*2^d=Y*(q*2^d):=A1v _ _ _
  rw [e1,Nat.mul_mod_right,Nat.mul_mod_right,Nat.mul_div_cancel_left _ hY,Nat.mul_div_cancel_left _ hY,A1r rfl]
  have:=Eo (2*q+0) d E
  rw [show (2*q+0)*2^d=2*(q*2^d)+0 by rw [A2c,A2c,A1v]] at this
  exact this
 ·have h3:=Nat.div_add_mod (Z*2^d) Y
  have h4:=Nat.mod_lt (Z*2^d) hY
  rw [A1q h0]
  generalize hq:Z / Y=q at *
  generalize hr:Z%Y=r at *
  generalize hc:2^d=c at *
  have hz:Z*c=Y*(q*c)+r*c:=by rw [← h1,A18,A1v]
  have hrc:r*c<Y*c:=(Nat.mul_lt_mul_right hA).2 h2
  have hrc0:0<r*c:=Nat.mul_pos (by omega) hA
  have q1:q*c≤Z*c / Y:=by rw [Nat.le_div_iff_mul_le hY,A1s (q*c)]; omega
  have q2:Z*c / Y<(q+1)*c:=by
   rw [Nat.div_lt_iff_lt_mul hY,A18,A18,Nat.one_mul,A1s (q*c),A1s c Y]; omega
  have q3:Z*c / Y=q*c→Z*c%Y≠0:=fun h5 h6=>by rw [h5,h6] at h3; omega
  generalize hQ:Z*c / Y=Q at *
  have p1:(2*q+1-1)*c=2*(q*c):=by rw [Nat.add_sub_cancel,A1v]
  have p2:(2*q+1+1)*c=2*((q+1)*c):=by rw [show 2*q+1+1=2*(q+1) by omega,A1v]
  have od:(2*q+1)%2=1:=by omega
  generalize hV:2*Q+(if Z*c%Y=0 then 0 else 1)=V
  have v1:(2*q+1-1)*2^d<V:=by
   rw [hc,p1,← hV]
   by_cases h5:Q=q*c
   ·rw [A1q (q3 h5)]; omega
   ·split<;>omega
  have v2:V<(2*q+1+1)*2^d:=by
   rw [hc,p2,← hV]
   split<;>omega
  have lV:=Re od (by omega) v1 v2
  have hs:54≤(2*q+1).log2:=by rw [Nat.le_log2 (by omega)]; omega
  have ee:E-(d:Int)+d=E:=by omega
  have:=Q5 (E:=E-d) od v1 v2 (by unfold Cs; rw [lV]; omega) (by unfold Cs; omega)
  rw [ee] at this
  exact this
theorem Yk {X Y K L:Nat} {E F:Int} (hY:0<Y) (h1:2^53≤X*2^K / Y) (h2:2^53≤X*2^L / Y) (he:E+K=F+L) :
 Cv (F3 X Y K) E=Cv (F3 X Y L) F∧flagsOf (F3 X Y K) E=flagsOf (F3 X Y L) F:=by
 rcases Nat.le_total K L with h | h
 ·obtain ⟨d,rfl⟩:=Nat.exists_eq_add_of_le h
  have:=Yj d E hY h1
  rw [show E-(d:Int)=F by omega] at this
  exact ⟨this.1.symm,this.2.symm⟩
 ·obtain ⟨d,rfl⟩:=Nat.exists_eq_add_of_le h
  have:=Yj d F hY h2
  rw [show F-(d:Int)=E by omega] at this
  exact this
theorem Aia (X Y a K:Nat):F3 (X*2^a) Y K=F3 X Y (K+a):=by
 unfold F3
 have:X*2^a*2^K=X*2^(K+a):=by rw [A1v,← A1t,Nat.add_comm a K]
 rw [this]
theorem Afb (X Y b K:Nat):F3 X (Y*2^b) (K+b)=F3 X Y K:=by
 have hp:=Cw b
 unfold F3
 have:X*2^(K+b)=X*2^K*2^b:=by rw [A1t,A1v]
 rw [this,Nat.mul_div_mul_right _ _ hp,Nat.mul_mod_mul_right]
 have:(X*2^K%Y*2^b=0)↔(X*2^K%Y=0):=by
  constructor
  ·intro h
   rcases Nat.mul_eq_zero.1 h with h | h
   ·exact h
   ·omega
  ·intro h; rw [h,Nat.zero_mul]
 simp only [this]
theorem Ao6 {X Y K t:Nat} (hX:0<X) (hY0:0<Y) (hY:Y<2^t) (hK:53+t≤K):2^53≤X*2^K / Y:=by
 rw [Nat.le_div_iff_mul_le hY0]
 have h1:2^53*Y≤2^53*2^t:=Nat.mul_le_mul_left _ (by omega)
 have h2:2^(53+t)≤2^K:=A1j (by decide) hK
 have h3:1*2^K≤X*2^K:=A1g _ (by omega)
 rw [A1t] at h2
 omega
theorem Amr (n:Bool) {X Y K:Nat} {e E:Int} {s:Bool} (hs:s=decide (X*2^K%Y≠0)) (he:E=e-1) (hq:2^53≤X*2^K / Y) :
 Gz n (X*2^K / Y) e s=(Bp n (Cv (F3 X Y K) E),flagsOf (F3 X Y K) E):=by
 have e1:F3 X Y K / 2^1=X*2^K / Y:=by
  unfold F3
  split<;>omega
 have e2:decide (F3 X Y K%2^1≠0)=decide (X*2^K%Y≠0):=by
  unfold F3
  by_cases h:X*2^K%Y=0
  ·rw [A1r h,A09 (by omega),A09 (by omega)]
  ·rw [A1q h,A05 (by omega),A05 h]
 have:=U8 n (V:=F3 X Y K) (k:=1) (E:=E) (e:=e) (s:=s) (by omega) (by rw [e2]; exact hs) (by omega) (.inl (by omega))
 rw [e1] at this
 exact this
end Go.Rnd
namespace Go.Rnd
open Go.Den
def Cf:List Int→Nat
 | []=>0
 | x::l=>x.toNat+4294967296*Cf l
def digits:Nat→Nat→List Int
 | 0,_=>[]
 | k+1,v=>((v%4294967296:Nat):Int)::digits k (v / 4294967296)
def Dv (n:Nat):Nat:=if n=0 then 0 else n.log2 / 32+1
def Qq (n:Nat):List Int:=digits (Dv n) n
def Aj (v:Int):List Int:=Qq v.natAbs
def A6 (v:Int):Bool:=decide (v<0)
def wv (n:Bool) (l:List Int):Int:=Hv n (Cf l)
def Vm (l:List Int):Prop:=∀ x∈l,0≤x∧x<4294967296
def Gq (l:List Int):Bool:=Co (l.length<1073741824∧Vm l)
def Hs (n:Bool) (l:List Int):Bool:=Co (l.length<268435456∧l=Qq (Cf l)∧(n=true→l≠[]))
def R8 (n:Bool) (l:List Int):Bool:=Co (l.length<134217728∧l=Qq (Cf l)∧(n=true→l≠[]))
def Avv (k:Int):Bool:=Co (-1000000≤k∧k≤1000000)
def Ak0 (k:Int):Bool:=Co (-9223372036854775808≤k∧k≤9223372036854775807)
def Hg (l:List Int) (i:Int):Int:=if 0≤i then l.getD i.toNat 0 else 0
def Jj (a b:List Int):List Int:=digits (max a.length b.length+1) (Cf a+Cf b)
def H5 (a b:List Int):List Int:=digits a.length (Cf a-Cf b)
def leL (a b:List Int):Bool:=Co (Cf a≤Cf b)
def Wv (a b:Nat):Int:=if a<b then -1 else if b<a then 1 else 0
def Xq (a b:Int):Int:=if a<b then -1 else if b<a then 1 else 0
def Li (v:Int) (j:Nat):Int:=Hv (A6 v) (v.natAbs / 2^j)
def Hc (v k:Int):Int:=if 0≤k then v*((2^k.toNat:Nat):Int) else Li v (-k).toNat
def Zr (v:Int):Int:=if v=0 then 0 else (v.natAbs.log2:Int)+1
def Amh (v:Int):Bool:=decide (v%2=1)
def Ys (v w:Int):Bool:=decide (v=w)
theorem two32:2^32=4294967296:=by decide
theorem Mg (k:Nat):2^(32*(k+1))=4294967296*2^(32*k):=by
 rw [Nat.mul_add,A2d,A1t,A1s,two32]
theorem Ef:∀ (k v:Nat),(digits k v).length=k
 | 0,_=>rfl
 | k+1,v=>by rw [digits,List.length_cons,Ef k]
theorem M9:∀ (k v:Nat),Vm (digits k v)
 | 0,_=>fun x h=>by cases h
 | k+1,v=>fun x h=>by
   rw [digits,List.mem_cons] at h
   rcases h with rfl | h
   ·omega
   ·exact M9 k _ x h
theorem J4:∀ (k v:Nat),Cf (digits k v)=v%2^(32*k)
 | 0,v=>by rw [digits,Cf,Nat.mul_zero,A12,Nat.mod_one]
 | k+1,v=>by
   rw [digits,Cf,J4 k,A06,Mg,Nat.mod_mul]
theorem Kg:∀ {l:List Int},Vm l→Cf l<2^(32*l.length)
 | [],_=>by decide
 | x::l,h=>by
   have h1:=h x (A2j ..)
   have h2:=Kg (l:=l) (fun y hy=>h y (A19 _ hy))
   rw [Cf,List.length_cons,Mg]
   omega
theorem Rn:∀ {l:List Int},Vm l→digits l.length (Cf l)=l
 | [],_=>rfl
 | x::l,h=>by
   have h1:=h x (A2j ..)
   have h2:=Rn (l:=l) (fun y hy=>h y (A19 _ hy))
   rw [Cf,List.length_cons,digits]
   have e1:(x.toNat+4294967296*Cf l)%4294967296=x.toNat:=by omega
   have e2:(x.toNat+4294967296*Cf l) / 4294967296=Cf l:=by omega
   rw [e1,e2,h2]
   congr 1
   omega
theorem Kq (n:Nat):n<2^(32*Dv n):=by
 unfold Dv
 by_cases h:n=0
 ·rw [A1r h,h]; decide
 ·rw [A1q h]
  exact A2f Nat.lt_log2_self (A1j (by decide) (by omega))
theorem Mq {n k:Nat} (h:n<2^(32*k)):Dv n≤k:=by
 unfold Dv
 by_cases h0:n=0
 ·rw [A1r h0]; exact Nat.zero_le _
 ·rw [A1q h0]
  have:=(A2k h0).2 h
  omega
theorem Ath {n k:Nat} (h:2^(32*k)≤n):k+1≤Dv n:=by
 have hp:=Cw (32*k)
 unfold Dv
 rw [A1q (by omega)]
 have:=(Nat.le_log2 (by omega)).2 h
 omega
theorem Ka {n m:Nat} (h:n≤m):Dv n≤Dv m:=Mq (A16 h (Kq m))
theorem Tg (n:Nat):Cf (Qq n)=n:=by
 unfold Qq
 rw [J4,A1h (Kq n)]
theorem H7 (n:Nat):(Qq n).length=Dv n:=Ef _ _
theorem Agq (n:Nat):Vm (Qq n):=M9 _ _
theorem Aag:∀ (k v i:Nat),i<k→(digits k v).getD i 0=((v / 2^(32*i)%4294967296:Nat):Int)
 | k+1,v,0,_=>by rw [digits,List.getD_cons_zero,Nat.mul_zero,A12,Nat.div_one]
 | k+1,v,i+1,h=>by
   rw [digits,List.getD_cons_succ,Aag k _ i (by omega),Mg,A1x]
theorem Oc {l:List Int} (h:Vm l) (i:Nat):l.getD i 0=((Cf l / 2^(32*i)%4294967296:Nat):Int):=by
 by_cases hi:i<l.length
 ·have:=Aag l.length (Cf l) i hi
  rw [Rn h] at this
  exact this
 ·have h1:=Kg h
  have h2:2^(32*l.length)≤2^(32*i):=A1j (by decide) (by omega)
  rw [Nat.div_eq_of_lt (by omega),A1e,A2m (by omega)]
  rfl
theorem H8 {l:List Int} (h:Vm l) (i:Nat):Hg l (i:Int)=((Cf l / 2^(32*i)%4294967296:Nat):Int):=by
 unfold Hg
 rw [A1r (by omega),A06,Oc h]
theorem Kc:∀ (k v:Nat),digits (k+1) v=digits k v++[((v / 2^(32*k)%4294967296:Nat):Int)]
 | 0,v=>by rw [digits,digits,digits,Nat.mul_zero,A12,Nat.div_one]; rfl
 | k+1,v=>by
   rw [digits,Kc k,Mg,← A1x]
   rfl
theorem Xh:∀ (j k v:Nat),j≤k→(digits k v).take j=digits j v
 | 0,_,_,_=>by rw [List.take_zero,digits]
 | j+1,k+1,v,h=>by rw [digits,List.take_succ_cons,Xh j k _ (by omega),digits]
theorem Ai6 {l:List Int} (h:Vm l):l.take (Dv (Cf l))=Qq (Cf l):=by
 have h1:=Xh (Dv (Cf l)) l.length (Cf l) (Mq (Kg h))
 rw [Rn h] at h1
 exact h1
theorem Ju {n:Nat} (h:n≠0):0<Dv n:=by unfold Dv; rw [A1q h]; omega
theorem F1 (v:Int):wv (A6 v) (Aj v)=v:=by
 unfold wv A6 Aj Hv
 rw [Tg]
 by_cases h:v<0
 ·rw [A05 h,A1r rfl]; omega
 ·rw [A09 h,A1q (by decide)]; omega
theorem Kl {l:List Int} (h:l.length<1073741824) (hi:Vm l):Gq l=true:=Au.2 ⟨h,hi⟩
theorem Km {l:List Int} (h:Gq l=true):l.length<1073741824∧Vm l:=Au.1 h
theorem Aak (v:Int):Aj v=Qq (Cf (Aj v))∧(A6 v=true→Aj v≠[]):=by
 unfold Aj
 rw [Tg]
 refine ⟨rfl,fun h e=>?_⟩
 have h1:v<0:=A1u h
 have h2:=H7 v.natAbs
 rw [e] at h2
 have:=Ju (n:=v.natAbs) (by omega)
 rw [← h2] at this
 exact absurd this (by decide)
theorem Iz {v:Int} (h:Dv v.natAbs<268435456):Hs (A6 v) (Aj v)=true :=
 Au.2 ⟨by unfold Aj; rw [H7]; exact h,Aak v⟩
theorem Adu {v:Int} (h:Dv v.natAbs<134217728):R8 (A6 v) (Aj v)=true :=
 Au.2 ⟨by unfold Aj; rw [H7]; exact h,Aak v⟩
theorem Wy {n:Bool} {l:List Int} (h1:l=Qq (Cf l)) (h2:n=true→l≠[]):n=A6 (wv n l)∧l=Aj (wv n l):=by
 have e:(wv n l).natAbs=Cf l:=by unfold wv Hv; split<;>omega
 refine ⟨?_,by unfold Aj; rw [e]; exact h1⟩
 unfold A6 wv Hv
 cases n
 ·simp
 ·have h3:=h2 rfl
  have h4:Cf l≠0:=fun h=>by
   rw [h] at h1
   exact h3 h1
  simp; omega
theorem Io {n:Bool} {l:List Int} (h:Hs n l=true):∃ v,n=A6 v∧l=Aj v∧Dv v.natAbs<268435456:=by
 obtain ⟨h0,h1,h2⟩:=Au.1 h
 obtain ⟨e1,e2⟩:=Wy h1 h2
 refine ⟨_,e1,e2,?_⟩
 have:=congrArg length e2
 unfold Aj at this
 rw [H7] at this
 omega
theorem P6 {n:Bool} {l:List Int} (h:R8 n l=true):∃ v,n=A6 v∧l=Aj v∧Dv v.natAbs<134217728:=by
 obtain ⟨h0,h1,h2⟩:=Au.1 h
 obtain ⟨e1,e2⟩:=Wy h1 h2
 refine ⟨_,e1,e2,?_⟩
 have:=congrArg length e2
 unfold Aj at this
 rw [H7] at this
 omega
theorem O8 {v:Int} (h:Dv v.natAbs<1073741824):Gq (Aj v)=true :=
 Kl (by unfold Aj; rw [H7]; exact h) (Agq _)
theorem Eb (v:Int):Cf (Aj v)=v.natAbs:=Tg _
theorem Ch (v:Int):(Aj v).length=Dv v.natAbs:=H7 _
theorem Aut (n:Bool) (l:List Int):wv (!n) l=- wv n l:=by
 unfold wv Hv
 cases n<;>simp
theorem Abu {a b:List Int} (ha:Vm a) (hb:Vm b):Cf (Jj a b)=Cf a+Cf b:=by
 unfold Jj
 rw [J4,A1h]
 have h1:=Kg ha
 have h2:=Kg hb
 have h3:2^(32*a.length)≤2^(32*max a.length b.length):=A1j (by decide) (by omega)
 have h4:2^(32*b.length)≤2^(32*max a.length b.length):=A1j (by decide) (by omega)
 rw [Mg]
 omega
theorem P0 (a b:List Int):(Jj a b).length=max a.length b.length+1:=Ef _ _
theorem Y3 (a b:List Int):Vm (Jj a b):=M9 _ _
theorem Aix {a:List Int} (b:List Int) (ha:Vm a):Cf (H5 a b)=Cf a-Cf b:=by
 unfold H5
 rw [J4,A1h]
 have h1:=Kg ha
 omega
theorem S6 (a b:List Int):(H5 a b).length=a.length:=Ef _ _
theorem Ab2 (a b:List Int):Vm (H5 a b):=M9 _ _
theorem Mj (v:Int) (j:Nat):(Li v j).natAbs=v.natAbs / 2^j:=by
 unfold Li
 generalize v.natAbs / 2^j=m
 unfold Hv; split<;>omega
theorem Ur {v:Int} (h:v<0) (m:Nat):Hv (A6 v) m=-(m:Int):=by
 unfold Hv A6; rw [A05 h,A1r rfl]
theorem Uq {v:Int} (h:¬ v<0) (m:Nat):Hv (A6 v) m=(m:Int):=by
 unfold Hv A6; rw [A09 h,A1q (by decide)]
theorem Adb (v:Int) (i j:Nat):Li (Li v i) j=Li v (i+j):=by
 have e:v.natAbs / 2^(i+j)=v.natAbs / 2^i / 2^j:=by rw [A1t,A1x]
 have h1:=Mj v i
 by_cases hv:v<0
 ·have h2:Li v i=-((v.natAbs / 2^i:Nat):Int):=Ur hv _
  rw [show Li v (i+j)=-((v.natAbs / 2^(i+j):Nat):Int) from Ur hv _,e]
  by_cases h0:v.natAbs / 2^i=0
  ·rw [h2,h0]
   show Li 0 j=_
   rw [Nat.zero_div]
   show Hv (A6 0) (0 / 2^j)=_
   rw [Nat.zero_div]; rfl
  ·have h3:Li v i<0:=by omega
   rw [show Li (Li v i) j=-(((Li v i).natAbs / 2^j:Nat):Int) from Ur h3 _,h1]
 ·have h2:Li v i=((v.natAbs / 2^i:Nat):Int):=Uq hv _
  have h3:¬ Li v i<0:=by omega
  rw [show Li (Li v i) j=(((Li v i).natAbs / 2^j:Nat):Int) from Uq h3 _,h1,show Li v (i+j)=((v.natAbs / 2^(i+j):Nat):Int) from Uq hv _,e]
theorem Afn (v:Int):Li v 0=v:=by
 unfold Li Hv A6
 rw [A12,Nat.div_one]
 by_cases h:v<0
 ·rw [A05 h,A1r rfl]; omega
 ·rw [A09 h,A1q (by decide)]; omega
theorem R5 (j:Nat):Li 0 j=0:=by
 unfold Li
 rw [show (Int.natAbs 0)=0 from rfl,Nat.zero_div]
 rfl
theorem Aln {l:List Int} (h:Vm l):Cf (l.drop 1)=Cf l / 4294967296:=by
 cases l with
 | nil=>rfl
 | cons x l =>
   have:=h x (A2j ..)
   show Cf l=_
   rw [Cf]; omega
theorem Agz {l:List Int} (h:Vm l):Vm (l.drop 1):=fun x hx=>h x (List.mem_of_mem_drop hx)
theorem Agy {l:List Int} (h:Vm l):Vm ([(0:Int)]++l):=fun x hx=>by
 rcases List.mem_cons.1 hx with rfl | hx
 ·omega
 ·exact h x hx
theorem Ap7 (n:Nat):Dv (2*n)≤Dv n+1:=by
 refine Mq ?_
 have h:=Kq n
 rw [Mg]
 omega
theorem Atg (n:Nat):Dv (n*4294967296)≤Dv n+1:=by
 refine Mq ?_
 have h:=Kq n
 rw [Mg]
 omega
theorem Agh {n m:Nat} (h:2^m≤n):(n / 2^m).log2+m=n.log2:=by
 have hp:=Cw m
 have h0:n≠0:=by omega
 have hm:m≤n.log2:=(Nat.le_log2 h0).2 h
 have e:(n / 2^m).log2=n.log2-m:=by
  refine Vg ?_ ?_
  ·rw [Nat.le_div_iff_mul_le hp,← A1t]
   exact A2b (A1j (by decide) (by omega)) (Nat.log2_self_le h0)
  ·rw [Nat.div_lt_iff_lt_mul hp,← A1t]
   exact A2f Nat.lt_log2_self (A1j (by decide) (by omega))
 omega
end Go.Rnd
namespace Go.Rnd
open Go.Den
def Sq (n:Nat):Nat:=if h:n=0∨n%2=1 then 0 else Sq (n / 2)+1
termination_by n
decreasing_by omega
def mD (v:Int):Int:=Li v (Sq v.natAbs)
def eD (v e:Int):Int:=if v=0 then 0 else e+Sq v.natAbs
def Df (v e w f:Int):Int:=if v=0 then f else if w=0 then e else min e f
def Arl (v e w f:Int):Int:=Hc v (e-Df v e w f)+Hc w (f-Df v e w f)
def N1 (v e w f:Int):Int:=mD (Arl v e w f)
def Ahv (v e w f:Int):Int:=eD (Arl v e w f) (Df v e w f)
def Iw (v e:Int):Int:=if v=0 then 0 else Zr v+e
def Ny (v:Int):Int:=if v<0 then -1 else if v=0 then 0 else 1
def Xr (v e w f:Int):Int:=Xq (Hc v (e-Df v e w f)) (Hc w (f-Df v e w f))
def Wh (e:Int):Bool:=Co (-2000000≤e∧e≤2000000)
def Nl (e:Int):Bool:=Co (-400000≤e∧e≤400000)
def Af7 (v e f:Int):Bool:=Co (v=0∨(-1000000≤e-f∧e-f≤1000000))&&Co (-400000≤e∧e≤400000∧-1000000≤f∧f≤1000000)
theorem Ah8 {n:Nat} (h:n=0∨n%2=1):Sq n=0:=by rw [Sq,dif_pos h]
theorem Aj9 {n:Nat} (h0:n≠0) (h:n%2=0):Sq n=Sq (n / 2)+1:=by rw [Sq,dif_neg (by omega)]
theorem Acz {n:Nat} (h:n≠0):∀ k,Sq (n*2^k)=k+Sq n
 | 0=>by rw [A12,A2d,A2e]
 | k+1=>by
   have hp:=Cw k
   have h1:n*2^k≠0:=by
    intro e
    rcases Nat.mul_eq_zero.1 e with e | e<;>omega
   have e:n*2^(k+1)=n*2^k*2:=by rw [Nat.pow_succ,A1v]
   rw [e,Aj9 (by omega) (by omega),Nat.mul_div_cancel _ (by decide),Acz h k]
   omega
theorem Aj8 (n:Nat) (h:n≠0):∃ m,n=m*2^Sq n∧m%2=1:=by
 induction n using Nat.strongRecOn with
 | _ n ih =>
   by_cases h2:n%2=1
   ·refine ⟨n,?_,h2⟩
    rw [Ah8 (.inr h2),A12,A2d]
   ·obtain ⟨m,h3,h4⟩:=ih (n / 2) (by omega) (by omega)
    refine ⟨m,?_,h4⟩
    rw [Aj9 h (by omega),Nat.pow_succ,← A1v,← h3]
    omega
theorem Aui {n:Nat} (h:n≠0):Sq n≤n.log2:=by
 obtain ⟨m,h1,h2⟩:=Aj8 n h
 refine (Nat.le_log2 h).2 ?_
 have:1*2^Sq n≤m*2^Sq n:=A1g _ (by omega)
 omega
theorem Ab3 {n:Nat}:n.log2<32*Dv n+1:=by
 unfold Dv
 by_cases h:n=0
 ·rw [h]; decide
 ·rw [A1q h]; omega
theorem Apz {v:Int} {k:Nat} (h:v.natAbs%2^k=0):mD (Li v k)=mD v:=by
 unfold mD
 by_cases h0:v=0
 ·rw [h0,R5]
 ·have hp:=Cw k
  have hv:=Nat.div_add_mod v.natAbs (2^k)
  rw [h,A2c,A1s] at hv
  have hq:v.natAbs / 2^k≠0:=by
   intro e; rw [e] at hv; omega
  have:=Acz hq k
  rw [hv] at this
  rw [Mj,Adb,this]
theorem Aqy {v e:Int} {k:Nat} (h:v.natAbs%2^k=0) (h0:v≠0):eD (Li v k) (e+k)=eD v e:=by
 unfold eD
 have hp:=Cw k
 have hv:=Nat.div_add_mod v.natAbs (2^k)
 rw [h,A2c,A1s] at hv
 have hq:v.natAbs / 2^k≠0:=by
  intro e; rw [e] at hv; omega
 have ht:=Acz hq k
 rw [hv] at ht
 have ha:=Mj v k
 rw [A1q h0,A1q (by omega),ha,ht]
 omega
theorem Av0 {v:Int} (h:v%2=1):mD v=v:=by
 unfold mD
 rw [Ah8 (.inr (by omega)),Afn]
theorem Awg {v:Int} (h:v%2=1) (e:Int):eD v e=e:=by
 unfold eD
 rw [Ah8 (.inr (by omega)),A1q (by omega)]
 omega
theorem Apr {v:Int} (h:v≠0) (k:Nat):v*((2^k:Nat):Int)≠0:=by
 have hp:=Cw k
 intro e
 rcases Int.mul_eq_zero.1 e with e | e
 ·exact h e
 ·omega
theorem X3 (v:Int):v=mD v*((2^Sq v.natAbs:Nat):Int):=by
 by_cases h:v=0
 ·rw [h]
  show (0:Int)=Li 0 _*_
  rw [R5,Int.zero_mul]
 ·obtain ⟨m,h1,h2⟩:=Aj8 v.natAbs (by omega)
  have hp:=Cw (Sq v.natAbs)
  have hq:v.natAbs / 2^Sq v.natAbs=m:=Nat.div_eq_of_eq_mul_left hp h1
  unfold mD Li
  rw [hq]
  by_cases hv:v<0
  ·rw [Ur hv,Int.neg_mul,← A1p,← h1]; omega
  ·rw [Uq hv,← A1p,← h1]; omega
theorem P7 {v:Int}:mD v=0↔v=0:=by
 constructor
 ·intro h
  have:=X3 v
  rw [h,Int.zero_mul] at this
  exact this
 ·intro h
  rw [h]
  exact R5 _
theorem Pd (v:Int):(mD v).natAbs≤v.natAbs:=by
 unfold mD
 rw [Mj]
 exact Nat.div_le_self _ _
end Go.Rnd
namespace Go.Rnd
open Go.Den
def vAt (v e g:Int):Int:=v*((2^(e-g).toNat:Nat):Int)
theorem Iv (e g:Int):vAt 0 e g=0:=Int.zero_mul _
theorem Abb {v e g h:Int} (h1:h≤e) (h2:g≤h):vAt v e g=vAt v e h*((2^(h-g).toNat:Nat):Int):=by
 unfold vAt
 rw [Int.mul_assoc,← A1p,← A1t]
 have:(e-h).toNat+(h-g).toNat=(e-g).toNat:=by omega
 rw [this]
theorem Aj3 {S l g:Int} (h:g≤l):vAt (mD S) (eD S l) g=vAt S l g:=by
 by_cases h0:S=0
 ·rw [h0,P7.2 rfl,Iv,Iv]
 ·have e:eD S l=l+Sq S.natAbs:=by unfold eD; rw [A1q h0]
  rw [e]
  unfold vAt
  have e1:(l+(Sq S.natAbs:Int)-g).toNat=Sq S.natAbs+(l-g).toNat:=by omega
  rw [e1,A1t,A1p,← Int.mul_assoc,← X3]
theorem Akc {v e l:Int} (h:v≠0→l≤e):Hc v (e-l)=vAt v e l:=by
 by_cases h0:v=0
 ·rw [h0,Iv]
  unfold Hc
  split
  ·exact Int.zero_mul _
  ·exact R5 _
 ·unfold Hc vAt
  rw [A1r (by have:=h h0; omega)]
theorem Av2 {v e w f:Int}:(v≠0→Df v e w f≤e)∧(w≠0→Df v e w f≤f):=by
 unfold Df
 constructor
 ·intro h
  rw [A1q h]
  split<;>omega
 ·intro h
  split
  ·omega
  ·omega
theorem Aqz {v e g:Int} (h:g≤e) (h0:v≠0):g≤eD v e:=by
 unfold eD
 rw [A1q h0]
 omega
theorem Arb (x y:Int) (k:Nat):Xq (x*((2^k:Nat):Int)) (y*((2^k:Nat):Int))=Xq x y:=by
 have hp:=Cw k
 have h1:x*((2^k:Nat):Int)<y*((2^k:Nat):Int)↔x<y:=Int.mul_lt_mul_right (by omega)
 have h2:y*((2^k:Nat):Int)<x*((2^k:Nat):Int)↔y<x:=Int.mul_lt_mul_right (by omega)
 unfold Xq
 simp only [h1,h2]
theorem At3 {v e w f g:Int} (h1:v≠0→g≤e) (h2:w≠0→g≤f):Xr v e w f=Xq (vAt v e g) (vAt w f g):=by
 obtain ⟨l1,l2⟩:=Av2 (v:=v) (e:=e) (w:=w) (f:=f)
 unfold Xr
 rw [Akc l1,Akc l2]
 by_cases h0:v=0∧w=0
 ·rw [h0.1,h0.2,Iv,Iv,Iv,Iv]
 ·have hg:g≤Df v e w f:=by
   unfold Df
   split
   ·rename_i hv
    exact h2 (fun k=>h0 ⟨hv,k⟩)
   ·split
    ·exact h1 (by assumption)
    ·have:=h1 (by assumption); have:=h2 (by assumption); omega
  have e1:vAt v e g=vAt v e (Df v e w f)*((2^(Df v e w f-g).toNat:Nat):Int):=by
   by_cases h0:v=0
   ·rw [h0,Iv,Iv,Int.zero_mul]
   ·exact Abb (l1 h0) hg
  have e2:vAt w f g=vAt w f (Df v e w f)*((2^(Df v e w f-g).toNat:Nat):Int):=by
   by_cases h0:w=0
   ·rw [h0,Iv,Iv,Int.zero_mul]
   ·exact Abb (l2 h0) hg
  rw [e1,e2,Arb]
def Ag (l:List Int):Bool:=Co (∀ x∈l,Ak x=true)
def Bj (x:Int):Int:=Hv (B0 x.toNat) (Ay x.toNat)
def S2 (n:Bool) (b:Int):Int:=if n then Dk b else b
end Go.Rnd
namespace Go.Rnd
open Go.Den
theorem Ah4 (s:Bool) {q:Nat} {L:Int} (hq:q<2^53) (hL:-1074≤L) (h:2^52≤q∨L=-1074) (hr:(L+1074).toNat*2^52+q<Eh) :
 Ay (Bp s ((L+1074).toNat*2^52+q))=q∧A9 (Bp s ((L+1074).toNat*2^52+q))=L:=by
 rw [Ir] at hr
 obtain ⟨t,ht⟩:∃ t:Nat,L=t-1074:=⟨(L+1074).toNat,by omega⟩
 have et:(L+1074).toNat=t:=by omega
 rw [et] at hr ⊢
 have hp:=Abr s (r:=t*2^52+q) (by omega)
 have hf:=Z1 s (t*2^52+q)
 unfold Ay A9
 by_cases h52:2^52≤q
 ·have e1:Ea (Bp s (t*2^52+q))=t+1:=by rw [hp]; omega
  rw [e1,hf,A1q (by omega),A1q (by omega)]
  omega
 ·have t0:t=0:=by omega
  subst t0
  have e1:Ea (Bp s (0*2^52+q))=0:=by rw [hp]; omega
  rw [e1,hf,A1r rfl,A1r rfl]
  omega
theorem sign_neg (s:Bool) {r:Nat} (h:r<2^63):B0 (Bp s r)=s:=by
 unfold B0 Bp
 cases s
 ·simp only [Bool.false_eq_true,if_false,A1n]; omega
 ·simp only [if_true,A1b]; omega
theorem Ajg (s:Bool) {V:Nat} {E:Int} (h0:V≠0) (hE:Cs V E≤E) (hi:Cv V E<Eh) :
 flagsOf V E=0∧∃ k:Nat,Ay (Bp s (Cv V E))=V*2^k∧A9 (Bp s (Cv V E))=E-k:=by
 have hl2:V.log2=V.log2:=rfl
 have ek:kept V E=V*2^(E-Cs V E).toNat:=by
  unfold kept Kk
  have e1:(Cs V E-E).toNat=0:=by omega
  have e2:(-(Cs V E-E)).toNat=(E-Cs V E).toNat:=by omega
  rw [e1,e2,O3]
 have eex:exact V E=true:=by
  unfold exact Nb
  have e1:(Cs V E-E).toNat=0:=by omega
  rw [e1,A12,Nat.mod_one]; rfl
 constructor
 ·unfold flagsOf flags
  rw [A1q h0,A1q (by omega),eex]; rfl
 ·have hr:Cv V E=(Cs V E+1074).toNat*2^52+kept V E:=by
   unfold Cv at hi ⊢
   rw [A1q h0] at hi ⊢
   omega
  have hk:kept V E<2^53:=by
   rw [ek,← A2k (I3 h0),Lu V _ h0]
   unfold Cs at hE ⊢
   omega
  have hb:2^52≤kept V E∨Cs V E=-1074:=by
   by_cases h:Cs V E=-1074
   ·exact .inr h
   ·left
    refine Ad8 h0 ?_
    unfold Cs at h ⊢
    omega
  rw [hr] at hi
  obtain ⟨p1,p2⟩:=Ah4 s hk (by unfold Cs; omega) hb hi
  refine ⟨(E-Cs V E).toNat,?_,?_⟩
  ·rw [hr,p1,ek]
  ·rw [hr,p2]; omega
theorem Agv {V:Nat} {E:Int} (h:V<2^53) (hE:-1074≤E):Cs V E≤E:=by
 by_cases h0:V=0
 ·subst h0; unfold Cs; rw [Nat.log2_zero]; omega
 ·have:=(A2k h0).2 h
  unfold Cs; omega
end Go.Rnd
namespace Go.Rnd
open Go.Den
def Ff (x:Int):Int:=if x=0 then 0 else (x.toNat.log2:Int)+1
def S5 (x y:Int):Int:=((x.toNat*y.toNat / 18446744073709551616:Nat):Int)
def N8 (x y:Int):Int:=((x.toNat*y.toNat%18446744073709551616:Nat):Int)
def Apo (a b:Int):Bool:=decide (Bk a=4)||decide (Bk b=4)
def Ci (b:Nat):Nat:=52-(Ay b).log2
def De (b:Int):Int:=((Ay b.toNat*2^Ci b.toNat:Nat):Int)
def Hy (b:Int):Int:=A9 b.toNat-Ci b.toNat
def Mn (b:Int):Bool:=Co (Ay b.toNat≠0)
def Pr (m e:Int):Bool:=Co (1152921504606846976≤m∧m<4611686018427387904∧-6000≤e∧e≤6000)
def D5 (a b:Int):Int:=(Nz a.toNat b.toNat).1
def Ayk (a b:Int):Int:=(Nz a.toNat b.toNat).2
def Ez (a b:Int):Int:=(Aek a.toNat b.toNat).1
def Ayu (a b:Int):Int:=(Aek a.toNat b.toNat).2
def Akz (x:Int):Bool:=Co (0≤x∧x<4294967296)
def singleL (l:List Int) (x:Int):List Int:=digits (l.length+1) (Cf l*x.toNat)
def okM (n:Bool) (l:List Int):Bool:=Co (l.length<33554432∧l=Qq (Cf l)∧(n=true→l≠[]))
end Go.Rnd
namespace Go.Rnd
theorem Anx (a b:Nat):Lg a b=Lg b a:=by
 unfold Lg
 by_cases ha:Ao a=4
 ·simp only [ha,true_or,or_true,if_true]
 ·by_cases hb:Ao b=4
  ·simp only [hb,true_or,or_true,if_true]
  ·simp only [ha,hb,or_self,if_false]
   by_cases ha3:Ao a=3
   ·by_cases hb3:Ao b=3
    ·simp only [ha3,hb3,if_true,true_and]
     by_cases e:a=b
     ·subst e; rfl
     ·rw [A1r e,A1r (fun h=>e h.symm)]
    ·simp only [ha3,hb3,if_true,if_false,false_and]
   ·by_cases hb3:Ao b=3
    ·simp only [ha3,hb3,if_true,if_false,false_and]
    ·simp only [ha3,hb3,if_false]
     rw [Bool.and_comm,Int.min_comm,Int.add_comm]
theorem Afv {Y D:Nat} (h:Y%2^D=0):Gd Y D=Y / 2^D:=by unfold Gd; rw [A1r h]
theorem Aik {Y D:Nat} (h:Y%2^D≠0):Gd Y D%2=1:=by unfold Gd; rw [A1q h]; omega
theorem Afw {Y d:Nat} (hY:Y<2^62) (h:Y%2^d≠0):(Gd Y (min d 63)-1)*2^d<Y∧Y<(Gd Y (min d 63)+1)*2^d∧Gd Y (min d 63)%2=1:=by
 have hA:=Cw d
 by_cases hd:d≤63
 ·rw [Nat.min_eq_left hd]
  refine ⟨?_,?_,Aik h⟩
  all_goals
   unfold Gd
   rw [A1q h]
   have h1:=Nat.div_add_mod Y (2^d)
   have h2:=Nat.mod_lt Y hA
   generalize Y / 2^d=q at *
   generalize Y%2^d=r at *
   generalize 2^d=c at *
   rw [A1s] at h1
  ·have h3:(2*(q / 2)+1-1)*c≤q*c:=A1g c (by omega)
   omega
  ·have h3:(q+1)*c≤(2*(q / 2)+1+1)*c:=A1g c (by omega)
   rw [A18,Nat.one_mul] at h3
   omega
 ·rw [Nat.min_eq_right (by omega)]
  have h63:Y%2^63=Y:=A1h (by omega)
  have hd0:Y / 2^63=0:=Nat.div_eq_of_lt (by omega)
  have hY0:Y≠0:=by intro e; rw [e] at h; simp at h
  have hr:Gd Y 63=1:=by unfold Gd; rw [h63,A1q hY0,hd0]
  have hp:2^62≤2^d:=A1j (by decide) (by omega)
  rw [hr]
  refine ⟨by simp; omega,by omega,rfl⟩
theorem A0g {d M:Nat} (h:(M*2^9)%2^d≠0):10≤d:=by
 refine Nat.lt_of_not_le fun hle=>h ?_
 obtain ⟨k,hk⟩:∃ k,9=d+k:=⟨9-d,by omega⟩
 rw [hk,A1t,A1s (2^d),← A1v,Nat.mul_mod_left]
theorem Po {V m d:Nat} {e f:Int} (hd:e=f+d) (h:V=m*2^d∨(m%2=1∧(m-1)*2^d<V∧V<(m+1)*2^d∧2^60≤m)) :
 Cv m (e-9)=Cv V (f-9)∧flagsOf m (e-9)=flagsOf V (f-9):=by
 rcases h with rfl | ⟨h1,h2,h3,h4⟩
 ·have:=Eo m d (e-9)
  have e1:e-9-(d:Int)=f-9:=by omega
  rw [e1] at this
  exact ⟨this.1.symm,this.2.symm⟩
 ·have hm0:m≠0:=by omega
  have hlog:=Re h1 (by omega) h2 h3
  have hl60:60≤m.log2:=(Nat.le_log2 hm0).2 h4
  have e1:f-9+(d:Int)=e-9:=by omega
  have hle:Cs V (f-9)=Cs m (f-9+d):=by unfold Cs; rw [hlog]; congr 1; omega
  have hk:f-9+d+2≤Cs m (f-9+d):=by unfold Cs; omega
  obtain ⟨a1,a2⟩:=Q5 h1 h2 h3 hle hk
  rw [e1] at a1 a2
  exact ⟨a1.symm,a2.symm⟩
theorem Aid (V:Nat) (f:Int):Cv (V*2^9) (f-9)=Cv V f∧flagsOf (V*2^9) (f-9)=flagsOf V f:=Eo V 9 f
structure Aug (Mx My d:Nat) (e f:Int) (X r:Nat):Prop where
 plus:Cv (X+r) (e-9)=Cv (Mx*2^d+My) f∧flagsOf (X+r) (e-9)=flagsOf (Mx*2^d+My) f
 less:r<X→My<Mx*2^d∧Cv (X-r) (e-9)=Cv (Mx*2^d-My) f∧flagsOf (X-r) (e-9)=flagsOf (Mx*2^d-My) f
 more:X<r→Mx*2^d<My∧Cv (r-X) (e-9)=Cv (My-Mx*2^d) f∧flagsOf (r-X) (e-9)=flagsOf (My-Mx*2^d) f
 same:X=r→Mx*2^d=My
 small:r≤2^62
theorem Aud {X My r d p:Nat} {e f:Int} (hd:e=f+d) (comm:X*2^d=p*2^9) (n1:(r-1)*2^d<My*2^9) (n2:My*2^9<r*2^d+2^d) (n3:r%2=1) (hX2:X%2=0) (hX:2^61≤X) (hr:r≤2^53) :
 (Cv (X+r) (e-9)=Cv (p+My) f∧flagsOf (X+r) (e-9)=flagsOf (p+My) f)∧My<p∧Cv (X-r) (e-9)=Cv (p-My) f∧flagsOf (X-r) (e-9)=flagsOf (p-My) f:=by
 have e1:(r-1)*2^d+2^d=r*2^d:=by
  obtain ⟨k,rfl⟩:∃ k,r=k+1:=⟨r-1,by omega⟩
  rw [Nat.add_sub_cancel,A18,Nat.one_mul]
 have e2:(r+1)*2^d=r*2^d+2^d:=by rw [A18,Nat.one_mul]
 have hXd:(r+1)*2^d≤X*2^d:=A1g _ (by omega)
 have hlt:My<p:=by rw [e2,comm] at hXd; omega
 have a1:Cv (X+r) (e-9)=Cv ((p+My)*2^9) (f-9)∧flagsOf (X+r) (e-9)=flagsOf ((p+My)*2^9) (f-9):=by
  refine Po hd (.inr ⟨by omega,?_,?_,by omega⟩)
  ·have h1:X+r-1=X+(r-1):=by omega
   rw [h1,A18 X (r-1) (2^d),A18 p My (2^9),comm]
   exact Nat.add_lt_add_left n1 _
  ·have h1:X+r+1=X+(r+1):=by omega
   rw [h1,A18 X (r+1) (2^d),A18 p My (2^9),comm,e2]
   exact Nat.add_lt_add_left n2 _
 have a2:Cv (X-r) (e-9)=Cv ((p-My)*2^9) (f-9)∧flagsOf (X-r) (e-9)=flagsOf ((p-My)*2^9) (f-9):=by
  rw [e2,comm] at hXd
  refine Po hd (.inr ⟨by omega,?_,?_,by omega⟩)
  ·have h1:X-r-1=X-(r+1):=by omega
   rw [h1,Nat.sub_mul X (r+1) (2^d),Nat.sub_mul p My (2^9),comm,e2]
   omega
  ·have h1:X-r+1=X-(r-1):=by omega
   rw [h1,Nat.sub_mul X (r-1) (2^d),Nat.sub_mul p My (2^9),comm]
   omega
 rw [(Aid _ f).1,(Aid _ f).2] at a1 a2
 exact ⟨a1,hlt,a2⟩
theorem Aht {Mx My d:Nat} {e f:Int} (hd:e=f+d) (hx:Mx<2^53) (hy:My<2^53) (hbig:10≤d→2^52≤Mx) :
 Aug Mx My d e f (Mx*2^9) (Gd (My*2^9) (min d 63)):=by
 have hA:=Cw d
 have hY:My*2^9<2^62:=by omega
 have comm:Mx*2^9*2^d=Mx*2^d*2^9:=by rw [A1v,A1s (2^9),← A1v]
 have s9:=fun V=>Aid V f
 by_cases hz:(My*2^9)%2^d=0
 ·
  have hr:∃ r,Gd (My*2^9) (min d 63)=r∧My*2^9=r*2^d:=by
   by_cases hd63:d≤63
   ·rw [Nat.min_eq_left hd63]
    exact ⟨_,rfl,by rw [Afv hz]; exact (Nat.div_mul_cancel (Nat.dvd_of_mod_eq_zero hz)).symm⟩
   ·have hp:2^62≤2^d:=A1j (by decide) (by omega)
    have:My*2^9=0:=by rw [A1h (by omega)] at hz; exact hz
    rw [Nat.min_eq_right (by omega),this]
    exact ⟨0,by decide,by omega⟩
  obtain ⟨r,hr,hYr⟩:=hr
  rw [hr]
  have hle:r≤2^62:=by
   have:r*1≤r*2^d:=Nat.mul_le_mul_left r hA
   omega
  have cmp:∀ x y:Nat,x*2^d<y*2^d↔x<y:=fun x y=>Nat.mul_lt_mul_right hA
  refine ⟨?_,fun h=>?_,fun h=>?_,fun h=>?_,hle⟩
  ·rw [← (s9 _).1,← (s9 _).2]
   exact Po hd (.inl (by rw [A18 (Mx*2^d) My (2^9),A18 (Mx*2^9) r (2^d),comm,hYr]))
  ·have h1:=(cmp r (Mx*2^9)).2 h
   refine ⟨by omega,?_⟩
   rw [← (s9 _).1,← (s9 _).2]
   exact Po hd (.inl (by first | rw [Nat.sub_mul (Mx*2^d) My (2^9),Nat.sub_mul (Mx*2^9) r (2^d),comm,hYr] | rw [Nat.sub_mul My (Mx*2^d) (2^9),Nat.sub_mul r (Mx*2^9) (2^d),comm,hYr]))
  ·have h1:=(cmp (Mx*2^9) r).2 h
   refine ⟨by omega,?_⟩
   rw [← (s9 _).1,← (s9 _).2]
   exact Po hd (.inl (by first | rw [Nat.sub_mul (Mx*2^d) My (2^9),Nat.sub_mul (Mx*2^9) r (2^d),comm,hYr] | rw [Nat.sub_mul My (Mx*2^d) (2^9),Nat.sub_mul r (Mx*2^9) (2^d),comm,hYr]))
  ·rw [← h] at hYr
   omega
 ·
  have hd10:=A0g hz
  have hMx:=hbig hd10
  obtain ⟨n1,n2,n3⟩:=Afw hY hz
  have hrle:Gd (My*2^9) (min d 63)≤2^53:=by
   refine Nat.le_of_not_lt fun h=>?_
   have h1:2^53*2^d≤(Gd (My*2^9) (min d 63)-1)*2^d:=A1g _ (by omega)
   have h2:2^10≤2^d:=A1j (by decide) hd10
   have h3:2^53*2^10≤2^53*2^d:=Nat.mul_le_mul_left _ h2
   omega
  generalize Gd (My*2^9) (min d 63)=r at *
  have hr1:1≤r:=by omega
  have e1:(r-1)*2^d+2^d=r*2^d:=by
   obtain ⟨k,rfl⟩:∃ k,r=k+1:=⟨r-1,by omega⟩
   rw [Nat.add_sub_cancel,A18,Nat.one_mul]
  have e2:(r+1)*2^d=r*2^d+2^d:=by rw [A18,Nat.one_mul]
  rw [e2] at n2
  have hXr:r<Mx*2^9:=by omega
  have hXd:(r+1)*2^d≤Mx*2^9*2^d:=A1g _ (by omega)
  rw [e2,comm] at hXd
  obtain ⟨p1,p2,p3⟩:=Aud hd comm n1 n2 n3 (by omega) (by omega) hrle
  exact ⟨p1,fun _=>⟨p2,p3⟩,fun h=>by omega,fun h=>by omega,by omega⟩
theorem Xc (n:Bool) (m:Nat) (e:Int):Gz n m e false=(Bp n (Cv m e),flagsOf m e):=by
 unfold Gz
 have:=Eo m 2 e
 have e1:m*2^2=4*m+false.toNat:=by simp; omega
 have e2:e-((2:Nat):Int)=e-2:=by omega
 rw [e1,e2] at this
 rw [this.1,this.2]
theorem R6 (E:Int):Cv 0 E=0:=A1r rfl
theorem Qb (E:Int):flagsOf 0 E=0:=A1r rfl
theorem Rl {b:Nat} (h:Ku b=true):Ao b≠4∧Ao b≠3:=by
 unfold Ku at h
 simp only [A1b] at h
 unfold Ao
 rw [A1q (by omega)]
 split
 ·omega
 ·split<;>omega
theorem Abw {b:Nat} (h:-1064≤A9 b):2^52≤Ay b:=by
 unfold A9 at h
 unfold Ay
 split at h
 ·omega
 ·rw [A1q (by assumption)]; omega
theorem Ti (z:Nat) (s:Bool) {V:Nat} (hV:V≠0) (f:Int):Pz z (Hv s V) f=(Bp s (Cv V f),flagsOf V f):=by
 unfold Pz Hv
 cases s
 ·have h1:¬ (V:Int)=0:=by omega
  have h2:¬ (V:Int)<0:=by omega
  simp only [Bool.false_eq_true,if_false,h1,h2,decide_false,Int.natAbs_natCast]
 ·have h1:¬ -(V:Int)=0:=by omega
  have h2:-(V:Int)<0:=by omega
  simp only [if_true,h1,if_false,h2,decide_true,Int.natAbs_neg,Int.natAbs_natCast]
theorem Aue {p q X r:Nat} {e f:Int} (s t:Bool)
 (plus:Cv (X+r) e=Cv (p+q) f∧flagsOf (X+r) e=flagsOf (p+q) f)
 (less:r<X→q<p∧Cv (X-r) e=Cv (p-q) f∧flagsOf (X-r) e=flagsOf (p-q) f)
 (more:X<r→p<q∧Cv (r-X) e=Cv (q-p) f∧flagsOf (r-X) e=flagsOf (q-p) f)
 (same:X=r→p=q) :
 Pz (Bp (s&&t) 0) (Hv s p+Hv t q) f=(if s=t then Gz s (X+r) e false
  else if r<X then Gz s (X-r) e false
  else if X<r then Gz t (r-X) e false
  else (0,0)):=by
 simp only [Xc]
 by_cases hs:s=t
 ·rw [A1r hs,← hs]
  have hsum:Hv s p+Hv s q=Hv s (p+q):=by unfold Hv; cases s<;>simp<;>omega
  rw [hsum,plus.1,plus.2]
  by_cases h0:p+q=0
  ·rw [h0,R6,Qb]
   unfold Pz
   have:Hv s 0=0:=by unfold Hv; cases s<;>rfl
   rw [A1r this,A1a]
  ·exact Ti _ _ h0 _
 ·rw [A1q hs]
  by_cases h1:r<X
  ·obtain ⟨c1,c2,c3⟩:=less h1
   rw [A1r h1,c2,c3]
   have hsum:Hv s p+Hv t q=Hv s (p-q):=by
    unfold Hv; cases s<;>cases t<;>simp at hs ⊢<;>omega
   rw [hsum]
   exact Ti _ _ (by omega) _
  ·rw [A1q h1]
   by_cases h2:X<r
   ·obtain ⟨c1,c2,c3⟩:=more h2
    rw [A1r h2,c2,c3]
    have hsum:Hv s p+Hv t q=Hv t (q-p):=by
     unfold Hv; cases s<;>cases t<;>simp at hs ⊢<;>omega
    rw [hsum]
    exact Ti _ _ (by omega) _
   ·rw [A1q h2]
    have c:=same (by omega)
    have hsum:Hv s p+Hv t q=0:=by
     unfold Hv; cases s<;>cases t<;>simp at hs ⊢<;>omega
    have hz:(s&&t)=false:=by cases s<;>cases t<;>simp at hs ⊢
    rw [hsum,hz]
    rfl
theorem Arp {a b:Nat} (ha:Ku a=true) (hb:Ku b=true) :
 Lg a b=Pz (Bp (B0 a&&B0 b) 0) (Kh a (min (A9 a) (A9 b))+Kh b (min (A9 a) (A9 b))) (min (A9 a) (A9 b)):=by
 have k1:=Rl ha
 have k2:=Rl hb
 unfold Lg
 rw [A1q (fun h=>h.elim k1.1 k2.1),A1q k1.2,A1q k2.2]
theorem Ah5 (b:Nat):Kh b (A9 b)=Hv (B0 b) (Ay b):=by
 unfold Kh; rw [Int.sub_self,Int.toNat_zero,A12,A2d]
theorem An9 {b:Nat} {f:Int} {d:Nat} (h:A9 b=f+d):Kh b f=Hv (B0 b) (Ay b*2^d):=by
 unfold Kh
 have:(A9 b-f).toNat=d:=by omega
 rw [this]
theorem Ahs {a b:Nat} (ha:Ku a=true) (hb:Ku b=true) {d:Nat} (hd:A9 a=A9 b+d) :
 Lg a b=(if B0 a=B0 b then Gz (B0 a) (Ay a*2^9+Gd (Ay b*2^9) (min d 63)) (A9 a-9) false
  else if Gd (Ay b*2^9) (min d 63)<Ay a*2^9 then Gz (B0 a) (Ay a*2^9-Gd (Ay b*2^9) (min d 63)) (A9 a-9) false
  else if Ay a*2^9<Gd (Ay b*2^9) (min d 63) then Gz (B0 b) (Gd (Ay b*2^9) (min d 63)-Ay a*2^9) (A9 a-9) false
  else (0,0)):=by
 have hx:=E1 a
 have hy:=E1 b
 have C:=Aht (Mx:=Ay a) (My:=Ay b) hd hx hy (fun h=>Abw (by have:=Ey b; omega))
 rw [Arp ha hb,Int.min_eq_right (by omega),Ah5,An9 hd]
 exact Aue _ _ C.plus C.less C.more C.same
theorem Wl {b:Nat} (h:b<2^64):H4 b<2^64:=by unfold H4; split<;>omega
theorem Aje (m:Nat) (e:Int):flagsOf m e<32:=by
 unfold flagsOf flags
 split
 ·decide
 ·split
  ·decide
  ·split
   ·decide
   ·split<;>decide
theorem Vz {a b:Nat} (ha:a<2^64) (hb:b<2^64):(Lg a b).1<2^64∧(Lg a b).2<32:=by
 unfold Lg
 split
 ·exact ⟨by decide,by decide⟩
 ·split
  ·split
   ·decide
   ·exact ⟨ha,(by decide:0<32)⟩
  ·split
   ·exact ⟨hb,(by decide:0<32)⟩
   ·unfold Pz
    split
    ·refine ⟨?_,(by decide:0<32)⟩
     unfold Bp; split<;>decide
    ·exact ⟨Un _ _ _,Aje _ _⟩
end Go.Rnd
namespace Go.Rnd
open Go.Den
def Cx (r c:Nat) (f:Nat→Nat→Int):List Int:=(List.range (r*c)).map fun j=>f (j / c) (j%c)
theorem Ca (r c:Nat) (f:Nat→Nat→Int):(Cx r c f).length=r*c:=by unfold Cx; rw [A2a,A17]
theorem M6 {r c i k:Nat} (hi:i<r) (hk:k<c):i*c+k<r*c:=by
 have:(i+1)*c≤r*c:=A1g c hi
 rw [A18,Nat.one_mul] at this
 omega
theorem Wd {c i k:Nat} (hk:k<c):(i*c+k) / c=i∧(i*c+k)%c=k:=by
 constructor
 ·rw [A1s,Nat.mul_add_div (by omega),Nat.div_eq_of_lt hk,A2c]
 ·rw [A1s,Nat.mul_add_mod,A1h hk]
theorem Ik {r c:Nat} {f:Nat→Nat→Int} {j:Nat} (h:j<r*c):(Cx r c f)[j]?=some (f (j / c) (j%c)):=by
 unfold Cx
 rw [A2l,List.getElem?_range h]
 rfl
theorem Aqm {r c i k:Nat} {f:Nat→Nat→Int} (hi:i<r) (hk:k<c):(Cx r c f).getD (i*c+k) 0=f i k:=by
 obtain ⟨d1,d2⟩:=Wd (i:=i) hk
 rw [A1e,Ik (M6 hi hk),d1,d2]
 rfl
theorem Zn {l m:List Int} (h:l.length=m.length) (he:∀ j,j<l.length→l[j]?=m[j]?):l=m:=by
 refine List.ext_getElem? fun j=>?_
 by_cases hj:j<l.length
 ·exact he j hj
 ·rw [A2m (by omega),A2m (by omega)]
theorem D7 {r c:Nat} {f g:Nat→Nat→Int} (h:∀ i k,i<r→k<c→f i k=g i k):Cx r c f=Cx r c g:=by
 refine Zn (by rw [Ca,Ca]) fun j hj=>?_
 rw [Ca] at hj
 have hc:0<c:=by
  rcases Nat.eq_zero_or_pos c with h0 | h0
  ·subst h0; rw [Nat.mul_zero] at hj; omega
  ·exact h0
 rw [Ik hj,Ik hj,h (j / c) (j%c) ((Nat.div_lt_iff_lt_mul hc).2 hj) (Nat.mod_lt _ hc)]
theorem Am5 {r c:Nat} {l:List Int} (h:l.length=r*c):l=Cx r c fun i k=>l.getD (i*c+k) 0:=by
 refine Zn (by rw [Ca,h]) fun j hj=>?_
 rw [Ik (by omega)]
 have e:j / c*c+j%c=j:=by rw [A1s]; exact Nat.div_add_mod j c
 rw [e,A1e,A1l hj]
 rfl
theorem Vn {r c i k:Nat} {f:Nat→Nat→Int} (hk:k<c) (x:Int) :
 (Cx r c f).set (i*c+k) x=Cx r c fun a b=>if a=i∧b=k then x else f a b:=by
 refine Zn (by rw [List.length_set,Ca,Ca]) fun j hj=>?_
 rw [List.length_set,Ca] at hj
 obtain ⟨d1,d2⟩:=Wd (i:=i) hk
 rw [Ik hj,List.getElem?_set]
 by_cases h:i*c+k=j
 ·subst h
  rw [A1r rfl,A1r (by rw [Ca]; exact hj),d1,d2,A1r ⟨rfl,rfl⟩]
 ·rw [A1q h,Ik hj,A1q]
  rintro ⟨h1,h2⟩
  exact h (by rw [← h1,← h2,A1s]; exact Nat.div_add_mod j c)
theorem M8 (r c:Nat) (f:Nat→Nat→Int):Cx (r+1) c f=Cx r c f++(List.range c).map (f r):=by
 unfold Cx
 rw [A18,Nat.one_mul,List.range_add,List.map_append,List.map_map]
 congr 1
 refine List.map_congr_left fun k hk=>?_
 have hk:=List.mem_range.1 hk
 obtain ⟨d1,d2⟩:=Wd (i:=r) hk
 show f ((r*c+k) / c) ((r*c+k)%c)=f r k
 rw [d1,d2]
theorem M7 (c:Nat) (f:Nat→Nat→Int):Cx 0 c f=[]:=by
 unfold Cx; rw [Nat.zero_mul]; rfl
theorem Ih (k:Nat) (g:Nat→Int):(List.range (k+1)).map g=(List.range k).map g++[g k]:=by
 rw [List.range_succ,List.map_append]; rfl
theorem Tw (r c:Nat):Cx r c (fun _ _=>0)=List.replicate (r*c) 0:=by
 unfold Cx
 rw [List.map_const',A17]
def Aeh:Nat→List Int→List Int→Nat
 | s,x::xs,y::ys=>Aeh (Lg s (Nz x.toNat y.toNat).1).1 xs ys
 | s,_,_=>s
def Ms (x y:List Int):Int:=Aeh 0 x y
theorem Sb {a b:Nat}:(Nz a b).1<2^64:=by
 unfold Nz
 split
 ·decide
 ·split
  ·split
   ·decide
   ·unfold Bp; split<;>decide
  ·exact Un _ _ _
theorem Aeg:∀ (x y:List Int) (s:Nat),s<2^64→Aeh s x y<2^64
 | x::xs,y::ys,s,h=>Aeg xs ys _ (Vz h Sb).1
 | [],_,_,h=>by unfold Aeh; exact h
 | _::_,[],_,h=>by unfold Aeh; exact h
end Go.Rnd
namespace Go.Rnd
open Go.Den
def Bv (n:Int):Bool:=decide (0≤n)&&decide (n≤6)
def A0 (r c:Int) (l:List Int):Bool:=(Bv r&&Bv c)&&decide ((l.length:Int)=r*c)
def Le (r c:Int) (l:List Int):Int:=if A0 r c l=true then 0 else 1
def Yd (r c:Int) (l:List Int) (p q:Int) (m:List Int):Int:=if (A0 r c l&&A0 p q m)=true then 0 else 1
def Cj (_r c:Int) (l:List Int) (i k:Int):Bool:=Co (0≤i∧i<10∧0≤k∧k<10∧0≤c∧c<10∧i*c+k<l.length∧l.length<1000)
def D0 (c:Int) (l:List Int) (i k:Int):Int:=l.getD (i*c+k).toNat 0
def N0 (i k:Int):Int:=if i=k then 4607182418800017408 else 0
def V7 (x y i k:Int):Bool:=Co (0≤x∧x<10∧0≤y∧y<10∧0≤i∧i<10∧0≤k∧k<10)
def E7 (r c x y a b:Int):Bool:=decide (0≤x∧0≤y∧0≤a∧0≤b∧x≤r∧y≤c∧a≤r-x∧b≤c-y)
def Py (r c:Int) (l:List Int) (i:Int):Bool:=A0 r c l&&Co (0≤i∧i<r)
def Hi (r c:Int) (l:List Int) (k:Int):Bool:=A0 r c l&&Co (0≤k∧k<c)
def Tp (r c:Int) (l:List Int) (p q:Int) (m:List Int) (i k:Int):Bool:=(Py r c l i&&Hi p q m k)&&((Ag l&&Ag m)&&Co (c=p))
def Jr (c:Int) (l:List Int) (i:Int):List Int:=List.drop (i*c).toNat (List.take ((i+1)*c).toNat l)
def Pm (r c:Int) (l:List Int) (k:Int):List Int:=(List.range r.toNat).map fun j:Nat=>D0 c l (j:Int) k
abbrev MX:=Int × Int × List Int × Int
def Ga (e:Int):MX:=(0,0,[],e)
def Nr (n:Int):MX:=if Bv n=true then (n,n,Cx n.toNat n.toNat fun i k=>N0 i k,0) else Ga 3
def Ap (r c:Int) (l:List Int):MX:=if A0 r c l=true then (c,r,Cx c.toNat r.toNat fun i k=>D0 c l k i,0) else Ga 1
def Az (r c:Int) (l:List Int) (x y a b:Int):MX :=
 if A0 r c l=true then (if E7 r c x y a b=true then (a,b,Cx a.toNat b.toNat fun i k=>D0 c l (x+i) (y+k),0) else Ga 3) else Ga 1
def Fo (r c:Int) (l:List Int) (p q:Int) (m:List Int):MX :=
 if (A0 r c l&&A0 p q m)=true then (if c=p then (r,q,Cx r.toNat q.toNat fun i k=>Ms (Jr c l i) (Pm p q m k),0) else Ga 3) else Ga 1
def Ok (r c:Int) (l:List Int) (p q:Int) (m:List Int):MX :=
 if (A0 r c l&&A0 p q m)=true then (if r=p∧c=q then (r,c,Cx r.toNat c.toNat fun i k=>Dl (D0 c l i k) (D0 q m i k),0) else Ga 3) else Ga 1
def Pk (x y:List Int):Bool:=decide (x.length=y.length)&&decide (x.length≤64)
def Uv (x y:List Int):Bool:=decide (x=y)
def Ee (r c:Int) (l:List Int) (p q:Int) (m:List Int):Bool:=(decide (r=p)&&decide (c=q))&&decide (l=m)
def Gp (l:List Int):Bool:=Co (l.length≤17592186044416)
theorem Jp {n:Int}:Bv n=true↔0≤n∧n≤6:=by unfold Bv; simp
theorem J7 {r c:Int} {l:List Int}:A0 r c l=true↔(0≤r∧r≤6)∧(0≤c∧c≤6)∧(l.length:Int)=r*c:=by
 unfold A0
 rw [A1f,A1f,Jp,Jp,A1b,and_assoc]
theorem Ck {r c:Int} {l:List Int} (h:A0 r c l=true):∃ R C:Nat,r=R∧c=C∧R≤6∧C≤6∧l.length=R*C:=by
 obtain ⟨h1,h2,h3⟩:=J7.1 h
 refine ⟨r.toNat,c.toNat,by omega,by omega,by omega,by omega,?_⟩
 have:(((r.toNat*c.toNat:Nat)):Int)=r*c:=by rw [A1p,Int.toNat_of_nonneg h1.1,Int.toNat_of_nonneg h2.1]
 omega
theorem E9 {n:Int} (h:Bv n=true):∃ R:Nat,n=R∧R≤6:=by
 have:=Jp.1 h
 exact ⟨n.toNat,by omega,by omega⟩
theorem R0 {n:Nat} (h:n≤6):Bv (n:Int)=true:=Jp.2 ⟨by omega,by omega⟩
theorem Kj {r c:Nat} {l:List Int} (hr:r≤6) (hc:c≤6) (hl:l.length=r*c):A0 (r:Int) (c:Int) l=true :=
 J7.2 ⟨⟨by omega,by omega⟩,⟨by omega,by omega⟩,by rw [hl,A1p]⟩
theorem X8 (c:Nat) (l:List Int) (i k:Nat):D0 (c:Int) l (i:Int) (k:Int)=l.getD (i*c+k) 0:=by
 unfold D0
 have:((i:Int)*(c:Int)+(k:Int)).toNat=i*c+k:=by
  rw [← A1p,← Int.natCast_add,A06]
 rw [this]
theorem C3 {r c i k:Nat} {R:Int} {l:List Int} (hr:r≤6) (hc:c≤6) (hl:l.length=r*c) (hi:i<r) (hk:k<c):Cj R (c:Int) l (i:Int) (k:Int)=true:=by
 have:=M6 hi hk
 have h36:=A10 hr hc
 refine Au.2 ⟨by omega,by omega,by omega,by omega,by omega,by omega,?_,by omega⟩
 rw [← A1p]
 omega
theorem Ak1 {r c i k:Nat} {f:Nat→Nat→Int} (hi:i<r) (hk:k<c):D0 (c:Int) (Cx r c f) (i:Int) (k:Int)=f i k:=by
 rw [X8,Aqm hi hk]
theorem Ajb {r c:Nat} (f:Nat→Nat→Int) (hr:r≤6) (hc:c≤6):A0 (r:Int) (c:Int) (Cx r c f)=true:=Kj hr hc (Ca r c f)
theorem Ab9 {r c:Nat} {l:List Int} (h:l.length=r*c):(Cx r c fun i k=>D0 (c:Int) l (i:Int) (k:Int))=l:=by
 conv=>rhs; rw [Am5 h]
 exact D7 fun i k _ _=>X8 c l i k
theorem Qn {l:List Int} (h:Ag l=true) {j:Nat} (hj:j<l.length):Ak (l.getD j 0)=true:=by
 have h:=Au.1 h
 rw [A1e,A1l hj]
 exact h _ (List.getElem_mem hj)
end Go.Rnd
namespace Go.Rnd
theorem M3 {b:Nat} (h:b<2^64):Bp (B0 b) (b%2^63)=b:=by
 unfold Bp B0
 by_cases hb:2^63≤b
 ·simp only [hb,decide_true,if_true]; omega
 ·simp only [hb,decide_false,Bool.false_eq_true,if_false]; omega
theorem Ag6 {b:Nat} (h:b<2^64) (h4:Ao b≠4):Bp (B0 b) (Cv (Ay b) (A9 b))=b:=by
 rw [R7 h4,M3 h]
theorem Am9 {b:Nat} (h3:Ao b≠3) (h4:Ao b≠4):flagsOf (Ay b) (A9 b)=0:=by
 by_cases h0:Ay b=0
 ·rw [h0]; exact Qb _
 ·have h1:=E1 b
  have h2:=Ey b
  have h5:=Vk h3 h4
  exact (Ajg false h0 (Agv (by omega) h2.1) (by rw [R7 h4]; exact h5)).1
theorem mul_pow {a p:Nat} (a3:Ao a≠3) (a4:Ao a≠4) (p3:Ao p≠3) (p4:Ao p≠4) (hp:Ay p=2^52) (hn:B0 p=false) :
 Nz a p=(Bp (B0 a) (Cv (Ay a) (A9 a+A9 p+52)),flagsOf (Ay a) (A9 a+A9 p+52)):=by
 obtain ⟨s1,s2⟩:=Eo (Ay a) 52 (A9 a+A9 p+52)
 have e:A9 a+A9 p+52-((52:Nat):Int)=A9 a+A9 p:=by omega
 rw [e] at s1 s2
 have e2:(B0 a !=false)=B0 a:=by cases B0 a<;>rfl
 unfold Nz
 rw [A1q (by omega),A1q (by omega),hp,hn,s1,s2,e2]
theorem Apc:Ay 4607182418800017408=2^52∧A9 4607182418800017408=-52∧Ao 4607182418800017408=2∧B0 4607182418800017408=false:=by decide +kernel
theorem mul_one {a:Nat} (h:a<2^64) (a3:Ao a≠3) (a4:Ao a≠4):Nz a 4607182418800017408=(a,0):=by
 obtain ⟨o1,o2,o3,o4⟩:=Apc
 have e:A9 a+-52+52=A9 a:=by omega
 rw [mul_pow a3 a4 (by omega) (by omega) o1 o4,o2,e,Ag6 h a4,Am9 a3 a4]
end Go.Rnd
namespace Go.Rnd
def Tv (n:Nat):Nat:=Ieee.Datum.rootFrom n (n.log2 / 2+1) 0
theorem Asf (k:Nat):1 <<< k=2^k:=by rw [Nat.shiftLeft_eq,Nat.one_mul]
theorem V8 {n:Nat}:∀ (todo root:Nat),root*root≤n→n<(root+2^todo)*(root+2^todo) →
 Ieee.Datum.rootFrom n todo root*Ieee.Datum.rootFrom n todo root≤n∧n<(Ieee.Datum.rootFrom n todo root+1)*(Ieee.Datum.rootFrom n todo root+1)
 | 0,root,h1,h2=>⟨h1,h2⟩
 | todo+1,root,h1,h2=>by
   unfold Ieee.Datum.rootFrom
   simp only [Asf]
   have hp:2^(todo+1)=2^todo+2^todo:=by rw [Nat.pow_succ]; omega
   rw [hp] at h2
   by_cases h:(root+2^todo)*(root+2^todo)≤n
   ·rw [A1r h]
    exact V8 todo _ h (by rw [Nat.add_assoc]; exact h2)
   ·rw [A1q h]
    exact V8 todo _ h1 (by omega)
theorem Ri (n:Nat):Tv n*Tv n≤n∧n<(Tv n+1)*(Tv n+1):=by
 refine V8 _ _ (by simp) ?_
 rw [A2e,← A1t]
 rcases Nat.eq_zero_or_pos n with rfl | hn
 ·decide
 ·refine (A2k (by omega)).1 ?_
  omega
theorem Afk {a b:Nat} (h:a*a<b*b):a<b:=by
 rcases A11 a b with h1 | h1
 ·exact h1
 ·have:=A10 h1 h1; omega
theorem Zw {n w:Nat} (h1:w*w≤n) (h2:n<(w+1)*(w+1)):w=Tv n:=by
 obtain ⟨a,b⟩:=Ri n
 have c1:=Afk (A16 h1 b)
 have c2:=Afk (A16 a h2)
 omega
theorem Aqe {n w:Nat} (h:w*w≤n):w≤Tv n:=by
 have:=Afk (A16 h (Ri n).2)
 omega
def G0 (n:Nat):Nat:=2*Tv n+(if Tv n*Tv n=n then 0 else 1)
theorem V6 (a c:Nat):a*c*(a*c)=a*a*(c*c):=by
 rw [A1v,Nat.mul_left_comm c,← A1v a a]
theorem Abn {n:Nat} (d:Nat) (E:Int) (h:2^53≤Tv n) :
 Cv (G0 (n*(2^d*2^d))) (E-d)=Cv (G0 n) E∧flagsOf (G0 (n*(2^d*2^d))) (E-d)=flagsOf (G0 n) E:=by
 have hA:=Cw d
 obtain ⟨h1,h2⟩:=Ri n
 unfold G0
 generalize hw:Tv n=w at *
 generalize hc:2^d=c at *
 have hcc:0<c*c:=Nat.mul_pos hA hA
 by_cases h0:w*w=n
 ·have e1:Tv (n*(c*c))=w*c:=by
   refine (Zw ?_ ?_).symm
   ·rw [V6,h0]; exact A1y _
   ·have:=V6 w c
    rw [h0] at this
    rw [A18,Nat.mul_add,this]; omega
  rw [e1,V6,h0,A1r rfl,A1r rfl]
  have:=Eo (2*w+0) d E
  rw [hc,show (2*w+0)*c=2*(w*c)+0 by rw [A2c,A2c,A1v]] at this
  exact this
 ·rw [A1q h0]
  obtain ⟨g1,g2⟩:=Ri (n*(c*c))
  have q1:w*c≤Tv (n*(c*c)):=Aqe (by rw [V6]; exact A1g _ h1)
  have q2:Tv (n*(c*c))<(w+1)*c:=by
   refine Afk (A16 g1 ?_)
   rw [V6]
   exact (Nat.mul_lt_mul_right hcc).2 h2
  have q3:Tv (n*(c*c))=w*c→Tv (n*(c*c))*Tv (n*(c*c))≠n*(c*c):=fun h5 h6=>by
   rw [h5,V6] at h6
   exact h0 (Nat.eq_of_mul_eq_mul_right hcc h6)
  generalize hQ:Tv (n*(c*c))=Q at *
  have p1:(2*w+1-1)*c=2*(w*c):=by rw [Nat.add_sub_cancel,A1v]
  have p2:(2*w+1+1)*c=2*((w+1)*c):=by rw [show 2*w+1+1=2*(w+1) by omega,A1v]
  have od:(2*w+1)%2=1:=by omega
  generalize hV:2*Q+(if Q*Q=n*(c*c) then 0 else 1)=V
  have v1:(2*w+1-1)*2^d<V:=by
   rw [hc,p1,← hV]
   by_cases h5:Q=w*c
   ·rw [A1q (q3 h5)]; omega
   ·split<;>omega
  have v2:V<(2*w+1+1)*2^d:=by
   rw [hc,p2,← hV]
   split<;>omega
  have lV:=Re od (by omega) v1 v2
  have hs:54≤(2*w+1).log2:=by rw [Nat.le_log2 (by omega)]; omega
  have ee:E-(d:Int)+d=E:=by omega
  have:=Q5 (E:=E-d) od v1 v2 (by unfold Cs; rw [lV]; omega) (by unfold Cs; omega)
  rw [ee] at this
  exact this
theorem Ad9 {n t:Nat} (h:2^(t+t)≤n):2^t≤Tv n:=Aqe (by rw [← A1t]; exact h)
theorem pow_two (k d:Nat):2^(k+2*d)=2^k*(2^d*2^d):=by rw [A1t,Nat.two_mul,A1t]
theorem Abo {m k l:Nat} {E F:Int} (h1:2^106≤m*2^k) (h2:2^106≤m*2^l) (he:2*E+k=2*F+l) :
 Cv (G0 (m*2^k)) E=Cv (G0 (m*2^l)) F∧flagsOf (G0 (m*2^k)) E=flagsOf (G0 (m*2^l)) F:=by
 rcases Nat.le_total k l with h | h
 ·obtain ⟨d,rfl⟩:∃ d,l=k+2*d:=⟨(l-k) / 2,by omega⟩
  have:=Abn (n:=m*2^k) d E (Ad9 (t:=53) h1)
  rw [A1v,← pow_two,show E-(d:Int)=F by omega] at this
  exact ⟨this.1.symm,this.2.symm⟩
 ·obtain ⟨d,rfl⟩:∃ d,k=l+2*d:=⟨(k-l) / 2,by omega⟩
  have:=Abn (n:=m*2^l) d F (Ad9 (t:=53) h2)
  rw [A1v,← pow_two,show F-(d:Int)=E by omega] at this
  exact this
def Mf (b:Nat):Nat:=128+(A9 b%2).toNat
def Oz (b:Nat):Nat × Nat :=
 if Ao b=4 then (Qw,0)
 else if Ao b=0∨b=Eh then (b,0)
 else if B0 b=true then (Qw,16)
 else (Cv (G0 (Ay b*2^Mf b)) ((A9 b-Mf b) / 2-1),flagsOf (G0 (Ay b*2^Mf b)) ((A9 b-Mf b) / 2-1))
theorem H3 {b:Nat} (h3:Ao b≠3) (h4:Ao b≠4):Ay b=0↔Ao b=0:=by
 have:=Ks b
 have:=Jx b
 unfold Ay
 unfold Ao at *
 split at h3<;>split<;>(try split)<;>(try split)<;>simp_all<;>omega
theorem Ym {b:Nat} (h:Ao b=4):Oz b=(Qw,0):=A1r h
theorem Oy {b:Nat} (h4:Ao b≠4) (h:Ao b=0∨b=Eh):Oz b=(b,0):=by unfold Oz; rw [A1q h4,A1r h]
theorem Ul {b:Nat} (h4:Ao b≠4) (h:¬ (Ao b=0∨b=Eh)) (hn:B0 b=true):Oz b=(Qw,16):=by unfold Oz; rw [A1q h4,A1q h,A1r hn]
theorem Afj {b:Nat} (h4:Ao b≠4) (h:¬ (Ao b=0∨b=Eh)) (hn:B0 b=false) :
 Oz b=(Cv (G0 (Ay b*2^Mf b)) ((A9 b-Mf b) / 2-1),flagsOf (G0 (Ay b*2^Mf b)) ((A9 b-Mf b) / 2-1)):=by
 unfold Oz; rw [A1q h4,A1q h,A1q (by rw [hn]; decide)]
theorem Atn:B0 Eh=false:=by decide
theorem Aqh:Ao Eh=3:=by decide
theorem Lf:D8 Eh=Eh:=by decide
theorem Anp {d:Nat} (h:Ao d=4):D8 d=Qw:=A1r h
theorem Afi (b d:Nat) (x:Ieee.Datum) (h:Ieee.double.read b=x):(Ieee.double.sqrt b).getD d=((x.root 54).map Ieee.double.write).getD d:=by
 rw [← h]; rfl
theorem Um (r:Nat):Bp false r=r:=rfl
def Pb (m:Nat) (i:Int):Nat:=2*54-m.log2+((i-((2*54-m.log2:Nat):Int))%2).toNat
theorem Ao1 {m:Nat} {i:Int} (h:m≠0):(Ieee.Datum.number false m i).root 54=some (.number false (2*Ieee.Datum.rootFrom (m <<< Pb m i) ((m <<< Pb m i).log2 / 2+1) 0+(Ieee.Datum.rootFrom (m <<< Pb m i) ((m <<< Pb m i).log2 / 2+1) 0*Ieee.Datum.rootFrom (m <<< Pb m i) ((m <<< Pb m i).log2 / 2+1) 0 !=m <<< Pb m i).toNat) ((i-Pb m i) / 2-1)):=by
 unfold Ieee.Datum.root Pb
 dsimp only
 rw [A1q h,A1q (by decide)]
theorem Avn {m:Nat} {i:Int} {d:Nat} (h:m≠0) (hlog:m.log2≤52) (r:Int) (k:Nat) (hk:2^106≤m*2^k) (hr:2*r+k=i-2) :
 D8 ((((Ieee.Datum.number false m i).root 54).map Ieee.double.write).getD d)=Cv (G0 (m*2^k)) r:=by
 have hpow:2^m.log2≤m:=Nat.log2_self_le h
 have hmo:108≤m.log2+Pb m i∧(i-Pb m i)%2=0:=by unfold Pb; omega
 rw [Ao1 h,Option.map_some,A2o,Mv,G8 _ (Lj _ _),Um]
 generalize Pb m i=more at *
 have g1:2^106≤m*2^more:=by
  have:2^108≤2^(m.log2+more):=A1j (by decide) hmo.1
  rw [A1t] at this
  have h5:=A1g (2^more) hpow
  omega
 have pe2:2*((i-(more:Int)) / 2-1)+more=i-2:=by omega
 rw [← (Abo g1 hk (E:=(i-(more:Int)) / 2-1) (F:=r) (by omega)).1,Nat.shiftLeft_eq]
 have e:∀ w:Nat,2*w+(w*w !=m*2^more).toNat=2*w+(if w*w=m*2^more then 0 else 1):=fun w=>by
  by_cases hww:w*w=m*2^more
  ·rw [A1r hww,hww]; simp
  ·rw [A1q hww]
   have:(w*w !=m*2^more)=true:=by simpa using hww
   rw [this]; rfl
 rw [e]
 unfold G0 Tv
 rfl
theorem Afu {b:Nat} (hm:Ay b≠0):2^106≤Ay b*2^Mf b∧2*((A9 b-(Mf b:Int)) / 2-1)+Mf b=A9 b-2:=by
 refine ⟨?_,by unfold Mf; omega⟩
 have:2^128≤2^Mf b:=A1j (by decide) (by unfold Mf; omega)
 have h5:=A10 (show 1≤Ay b by omega) this
 omega
theorem Agg {b:Nat} (hm:Ay b≠0):(Ay b).log2≤52:=by
 have:=(A2k hm).2 (show Ay b<2^53 from E1 b)
 omega
theorem Ao2 (s:Bool) (f:Nat):(Ieee.Datum.nan s f).root 54=none:=rfl
theorem Al6:(Ieee.Datum.infinity true).root 54=none:=rfl
theorem Al7:(Ieee.Datum.infinity false).root 54=some (.infinity false):=rfl
theorem Al5 (s:Bool) (i:Int):(Ieee.Datum.number s 0 i).root 54=some (.number s 0 i):=rfl
theorem Aij {m:Nat} (i:Int) (h:m≠0):(Ieee.Datum.number true m i).root 54=none:=by
 unfold Ieee.Datum.root
 dsimp only
 rw [A1q h,A1r rfl]
theorem T4 {d:Nat} (hd:Ao d=4):D8 ((Option.map Ieee.double.write none).getD d)=Qw:=Anp hd
theorem Al8 {b:Nat} (hb:b<2^64) {d:Nat} (hd:Ao d=4):D8 ((Ieee.double.sqrt b).getD d)=(Oz b).1:=by
 rw [Afi b d _ (Jb hb)]
 by_cases h4:Ao b=4
 ·rw [Ym h4,Hf h4,Ao2,T4 hd]
 by_cases h3:Ao b=3
 ·rw [Ev h3]
  have hw:=N2 hb h3
  cases hn:B0 b with
  | true =>
    have hne:¬ (Ao b=0∨b=Eh):=by
     intro h
     rcases h with h | h
     ·omega
     ·rw [h,Atn] at hn; cases hn
    rw [Ul h4 hne hn,Al6,T4 hd]
  | false =>
    rw [hn,Um] at hw
    rw [Oy h4 (.inr hw.symm),Al7,Option.map_some,A2o,All,Um,Lf]
    exact hw
 rw [Eu h3 h4]
 have hz:=H3 h3 h4
 by_cases h0:Ao b=0
 ·have hm:=hz.2 h0
  have:=Ag6 hb h4
  rw [hm] at this
  rw [Oy h4 (.inl h0),hm,Al5,Option.map_some,A2o,Mv,G8 _ (Lj _ _),this]
 have hi:¬ (Ao b=0∨b=Eh):=by
  intro h
  rcases h with h | h
  ·exact h0 h
  ·rw [h,Aqh] at h3; exact h3 rfl
 have hm:Ay b≠0:=fun h=>h0 (hz.1 h)
 cases hn:B0 b with
 | true=>rw [Ul h4 hi hn,Aij _ hm,T4 hd]
 | false =>
   obtain ⟨k1,k2⟩:=Afu hm
   rw [Afj h4 hi hn,Avn hm (Agg hm) _ _ k1 k2]
end Go.Rnd
namespace Go.Rnd
def G1 (b:Nat) (n:Int):Nat × Nat :=
 if Ao b=4 then (Qw,0)
 else if Ao b=3∨Ao b=0 then (b,0)
 else (Bp (B0 b) (Cv (Ay b) (A9 b+n)),flagsOf (Ay b) (A9 b+n))
theorem Alv {V:Nat} {E:Int} (h0:V≠0) (h:E+V.log2+1≤-1075):Cv V E=0∧flagsOf V E=3:=by
 have hl:Cs V E=-1074:=by unfold Cs; omega
 obtain ⟨k,hk⟩:∃ k:Nat,(-1074:Int)-E=((k:Nat):Int):=⟨(-1074-E).toNat,by omega⟩
 have hV:V<2^(V.log2+1):=(A2k h0).1 (by omega)
 have hp:2^(V.log2+1)*2≤2^k:=by rw [← Nat.pow_succ]; exact A1j (by decide) (by omega)
 have e1:V*2^(-((-1074:Int)-E)).toNat=V:=by rw [hk]; simp
 have e2:((-1074:Int)-E).toNat=k:=by rw [hk]; rfl
 have hk2:kept V E=0:=by
  unfold kept Kk
  rw [hl,e1,e2]
  unfold Nh
  rw [Nat.div_eq_of_lt (by omega),A1h (by omega),A1q (by omega)]
 have hx:exact V E=false:=by
  unfold exact Nb
  rw [hl,e1,e2,A1h (by omega)]
  exact A09 h0
 have hr:Cv V E=0:=by
  unfold Cv
  rw [A1q h0,hl,hk2]
  rfl
 refine ⟨hr,?_⟩
 unfold flagsOf
 rw [A1q h0,hr,hx]
 rfl
theorem Amm (n:Bool) {m:Nat} {e:Int} {more:Bool} (hm:m<2^53) (h0:m≠0∨more=true) (he:e≤-1130) :
 Gz n m e more=(Bp n 0,3):=by
 have h1:more.toNat≤1:=by cases more<;>decide
 have hV:4*m+more.toNat≠0:=by
  rcases h0 with h | h
  ·omega
  ·rw [h]; simp
 have hl:(4*m+more.toNat).log2≤54:=by
  have:=(A2k hV).2 (show 4*m+more.toNat<2^55 by omega); omega
 have:=Alv hV (E:=e-2) (by omega)
 unfold Gz
 rw [this.1,this.2]
theorem Apl (n:Bool):Gz n 0 (-1074) true=(Bp n 0,3):=by
 cases n<;>decide +kernel
theorem Aie {b:Nat} {n:Int} (h4:Ao b≠4) (h:¬ (Ao b=3∨Ao b=0)) (hn:A9 b+n≤-1130):G1 b n=(Bp (B0 b) 0,3):=by
 have hm:Ay b≠0:=fun h5=>h (.inr ((H3 (by omega) h4).1 h5))
 have:=Alv hm (E:=A9 b+n) (by have:=Agg hm; omega)
 unfold G1
 rw [A1q h4,A1q h,this.1,this.2]
theorem Alz {b:Nat} {n:Int} (h4:Ao b≠4) (h:¬ (Ao b=3∨Ao b=0)):G1 b n=(Bp (B0 b) (Cv (Ay b) (A9 b+n)),flagsOf (Ay b) (A9 b+n)):=by
 unfold G1; rw [A1q h4,A1q h]
def Ane (b:Nat):Int:=if Ku b=true∧Ao b≠0 then ((Ay b).log2:Int)+A9 b else 0
def Hj (b:Nat):Nat:=b%2^63
def Af6 (a b:Nat):Int:=if Ao a=4∨Ao b=4 then 0 else if Im a<Im b then -1 else if Im b<Im a then 1 else 0
def Aa4 (a b:Nat):Bool:=!(decide (Ao a=4∨Ao b=4))
def Aiz (a b:Nat):Nat:=if Aa4 a b=true then (if Af6 a b<0 then b else a) else Qw
end Go.Rnd
namespace Go.Rnd
open Go.Den
def Abq (b:Int):Int:=Im b.toNat
def Tn (a b:Int):Int:=Af6 a.toNat b.toNat
def Aby (a b:Int):Bool:=Aa4 a.toNat b.toNat
def Jt (x:Int):Int:=Hj x.toNat
def Pc (a b:Int):Int:=Aiz a.toNat b.toNat
def B3 (x n:Int):Int:=(G1 x.toNat n).1
def Asi (x n:Int):Int:=(G1 x.toNat n).2
def Ds (x n:Int):Bool:=Ak x&&Co (-2300≤n∧n≤2300)
def Bz (x:Int):Int:=Ane x.toNat
def Aao:List Int→Nat→Nat
 | [],m=>m
 | x::l,m=>if Ao x.toNat=4 then Qw else Aao l (max m (Hj x.toNat))
def Bl (l:List Int):Int:=Aao l 0
def Dj (l:List Int):Bool:=l.all Dg
def B4 (r c:Int) (l:List Int):Int:=if A0 r c l=true then (if Dj l=true then 0 else 4) else 1
def As4 (c:Int) (l:List Int) (n:Nat):Bool:=(List.range n).any fun i:Nat=>decide (Bk (D0 c l (i:Int) (i:Int))=0)
def Ld (r c:Int) (l:List Int) (p q:Int) (m:List Int):Int :=
 if B4 r c l≠0 then B4 r c l else if B4 p q m≠0 then B4 p q m
 else if r≠c∨r≠p then 3 else if As4 c l r.toNat=true then 5 else 0
def Ob (c:Int) (l:List Int) (i:Int):Int→Int→List Int→Int
 | s,_,[]=>s
 | s,j,x::xs=>Ob c l i (Dl s (D5 (D0 c l i j) x)) (j+1) xs
def upL (c:Int) (l:List Int) (b:Nat→Int) (n:Nat):Nat→List Int
 | 0=>[]
 | k+1=>Ez (Ob c l ((n-1-k:Nat):Int) (b (n-1-k)) ((n-k:Nat):Int) (upL c l b n k)) (D0 c l ((n-1-k:Nat):Int) ((n-1-k:Nat):Int))::upL c l b n k
def loL (c:Int) (l:List Int) (b:Nat→Int):Nat→List Int
 | 0=>[]
 | k+1=>loL c l b k++[Ez (Ob c l (k:Int) (b k) 0 (loL c l b k)) (D0 c l (k:Int) (k:Int))]
def upG (c:Int) (l:List Int) (q:Int) (m:List Int) (n w:Nat):List Int:=Cx n w fun i j=>(upL c l (fun i=>D0 q m (i:Int) (j:Int)) n n).getD i 0
def loG (c:Int) (l:List Int) (q:Int) (m:List Int) (n w:Nat):List Int:=Cx n w fun i j=>(loL c l (fun i=>D0 q m (i:Int) (j:Int)) n).getD i 0
def Gx (r c:Int) (l:List Int):MX:=if Dj l=true then (r,c,l,0) else Ga 2
def Sz (r c:Int) (l:List Int) (p q:Int) (m:List Int):MX :=
 if Ld r c l p q m≠0 then Ga (Ld r c l p q m) else Gx r q (upG c l q m r.toNat q.toNat)
def Ud (r c:Int) (l:List Int) (p q:Int) (m:List Int):MX :=
 if Ld r c l p q m≠0 then Ga (Ld r c l p q m) else Gx r q (loG c l q m r.toNat q.toNat)
def K4 (c:Int) (l:List Int) (n:Nat):List Int:=(List.range n).map fun i:Nat=>Jt (D0 c l (i:Int) (i:Int))
def Aqo (d:List Int):Bool:=d.any fun x=>!(decide (Tn (B3 (Bl d) (-40)) x<0))
def Wq (r c:Int) (l:List Int):Bool:=Aqo (K4 c l (min r.toNat c.toNat))
def Jv (r c:Int) (l:List Int):Bool × Int:=if B4 r c l≠0 then (false,B4 r c l) else (Wq r c l,0)
def Q1 (r c:Int) (l:List Int) (p q:Int) (m:List Int):Bool:=(A0 r c l&&A0 p q m)&&((Ag l&&Ag m)&&Co (r=c∧r=p))
def Jg (n:Nat):List Int:=Cx n n fun i k=>N0 (i:Int) (k:Int)
def E8 (r c:Int) (l:List Int) (p q:Int) (m:List Int):MX :=
 if (Ap r c l).2.2.2≠0 then Ga (Ap r c l).2.2.2 else Fo (Ap r c l).1 (Ap r c l).2.1 (Ap r c l).2.2.1 p q m
end Go.Rnd
namespace Go.Rnd
open Go.Den
theorem At0 {a b:Nat}:(Aek a b).1<2^64:=by
 have h1:Eh<2^63:=by decide
 have hs:∀ (s:Bool) {r:Nat},r<2^63→Bp s r<2^64:=by
  intro s r h
  unfold Bp
  cases s
  ·rw [A1q (by decide)]; omega
  ·rw [A1r rfl]; omega
 have hN:Qw<2^64:=by decide
 unfold Aek
 by_cases c1:Ao a=4∨Ao b=4
 ·rw [A1r c1]; exact hN
 rw [A1q c1]
 by_cases c2:Ao a=Ao b∧(Ao a=3∨Ao a=0)
 ·rw [A1r c2]; exact hN
 rw [A1q c2]
 by_cases c3:Ao a=3
 ·rw [A1r c3]; exact hs _ h1
 rw [A1q c3]
 by_cases c4:Ao b=3∨Ao a=0
 ·rw [A1r c4]; exact hs _ (by decide)
 rw [A1q c4]
 by_cases c5:Ao b=0
 ·rw [A1r c5]; exact hs _ h1
 rw [A1q c5]
 exact hs _ (Xw _ _)
theorem Aej (a b:Int):Ak (Ez a b)=true:=Ce At0
theorem K5 {a b:Int} (ha:Ak a=true) (hb:Ak b=true):Ak (Dl a b)=true:=by
 obtain ⟨x,rfl,hx⟩:=Bo ha
 obtain ⟨y,rfl,hy⟩:=Bo hb
 exact Ce (Vz (by rw [A06]; exact hx) (Wl (by rw [A06]; exact hy))).1
theorem Ia {r c:Nat} {f:Nat→Nat→Int} (h:∀ i k,Ak (f i k)=true):Ag (Cx r c f)=true:=Au.2 fun x hx=>by
 obtain ⟨j,_,rfl⟩:=List.mem_map.1 hx
 exact h _ _
theorem Il (a b:Int):Ak (D5 a b)=true:=Ce Sb
theorem Nc (c:Int) (l:List Int) (b:Nat→Int) (n:Nat):∀ k,(upL c l b n k).length=k
 | 0=>rfl
 | k+1=>by rw [upL,List.length_cons,Nc c l b n k]
theorem Ah6 (c:Int) (l:List Int) (b:Nat→Int) (n:Nat):∀ k,∀ x∈upL c l b n k,Ak x=true
 | 0,x,h=>by cases h
 | k+1,x,h=>by
   rw [upL] at h
   rcases List.mem_cons.1 h with rfl | h
   ·exact Aej _ _
   ·exact Ah6 c l b n k x h
theorem Ae7 (c:Int) (l:List Int) (b:Nat→Int) (n k:Nat):∀ d,(upL c l b n (k+d)).drop d=upL c l b n k
 | 0=>rfl
 | d+1=>by
   rw [← Nat.add_assoc,upL,List.drop_succ_cons]
   exact Ae7 c l b n k d
theorem Ae6 {c:Int} {l:List Int} {b:Nat→Int} {n k:Nat} (h:k≤n):(upL c l b n n).drop (n-k)=upL c l b n k:=by
 have:=Ae7 c l b n k (n-k)
 rw [Nat.add_sub_cancel' h] at this
 exact this
theorem Aj7 {c:Int} {l:List Int} {b:Nat→Int} {n i:Nat} (h:i<n) :
 (upL c l b n n).getD i 0=Ez (Ob c l (i:Int) (b i) ((i+1:Nat):Int) ((upL c l b n n).drop (i+1))) (D0 c l (i:Int) (i:Int)):=by
 have e1:=Ae6 (c:=c) (l:=l) (b:=b) (n:=n) (k:=n-i) (by omega)
 have e2:=Ae6 (c:=c) (l:=l) (b:=b) (n:=n) (k:=n-i-1) (by omega)
 rw [show n-(n-i)=i by omega] at e1
 rw [show n-(n-i-1)=i+1 by omega] at e2
 rw [e2]
 have e3:(upL c l b n n).getD i 0=((upL c l b n n).drop i).getD 0 0:=by
  rw [A1e,A1e,List.getElem?_drop,A2c]
 rw [e3,e1,show n-i=(n-i-1)+1 by omega,upL]
 have e4:n-1-(n-i-1)=i:=by omega
 have e5:n-(n-i-1)=i+1:=by omega
 rw [e4,e5]
 rfl
theorem Vo {l:List Int} (h:∀ x∈l,Ak x=true) (i:Nat):Ak (l.getD i 0)=true:=by
 rw [A1e]
 cases hi:l[i]? with
 | none=>exact Ce (n:=0) (by decide)
 | some x=>exact h x (List.mem_of_getElem? hi)
theorem Wo {c:Int} {l:List Int} {i s j:Int} {xs:List Int} {t:Nat} (h:t<xs.length):Ob c l i s j (xs.drop t)=Ob c l i (Dl s (D5 (D0 c l i j) (xs.getD t 0))) (j+1) (xs.drop (t+1)):=by
 rw [List.drop_eq_getElem_cons h,Ob,A1e,A1l h]; rfl
theorem J2 (c:Int) (l:List Int) (b:Nat→Int):∀ k,(loL c l b k).length=k
 | 0=>rfl
 | k+1=>by rw [loL,A1w,J2 c l b k]; rfl
theorem Ai3 (c:Int) (l:List Int) (b:Nat→Int):∀ k,∀ x∈loL c l b k,Ak x=true
 | 0,x,h=>by cases h
 | k+1,x,h=>by
   rw [loL] at h
   rcases List.mem_append.1 h with h | h
   ·exact Ai3 c l b k x h
   ·rw [List.mem_singleton.1 h]; exact Aej _ _
theorem Agn {c:Int} {l:List Int} {b:Nat→Int} {k:Nat}:∀ d,(loL c l b (k+d)).take k=loL c l b k
 | 0=>by rw [A2c]; exact List.take_of_length_le (by rw [J2]; omega)
 | d+1=>by
   rw [← Nat.add_assoc,loL,List.take_append_of_le_length (by rw [J2]; omega)]
   exact Agn d
theorem Ago {c:Int} {l:List Int} {b:Nat→Int} {n k:Nat} (h:k≤n):(loL c l b n).take k=loL c l b k:=by
 have:=Agn (c:=c) (l:=l) (b:=b) (k:=k) (n-k)
 rw [Nat.add_sub_cancel' h] at this
 exact this
theorem Atf {c:Int} {l:List Int} {b:Nat→Int} {n i:Nat} (h:i<n) :
 (loL c l b n).getD i 0=Ez (Ob c l (i:Int) (b i) 0 ((loL c l b n).take i)) (D0 c l (i:Int) (i:Int)):=by
 have e1:=Ago (c:=c) (l:=l) (b:=b) (n:=n) (k:=i+1) (by omega)
 have e2:=Ago (c:=c) (l:=l) (b:=b) (n:=n) (k:=i) (by omega)
 have e3:(loL c l b n).getD i 0=((loL c l b n).take (i+1)).getD i 0:=by
  rw [A1e,A1e,List.getElem?_take_of_lt (by omega)]
 rw [e3,e1,e2,loL,A1e,A2i (by rw [J2]; omega),J2,Nat.sub_self]
 rfl
end Go.Rnd
namespace Go.Rnd
open Go.Den
def Avt:Int:=4607182418800017408
def Gc (x:Int):Int:=(Oz x.toNat).1
def Q3 (x:Int):Int:=(Oz x.toNat).2
def Afh (k:Int):Int→List Int→Int
 | s,[]=>s
 | s,x::l=>Afh k (Kd s (D5 (B3 x k) (B3 x k))) l
def Dz (x:List Int):Int :=
 if Bl x=0∨Dg (Bl x)=false then Bl x else B3 (Gc (Afh (-Bz (Bl x)) 0 x)) (Bz (Bl x))
def En (l:List Int):Bool:=l.all fun x=>decide (Bk x=0)
def Pf:List Int→Int
 | []=>0
 | x::l=>if Bk x=0 then Pf l else x
def Bs (l:List Int) (k:Int):List Int:=l.map fun x=>B3 x k
def Jq (n:Nat) (f:Nat→Int):List Int:=Avt::(List.range (n-1)).map fun j=>f (j+1)
def muI (x:List Int):Int:=if D4 (Pf x)=true then Dz (Bs x (-Bz (Bl x))) else Dk (Dz (Bs x (-Bz (Bl x))))
def Fh (x:List Int):Int:=B3 (muI x) (Bz (Bl x))
def Aqq (x:List Int):Int:=B3 (x.getD 0 0) (-Bz (Bl x))
def Sv (x:List Int):List Int:=Jq x.length fun j=>Ez (B3 (x.getD j 0) (-Bz (Bl x))) (Dl (Aqq x) (muI x))
def Tq (x:List Int):Int:=Ez (Dl (muI x) (Aqq x)) (muI x)
def J0 (x:List Int):List Int × Int × Int × Int :=
 if En (x.drop 1)=true then (Jq x.length fun _=>0,0,x.getD 0 0,0)
 else if Dg (Fh x)=true then (Sv x,Tq x,Fh x,0) else ([],0,0,2)
def Cr (x:List Int):List Int × Int × Int × Int :=
 if x.length=0∨64<x.length then ([],0,0,3) else if Dj x=true then J0 x else ([],0,0,4)
def C0 (c:Int) (l:List Int) (b i:Int) (n:Nat):List Int:=(List.range n).map fun j:Nat=>D0 c l (i+(j:Int)) b
def T6 (c:Int) (l:List Int) (i:Int) (v:List Int) (t b:Int):Int:=D5 t (Ms v (C0 c l b i v.length))
def Qj (c:Int) (l:List Int) (i k:Int) (v:List Int) (t a b:Int):Int :=
 if k≤b∧i≤a∧a<i+v.length then Dl (D0 c l a b) (D5 (T6 c l i v t b) (v.getD (a-i).toNat 0)) else D0 c l a b
def Fk (r c:Nat) (l:List Int) (i k:Int) (v:List Int) (t:Int):List Int:=Cx r c fun a b=>Qj (c:Int) l i k v t (a:Int) (b:Int)
def Ic (r c i k:Int) (v:List Int):Bool:=decide (0≤i∧(v.length:Int)≤r∧i≤r-v.length∧0≤k∧k≤c)
def Nt (r c:Nat) (l:List Int) (j:Nat) (x:Int):List Int:=Cx r c fun a b=>if b=j∧j≤a then (if a=j then x else 0) else D0 (c:Int) l (a:Int) (b:Int)
def Fg (r c:Nat) (l:List Int) (j:Nat):List Int:=C0 (c:Int) l (j:Int) (j:Int) (r-j)
def Zg (r c:Nat) (l:List Int) (j:Nat):List Int:=Nt r c (Fk r c l (j:Int) (j:Int) (Cr (Fg r c l j)).1 (Cr (Fg r c l j)).2.1) j (Cr (Fg r c l j)).2.2.1
def Ns (r c:Nat):Nat→Nat→List Int→Option (List Int × List (List Int × Int))
 | 0,_,l=>some (l,[])
 | n+1,j,l=>if (Cr (Fg r c l j)).2.2.2=0 then
  (Ns r c n (j+1) (Zg r c l j)).map fun x=>(x.1,((Cr (Fg r c l j)).1,(Cr (Fg r c l j)).2.1)::x.2) else none
def It (r c:Nat):Nat:=min c (r-1)
def H0 (n:Nat):Nat→List (List Int × Int)→List Int→List Int
 | _,[],q=>q
 | j,m::ms,q=>Fk n n (H0 n (j+1) ms q) (j:Int) 0 m.1 m.2
def Kv (r c:Nat) (l:List Int):Option (List Int × List (List Int × Int)):=Ns r c (It r c) 0 l
def Ty (r c:Nat) (l:List Int):List Int:=match Kv r c l with
 | some x=>H0 r 0 x.2 (Jg r)
 | none=>[]
def Qd (r c:Nat) (l:List Int):List Int:=match Kv r c l with
 | some x=>x.1
 | none=>[]
def Gk (r c:Int) (l:List Int):MX:=if (Kv r.toNat c.toNat l).isSome=true then (r,c,Qd r.toNat c.toNat l,0) else Ga 2
def Zf (ms:List (List Int × Int)):List (List DV):=ms.map fun m=>[.ints .arg .u64 m.1,.int .u64 m.2]
def Lb (r c:Int) (l:List Int):List (List DV):=match Kv r.toNat c.toNat l with
 | some x=>Zf x.2
 | none=>[]
def Ve (m:Int):Int:=Tv (m.toNat*2^64)
def Vf (m:Int):Bool:=decide (Tv (m.toNat*2^64)*Tv (m.toNat*2^64)=m.toNat*2^64)
def Qr:List Int→Int→Int
 | [],_=>0
 | x::l,i=>if Bk x=0 then Qr l (i+1) else i
def Nq (r c:Nat) (l:List Int):Bool:=(Kv r c l).isSome&&(Dj (Ty r c l)&&Dj (Qd r c l))
def Gs (r c:Int) (l:List Int):Int:=if B4 r c l≠0 then B4 r c l else if Nq r.toNat c.toNat l=true then 0 else 2
def qX (r c:Int) (l:List Int):MX:=if Gs r c l≠0 then Ga (Gs r c l) else (r,r,Ty r.toNat c.toNat l,0)
def rX (r c:Int) (l:List Int):MX:=if Gs r c l≠0 then Ga (Gs r c l) else (r,c,Qd r.toNat c.toNat l,0)
def T7 (x:Nat):Bool:=Co (x<2^64)
def Ag8 (x:Nat):Bool:=Co (x<2^64∧Ao x≠3∧Ao x≠4)
def I4 (x:Nat) (k:Int):Nat:=if Ao x=4 then x else (G1 x k).1
def Mm (x:Nat):Nat:=if Hj x<4503599627370496 then (Nz x 4841369599423283200).1 else x
def Je (x:Nat):Int:=if Hj x<4503599627370496 then -52 else 0
def Rm (b:Int):Int:=if Dg b=true then 0 else if D4 b=true then -1 else 1
end Go.Rnd
namespace Go.Rnd
open Go.Den
def mulM (x y:MX):MX:=Fo x.1 x.2.1 x.2.2.1 y.1 y.2.1 y.2.2.1
def Gg (x:MX):MX:=Ap x.1 x.2.1 x.2.2.1
def Jz (x:MX) (i k a b:Int):MX:=Az x.1 x.2.1 x.2.2.1 i k a b
def Ag9 (r c:Int) (l:List Int) (e:Int):MX:=if e≠0 then Ga e else if B4 r c l≠0 then Ga 2 else (r,c,l,0)
def Z5 (x:MX):MX:=Ag9 x.1 x.2.1 x.2.2.1 x.2.2.2
def eqT (p q:Int) (m:List Int):List Int:=(Ap p q m).2.2.1
def eqR (p q:Int) (m:List Int):MX:=rX q p (eqT p q m)
def eqS (p q:Int) (m:List Int):MX:=Gg (Jz (eqR p q m) 0 0 p p)
def hY (p q:Int) (m:List Int) (u v:Int) (h:List Int):MX :=
 if Gs q p (eqT p q m)≠0 then Ga (Gs q p (eqT p q m)) else if (Jv (eqS p q m).1 (eqS p q m).2.1 (eqS p q m).2.2.1).1=true then Ga 5
 else Ud (eqS p q m).1 (eqS p q m).2.1 (eqS p q m).2.2.1 u v h
def hQ (p q:Int) (m:List Int):MX :=
 if Gs q p (eqT p q m)≠0 then Ga (Gs q p (eqT p q m)) else if (Jv (eqS p q m).1 (eqS p q m).2.1 (eqS p q m).2.2.1).1=true then Ga 5
 else qX q p (eqT p q m)
end Go.Rnd
end
