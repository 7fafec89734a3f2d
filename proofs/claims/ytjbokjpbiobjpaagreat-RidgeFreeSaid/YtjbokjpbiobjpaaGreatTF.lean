/- A verified evaluator of the program's form and its use for this seat: S1Env, LseW, GgW, RidW, S1Specs, S1Tt, S1EqSoft, S1PSoft, S1EqRefD. -/
import Derived.Test.YtjbokjpbiobjpaaGreatProg
import Derived.Test.YtjbokjpbiobjpaaGreatTD
import Derived.Test.YtjbokjpbiobjpaaGreatTE
set_option linter.unusedVariables false
set_option linter.unusedSimpArgs false
noncomputable section
open Int (toNat)
open List (length getD)
open Go.Proofs.Tryz
namespace Go.Proofs.S1
open Go Go.Den Go.Proofs
set_option maxRecDepth 100000
abbrev tB:Nat:=37
abbrev tMR:Nat:=214
abbrev tW:Nat:=173
def tys:List (Nat × TI):=[
 (2,⟨1,8,(.int .i64),[.int .i64 (0:Int)]⟩),
 (3,⟨1,8,(.int .i64),[.int .i64 (0:Int)]⟩),
 (4,⟨1,1,.bool,[.bool false]⟩),
 (5,⟨1,1,(.int .u8),[.int .u8 (0:Int)]⟩),
 (22,⟨1,24,(.slice 37),[.nil]⟩),
 (24,⟨3,40,(.struct [(0,3),(1,3),(2,22)]),[.int .i64 (0:Int),.int .i64 (0:Int),.nil]⟩),
 (25,⟨1,8,(.int .i64),[.int .i64 (0:Int)]⟩),
 (36,⟨1,8,(.int .u64),[.int .u64 (0:Int)]⟩),
 (37,⟨1,8,(.int .u64),[.int .u64 (0:Int)]⟩),
 (38,⟨1,24,(.slice 41),[.nil]⟩),
 (41,⟨1,1,(.int .i8),[.int .i8 (0:Int)]⟩),
 (43,⟨1,24,(.slice 173),[.nil]⟩),
 (45,⟨2,32,(.struct [(0,4),(1,43)]),[.bool false,.nil]⟩),
 (47,⟨3,40,(.struct [(0,45),(2,3)]),[.bool false,.nil,.int .i64 (0:Int)]⟩),
 (57,⟨12,160,(.struct [(0,24),(3,24),(6,24),(9,24)]),[.int .i64 (0:Int),.int .i64 (0:Int),.nil,.int .i64 (0:Int),.int .i64 (0:Int),.nil,.int .i64 (0:Int),.int .i64 (0:Int),.nil,.int .i64 (0:Int),.int .i64 (0:Int),.nil]⟩),
 (60,⟨12,160,(.struct [(0,24),(3,24),(6,24),(9,24)]),[.int .i64 (0:Int),.int .i64 (0:Int),.nil,.int .i64 (0:Int),.int .i64 (0:Int),.nil,.int .i64 (0:Int),.int .i64 (0:Int),.nil,.int .i64 (0:Int),.int .i64 (0:Int),.nil]⟩),
 (71,⟨9,120,(.struct [(0,24),(3,24),(6,24)]),[.int .i64 (0:Int),.int .i64 (0:Int),.nil,.int .i64 (0:Int),.int .i64 (0:Int),.nil,.int .i64 (0:Int),.int .i64 (0:Int),.nil]⟩),
 (74,⟨9,120,(.struct [(0,24),(3,24),(6,24)]),[.int .i64 (0:Int),.int .i64 (0:Int),.nil,.int .i64 (0:Int),.int .i64 (0:Int),.nil,.int .i64 (0:Int),.int .i64 (0:Int),.nil]⟩),
 (80,⟨7,88,(.struct [(0,24),(3,24),(6,25)]),[.int .i64 (0:Int),.int .i64 (0:Int),.nil,.int .i64 (0:Int),.int .i64 (0:Int),.nil,.int .i64 (0:Int)]⟩),
 (88,⟨9,120,(.struct [(0,24),(3,24),(6,24)]),[.int .i64 (0:Int),.int .i64 (0:Int),.nil,.int .i64 (0:Int),.int .i64 (0:Int),.nil,.int .i64 (0:Int),.int .i64 (0:Int),.nil]⟩),
 (91,⟨1,24,(.slice 24),[.nil]⟩),
 (102,⟨1,8,(.int .i64),[.int .i64 (0:Int)]⟩),
 (114,⟨6,80,(.array 2 24),[.int .i64 (0:Int),.int .i64 (0:Int),.nil,.int .i64 (0:Int),.int .i64 (0:Int),.nil]⟩),
 (118,⟨7,88,(.struct [(0,24),(3,24),(6,4)]),[.int .i64 (0:Int),.int .i64 (0:Int),.nil,.int .i64 (0:Int),.int .i64 (0:Int),.nil,.bool false]⟩),
 (121,⟨1,8,.fl,[.fl 0]⟩),
 (131,⟨1,24,(.slice 47),[.nil]⟩),
 (134,⟨1,24,(.slice 135),[.nil]⟩),
 (135,⟨1,24,(.slice 45),[.nil]⟩),
 (145,⟨9,120,(.array 3 24),[.int .i64 (0:Int),.int .i64 (0:Int),.nil,.int .i64 (0:Int),.int .i64 (0:Int),.nil,.int .i64 (0:Int),.int .i64 (0:Int),.nil]⟩),
 (147,⟨15,200,(.struct [(0,24),(3,24),(6,24),(9,24),(12,24)]),[.int .i64 (0:Int),.int .i64 (0:Int),.nil,.int .i64 (0:Int),.int .i64 (0:Int),.nil,.int .i64 (0:Int),.int .i64 (0:Int),.nil,.int .i64 (0:Int),.int .i64 (0:Int),.nil,.int .i64 (0:Int),.int .i64 (0:Int),.nil]⟩),
 (155,⟨3,40,(.struct [(0,3),(1,3),(2,131)]),[.int .i64 (0:Int),.int .i64 (0:Int),.nil]⟩),
 (166,⟨1,1,(.int .u8),[.int .u8 (0:Int)]⟩),
 (173,⟨1,4,(.int .u32),[.int .u32 (0:Int)]⟩),
 (183,⟨12,160,(.array 4 24),[.int .i64 (0:Int),.int .i64 (0:Int),.nil,.int .i64 (0:Int),.int .i64 (0:Int),.nil,.int .i64 (0:Int),.int .i64 (0:Int),.nil,.int .i64 (0:Int),.int .i64 (0:Int),.nil]⟩),
 (188,⟨2,16,(.array 2 3),[.int .i64 (0:Int),.int .i64 (0:Int)]⟩),
 (189,⟨1,24,(.slice 191),[.nil]⟩),
 (191,⟨3,40,(.struct [(0,22),(1,37),(2,37)]),[.nil,.int .u64 (0:Int),.int .u64 (0:Int)]⟩),
 (199,⟨3,24,(.struct [(0,4),(1,3),(2,36)]),[.bool false,.int .i64 (0:Int),.int .u64 (0:Int)]⟩),
 (208,⟨1,24,(.slice 214),[.nil]⟩),
 (214,⟨2,32,(.struct [(0,22),(1,37)]),[.nil,.int .u64 (0:Int)]⟩)]
theorem ty2:B7 Tryz.prog 2 ⟨1,8,(.int .i64),[.int .i64 (0:Int)]⟩:=Cb (z:=.int .i64 (0:Int)) (by kernel_rfl) (fun c w=>by simp [Bf,Ap,Value.cells]) rfl (by simp [Value.cells,Value.oneCell']) (by simp only [Ce]; exact Tryz.underlying2)
theorem ty3:B7 Tryz.prog 3 ⟨1,8,(.int .i64),[.int .i64 (0:Int)]⟩:=Cb (z:=.int .i64 (0:Int)) (by kernel_rfl) (fun c w=>by simp [Bf,Ap,Value.cells]) rfl (by simp [Value.cells,Value.oneCell']) (by simp only [Ce]; exact Tryz.underlying3)
theorem ty4:B7 Tryz.prog 4 ⟨1,1,.bool,[.bool false]⟩:=Cb (z:=.bool false) (by kernel_rfl) (fun c w=>by simp [Bf,Ap,Value.cells]) rfl (by simp [Value.cells,Value.oneCell']) (by simp only [Ce]; exact Tryz.underlying4)
theorem ty5:B7 Tryz.prog 5 ⟨1,1,(.int .u8),[.int .u8 (0:Int)]⟩:=Cb (z:=.int .u8 (0:Int)) (by kernel_rfl) (fun c w=>by simp [Bf,Ap,Value.cells]) rfl (by simp [Value.cells,Value.oneCell']) (by simp only [Ce]; exact Tryz.underlying5)
theorem Az3:B7 Tryz.prog 22 ⟨1,24,(.slice 37),[.nil]⟩:=Cb (z:=.slice none 0 0) (by kernel_rfl) (fun c w=>by simp [Bf,Ap,Value.cells]) rfl (by simp [Value.cells,Value.oneCell']) (by simp only [Ce]; exact Tryz.underlying22)
theorem Az2:B7 Tryz.prog 24 ⟨3,40,(.struct [(0,3),(1,3),(2,22)]),[.int .i64 (0:Int),.int .i64 (0:Int),.nil]⟩:=Cb (z:=.agg #[.int .i64 (0:Int),.int .i64 (0:Int),.slice none 0 0]) (by kernel_rfl) (fun c w=>by simp [Bf,Ap,Value.cells]) rfl (by simp [Value.cells,Value.oneCell']) (by simp only [Ce]; exact ⟨_,Tryz.underlying24,by kernel_rfl⟩)
theorem Az1:B7 Tryz.prog 25 ⟨1,8,(.int .i64),[.int .i64 (0:Int)]⟩:=Cb (z:=.int .i64 (0:Int)) (by kernel_rfl) (fun c w=>by simp [Bf,Ap,Value.cells]) rfl (by simp [Value.cells,Value.oneCell']) (by simp only [Ce]; exact Tryz.underlying25)
theorem Axi:B7 Tryz.prog 36 ⟨1,8,(.int .u64),[.int .u64 (0:Int)]⟩:=Cb (z:=.int .u64 (0:Int)) (by kernel_rfl) (fun c w=>by simp [Bf,Ap,Value.cells]) rfl (by simp [Value.cells,Value.oneCell']) (by simp only [Ce]; exact Tryz.underlying36)
theorem Az0:B7 Tryz.prog 37 ⟨1,8,(.int .u64),[.int .u64 (0:Int)]⟩:=Cb (z:=.int .u64 (0:Int)) (by kernel_rfl) (fun c w=>by simp [Bf,Ap,Value.cells]) rfl (by simp [Value.cells,Value.oneCell']) (by simp only [Ce]; exact Tryz.underlying37)
theorem Azz:B7 Tryz.prog 38 ⟨1,24,(.slice 41),[.nil]⟩:=Cb (z:=.slice none 0 0) (by kernel_rfl) (fun c w=>by simp [Bf,Ap,Value.cells]) rfl (by simp [Value.cells,Value.oneCell']) (by simp only [Ce]; exact Tryz.underlying38)
theorem Azy:B7 Tryz.prog 41 ⟨1,1,(.int .i8),[.int .i8 (0:Int)]⟩:=Cb (z:=.int .i8 (0:Int)) (by kernel_rfl) (fun c w=>by simp [Bf,Ap,Value.cells]) rfl (by simp [Value.cells,Value.oneCell']) (by simp only [Ce]; exact Tryz.underlying41)
theorem Azx:B7 Tryz.prog 43 ⟨1,24,(.slice 173),[.nil]⟩:=Cb (z:=.slice none 0 0) (by kernel_rfl) (fun c w=>by simp [Bf,Ap,Value.cells]) rfl (by simp [Value.cells,Value.oneCell']) (by simp only [Ce]; exact Tryz.underlying43)
theorem Azw:B7 Tryz.prog 45 ⟨2,32,(.struct [(0,4),(1,43)]),[.bool false,.nil]⟩:=Cb (z:=.agg #[.bool false,.slice none 0 0]) (by kernel_rfl) (fun c w=>by simp [Bf,Ap,Value.cells]) rfl (by simp [Value.cells,Value.oneCell']) (by simp only [Ce]; exact ⟨_,Tryz.underlying45,by kernel_rfl⟩)
theorem Azv:B7 Tryz.prog 47 ⟨3,40,(.struct [(0,45),(2,3)]),[.bool false,.nil,.int .i64 (0:Int)]⟩:=Cb (z:=.agg #[.bool false,.slice none 0 0,.int .i64 (0:Int)]) (by kernel_rfl) (fun c w=>by simp [Bf,Ap,Value.cells]) rfl (by simp [Value.cells,Value.oneCell']) (by simp only [Ce]; exact ⟨_,Tryz.underlying47,by kernel_rfl⟩)
theorem Azu:B7 Tryz.prog 57 ⟨12,160,(.struct [(0,24),(3,24),(6,24),(9,24)]),[.int .i64 (0:Int),.int .i64 (0:Int),.nil,.int .i64 (0:Int),.int .i64 (0:Int),.nil,.int .i64 (0:Int),.int .i64 (0:Int),.nil,.int .i64 (0:Int),.int .i64 (0:Int),.nil]⟩:=Cb (z:=.agg #[.int .i64 (0:Int),.int .i64 (0:Int),.slice none 0 0,.int .i64 (0:Int),.int .i64 (0:Int),.slice none 0 0,.int .i64 (0:Int),.int .i64 (0:Int),.slice none 0 0,.int .i64 (0:Int),.int .i64 (0:Int),.slice none 0 0]) (by kernel_rfl) (fun c w=>by simp [Bf,Ap,Value.cells]) rfl (by simp [Value.cells,Value.oneCell']) (by simp only [Ce]; exact ⟨_,Tryz.underlying57,by kernel_rfl⟩)
theorem Azt:B7 Tryz.prog 60 ⟨12,160,(.struct [(0,24),(3,24),(6,24),(9,24)]),[.int .i64 (0:Int),.int .i64 (0:Int),.nil,.int .i64 (0:Int),.int .i64 (0:Int),.nil,.int .i64 (0:Int),.int .i64 (0:Int),.nil,.int .i64 (0:Int),.int .i64 (0:Int),.nil]⟩:=Cb (z:=.agg #[.int .i64 (0:Int),.int .i64 (0:Int),.slice none 0 0,.int .i64 (0:Int),.int .i64 (0:Int),.slice none 0 0,.int .i64 (0:Int),.int .i64 (0:Int),.slice none 0 0,.int .i64 (0:Int),.int .i64 (0:Int),.slice none 0 0]) (by kernel_rfl) (fun c w=>by simp [Bf,Ap,Value.cells]) rfl (by simp [Value.cells,Value.oneCell']) (by simp only [Ce]; exact ⟨_,Tryz.underlying60,by kernel_rfl⟩)
theorem Azs:B7 Tryz.prog 71 ⟨9,120,(.struct [(0,24),(3,24),(6,24)]),[.int .i64 (0:Int),.int .i64 (0:Int),.nil,.int .i64 (0:Int),.int .i64 (0:Int),.nil,.int .i64 (0:Int),.int .i64 (0:Int),.nil]⟩:=Cb (z:=.agg #[.int .i64 (0:Int),.int .i64 (0:Int),.slice none 0 0,.int .i64 (0:Int),.int .i64 (0:Int),.slice none 0 0,.int .i64 (0:Int),.int .i64 (0:Int),.slice none 0 0]) (by kernel_rfl) (fun c w=>by simp [Bf,Ap,Value.cells]) rfl (by simp [Value.cells,Value.oneCell']) (by simp only [Ce]; exact ⟨_,Tryz.underlying71,by kernel_rfl⟩)
theorem Azr:B7 Tryz.prog 74 ⟨9,120,(.struct [(0,24),(3,24),(6,24)]),[.int .i64 (0:Int),.int .i64 (0:Int),.nil,.int .i64 (0:Int),.int .i64 (0:Int),.nil,.int .i64 (0:Int),.int .i64 (0:Int),.nil]⟩:=Cb (z:=.agg #[.int .i64 (0:Int),.int .i64 (0:Int),.slice none 0 0,.int .i64 (0:Int),.int .i64 (0:Int),.slice none 0 0,.int .i64 (0:Int),.int .i64 (0:Int),.slice none 0 0]) (by kernel_rfl) (fun c w=>by simp [Bf,Ap,Value.cells]) rfl (by simp [Value.cells,Value.oneCell']) (by simp only [Ce]; exact ⟨_,Tryz.underlying74,by kernel_rfl⟩)
theorem Azq:B7 Tryz.prog 80 ⟨7,88,(.struct [(0,24),(3,24),(6,25)]),[.int .i64 (0:Int),.int .i64 (0:Int),.nil,.int .i64 (0:Int),.int .i64 (0:Int),.nil,.int .i64 (0:Int)]⟩:=Cb (z:=.agg #[.int .i64 (0:Int),.int .i64 (0:Int),.slice none 0 0,.int .i64 (0:Int),.int .i64 (0:Int),.slice none 0 0,.int .i64 (0:Int)]) (by kernel_rfl) (fun c w=>by simp [Bf,Ap,Value.cells]) rfl (by simp [Value.cells,Value.oneCell']) (by simp only [Ce]; exact ⟨_,Tryz.underlying80,by kernel_rfl⟩)
theorem Azp:B7 Tryz.prog 88 ⟨9,120,(.struct [(0,24),(3,24),(6,24)]),[.int .i64 (0:Int),.int .i64 (0:Int),.nil,.int .i64 (0:Int),.int .i64 (0:Int),.nil,.int .i64 (0:Int),.int .i64 (0:Int),.nil]⟩:=Cb (z:=.agg #[.int .i64 (0:Int),.int .i64 (0:Int),.slice none 0 0,.int .i64 (0:Int),.int .i64 (0:Int),.slice none 0 0,.int .i64 (0:Int),.int .i64 (0:Int),.slice none 0 0]) (by kernel_rfl) (fun c w=>by simp [Bf,Ap,Value.cells]) rfl (by simp [Value.cells,Value.oneCell']) (by simp only [Ce]; exact ⟨_,Tryz.underlying88,by kernel_rfl⟩)
theorem Azo:B7 Tryz.prog 91 ⟨1,24,(.slice 24),[.nil]⟩:=Cb (z:=.slice none 0 0) (by kernel_rfl) (fun c w=>by simp [Bf,Ap,Value.cells]) rfl (by simp [Value.cells,Value.oneCell']) (by simp only [Ce]; exact Tryz.underlying91)
theorem Ax1:B7 Tryz.prog 102 ⟨1,8,(.int .i64),[.int .i64 (0:Int)]⟩:=Cb (z:=.int .i64 (0:Int)) (by kernel_rfl) (fun c w=>by simp [Bf,Ap,Value.cells]) rfl (by simp [Value.cells,Value.oneCell']) (by simp only [Ce]; exact Tryz.underlying102)
theorem Ax0:B7 Tryz.prog 114 ⟨6,80,(.array 2 24),[.int .i64 (0:Int),.int .i64 (0:Int),.nil,.int .i64 (0:Int),.int .i64 (0:Int),.nil]⟩:=Cb (z:=.agg #[.int .i64 (0:Int),.int .i64 (0:Int),.slice none 0 0,.int .i64 (0:Int),.int .i64 (0:Int),.slice none 0 0]) (by kernel_rfl) (fun c w=>by simp [Bf,Ap,Value.cells]) rfl (by simp [Value.cells,Value.oneCell']) (by simp only [Ce]; exact Tryz.underlying114)
theorem Axz:B7 Tryz.prog 118 ⟨7,88,(.struct [(0,24),(3,24),(6,4)]),[.int .i64 (0:Int),.int .i64 (0:Int),.nil,.int .i64 (0:Int),.int .i64 (0:Int),.nil,.bool false]⟩:=Cb (z:=.agg #[.int .i64 (0:Int),.int .i64 (0:Int),.slice none 0 0,.int .i64 (0:Int),.int .i64 (0:Int),.slice none 0 0,.bool false]) (by kernel_rfl) (fun c w=>by simp [Bf,Ap,Value.cells]) rfl (by simp [Value.cells,Value.oneCell']) (by simp only [Ce]; exact ⟨_,Tryz.underlying118,by kernel_rfl⟩)
theorem Axy:B7 Tryz.prog 121 ⟨1,8,.fl,[.fl 0]⟩:=Cb (z:=.float .f64 0) (by kernel_rfl) (fun c w=>by simp [Bf,Ap,Value.cells,Qw]) rfl (by simp [Value.cells,Value.oneCell']) (by simp only [Ce]; exact Tryz.underlying121)
theorem Axx:B7 Tryz.prog 131 ⟨1,24,(.slice 47),[.nil]⟩:=Cb (z:=.slice none 0 0) (by kernel_rfl) (fun c w=>by simp [Bf,Ap,Value.cells]) rfl (by simp [Value.cells,Value.oneCell']) (by simp only [Ce]; exact Tryz.underlying131)
theorem Axw:B7 Tryz.prog 134 ⟨1,24,(.slice 135),[.nil]⟩:=Cb (z:=.slice none 0 0) (by kernel_rfl) (fun c w=>by simp [Bf,Ap,Value.cells]) rfl (by simp [Value.cells,Value.oneCell']) (by simp only [Ce]; exact Tryz.underlying134)
theorem Axv:B7 Tryz.prog 135 ⟨1,24,(.slice 45),[.nil]⟩:=Cb (z:=.slice none 0 0) (by kernel_rfl) (fun c w=>by simp [Bf,Ap,Value.cells]) rfl (by simp [Value.cells,Value.oneCell']) (by simp only [Ce]; exact Tryz.underlying135)
theorem Axu:B7 Tryz.prog 145 ⟨9,120,(.array 3 24),[.int .i64 (0:Int),.int .i64 (0:Int),.nil,.int .i64 (0:Int),.int .i64 (0:Int),.nil,.int .i64 (0:Int),.int .i64 (0:Int),.nil]⟩:=Cb (z:=.agg #[.int .i64 (0:Int),.int .i64 (0:Int),.slice none 0 0,.int .i64 (0:Int),.int .i64 (0:Int),.slice none 0 0,.int .i64 (0:Int),.int .i64 (0:Int),.slice none 0 0]) (by kernel_rfl) (fun c w=>by simp [Bf,Ap,Value.cells]) rfl (by simp [Value.cells,Value.oneCell']) (by simp only [Ce]; exact Tryz.underlying145)
theorem Axt:B7 Tryz.prog 147 ⟨15,200,(.struct [(0,24),(3,24),(6,24),(9,24),(12,24)]),[.int .i64 (0:Int),.int .i64 (0:Int),.nil,.int .i64 (0:Int),.int .i64 (0:Int),.nil,.int .i64 (0:Int),.int .i64 (0:Int),.nil,.int .i64 (0:Int),.int .i64 (0:Int),.nil,.int .i64 (0:Int),.int .i64 (0:Int),.nil]⟩:=Cb (z:=.agg #[.int .i64 (0:Int),.int .i64 (0:Int),.slice none 0 0,.int .i64 (0:Int),.int .i64 (0:Int),.slice none 0 0,.int .i64 (0:Int),.int .i64 (0:Int),.slice none 0 0,.int .i64 (0:Int),.int .i64 (0:Int),.slice none 0 0,.int .i64 (0:Int),.int .i64 (0:Int),.slice none 0 0]) (by kernel_rfl) (fun c w=>by simp [Bf,Ap,Value.cells]) rfl (by simp [Value.cells,Value.oneCell']) (by simp only [Ce]; exact ⟨_,Tryz.underlying147,by kernel_rfl⟩)
theorem Axs:B7 Tryz.prog 155 ⟨3,40,(.struct [(0,3),(1,3),(2,131)]),[.int .i64 (0:Int),.int .i64 (0:Int),.nil]⟩:=Cb (z:=.agg #[.int .i64 (0:Int),.int .i64 (0:Int),.slice none 0 0]) (by kernel_rfl) (fun c w=>by simp [Bf,Ap,Value.cells]) rfl (by simp [Value.cells,Value.oneCell']) (by simp only [Ce]; exact ⟨_,Tryz.underlying155,by kernel_rfl⟩)
theorem Axr:B7 Tryz.prog 166 ⟨1,1,(.int .u8),[.int .u8 (0:Int)]⟩:=Cb (z:=.int .u8 (0:Int)) (by kernel_rfl) (fun c w=>by simp [Bf,Ap,Value.cells]) rfl (by simp [Value.cells,Value.oneCell']) (by simp only [Ce]; exact Tryz.underlying166)
theorem Axq:B7 Tryz.prog 173 ⟨1,4,(.int .u32),[.int .u32 (0:Int)]⟩:=Cb (z:=.int .u32 (0:Int)) (by kernel_rfl) (fun c w=>by simp [Bf,Ap,Value.cells]) rfl (by simp [Value.cells,Value.oneCell']) (by simp only [Ce]; exact Tryz.underlying173)
theorem Axp:B7 Tryz.prog 183 ⟨12,160,(.array 4 24),[.int .i64 (0:Int),.int .i64 (0:Int),.nil,.int .i64 (0:Int),.int .i64 (0:Int),.nil,.int .i64 (0:Int),.int .i64 (0:Int),.nil,.int .i64 (0:Int),.int .i64 (0:Int),.nil]⟩:=Cb (z:=.agg #[.int .i64 (0:Int),.int .i64 (0:Int),.slice none 0 0,.int .i64 (0:Int),.int .i64 (0:Int),.slice none 0 0,.int .i64 (0:Int),.int .i64 (0:Int),.slice none 0 0,.int .i64 (0:Int),.int .i64 (0:Int),.slice none 0 0]) (by kernel_rfl) (fun c w=>by simp [Bf,Ap,Value.cells]) rfl (by simp [Value.cells,Value.oneCell']) (by simp only [Ce]; exact Tryz.underlying183)
theorem Axo:B7 Tryz.prog 188 ⟨2,16,(.array 2 3),[.int .i64 (0:Int),.int .i64 (0:Int)]⟩:=Cb (z:=.agg #[.int .i64 (0:Int),.int .i64 (0:Int)]) (by kernel_rfl) (fun c w=>by simp [Bf,Ap,Value.cells]) rfl (by simp [Value.cells,Value.oneCell']) (by simp only [Ce]; exact Tryz.underlying188)
theorem Axn:B7 Tryz.prog 189 ⟨1,24,(.slice 191),[.nil]⟩:=Cb (z:=.slice none 0 0) (by kernel_rfl) (fun c w=>by simp [Bf,Ap,Value.cells]) rfl (by simp [Value.cells,Value.oneCell']) (by simp only [Ce]; exact Tryz.underlying189)
theorem Axm:B7 Tryz.prog 191 ⟨3,40,(.struct [(0,22),(1,37),(2,37)]),[.nil,.int .u64 (0:Int),.int .u64 (0:Int)]⟩:=Cb (z:=.agg #[.slice none 0 0,.int .u64 (0:Int),.int .u64 (0:Int)]) (by kernel_rfl) (fun c w=>by simp [Bf,Ap,Value.cells]) rfl (by simp [Value.cells,Value.oneCell']) (by simp only [Ce]; exact ⟨_,Tryz.underlying191,by kernel_rfl⟩)
theorem Axl:B7 Tryz.prog 199 ⟨3,24,(.struct [(0,4),(1,3),(2,36)]),[.bool false,.int .i64 (0:Int),.int .u64 (0:Int)]⟩:=Cb (z:=.agg #[.bool false,.int .i64 (0:Int),.int .u64 (0:Int)]) (by kernel_rfl) (fun c w=>by simp [Bf,Ap,Value.cells]) rfl (by simp [Value.cells,Value.oneCell']) (by simp only [Ce]; exact ⟨_,Tryz.underlying199,by kernel_rfl⟩)
theorem Axk:B7 Tryz.prog 208 ⟨1,24,(.slice 214),[.nil]⟩:=Cb (z:=.slice none 0 0) (by kernel_rfl) (fun c w=>by simp [Bf,Ap,Value.cells]) rfl (by simp [Value.cells,Value.oneCell']) (by simp only [Ce]; exact Tryz.underlying208)
theorem Axj:B7 Tryz.prog 214 ⟨2,32,(.struct [(0,22),(1,37)]),[.nil,.int .u64 (0:Int)]⟩:=Cb (z:=.agg #[.slice none 0 0,.int .u64 (0:Int)]) (by kernel_rfl) (fun c w=>by simp [Bf,Ap,Value.cells]) rfl (by simp [Value.cells,Value.oneCell']) (by simp only [Ce]; exact ⟨_,Tryz.underlying214,by kernel_rfl⟩)
theorem Avs:Sx Tryz.prog tys:=.cons ty2 <| .cons ty3 <| .cons ty4 <| .cons ty5 <| .cons Az3 <| .cons Az2 <| .cons Az1 <| .cons Axi <| .cons Az0 <| .cons Azz <| .cons Azy <| .cons Azx <| .cons Azw <| .cons Azv <| .cons Azu <| .cons Azt <| .cons Azs <| .cons Azr <| .cons Azq <| .cons Azp <| .cons Azo <| .cons Ax1 <| .cons Ax0 <| .cons Axz <| .cons Axy <| .cons Axx <| .cons Axw <| .cons Axv <| .cons Axu <| .cons Axt <| .cons Axs <| .cons Axr <| .cons Axq <| .cons Axp <| .cons Axo <| .cons Axn <| .cons Axm <| .cons Axl <| .cons Axk <| .cons Axj <| .nil
def exts:List (Nat × Ext):=[(169,.bits),(210,.frombits),(263,.sqrt),(266,.sub64)]
def Ahc:List (Nat × Ext)→Nat→Option Ext
 | [],_=>none
 | (m,e)::l,n=>bif Nat.beq m n then some e else Ahc l n
theorem Ark (args:Array Value) (w:World):(callFunc 169 args).run Tryz.prog w=((Tz .bits args).run Tryz.prog w).andThen fun v w'=>.ok (.value v) w':=run_callFunc_extern (e:=Extern.MathFloatBits.float64bits) Tryz.func169 (by kernel_rfl) (by kernel_rfl) (by kernel_rfl) (by kernel_rfl) args w
theorem Arj (args:Array Value) (w:World):(callFunc 210 args).run Tryz.prog w=((Tz .frombits args).run Tryz.prog w).andThen fun v w'=>.ok (.value v) w':=run_callFunc_extern (e:=Extern.MathFloatBits.float64frombits) Tryz.func210 (by kernel_rfl) (by kernel_rfl) (by kernel_rfl) (by kernel_rfl) args w
theorem Ari (args:Array Value) (w:World):(callFunc 263 args).run Tryz.prog w=((Tz .sqrt args).run Tryz.prog w).andThen fun v w'=>.ok (.value v) w':=run_callFunc_extern (e:=Extern.MathSqrt.sqrt) Tryz.func263 (by kernel_rfl) (by kernel_rfl) (by kernel_rfl) (by kernel_rfl) args w
theorem Arh (args:Array Value) (w:World):(callFunc 266 args).run Tryz.prog w=((Tz .sub64 args).run Tryz.prog w).andThen fun v w'=>.ok (.value v) w':=run_callFunc_extern (e:=Ys) Tryz.func266 (by kernel_rfl) (by kernel_rfl) (by kernel_rfl) (by kernel_rfl) args w
def Awy:List Nat:=[199,188]
theorem Ay5:Ae4 Tryz.prog 199 ⟨3,24,(.struct [(0,4),(1,3),(2,36)]),[.bool false,.int .i64 (0:Int),.int .u64 (0:Int)]⟩ where
 guard:=by kernel_rfl
 eq:=by
  intro w c x y xs ys hx hy hlx hly
  obtain ⟨a0,x1,rfl,hx1⟩:=Yy hx
  obtain ⟨a1,x2,rfl,hx2⟩:=Jz hx1
  obtain ⟨a2,x3,rfl,hx3⟩:=Jz hx2
  obtain rfl:=R5 hx3
  obtain ⟨b0,y1,rfl,hy1⟩:=Yy hy
  obtain ⟨b1,y2,rfl,hy2⟩:=Jz hy1
  obtain ⟨b2,y3,rfl,hy3⟩:=Jz hy2
  obtain rfl:=R5 hy3
  obtain ⟨xs⟩:=xs
  obtain ⟨ys⟩:=ys
  simp only [Bf.Cw,Bf.Gp,Ap] at hlx hly
  obtain ⟨_,_,rfl,rfl,_,_,rfl,rfl,_,_,rfl,rfl,rfl⟩:=hlx
  obtain ⟨_,_,rfl,rfl,_,_,rfl,rfl,_,_,rfl,rfl,rfl⟩:=hly
  have hu:Tryz.prog.underlying 199=some (.struct (Tryz.prog.fieldsOf 199)):=by kernel_rfl
  have hp:Tryz.prog.stoodInHeld 199=false:=by kernel_rfl
  unfold Op.equal Op.maxDepth
  rw [run_equalIn_struct w 9999 199 _ _ hu hp]
  have hfs:Tryz.prog.fieldsOf 199=(match Tryz.prog.underlying 199 with | some (.struct fs)=>fs | _=>#[]):=rfl
  rw [hfs,Tryz.underlying199]
  simp [Op.eqFields,Mp w ty3 rfl,Mp w ty4 rfl,Mp w Axi rfl,run_equalIn_int w _ _ _ _ _ _ Tryz.underlying3,run_equalIn_bool w _ _ _ _ Tryz.underlying4,run_equalIn_int w _ _ _ _ _ _ Tryz.underlying36,Acl,Aan]
  by_cases h0:a0=b0<;>by_cases h1:a1=b1<;>by_cases h2:a2=b2<;>simp [h0,h1,h2]
theorem Ay6:Ae4 Tryz.prog 188 ⟨2,16,(.array 2 3),[.int .i64 (0:Int),.int .i64 (0:Int)]⟩ where
 guard:=by kernel_rfl
 eq:=by
  intro w c x y xs ys hx hy hlx hly
  obtain ⟨a0,x1,rfl,hx1⟩:=Jz hx
  obtain ⟨a1,x2,rfl,hx2⟩:=Jz hx1
  obtain rfl:=R5 hx2
  obtain ⟨b0,y1,rfl,hy1⟩:=Jz hy
  obtain ⟨b1,y2,rfl,hy2⟩:=Jz hy1
  obtain rfl:=R5 hy2
  obtain ⟨xs⟩:=xs
  obtain ⟨ys⟩:=ys
  simp only [Bf.Cw,Bf.Gp,Ap] at hlx hly
  obtain ⟨_,_,rfl,rfl,_,_,rfl,rfl,rfl⟩:=hlx
  obtain ⟨_,_,rfl,rfl,_,_,rfl,rfl,rfl⟩:=hly
  obtain ⟨i,_,hi,_⟩:=ty3.info
  have hc:Tryz.prog.cellsOf 3=1:=by kernel_rfl
  unfold Op.equal Op.maxDepth
  rw [run_equalIn_array w 9999 _ _ Tryz.underlying188 hi,hc]
  simp [Op.eqItems,List.range,List.range.loop,Mp w ty3 rfl,run_equalIn_int w _ _ _ _ _ _ Tryz.underlying3,Acl,Aan]
  by_cases h0:a0=b0<;>by_cases h1:a1=b1<;>simp [h0,h1]
def Ba (A9:Nat→Option Entry) (adopt:Nat→Bool) (hint:Nat→Option Be) (live:Nat→Option (List Nat)):Env:={ ty:=Aov tys,A9:=A9,ext:=Ahc exts,eqs:=fun t=>Mu t Awy,adopt:=adopt,live:=live,hint:=hint }
theorem A0 {l:List (Nat × Entry)} (h:Az Tryz.prog l) (adopt:Nat→Bool) (hint:Nat→Option Be) (live:Nat→Option (List Nat)):Kt Tryz.prog (Ba (A8 l) adopt hint live) where
 ty:=fun t ti ht=>Avs.get ht
 A9:=fun g e hg=>(h.get hg).meets
 call:=fun g e hg=>(h.get hg).call
 ext:=by
  intro g x hx args w
  simp only [Ba,exts,Ahc] at hx
  cases hb:Nat.beq 169 g with
  | true =>
    rw [hb] at hx
    cases hx
    obtain rfl:=A1z hb
    exact Ark args w
  | false =>
  rw [hb,A1l] at hx
  clear hb
  cases hb:Nat.beq 210 g with
  | true =>
    rw [hb] at hx
    cases hx
    obtain rfl:=A1z hb
    exact Arj args w
  | false =>
  rw [hb,A1l] at hx
  clear hb
  cases hb:Nat.beq 263 g with
  | true =>
    rw [hb] at hx
    cases hx
    obtain rfl:=A1z hb
    exact Ari args w
  | false =>
  rw [hb,A1l] at hx
  clear hb
  cases hb:Nat.beq 266 g with
  | true =>
    rw [hb] at hx
    cases hx
    obtain rfl:=A1z hb
    exact Arh args w
  | false =>
  rw [hb,A1l] at hx
  clear hb
  cases hx
 eqs:=by
  intro t ti ht hti
  simp only [Ba,Awy,Mu] at ht hti
  cases hb:Nat.beq t 199 with
  | true =>
    obtain rfl:=A1z hb
    cases hti
    exact Ay5
  | false =>
  rw [hb,A1l] at ht
  clear hb
  cases hb:Nat.beq t 188 with
  | true =>
    obtain rfl:=A1z hb
    cases hti
    exact Ay6
  | false =>
  rw [hb,A1l] at ht
  clear hb
  cases ht
 mixed:=by kernel_rfl
def Avh:List (Nat × Ext):=[(169,.bitsN),(210,.frombits),(263,.sqrt),(266,.sub64)]
def Ahx:List (Nat × List CK)→Nat→List CK
 | [],_=>[]
 | (m,e)::l,n=>bif Nat.beq m n then e else Ahx l n
def Wt (A9:Nat→Option Entry) (adopt:Nat→Bool) (hint:Nat→Option Be) (live:Nat→Option (List Nat)) (adv:Nat→List CK):Env:={ ty:=Aov tys,A9:=A9,ext:=Ahc Avh,eqs:=fun t=>Mu t Awy,adopt:=adopt,live:=live,hint:=hint,adv:=adv }
theorem Yi {l:List (Nat × Entry)} (h:Az Tryz.prog l) (adopt:Nat→Bool) (hint:Nat→Option Be) (live:Nat→Option (List Nat)) (adv:Nat→List CK):Kt Tryz.prog (Wt (A8 l) adopt hint live adv) :=
 have k:=A0 h adopt hint live
 ⟨k.ty,k.A9,k.call,(by
  intro g x hx args w
  simp only [Wt,Avh,Ahc] at hx
  cases hb:Nat.beq 169 g with
  | true =>
    rw [hb] at hx
    cases hx
    obtain rfl:=A1z hb
    exact Ark args w
  | false =>
  rw [hb,A1l] at hx
  clear hb
  cases hb:Nat.beq 210 g with
  | true =>
    rw [hb] at hx
    cases hx
    obtain rfl:=A1z hb
    exact Arj args w
  | false =>
  rw [hb,A1l] at hx
  clear hb
  cases hb:Nat.beq 263 g with
  | true =>
    rw [hb] at hx
    cases hx
    obtain rfl:=A1z hb
    exact Ari args w
  | false =>
  rw [hb,A1l] at hx
  clear hb
  cases hb:Nat.beq 266 g with
  | true =>
    rw [hb] at hx
    cases hx
    obtain rfl:=A1z hb
    exact Arh args w
  | false =>
  rw [hb,A1l] at hx
  clear hb
  cases hx),k.eqs,k.mixed,k.spoil⟩
end Go.Proofs.S1
namespace Go.Rnd
open Go.Den
def Ax3 (x:MX):MX:=Fe x.1 x.2.1 x.2.2.1
def Zj (x:MX) (i k a b:Int):MX:=Hu x.1 x.2.1 x.2.2.1 i k a b
def eqT (p q:Int) (m:List Int):List Int:=(Fe p q m).2.2.1
def eqR (p q:Int) (m:List Int):MX:=rX q p (eqT p q m)
def eqS (p q:Int) (m:List Int):MX:=Ax3 (Zj (eqR p q m) 0 0 p p)
def hY (p q:Int) (m:List Int) (u v:Int) (h:List Int):MX :=
 if E0 q p (eqT p q m)≠0 then Ls (E0 q p (eqT p q m)) else if (Lz (eqS p q m).1 (eqS p q m).2.1 (eqS p q m).2.2.1).1=true then Ls 5
 else loX (eqS p q m).1 (eqS p q m).2.1 (eqS p q m).2.2.1 u v h
def hQ (p q:Int) (m:List Int):MX :=
 if E0 q p (eqT p q m)≠0 then Ls (E0 q p (eqT p q m)) else if (Lz (eqS p q m).1 (eqS p q m).2.1 (eqS p q m).2.2.1).1=true then Ls 5
 else qX q p (eqT p q m)
def Aq1 (x y:MX):MX:=Dt x.1 x.2.1 x.2.2.1 y.1 y.2.1 y.2.2.1
end Go.Rnd
namespace Go.Rnd
open Go.Den
def upM (x y:MX):MX:=Ua x.1 x.2.1 x.2.2.1 y.1 y.2.1 y.2.2.1
def loM (x y:MX):MX:=loX x.1 x.2.1 x.2.2.1 y.1 y.2.1 y.2.2.1
def Rr (l m h:List Int):Bool:=(Ai l&&Ai m)&&Ai h
def Dk (x:Int) (l:List Int):List Int:=l.map fun y=>C5 x y
def Nv (r c:Int) (l:List Int) (p q:Int) (m:List Int) (u v:Int) (h:List Int):Int :=
 if B9 r c l≠0 then B9 r c l else if B9 p q m≠0 then B9 p q m else B9 u v h
def O4 (r c:Int) (l:List Int) (p q:Int) (m:List Int) (u v:Int) (h:List Int) (x:Int):Int :=
 if Nv r c l p q m u v h≠0 then Nv r c l p q m u v h else if Ck x=false then 4
 else if p≠r∨q≠1∨v≠c∨6<r+u then 3 else if C2 (Dk x h)=false then 2 else 0
def Au0 (r c:Int) (l:List Int) (u v:Int) (h:List Int) (x:Int):MX:=D5 r c l u v (Dk x h)
def Aft (p q:Int) (m:List Int) (u:Int):MX:=D5 p q m (C1 u 1).1 (C1 u 1).2.1 (C1 u 1).2.2.1
def Ea (r c:Int) (l:List Int) (p q:Int) (m:List Int) (u v:Int) (h:List Int) (x:Int):MX :=
 if O4 r c l p q m u v h x≠0 then Ls (O4 r c l p q m u v h x) else Aq1 (Au0 r c l u v h x) (Aft p q m u)
end Go.Rnd
namespace Go.Rnd
open Go.Den
end Go.Rnd
namespace Go.Proofs.S1
open Go Go.Den Go.Rnd
def soft.Split.pre:List Atom→Bool
 | [.i x]=>Af x
 | _=>false
def soft.Split.out:List Atom→DV
 | [.i x]=>.agg [.bool (D0 x),.int .i64 (Mb x),.int .u64 (C3 x)]
 | _=>.undef
abbrev soft.Split.ts:List AT:=[.i .u64]
def soft.Split.spec:Entry:=entry soft.Split.ts soft.Split.pre soft.Split.out
def soft.Kind.pre:List Atom→Bool
 | [.i x]=>Af x
 | _=>false
def soft.Kind.out:List Atom→DV
 | [.i x]=>.int .i64 (A5 x)
 | _=>.undef
abbrev soft.Kind.ts:List AT:=[.i .u64]
def soft.Kind.spec:Entry:=entry soft.Kind.ts soft.Kind.pre soft.Kind.out
def soft.Sign.pre:List Atom→Bool
 | [.i x]=>Af x
 | _=>false
def soft.Sign.out:List Atom→DV
 | [.i x]=>.bool (D0 x)
 | _=>.undef
abbrev soft.Sign.ts:List AT:=[.i .u64]
def soft.Sign.spec:Entry:=entry soft.Sign.ts soft.Sign.pre soft.Sign.out
def soft.Finite.pre:List Atom→Bool
 | [.i x]=>Af x
 | _=>false
def soft.Finite.out:List Atom→DV
 | [.i x]=>.bool (Ck x)
 | _=>.undef
abbrev soft.Finite.ts:List AT:=[.i .u64]
def soft.Finite.spec:Entry:=entry soft.Finite.ts soft.Finite.pre soft.Finite.out
def soft.De.pre:List Atom→Bool
 | [.i x]=>Af x
 | _=>false
def soft.De.out:List Atom→DV
 | [.i x]=>.int .u64 (Cr x)
 | _=>.undef
abbrev soft.De.ts:List AT:=[.i .u64]
def soft.De.spec:Entry:=entry soft.De.ts soft.De.pre soft.De.out
def soft.Fy.pre:List Atom→Bool
 | [.i x]=>Af x
 | _=>false
def soft.Fy.out:List Atom→DV
 | [.i x]=>.tup [.int .u64 (Bx x),.int .i64 (Bi x)]
 | _=>.undef
abbrev soft.Fy.ts:List AT:=[.i .u64]
def soft.Fy.spec:Entry:=entry soft.Fy.ts soft.Fy.pre soft.Fy.out
def soft.Pack.mu:List Atom→Nat
 | [.b _n,.i m,.i e]=>Pz m e
 | _=>0
def soft.Pack.pre:List Atom→Bool
 | [.b _n,.i m,.i e]=>Lh m e
 | _=>false
def soft.Pack.out:List Atom→DV
 | [.b n,.i m,.i e]=>.int .u64 (Uz n m e)
 | _=>.undef
abbrev soft.Pack.ts:List AT:=[.b,.i .u64,.i .i64]
def soft.Pack.spec:Entry:=entry soft.Pack.ts soft.Pack.pre soft.Pack.out
def soft.Dj.pre:List Atom→Bool
 | [.b _n,.i m,.i e,.b r]=>El m e r
 | _=>false
def soft.Dj.out:List Atom→DV
 | [.b n,.i m,.i e,.b r]=>.tup [.int .u64 (E9 n m e r),.int .u8 (E8 n m e r)]
 | _=>.undef
abbrev soft.Dj.ts:List AT:=[.b,.i .u64,.i .i64,.b]
def soft.Dj.spec:Entry:=entry soft.Dj.ts soft.Dj.pre soft.Dj.out
def sum.right.pre:List Atom→Bool
 | [.i m,.i d]=>Af m&&Cz (0≤d∧d<1000000)
 | _=>false
def sum.right.out:List Atom→DV
 | [.i m,.i d]=>.int .u64 (Fh m d)
 | _=>.undef
abbrev sum.right.ts:List AT:=[.i .u64,.i .i64]
def sum.right.spec:Entry:=entry sum.right.ts sum.right.pre sum.right.out
def sum.Ee.pre:List Atom→Bool
 | [.i a,.i b]=>(Af a&&Af b)&&(!(Ck a)||!(Ck b))
 | _=>false
def sum.Ee.out:List Atom→DV
 | [.i a,.i b]=>.tup [.int .u64 (Fg a b),.int .u8 (Xs a b)]
 | _=>.undef
abbrev sum.Ee.ts:List AT:=[.i .u64,.i .u64]
def sum.Ee.spec:Entry:=entry sum.Ee.ts sum.Ee.pre sum.Ee.out
def sum.Add.pre:List Atom→Bool
 | [.i a,.i b]=>Af a&&Af b
 | _=>false
def sum.Add.out:List Atom→DV
 | [.i a,.i b]=>.tup [.int .u64 (Fg a b),.int .u8 (Xs a b)]
 | _=>.undef
abbrev sum.Add.ts:List AT:=[.i .u64,.i .u64]
def sum.Add.spec:Entry:=entry sum.Add.ts sum.Add.pre sum.Add.out
def sum.Sub.pre:List Atom→Bool
 | [.i a,.i b]=>Af a&&Af b
 | _=>false
def sum.Sub.out:List Atom→DV
 | [.i a,.i b]=>.tup [.int .u64 (Ec a b),.int .u8 (Ayu a b)]
 | _=>.undef
abbrev sum.Sub.ts:List AT:=[.i .u64,.i .u64]
def sum.Sub.spec:Entry:=entry sum.Sub.ts sum.Sub.pre sum.Sub.out
def A1.Neg.pre:List Atom→Bool
 | [.i x]=>Af x
 | _=>false
def A1.Neg.out:List Atom→DV
 | [.i x]=>.bool (D0 x)
 | _=>.undef
abbrev A1.Neg.ts:List AT:=[.i .u64]
def A1.Neg.spec:Entry:=entry A1.Neg.ts A1.Neg.pre A1.Neg.out
def A1.Power.pre:List Atom→Bool
 | [.i x]=>K4 x
 | _=>false
def A1.Power.out:List Atom→DV
 | [.i x]=>.int .i64 (Mb x)
 | _=>.undef
abbrev A1.Power.ts:List AT:=[.i .u64]
def A1.Power.spec:Entry:=entry A1.Power.ts A1.Power.pre A1.Power.out
def A1.Ks.pre:List Atom→Bool
 | [.i x]=>K4 x
 | _=>false
def A1.Ks.out:List Atom→DV
 | [.i x]=>.int .u64 (C3 x)
 | _=>.undef
abbrev A1.Ks.ts:List AT:=[.i .u64]
def A1.Ks.spec:Entry:=entry A1.Ks.ts A1.Ks.pre A1.Ks.out
def A1.Kind.pre:List Atom→Bool
 | [.i x]=>K4 x
 | _=>false
def A1.Kind.out:List Atom→DV
 | [.i x]=>.int .i64 (A5 x)
 | _=>.undef
abbrev A1.Kind.ts:List AT:=[.i .u64]
def A1.Kind.spec:Entry:=entry A1.Kind.ts A1.Kind.pre A1.Kind.out
def A1.Finite.pre:List Atom→Bool
 | [.i x]=>Af x
 | _=>false
def A1.Finite.out:List Atom→DV
 | [.i x]=>.bool (Ck x)
 | _=>.undef
abbrev A1.Finite.ts:List AT:=[.i .u64]
def A1.Finite.spec:Entry:=entry A1.Finite.ts A1.Finite.pre A1.Finite.out
def A1.De.pre:List Atom→Bool
 | [.i x]=>Af x
 | _=>false
def A1.De.out:List Atom→DV
 | [.i x]=>.int .u64 (Cr x)
 | _=>.undef
abbrev A1.De.ts:List AT:=[.i .u64]
def A1.De.spec:Entry:=entry A1.De.ts A1.De.pre A1.De.out
def Ek.Canon.pre:List Atom→Bool
 | [.i x]=>K4 x
 | _=>false
def Ek.Canon.out:List Atom→DV
 | [.i x]=>.int .u64 (Aav x)
 | _=>.undef
abbrev Ek.Canon.ts:List AT:=[.i .u64]
def Ek.Canon.spec:Entry:=entry Ek.Canon.ts Ek.Canon.pre Ek.Canon.out
def Cu.B0.pre:List Atom→Bool
 | [.i x]=>Af x
 | _=>false
def Cu.B0.out:List Atom→DV
 | [.i x]=>.int .i64 (64-Fa x)
 | _=>.undef
abbrev Cu.B0.ts:List AT:=[.i .u64]
def Cu.B0.spec:Entry:=entry Cu.B0.ts Cu.B0.pre Cu.B0.out
def Cu.Hn.pre:List Atom→Bool
 | [.i x,.i y]=>Af x&&Af y
 | _=>false
def Cu.Hn.out:List Atom→DV
 | [.i x,.i y]=>.tup [.int .u64 (Tc x y),.int .u64 (Ob x y)]
 | _=>.undef
abbrev Cu.Hn.ts:List AT:=[.i .u64,.i .u64]
def Cu.Hn.spec:Entry:=entry Cu.Hn.ts Cu.Hn.pre Cu.Hn.out
def times.signed.pre:List Atom→Bool
 | [.i b,.b _n]=>Af b
 | _=>false
def times.signed.out:List Atom→DV
 | [.i b,.b n]=>.int .u64 (S9 n b)
 | _=>.undef
abbrev times.signed.ts:List AT:=[.i .u64,.b]
def times.signed.spec:Entry:=entry times.signed.ts times.signed.pre times.signed.out
def times.nan.pre:List Atom→Bool
 | [.i a,.i b]=>Af a&&Af b
 | _=>false
def times.nan.out:List Atom→DV
 | [.i a,.i b]=>.bool (Aqe a b)
 | _=>.undef
abbrev times.nan.ts:List AT:=[.i .u64,.i .u64]
def times.nan.spec:Entry:=entry times.nan.ts times.nan.pre times.nan.out
def times.norm.pre:List Atom→Bool
 | [.i b]=>Af b&&Ms b
 | _=>false
def times.norm.out:List Atom→DV
 | [.i b]=>.tup [.int .u64 (C4 b),.int .i64 (Hw b)]
 | _=>.undef
abbrev times.norm.ts:List AT:=[.i .u64]
def times.norm.spec:Entry:=entry times.norm.ts times.norm.pre times.norm.out
def times.wide.pre:List Atom→Bool
 | [.b _n,.i m,.i e,.b _r]=>Pp m e
 | _=>false
def times.wide.out:List Atom→DV
 | [.b n,.i m,.i e,.b r]=>.tup [.int .u64 (E9 n m e r),.int .u8 (E8 n m e r)]
 | _=>.undef
abbrev times.wide.ts:List AT:=[.b,.i .u64,.i .i64,.b]
def times.wide.spec:Entry:=entry times.wide.ts times.wide.pre times.wide.out
def times.Mul.pre:List Atom→Bool
 | [.i a,.i b]=>Af a&&Af b
 | _=>false
def times.Mul.out:List Atom→DV
 | [.i a,.i b]=>.tup [.int .u64 (C5 a b),.int .u8 (Ay0 a b)]
 | _=>.undef
abbrev times.Mul.ts:List AT:=[.i .u64,.i .u64]
def times.Mul.spec:Entry:=entry times.Mul.ts times.Mul.pre times.Mul.out
def times.Div.pre:List Atom→Bool
 | [.i a,.i b]=>Af a&&Af b
 | _=>false
def times.Div.out:List Atom→DV
 | [.i a,.i b]=>.tup [.int .u64 (E4 a b),.int .u8 (Ay7 a b)]
 | _=>.undef
abbrev times.Div.ts:List AT:=[.i .u64,.i .u64]
def times.Div.spec:Entry:=entry times.Div.ts times.Div.pre times.Div.out
def Ad.Add.pre:List Atom→Bool
 | [.i a,.i b]=>Af a&&Af b
 | _=>false
def Ad.Add.out:List Atom→DV
 | [.i a,.i b]=>.int .u64 (Fg a b)
 | _=>.undef
abbrev Ad.Add.ts:List AT:=[.i .u64,.i .u64]
def Ad.Add.spec:Entry:=entry Ad.Add.ts Ad.Add.pre Ad.Add.out
def Ad.Sub.pre:List Atom→Bool
 | [.i a,.i b]=>Af a&&Af b
 | _=>false
def Ad.Sub.out:List Atom→DV
 | [.i a,.i b]=>.int .u64 (Ec a b)
 | _=>.undef
abbrev Ad.Sub.ts:List AT:=[.i .u64,.i .u64]
def Ad.Sub.spec:Entry:=entry Ad.Sub.ts Ad.Sub.pre Ad.Sub.out
def Ad.Mul.pre:List Atom→Bool
 | [.i a,.i b]=>Af a&&Af b
 | _=>false
def Ad.Mul.out:List Atom→DV
 | [.i a,.i b]=>.int .u64 (C5 a b)
 | _=>.undef
abbrev Ad.Mul.ts:List AT:=[.i .u64,.i .u64]
def Ad.Mul.spec:Entry:=entry Ad.Mul.ts Ad.Mul.pre Ad.Mul.out
def Ad.fit.pre:List Atom→Bool
 | [.l _x,.l _y]=>true
 | _=>false
def Ad.fit.out:List Atom→DV
 | [.l x,.l y]=>.bool (Pk x y)
 | _=>.undef
abbrev Ad.fit.ts:List AT:=[.s .u64,.s .u64]
def Ad.fit.spec:Entry:=entry Ad.fit.ts Ad.fit.pre Ad.fit.out
def Ad.Ht.pre:List Atom→Bool
 | [.l x,.l y]=>(Pk x y&&Ai x)&&Ai y
 | _=>false
def Ad.Ht.out:List Atom→DV
 | [.l x,.l y]=>.tup [.int .u64 (Je x y),.int .i64 (0:Int)]
 | _=>.undef
abbrev Ad.Ht.ts:List AT:=[.s .u64,.s .u64]
def Ad.Ht.spec:Entry:=entry Ad.Ht.ts Ad.Ht.pre Ad.Ht.out
def Aj.F.pre:List Atom→Bool
 | [.i x]=>Af x
 | _=>false
def Aj.F.out:List Atom→DV
 | [.i x]=>.fl (toNat x)
 | _=>.undef
abbrev Aj.F.ts:List AT:=[.i .u64]
def Aj.F.spec:Entry:=entry Aj.F.ts Aj.F.pre Aj.F.out
def Aj.B.pre:List Atom→Bool
 | [.f _x]=>true
 | _=>false
def Aj.B.out:List Atom→DV
 | [.f x]=>.int .u64 (Gc x)
 | _=>.undef
abbrev Aj.B.ts:List AT:=[.fl]
def Aj.B.spec:Entry:=entry Aj.B.ts Aj.B.pre Aj.B.out
def Aj.Add.pre:List Atom→Bool
 | [.i a,.i b]=>Af a&&Af b
 | _=>false
def Aj.Add.out:List Atom→DV
 | [.i a,.i b]=>.int .u64 (Fg a b)
 | _=>.undef
abbrev Aj.Add.ts:List AT:=[.i .u64,.i .u64]
def Aj.Add.spec:Entry:=entry Aj.Add.ts Aj.Add.pre Aj.Add.out
def Aj.Sub.pre:List Atom→Bool
 | [.i a,.i b]=>Af a&&Af b
 | _=>false
def Aj.Sub.out:List Atom→DV
 | [.i a,.i b]=>.int .u64 (Ec a b)
 | _=>.undef
abbrev Aj.Sub.ts:List AT:=[.i .u64,.i .u64]
def Aj.Sub.spec:Entry:=entry Aj.Sub.ts Aj.Sub.pre Aj.Sub.out
def Aj.Mul.pre:List Atom→Bool
 | [.i a,.i b]=>Af a&&Af b
 | _=>false
def Aj.Mul.out:List Atom→DV
 | [.i a,.i b]=>.int .u64 (C5 a b)
 | _=>.undef
abbrev Aj.Mul.ts:List AT:=[.i .u64,.i .u64]
def Aj.Mul.spec:Entry:=entry Aj.Mul.ts Aj.Mul.pre Aj.Mul.out
def Aj.Ht.pre:List Atom→Bool
 | [.l x,.l y]=>(Pk x y&&Ai x)&&Ai y
 | _=>false
def Aj.Ht.out:List Atom→DV
 | [.l x,.l y]=>.int .u64 (Je x y)
 | _=>.undef
abbrev Aj.Ht.ts:List AT:=[.s .u64,.s .u64]
def Aj.Ht.spec:Entry:=entry Aj.Ht.ts Aj.Ht.pre Aj.Ht.out
def Aa.size.pre:List Atom→Bool
 | [.i _n]=>true
 | _=>false
def Aa.size.out:List Atom→DV
 | [.i n]=>.bool (Bh n)
 | _=>.undef
abbrev Aa.size.ts:List AT:=[.i .i64]
def Aa.size.spec:Entry:=entry Aa.size.ts Aa.size.pre Aa.size.out
def Aa.Check.pre:List Atom→Bool
 | [.i _r,.i _c,.l _l]=>true
 | _=>false
def Aa.Check.out:List Atom→DV
 | [.i r,.i c,.l l]=>.int .i64 (Lb r c l)
 | _=>.undef
abbrev Aa.Check.ts:List AT:=[.st [.i .i64,.i .i64,.s .u64]]
def Aa.Check.spec:Entry:=entry Aa.Check.ts Aa.Check.pre Aa.Check.out
def Aa.get.pre:List Atom→Bool
 | [.i r,.i c,.l l,.i i,.i k]=>C0 r c l i k
 | _=>false
def Aa.get.out:List Atom→DV
 | [.i _r,.i c,.l l,.i i,.i k]=>.int .u64 (Eb c l i k)
 | _=>.undef
abbrev Aa.get.ts:List AT:=[.st [.i .i64,.i .i64,.s .u64],.i .i64,.i .i64]
def Aa.get.spec:Entry:=entry Aa.get.ts Aa.get.pre Aa.get.out
def Aa.two.pre:List Atom→Bool
 | [.i _r,.i _c,.l _l,.i _p,.i _q,.l _m]=>true
 | _=>false
def Aa.two.out:List Atom→DV
 | [.i r,.i c,.l l,.i p,.i q,.l m]=>.int .i64 (Yo r c l p q m)
 | _=>.undef
abbrev Aa.two.ts:List AT:=[.st [.i .i64,.i .i64,.s .u64],.st [.i .i64,.i .i64,.s .u64]]
def Aa.two.spec:Entry:=entry Aa.two.ts Aa.two.pre Aa.two.out
def Aa.Row.pre:List Atom→Bool
 | [.i r,.i c,.l l,.i i,.i f]=>Pw r c l i&&decide (f=0)
 | _=>false
def Aa.Row.out:List Atom→DV
 | [.i _r,.i c,.l l,.i i,.i _f]=>.ints .fresh .u64 (G6 c l i)
 | _=>.undef
abbrev Aa.Row.ts:List AT:=[.st [.i .i64,.i .i64,.s .u64],.i .i64,.i .i64]
def Aa.Row.spec:Entry:=entry Aa.Row.ts Aa.Row.pre Aa.Row.out
def Aa.Dx.pre:List Atom→Bool
 | [.i r,.i c,.l l,.i k,.i f]=>Hj r c l k&&Cz (0≤f∧f≤r)
 | _=>false
def Aa.Dx.out:List Atom→DV
 | [.i r,.i c,.l l,.i k,.i f]=>.ints .fresh .u64 (Ct c l k f (toNat (r-f)))
 | _=>.undef
abbrev Aa.Dx.ts:List AT:=[.st [.i .i64,.i .i64,.s .u64],.i .i64,.i .i64]
def Aa.Dx.spec:Entry:=entry Aa.Dx.ts Aa.Dx.pre Aa.Dx.out
def Aa.D9.pre:List Atom→Bool
 | [.i _i,.i _k]=>true
 | _=>false
def Aa.D9.out:List Atom→DV
 | [.i _i,.i _k]=>.int .u64 (0:Int)
 | _=>.undef
abbrev Aa.D9.ts:List AT:=[.i .i64,.i .i64]
def Aa.D9.spec:Entry:=entry Aa.D9.ts Aa.D9.pre Aa.D9.out
def Aa.Hq.pre:List Atom→Bool
 | [.i _i,.i _k]=>true
 | _=>false
def Aa.Hq.out:List Atom→DV
 | [.i i,.i k]=>.int .u64 (N3 i k)
 | _=>.undef
abbrev Aa.Hq.ts:List AT:=[.i .i64,.i .i64]
def Aa.Hq.spec:Entry:=entry Aa.Hq.ts Aa.Hq.pre Aa.Hq.out
def Aa.Fj.pre:List Atom→Bool
 | [.i i,.i k,.i r,.i c,.l l]=>C0 r c l k i
 | _=>false
def Aa.Fj.out:List Atom→DV
 | [.i i,.i k,.i _r,.i c,.l l]=>.int .u64 (Eb c l k i)
 | _=>.undef
abbrev Aa.Fj.ts:List AT:=[.i .i64,.i .i64,.cp [.i .i64,.i .i64,.s .u64]]
def Aa.Fj.spec:Entry:=entry Aa.Fj.ts Aa.Fj.pre Aa.Fj.out
def Aa.Fk.pre:List Atom→Bool
 | [.i i,.i k,.i r,.i c,.l l,.i x,.i y]=>C0 r c l (x+i) (y+k)&&V3 x y i k
 | _=>false
def Aa.Fk.out:List Atom→DV
 | [.i i,.i k,.i _r,.i c,.l l,.i x,.i y]=>.int .u64 (Eb c l (x+i) (y+k))
 | _=>.undef
abbrev Aa.Fk.ts:List AT:=[.i .i64,.i .i64,.cp [.i .i64,.i .i64,.s .u64],.cp [.i .i64],.cp [.i .i64]]
def Aa.Fk.spec:Entry:=entry Aa.Fk.ts Aa.Fk.pre Aa.Fk.out
def Aa.A07.pre:List Atom→Bool
 | [.i i,.i k,.i r,.i c,.l l,.i p,.i q,.l m]=>((C0 r c l i k&&C0 p q m i k)&&Ai l)&&Ai m
 | _=>false
def Aa.Eh.pre:List Atom→Bool
 | [.i i,.i k,.i r,.i c,.l l,.i p,.i q,.l m]=>Nj r c l p q m i k
 | _=>false
def Aa.Eh.out:List Atom→DV
 | [.i i,.i k,.i r,.i c,.l l,.i _p,.i q,.l m]=>.int .u64 (Ji r c l q m i k)
 | _=>.undef
abbrev Aa.Eh.ts:List AT:=[.i .i64,.i .i64,.cp [.i .i64,.i .i64,.s .u64],.cp [.i .i64,.i .i64,.s .u64]]
def Aa.Eh.spec:Entry:=entry Aa.Eh.ts Aa.Eh.pre Aa.Eh.out
def Aa.Hm.pre:List Atom→Bool
 | [.i i,.i k,.i r,.i c,.l l,.i p,.i q,.l m]=>Tr r c l p q m i k
 | _=>false
def Aa.Hm.out:List Atom→DV
 | [.i i,.i k,.i _r,.i c,.l l,.i p,.i q,.l m]=>.int .u64 (Je (G6 c l i) (Kv p q m k))
 | _=>.undef
abbrev Aa.Hm.ts:List AT:=[.i .i64,.i .i64,.cp [.i .i64,.i .i64,.s .u64],.cp [.i .i64,.i .i64,.s .u64]]
def Aa.Hm.spec:Entry:=entry Aa.Hm.ts Aa.Hm.pre Aa.Hm.out
def Aa.of.Bb.pre:List Atom→Bool
 | [.i a,.i b]=>(Bh a&&Bh b)
 | _=>false
def Aa.of.Bb.out:List Atom→DV
 | [.i a,.i b]=>.agg [.int .i64 a,.int .i64 b,.ints .fresh .u64 (Bv (toNat a) (toNat b) (fun _ _=>0))]
 | _=>.undef
abbrev Aa.of.Bb.ts:List AT:=[.i .i64,.i .i64,.fn 205 []]
def Aa.of.Bb.spec:Entry:=entry Aa.of.Bb.ts Aa.of.Bb.pre Aa.of.Bb.out
def Aa.of.Ep.pre:List Atom→Bool
 | [.i a,.i b]=>(Bh a&&Bh b)
 | _=>false
def Aa.of.Ep.out:List Atom→DV
 | [.i a,.i b]=>.agg [.int .i64 a,.int .i64 b,.ints .fresh .u64 (Bv (toNat a) (toNat b) (fun j1 j2=>N3 j1 j2))]
 | _=>.undef
abbrev Aa.of.Ep.ts:List AT:=[.i .i64,.i .i64,.fn 246 []]
def Aa.of.Ep.spec:Entry:=entry Aa.of.Ep.ts Aa.of.Ep.pre Aa.of.Ep.out
def Aa.of.Cl.pre:List Atom→Bool
 | [.i a,.i b,.i r,.i c,.l l]=>(Bh a&&Bh b)&&A2 r c l&&decide (a=c∧b=r)
 | _=>false
def Aa.of.Cl.out:List Atom→DV
 | [.i a,.i b,.i _r,.i c,.l l]=>.agg [.int .i64 a,.int .i64 b,.ints .fresh .u64 (Bv (toNat a) (toNat b) (fun j1 j2=>Eb c l j2 j1))]
 | _=>.undef
abbrev Aa.of.Cl.ts:List AT:=[.i .i64,.i .i64,.fn 220 [.cp [.i .i64,.i .i64,.s .u64]]]
def Aa.of.Cl.spec:Entry:=entry Aa.of.Cl.ts Aa.of.Cl.pre Aa.of.Cl.out
def Aa.of.Part.pre:List Atom→Bool
 | [.i a,.i b,.i r,.i c,.l l,.i x,.i y]=>(Bh a&&Bh b)&&A2 r c l&&Ic r c x y a b
 | _=>false
def Aa.of.Part.out:List Atom→DV
 | [.i a,.i b,.i _r,.i c,.l l,.i x,.i y]=>.agg [.int .i64 a,.int .i64 b,.ints .fresh .u64 (Bv (toNat a) (toNat b) (fun j1 j2=>Eb c l (x+j1) (y+j2)))]
 | _=>.undef
abbrev Aa.of.Part.ts:List AT:=[.i .i64,.i .i64,.fn 192 [.cp [.i .i64,.i .i64,.s .u64],.cp [.i .i64],.cp [.i .i64]]]
def Aa.of.Part.spec:Entry:=entry Aa.of.Part.ts Aa.of.Part.pre Aa.of.Part.out
def Aa.of.Stack.pre:List Atom→Bool
 | [.i a,.i b,.i r,.i c,.l l,.i p,.i q,.l m]=>(Bh a&&Bh b)&&(A2 r c l&&A2 p q m)&&decide (a=r+p∧b=c∧q=c)
 | _=>false
def Aa.of.Stack.out:List Atom→DV
 | [.i a,.i b,.i r,.i c,.l l,.i _p,.i q,.l m]=>.agg [.int .i64 a,.int .i64 b,.ints .fresh .u64 (Bv (toNat a) (toNat b) (fun j1 j2=>Ji r c l q m j1 j2))]
 | _=>.undef
abbrev Aa.of.Stack.ts:List AT:=[.i .i64,.i .i64,.fn 195 [.cp [.i .i64,.i .i64,.s .u64],.cp [.i .i64,.i .i64,.s .u64]]]
def Aa.of.Stack.spec:Entry:=entry Aa.of.Stack.ts Aa.of.Stack.pre Aa.of.Stack.out
def Aa.of.Mul.pre:List Atom→Bool
 | [.i a,.i b,.i r,.i c,.l l,.i p,.i q,.l m]=>(Bh a&&Bh b)&&((A2 r c l&&A2 p q m)&&(Ai l&&Ai m))&&decide (a=r∧b=q∧c=p)
 | _=>false
def Aa.of.Mul.out:List Atom→DV
 | [.i a,.i b,.i _r,.i c,.l l,.i p,.i q,.l m]=>.agg [.int .i64 a,.int .i64 b,.ints .fresh .u64 (Bv (toNat a) (toNat b) (fun j1 j2=>Je (G6 c l j1) (Kv p q m j2)))]
 | _=>.undef
abbrev Aa.of.Mul.ts:List AT:=[.i .i64,.i .i64,.fn 188 [.cp [.i .i64,.i .i64,.s .u64],.cp [.i .i64,.i .i64,.s .u64]]]
def Aa.of.Mul.spec:Entry:=entry Aa.of.Mul.ts Aa.of.Mul.pre Aa.of.Mul.out
def Aa.Bb.pre:List Atom→Bool
 | [.i _a,.i _b]=>true
 | _=>false
def Aa.Bb.out:List Atom→DV
 | [.i a,.i b]=>.tup [.agg [.int .i64 ((C1 a b).1),.int .i64 ((C1 a b).2.1),.ints .fresh .u64 ((C1 a b).2.2.1)],.int .i64 ((C1 a b).2.2.2)]
 | _=>.undef
abbrev Aa.Bb.ts:List AT:=[.i .i64,.i .i64]
def Aa.Bb.spec:Entry:=entry Aa.Bb.ts Aa.Bb.pre Aa.Bb.out
def Aa.Ep.pre:List Atom→Bool
 | [.i _n]=>true
 | _=>false
def Aa.Ep.out:List Atom→DV
 | [.i n]=>.tup [.agg [.int .i64 ((Nt n).1),.int .i64 ((Nt n).2.1),.ints .fresh .u64 ((Nt n).2.2.1)],.int .i64 ((Nt n).2.2.2)]
 | _=>.undef
abbrev Aa.Ep.ts:List AT:=[.i .i64]
def Aa.Ep.spec:Entry:=entry Aa.Ep.ts Aa.Ep.pre Aa.Ep.out
def Aa.Cl.pre:List Atom→Bool
 | [.i _r,.i _c,.l _l]=>true
 | _=>false
def Aa.Cl.out:List Atom→DV
 | [.i r,.i c,.l l]=>.tup [.agg [.int .i64 ((Fe r c l).1),.int .i64 ((Fe r c l).2.1),.ints .fresh .u64 ((Fe r c l).2.2.1)],.int .i64 ((Fe r c l).2.2.2)]
 | _=>.undef
abbrev Aa.Cl.ts:List AT:=[.st [.i .i64,.i .i64,.s .u64]]
def Aa.Cl.spec:Entry:=entry Aa.Cl.ts Aa.Cl.pre Aa.Cl.out
def Aa.Part.pre:List Atom→Bool
 | [.i _r,.i _c,.l _l,.i _x,.i _y,.i _a,.i _b]=>true
 | _=>false
def Aa.Part.out:List Atom→DV
 | [.i r,.i c,.l l,.i x,.i y,.i a,.i b]=>.tup [.agg [.int .i64 ((Hu r c l x y a b).1),.int .i64 ((Hu r c l x y a b).2.1),.ints .fresh .u64 ((Hu r c l x y a b).2.2.1)],.int .i64 ((Hu r c l x y a b).2.2.2)]
 | _=>.undef
abbrev Aa.Part.ts:List AT:=[.st [.i .i64,.i .i64,.s .u64],.i .i64,.i .i64,.i .i64,.i .i64]
def Aa.Part.spec:Entry:=entry Aa.Part.ts Aa.Part.pre Aa.Part.out
def Aa.Stack.pre:List Atom→Bool
 | [.i _r,.i _c,.l _l,.i _p,.i _q,.l _m]=>true
 | _=>false
def Aa.Stack.out:List Atom→DV
 | [.i r,.i c,.l l,.i p,.i q,.l m]=>.tup [.agg [.int .i64 ((D5 r c l p q m).1),.int .i64 ((D5 r c l p q m).2.1),.ints .fresh .u64 ((D5 r c l p q m).2.2.1)],.int .i64 ((D5 r c l p q m).2.2.2)]
 | _=>.undef
abbrev Aa.Stack.ts:List AT:=[.st [.i .i64,.i .i64,.s .u64],.st [.i .i64,.i .i64,.s .u64]]
def Aa.Stack.spec:Entry:=entry Aa.Stack.ts Aa.Stack.pre Aa.Stack.out
def Aa.Mul.pre:List Atom→Bool
 | [.i _r,.i _c,.l l,.i _p,.i _q,.l m]=>Ai l&&Ai m
 | _=>false
def Aa.Mul.out:List Atom→DV
 | [.i r,.i c,.l l,.i p,.i q,.l m]=>.tup [.agg [.int .i64 ((N2 r c l p q m).1),.int .i64 ((N2 r c l p q m).2.1),.ints .fresh .u64 ((N2 r c l p q m).2.2.1)],.int .i64 ((N2 r c l p q m).2.2.2)]
 | _=>.undef
abbrev Aa.Mul.ts:List AT:=[.st [.i .i64,.i .i64,.s .u64],.st [.i .i64,.i .i64,.s .u64]]
def Aa.Mul.spec:Entry:=entry Aa.Mul.ts Aa.Mul.pre Aa.Mul.out
def Ak.Hl.pre:List Atom→Bool
 | [.i _r,.i _c,.l _l]=>true
 | _=>false
def Ak.Hl.out:List Atom→DV
 | [.i r,.i c,.l l]=>.bool (A2 r c l)
 | _=>.undef
abbrev Ak.Hl.ts:List AT:=[.st [.i .i64,.i .i64,.s .u64]]
def Ak.Hl.spec:Entry:=entry Ak.Hl.ts Ak.Hl.pre Ak.Hl.out
def Ak.At.pre:List Atom→Bool
 | [.i r,.i c,.l l,.i i,.i k]=>C0 r c l i k
 | _=>false
def Ak.At.out:List Atom→DV
 | [.i _r,.i c,.l l,.i i,.i k]=>.int .u64 (Eb c l i k)
 | _=>.undef
abbrev Ak.At.ts:List AT:=[.st [.i .i64,.i .i64,.s .u64],.i .i64,.i .i64]
def Ak.At.spec:Entry:=entry Ak.At.ts Ak.At.pre Ak.At.out
def Ak.Bb.pre:List Atom→Bool
 | [.i a,.i b]=>Bh a&&Bh b
 | _=>false
def Ak.Bb.out:List Atom→DV
 | [.i a,.i b]=>.agg [.int .i64 a,.int .i64 b,.ints .fresh .u64 (Bv (toNat a) (toNat b) (fun _ _=>0))]
 | _=>.undef
abbrev Ak.Bb.ts:List AT:=[.i .i64,.i .i64]
def Ak.Bb.spec:Entry:=entry Ak.Bb.ts Ak.Bb.pre Ak.Bb.out
def Ak.Fx.pre:List Atom→Bool
 | [.i r,.i c,.l l,.i i,.i k,.i _b]=>C0 r c l i k
 | _=>false
def Ak.Fx.out:List Atom→DV
 | [.i r,.i c,.l l,.i i,.i k,.i b]=>.agg [.int .i64 r,.int .i64 c,.ints .fresh .u64 (List.set l (toNat (i*c+k)) b)]
 | _=>.undef
abbrev Ak.Fx.ts:List AT:=[.st [.i .i64,.i .i64,.s .u64],.i .i64,.i .i64,.i .u64]
def Ak.Fx.spec:Entry:=entry Ak.Fx.ts Ak.Fx.pre Ak.Fx.out
def Ak.Ep.pre:List Atom→Bool
 | [.i n]=>Bh n
 | _=>false
def Ak.Ep.out:List Atom→DV
 | [.i n]=>.agg [.int .i64 n,.int .i64 n,.ints .fresh .u64 (Bv (toNat n) (toNat n) (fun j1 j2=>N3 j1 j2))]
 | _=>.undef
abbrev Ak.Ep.ts:List AT:=[.i .i64]
def Ak.Ep.spec:Entry:=entry Ak.Ep.ts Ak.Ep.pre Ak.Ep.out
def Ak.Row.pre:List Atom→Bool
 | [.i r,.i c,.l l,.i i]=>Pw r c l i
 | _=>false
def Ak.Row.out:List Atom→DV
 | [.i _r,.i c,.l l,.i i]=>.ints .arg .u64 (G6 c l i)
 | _=>.undef
abbrev Ak.Row.ts:List AT:=[.st [.i .i64,.i .i64,.s .u64],.i .i64]
def Ak.Row.spec:Entry:=entry Ak.Row.ts Ak.Row.pre Ak.Row.out
def Ak.Po.pre:List Atom→Bool
 | [.i r,.i c,.l l,.i k,.i f]=>Hj r c l k&&Cz (0≤f∧f≤r)
 | _=>false
def Ak.Po.out:List Atom→DV
 | [.i r,.i c,.l l,.i k,.i f]=>.ints .fresh .u64 (Ct c l k f (toNat (r-f)))
 | _=>.undef
abbrev Ak.Po.ts:List AT:=[.st [.i .i64,.i .i64,.s .u64],.i .i64,.i .i64]
def Ak.Po.spec:Entry:=entry Ak.Po.ts Ak.Po.pre Ak.Po.out
def Ak.Mul.pre:List Atom→Bool
 | [.i r,.i c,.l l,.i p,.i q,.l m]=>(A2 r c l&&A2 p q m)&&((Ai l&&Ai m)&&decide (c=p))
 | _=>false
def Ak.Mul.out:List Atom→DV
 | [.i r,.i c,.l l,.i p,.i q,.l m]=>.agg [.int .i64 r,.int .i64 q,.ints .fresh .u64 (Bv (toNat r) (toNat q) (fun j1 j2=>Je (G6 c l j1) (Kv p q m j2)))]
 | _=>.undef
abbrev Ak.Mul.ts:List AT:=[.st [.i .i64,.i .i64,.s .u64],.st [.i .i64,.i .i64,.s .u64]]
def Ak.Mul.spec:Entry:=entry Ak.Mul.ts Ak.Mul.pre Ak.Mul.out
def Ak.Cl.pre:List Atom→Bool
 | [.i r,.i c,.l l]=>A2 r c l
 | _=>false
def Ak.Cl.out:List Atom→DV
 | [.i r,.i c,.l l]=>.agg [.int .i64 c,.int .i64 r,.ints .fresh .u64 (Bv (toNat c) (toNat r) (fun j1 j2=>Eb c l j2 j1))]
 | _=>.undef
abbrev Ak.Cl.ts:List AT:=[.st [.i .i64,.i .i64,.s .u64]]
def Ak.Cl.spec:Entry:=entry Ak.Cl.ts Ak.Cl.pre Ak.Cl.out
def Ak.Part.pre:List Atom→Bool
 | [.i r,.i c,.l l,.i x,.i y,.i a,.i b]=>A2 r c l&&Ic r c x y a b
 | _=>false
def Ak.Part.out:List Atom→DV
 | [.i _r,.i c,.l l,.i x,.i y,.i a,.i b]=>.agg [.int .i64 a,.int .i64 b,.ints .fresh .u64 (Bv (toNat a) (toNat b) (fun j1 j2=>Eb c l (x+j1) (y+j2)))]
 | _=>.undef
abbrev Ak.Part.ts:List AT:=[.st [.i .i64,.i .i64,.s .u64],.i .i64,.i .i64,.i .i64,.i .i64]
def Ak.Part.spec:Entry:=entry Ak.Part.ts Ak.Part.pre Ak.Part.out
def Ag.Jl.pre:List Atom→Bool
 | [.l l,.i _i]=>Ia l
 | _=>false
def Ag.Jl.out:List Atom→DV
 | [.l l,.i i]=>.int .u64 (Hh l i)
 | _=>.undef
abbrev Ag.Jl.ts:List AT:=[.s .u32,.i .i64]
def Ag.Jl.spec:Entry:=entry Ag.Jl.ts Ag.Jl.pre Ag.Jl.out
def Ag.Made.pre:List Atom→Bool
 | [.b _n,.l l]=>Ia l
 | _=>false
def Ag.Made.out:List Atom→DV
 | [.b n,.l l]=>.agg [.bool (Bj (wv n l)),.ints .arg .u32 (Aq (wv n l))]
 | _=>.undef
abbrev Ag.Made.ts:List AT:=[.b,.s .u32]
def Ag.Made.spec:Entry:=entry Ag.Made.ts Ag.Made.pre Ag.Made.out
def Ag.Of.pre:List Atom→Bool
 | [.i n]=>Alb n
 | _=>false
def Ag.Of.out:List Atom→DV
 | [.i n]=>.agg [.bool (Bj (n)),.ints .arg .u32 (Aq (n))]
 | _=>.undef
abbrev Ag.Of.ts:List AT:=[.i .i64]
def Ag.Of.spec:Entry:=entry Ag.Of.ts Ag.Of.pre Ag.Of.out
def Ag.Ik.pre:List Atom→Bool
 | [.l a,.l b]=>Ia a&&Ia b
 | _=>false
def Ag.Ik.out:List Atom→DV
 | [.l a,.l b]=>.int .i64 (Ww (Co a) (Co b))
 | _=>.undef
abbrev Ag.Ik.ts:List AT:=[.s .u32,.s .u32]
def Ag.Ik.spec:Entry:=entry Ag.Ik.ts Ag.Ik.pre Ag.Ik.out
def Ag.plus.pre:List Atom→Bool
 | [.l a,.l b]=>Ia a&&Ia b
 | _=>false
def Ag.plus.out:List Atom→DV
 | [.l a,.l b]=>.ints .arg .u32 (Kf a b)
 | _=>.undef
abbrev Ag.plus.ts:List AT:=[.s .u32,.s .u32]
def Ag.plus.spec:Entry:=entry Ag.plus.ts Ag.plus.pre Ag.plus.out
def Ag.minus.pre:List Atom→Bool
 | [.l a,.l b]=>(Ia a&&Ia b)&&leL b a
 | _=>false
def Ag.minus.out:List Atom→DV
 | [.l a,.l b]=>.ints .arg .u32 (Hz a b)
 | _=>.undef
abbrev Ag.minus.ts:List AT:=[.s .u32,.s .u32]
def Ag.minus.spec:Entry:=entry Ag.minus.ts Ag.minus.pre Ag.minus.out
def Ag.Add.pre:List Atom→Bool
 | [.b n,.l a,.b m,.l b]=>Ju n a&&Ju m b
 | _=>false
def Ag.Add.out:List Atom→DV
 | [.b n,.l a,.b m,.l b]=>.agg [.bool (Bj (wv n a+wv m b)),.ints .arg .u32 (Aq (wv n a+wv m b))]
 | _=>.undef
abbrev Ag.Add.ts:List AT:=[.st [.b,.s .u32],.st [.b,.s .u32]]
def Ag.Add.spec:Entry:=entry Ag.Add.ts Ag.Add.pre Ag.Add.out
def Ag.Neg.pre:List Atom→Bool
 | [.b n,.l a]=>Ju n a
 | _=>false
def Ag.Neg.out:List Atom→DV
 | [.b n,.l a]=>.agg [.bool (Bj (- wv n a)),.ints .arg .u32 (Aq (- wv n a))]
 | _=>.undef
abbrev Ag.Neg.ts:List AT:=[.st [.b,.s .u32]]
def Ag.Neg.spec:Entry:=entry Ag.Neg.ts Ag.Neg.pre Ag.Neg.out
def Ag.Fo.pre:List Atom→Bool
 | [.b n,.l a]=>Ju n a
 | _=>false
def Ag.Fo.out:List Atom→DV
 | [.b n,.l a]=>.agg [.bool (Bj (2*wv n a)),.ints .arg .u32 (Aq (2*wv n a))]
 | _=>.undef
abbrev Ag.Fo.ts:List AT:=[.st [.b,.s .u32]]
def Ag.Fo.spec:Entry:=entry Ag.Fo.ts Ag.Fo.pre Ag.Fo.out
def Ag.Hs.pre:List Atom→Bool
 | [.b n,.l a]=>Ju n a
 | _=>false
def Ag.Hs.out:List Atom→DV
 | [.b n,.l a]=>.agg [.bool (Bj (Lg (wv n a) 1)),.ints .arg .u32 (Aq (Lg (wv n a) 1))]
 | _=>.undef
abbrev Ag.Hs.ts:List AT:=[.st [.b,.s .u32]]
def Ag.Hs.spec:Entry:=entry Ag.Hs.ts Ag.Hs.pre Ag.Hs.out
def Ag.Br.pre:List Atom→Bool
 | [.b n,.l a,.i k]=>Ya n a&&Awj k
 | _=>false
def Ag.Br.out:List Atom→DV
 | [.b n,.l a,.i k]=>.agg [.bool (Bj (G8 (wv n a) k)),.ints .arg .u32 (Aq (G8 (wv n a) k))]
 | _=>.undef
abbrev Ag.Br.ts:List AT:=[.st [.b,.s .u32],.i .i64]
def Ag.Br.spec:Entry:=entry Ag.Br.ts Ag.Br.pre Ag.Br.out
def Ag.Qu.pre:List Atom→Bool
 | [.b n,.l a]=>Ju n a
 | _=>false
def Ag.Qu.out:List Atom→DV
 | [.b n,.l a]=>.int .i64 (Z3 (wv n a))
 | _=>.undef
abbrev Ag.Qu.ts:List AT:=[.st [.b,.s .u32]]
def Ag.Qu.spec:Entry:=entry Ag.Qu.ts Ag.Qu.pre Ag.Qu.out
def Ag.W4.pre:List Atom→Bool
 | [.b n,.l a]=>Ju n a
 | _=>false
def Ag.W4.out:List Atom→DV
 | [.b n,.l a]=>.bool (Amu (wv n a))
 | _=>.undef
abbrev Ag.W4.ts:List AT:=[.st [.b,.s .u32]]
def Ag.W4.spec:Entry:=entry Ag.W4.ts Ag.W4.pre Ag.W4.out
def Aw.Of.pre:List Atom→Bool
 | [.b n,.l a,.i e]=>Ju n a&&Abb e
 | _=>false
def Aw.Of.out:List Atom→DV
 | [.b n,.l a,.i e]=>.agg [.bool (Bj (mD (wv n a))),.ints .arg .u32 (Aq (mD (wv n a))),.int .i64 (eD (wv n a) e)]
 | _=>.undef
abbrev Aw.Of.ts:List AT:=[.st [.b,.s .u32],.i .i64]
def Aw.Of.spec:Entry:=entry Aw.Of.ts Aw.Of.pre Aw.Of.out
def Aw.Neg.pre:List Atom→Bool
 | [.b n,.l a,.i _e]=>Ju n a
 | _=>false
def Aw.Neg.out:List Atom→DV
 | [.b n,.l a,.i e]=>.agg [.bool (Bj (- wv n a)),.ints .arg .u32 (Aq (- wv n a)),.int .i64 e]
 | _=>.undef
abbrev Aw.Neg.ts:List AT:=[.st [.b,.s .u32,.i .i64]]
def Aw.Neg.spec:Entry:=entry Aw.Neg.ts Aw.Neg.pre Aw.Neg.out
def Aw.W6.pre:List Atom→Bool
 | [.b n,.l a,.i _e,.b m,.l b,.i _f]=>Ju n a&&Ju m b
 | _=>false
def Aw.W6.out:List Atom→DV
 | [.b n,.l a,.i e,.b m,.l b,.i f]=>.int .i64 (C6 (wv n a) e (wv m b) f)
 | _=>.undef
abbrev Aw.W6.ts:List AT:=[.st [.b,.s .u32,.i .i64],.st [.b,.s .u32,.i .i64]]
def Aw.W6.spec:Entry:=entry Aw.W6.ts Aw.W6.pre Aw.W6.out
def Aw.Level.pre:List Atom→Bool
 | [.b n,.l a,.i e,.i f]=>Ya n a&&Age (wv n a) e f
 | _=>false
def Aw.Level.out:List Atom→DV
 | [.b n,.l a,.i e,.i f]=>.agg [.bool (Bj (G8 (wv n a) (e-f))),.ints .arg .u32 (Aq (G8 (wv n a) (e-f)))]
 | _=>.undef
abbrev Aw.Level.ts:List AT:=[.st [.b,.s .u32,.i .i64],.i .i64]
def Aw.Level.spec:Entry:=entry Aw.Level.ts Aw.Level.pre Aw.Level.out
def Aw.Add.pre:List Atom→Bool
 | [.b n,.l a,.i e,.b m,.l b,.i f]=>((Ya n a&&Ya m b)&&Xu e)&&Xu f
 | _=>false
def Aw.Add.out:List Atom→DV
 | [.b n,.l a,.i e,.b m,.l b,.i f]=>.agg [.bool (Bj (Ru (wv n a) e (wv m b) f)),.ints .arg .u32 (Aq (Ru (wv n a) e (wv m b) f)),.int .i64 (Asf (wv n a) e (wv m b) f)]
 | _=>.undef
abbrev Aw.Add.ts:List AT:=[.st [.b,.s .u32,.i .i64],.st [.b,.s .u32,.i .i64]]
def Aw.Add.spec:Entry:=entry Aw.Add.ts Aw.Add.pre Aw.Add.out
def Aw.Sub.pre:List Atom→Bool
 | [.b n,.l a,.i e,.b m,.l b,.i f]=>((Ya n a&&Ya m b)&&Xu e)&&Xu f
 | _=>false
def Aw.Sub.out:List Atom→DV
 | [.b n,.l a,.i e,.b m,.l b,.i f]=>.agg [.bool (Bj (Ru (wv n a) e (- wv m b) f)),.ints .arg .u32 (Aq (Ru (wv n a) e (- wv m b) f)),.int .i64 (Asf (wv n a) e (- wv m b) f)]
 | _=>.undef
abbrev Aw.Sub.ts:List AT:=[.st [.b,.s .u32,.i .i64],.st [.b,.s .u32,.i .i64]]
def Aw.Sub.spec:Entry:=entry Aw.Sub.ts Aw.Sub.pre Aw.Sub.out
def Aw.Vv.pre:List Atom→Bool
 | [.b n,.l a,.i e]=>Ju n a&&Xu e
 | _=>false
def Aw.Vv.out:List Atom→DV
 | [.b n,.l a,.i e]=>.int .i64 (Iv (wv n a) e)
 | _=>.undef
abbrev Aw.Vv.ts:List AT:=[.st [.b,.s .u32,.i .i64]]
def Aw.Vv.spec:Entry:=entry Aw.Vv.ts Aw.Vv.pre Aw.Vv.out
def Aw.Sign.pre:List Atom→Bool
 | [.b n,.l a,.i _e]=>Ju n a
 | _=>false
def Aw.Sign.out:List Atom→DV
 | [.b n,.l a,.i _e]=>.int .i64 (N1 (wv n a))
 | _=>.undef
abbrev Aw.Sign.ts:List AT:=[.st [.b,.s .u32,.i .i64]]
def Aw.Sign.spec:Entry:=entry Aw.Sign.ts Aw.Sign.pre Aw.Sign.out
def Aw.Compare.pre:List Atom→Bool
 | [.b n,.l a,.i e,.b m,.l b,.i f]=>((Ya n a&&Ya m b)&&Xu e)&&Xu f
 | _=>false
def Aw.Compare.out:List Atom→DV
 | [.b n,.l a,.i e,.b m,.l b,.i f]=>.int .i64 (Xy (wv n a) e (wv m b) f)
 | _=>.undef
abbrev Aw.Compare.ts:List AT:=[.st [.b,.s .u32,.i .i64],.st [.b,.s .u32,.i .i64]]
def Aw.Compare.spec:Entry:=entry Aw.Compare.ts Aw.Compare.pre Aw.Compare.out
def A1.Value.pre:List Atom→Bool
 | [.i x]=>Af x
 | _=>false
def A1.Value.out:List Atom→DV
 | [.i x]=>.agg [.bool (Bj (mD (Fc x))),.ints .arg .u32 (Aq (mD (Fc x))),.int .i64 (eD (Fc x) (Bi x))]
 | _=>.undef
abbrev A1.Value.ts:List AT:=[.i .u64]
def A1.Value.spec:Entry:=entry A1.Value.ts A1.Value.pre A1.Value.out
def compare.K2.pre:List Atom→Bool
 | [.i b]=>Af b
 | _=>false
def compare.K2.out:List Atom→DV
 | [.i b]=>.int .i64 (Abz b)
 | _=>.undef
abbrev compare.K2.ts:List AT:=[.i .u64]
def compare.K2.spec:Entry:=entry compare.K2.ts compare.K2.pre compare.K2.out
def compare.Order.pre:List Atom→Bool
 | [.i a,.i b]=>Af a&&Af b
 | _=>false
def compare.Order.out:List Atom→DV
 | [.i a,.i b]=>.tup [.int .i64 (Tp a b),.bool (Ab3 a b)]
 | _=>.undef
abbrev compare.Order.ts:List AT:=[.i .u64,.i .u64]
def compare.Order.spec:Entry:=entry compare.Order.ts compare.Order.pre compare.Order.out
def compare.Lf.pre:List Atom→Bool
 | [.i a,.i b]=>Af a&&Af b
 | _=>false
def compare.Lf.out:List Atom→DV
 | [.i a,.i b]=>.bool (decide (Tp a b<0))
 | _=>.undef
abbrev compare.Lf.ts:List AT:=[.i .u64,.i .u64]
def compare.Lf.spec:Entry:=entry compare.Lf.ts compare.Lf.pre compare.Lf.out
def compare.G1.pre:List Atom→Bool
 | [.i a]=>Af a
 | _=>false
def compare.G1.out:List Atom→DV
 | [.i a]=>.int .u64 (It a)
 | _=>.undef
abbrev compare.G1.ts:List AT:=[.i .u64]
def compare.G1.spec:Entry:=entry compare.G1.ts compare.G1.pre compare.G1.out
def compare.Ey.pre:List Atom→Bool
 | [.i a,.i n]=>Di a n
 | _=>false
def compare.Ey.out:List Atom→DV
 | [.i a,.i n]=>.tup [.int .u64 (Bp a n),.int .u8 (Ata a n)]
 | _=>.undef
abbrev compare.Ey.ts:List AT:=[.i .u64,.i .i64]
def compare.Ey.spec:Entry:=entry compare.Ey.ts compare.Ey.pre compare.Ey.out
def Ad.Br.pre:List Atom→Bool
 | [.i a,.i n]=>Di a n
 | _=>false
def Ad.Br.out:List Atom→DV
 | [.i a,.i n]=>.int .u64 (Bp a n)
 | _=>.undef
abbrev Ad.Br.ts:List AT:=[.i .u64,.i .i64]
def Ad.Br.spec:Entry:=entry Ad.Br.ts Ad.Br.pre Ad.Br.out
def Ad.Div.pre:List Atom→Bool
 | [.i a,.i b]=>Af a&&Af b
 | _=>false
def Ad.Div.out:List Atom→DV
 | [.i a,.i b]=>.int .u64 (E4 a b)
 | _=>.undef
abbrev Ad.Div.ts:List AT:=[.i .u64,.i .u64]
def Ad.Div.spec:Entry:=entry Ad.Div.ts Ad.Div.pre Ad.Div.out
def Ad.Bq.pre:List Atom→Bool
 | [.l x]=>Cp x
 | _=>false
def Ad.Bq.out:List Atom→DV
 | [.l x]=>.int .u64 (Bg x)
 | _=>.undef
abbrev Ad.Bq.ts:List AT:=[.s .u64]
def Ad.Bq.spec:Entry:=entry Ad.Bq.ts Ad.Bq.pre Ad.Bq.out
def Ad.Finite.pre:List Atom→Bool
 | [.l x]=>Cp x
 | _=>false
def Ad.Finite.out:List Atom→DV
 | [.l x]=>.bool (C2 x)
 | _=>.undef
abbrev Ad.Finite.ts:List AT:=[.s .u64]
def Ad.Finite.spec:Entry:=entry Ad.Finite.ts Ad.Finite.pre Ad.Finite.out
def Cs.Check.pre:List Atom→Bool
 | [.i _r,.i _c,.l l]=>Ai l
 | _=>false
def Cs.Check.out:List Atom→DV
 | [.i r,.i c,.l l]=>.int .i64 (B9 r c l)
 | _=>.undef
abbrev Cs.Check.ts:List AT:=[.st [.i .i64,.i .i64,.s .u64]]
def Cs.Check.spec:Entry:=entry Cs.Check.ts Cs.Check.pre Cs.Check.out
def solve.check.pre:List Atom→Bool
 | [.i _r,.i _c,.l l,.i _p,.i _q,.l m]=>Ai l&&Ai m
 | _=>false
def solve.check.out:List Atom→DV
 | [.i r,.i c,.l l,.i p,.i q,.l m]=>.int .i64 (Mg r c l p q m)
 | _=>.undef
abbrev solve.check.ts:List AT:=[.st [.i .i64,.i .i64,.s .u64],.st [.i .i64,.i .i64,.s .u64]]
def solve.check.spec:Entry:=entry solve.check.ts solve.check.pre solve.check.out
def F5.F4.up.pre:List Atom→Bool
 | [.i n,.i k]=>Cz (0≤k∧k<n∧n≤10)
 | _=>false
def F5.F4.up.out:List Atom→DV
 | [.i n,.i k]=>.int .i64 (n-1-k)
 | _=>.undef
abbrev F5.F4.up.ts:List AT:=[.i .i64,.i .i64]
def F5.F4.up.spec:Entry:=entry F5.F4.up.ts F5.F4.up.pre F5.F4.up.out
def solve.Ef.pre:List Atom→Bool
 | [.i _i,.i _k]=>true
 | _=>false
def solve.Ef.out:List Atom→DV
 | [.i i,.i k]=>.bool (decide (i<k))
 | _=>.undef
abbrev solve.Ef.ts:List AT:=[.i .i64,.i .i64]
def solve.Ef.spec:Entry:=entry solve.Ef.ts solve.Ef.pre solve.Ef.out
def Aa.of.Bb.own.pre:List Atom→Bool
 | [.i a,.i b]=>Bh a&&Bh b
 | _=>false
def Aa.of.Bb.own.out:List Atom→DV
 | [.i a,.i b]=>.agg [.int .i64 a,.int .i64 b,.ints (.own 108002 37) .u64 (Bv (toNat a) (toNat b) (fun _ _=>0))]
 | _=>.undef
abbrev Aa.of.Bb.own.ts:List AT:=[.i .i64,.i .i64,.fn 205 []]
def Aa.of.Bb.own.spec:Entry:=entry Aa.of.Bb.own.ts Aa.of.Bb.own.pre Aa.of.Bb.own.out
def Aa.Bb.own.pre:List Atom→Bool
 | [.i a,.i b]=>Bh a&&Bh b
 | _=>false
def Aa.Bb.own.out:List Atom→DV
 | [.i a,.i b]=>.tup [.agg [.int .i64 a,.int .i64 b,.ints (.own 1136 37) .u64 (Bv (toNat a) (toNat b) (fun _ _=>0))],.int .i64 (0:Int)]
 | _=>.undef
abbrev Aa.Bb.own.ts:List AT:=[.i .i64,.i .i64]
def Aa.Bb.own.spec:Entry:=entry Aa.Bb.own.ts Aa.Bb.own.pre Aa.Bb.own.out
def solve.Bu.Up.pre:List Atom→Bool
 | [.i r,.i c,.l l,.i p,.i q,.l m,.i n]=>Adg r c l p q m&&decide (n=r)
 | _=>false
def solve.Bu.Up.out:List Atom→DV
 | [.i r,.i c,.l l,.i _p,.i q,.l m,.i _n]=>.tup [.agg [.int .i64 ((Kj r q (upG c l q m (toNat r) (toNat q))).1),.int .i64 ((Kj r q (upG c l q m (toNat r) (toNat q))).2.1),.ints .fresh .u64 ((Kj r q (upG c l q m (toNat r) (toNat q))).2.2.1)],.int .i64 ((Kj r q (upG c l q m (toNat r) (toNat q))).2.2.2)]
 | _=>.undef
abbrev solve.Bu.Up.ts:List AT:=[.st [.i .i64,.i .i64,.s .u64],.st [.i .i64,.i .i64,.s .u64],.fm 103 [.i .i64],.fn 104 []]
def solve.Bu.Up.spec:Entry:=entry solve.Bu.Up.ts solve.Bu.Up.pre solve.Bu.Up.out
def solve.Ch.pre:List Atom→Bool
 | [.i _r,.i _c,.l l,.i _p,.i _q,.l m]=>Ai l&&Ai m
 | _=>false
def solve.Ch.out:List Atom→DV
 | [.i r,.i c,.l l,.i p,.i q,.l m]=>.tup [.agg [.int .i64 ((Ua r c l p q m).1),.int .i64 ((Ua r c l p q m).2.1),.ints .fresh .u64 ((Ua r c l p q m).2.2.1)],.int .i64 ((Ua r c l p q m).2.2.2)]
 | _=>.undef
abbrev solve.Ch.ts:List AT:=[.st [.i .i64,.i .i64,.s .u64],.st [.i .i64,.i .i64,.s .u64]]
def solve.Ch.spec:Entry:=entry solve.Ch.ts solve.Ch.pre solve.Ch.out
def solve.Flat.pre:List Atom→Bool
 | [.i _r,.i _c,.l l]=>Ai l
 | _=>false
def solve.Flat.out:List Atom→DV
 | [.i r,.i c,.l l]=>.tup [.bool ((Lz r c l).1),.int .i64 ((Lz r c l).2)]
 | _=>.undef
abbrev solve.Flat.ts:List AT:=[.st [.i .i64,.i .i64,.s .u64]]
def solve.Flat.spec:Entry:=entry solve.Flat.ts solve.Flat.pre solve.Flat.out
def qr.Fi.pre:List Atom→Bool
 | [.i _r,.i _c,.l l,.i _p,.i _q,.l m]=>Ai l&&Ai m
 | _=>false
def qr.Fi.out:List Atom→DV
 | [.i r,.i c,.l l,.i p,.i q,.l m]=>.tup [.agg [.int .i64 ((C8 r c l p q m).1),.int .i64 ((C8 r c l p q m).2.1),.ints .fresh .u64 ((C8 r c l p q m).2.2.1)],.int .i64 ((C8 r c l p q m).2.2.2)]
 | _=>.undef
abbrev qr.Fi.ts:List AT:=[.st [.i .i64,.i .i64,.s .u64],.st [.i .i64,.i .i64,.s .u64]]
def qr.Fi.spec:Entry:=entry qr.Fi.ts qr.Fi.pre qr.Fi.out
def Aj.Div.pre:List Atom→Bool
 | [.i a,.i b]=>Af a&&Af b
 | _=>false
def Aj.Div.out:List Atom→DV
 | [.i a,.i b]=>.int .u64 (E4 a b)
 | _=>.undef
abbrev Aj.Div.ts:List AT:=[.i .u64,.i .u64]
def Aj.Div.spec:Entry:=entry Aj.Div.ts Aj.Div.pre Aj.Div.out
def Aj.Finite.pre:List Atom→Bool
 | [.l x]=>Cp x
 | _=>false
def Aj.Finite.out:List Atom→DV
 | [.l x]=>.bool (C2 x)
 | _=>.undef
abbrev Aj.Finite.ts:List AT:=[.s .u64]
def Aj.Finite.spec:Entry:=entry Aj.Finite.ts Aj.Finite.pre Aj.Finite.out
def Gl.Check.pre:List Atom→Bool
 | [.i _r,.i _c,.l l]=>Ai l
 | _=>false
def Gl.Check.out:List Atom→DV
 | [.i r,.i c,.l l]=>.int .i64 (B9 r c l)
 | _=>.undef
abbrev Gl.Check.ts:List AT:=[.st [.i .i64,.i .i64,.s .u64]]
def Gl.Check.spec:Entry:=entry Gl.Check.ts Gl.Check.pre Gl.Check.out
def A3.Check.pre:List Atom→Bool
 | [.i _r,.i _c,.l l,.i _p,.i _q,.l m]=>Ai l&&Ai m
 | _=>false
def A3.Check.out:List Atom→DV
 | [.i r,.i c,.l l,.i p,.i q,.l m]=>.int .i64 (Mg r c l p q m)
 | _=>.undef
abbrev A3.Check.ts:List AT:=[.st [.i .i64,.i .i64,.s .u64],.st [.i .i64,.i .i64,.s .u64]]
def A3.Check.spec:Entry:=entry A3.Check.ts A3.Check.pre A3.Check.out
def A3.finite.pre:List Atom→Bool
 | [.i r,.i c,.l l]=>Ai l&&A2 r c l
 | _=>false
def A3.finite.out:List Atom→DV
 | [.i r,.i c,.l l]=>.tup [.agg [.int .i64 ((Kj r c l).1),.int .i64 ((Kj r c l).2.1),.ints .arg .u64 ((Kj r c l).2.2.1)],.int .i64 ((Kj r c l).2.2.2)]
 | _=>.undef
abbrev A3.finite.ts:List AT:=[.st [.i .i64,.i .i64,.s .u64]]
def A3.finite.spec:Entry:=entry A3.finite.ts A3.finite.pre A3.finite.out
def A3.Ch.pre:List Atom→Bool
 | [.i _r,.i _c,.l l,.i _p,.i _q,.l m]=>Ai l&&Ai m
 | _=>false
def A3.Ch.out:List Atom→DV
 | [.i r,.i c,.l l,.i p,.i q,.l m]=>.tup [.agg [.int .i64 ((Ua r c l p q m).1),.int .i64 ((Ua r c l p q m).2.1),.ints .arg .u64 ((Ua r c l p q m).2.2.1)],.int .i64 ((Ua r c l p q m).2.2.2)]
 | _=>.undef
abbrev A3.Ch.ts:List AT:=[.st [.i .i64,.i .i64,.s .u64],.st [.i .i64,.i .i64,.s .u64]]
def A3.Ch.spec:Entry:=entry A3.Ch.ts A3.Ch.pre A3.Ch.out
def math.G1.pre:List Atom→Bool
 | [.f _x]=>true
 | _=>false
def math.G1.out:List Atom→DV
 | [.f x]=>.fl (E3 x)
 | _=>.undef
abbrev math.G1.ts:List AT:=[.fl]
def math.G1.spec:Entry:=entry math.G1.ts math.G1.pre math.G1.out
def math.Ho.pre:List Atom→Bool
 | [.f x]=>T7 x
 | _=>false
def math.Ho.out:List Atom→DV
 | [.f x]=>.bool (decide (Ah x=4))
 | _=>.undef
abbrev math.Ho.ts:List AT:=[.fl]
def math.Ho.spec:Entry:=entry math.Ho.ts math.Ho.pre math.Ho.out
def math.Hp.pre:List Atom→Bool
 | [.f x,.i s]=>T7 x&&decide (s=0)
 | _=>false
def math.Hp.out:List Atom→DV
 | [.f x,.i _s]=>.bool (decide (Ah x=3))
 | _=>.undef
abbrev math.Hp.ts:List AT:=[.fl,.i .i64]
def math.Hp.spec:Entry:=entry math.Hp.ts math.Hp.pre math.Hp.out
def math.normalize.pre:List Atom→Bool
 | [.f x]=>Ag9 x
 | _=>false
def math.normalize.out:List Atom→DV
 | [.f x]=>.tup [.fl (Mq x),.int .i64 (Jc x)]
 | _=>.undef
abbrev math.normalize.ts:List AT:=[.fl]
def math.normalize.spec:Entry:=entry math.normalize.ts math.normalize.pre math.normalize.out
def math.Dw.pre:List Atom→Bool
 | [.f x,.f y]=>Ag9 y&&decide (x=0)
 | _=>false
def math.Dw.out:List Atom→DV
 | [.f _x,.f y]=>.fl (Bc (Bk y) 0)
 | _=>.undef
abbrev math.Dw.ts:List AT:=[.fl,.fl]
def math.Dw.spec:Entry:=entry math.Dw.ts math.Dw.pre math.Dw.out
def math.W7.pre:List Atom→Bool
 | [.i _s]=>true
 | _=>false
def math.W7.out:List Atom→DV
 | [.i s]=>.fl (Bc (decide (s<0)) Dz)
 | _=>.undef
abbrev math.W7.ts:List AT:=[.i .i64]
def math.W7.spec:Entry:=entry math.W7.ts math.W7.pre math.W7.out
def math.Gv.pre:List Atom→Bool
 | [.f x,.i k]=>T7 x&&Cz (-2300≤k∧k≤2300)
 | _=>false
def math.Gv.out:List Atom→DV
 | [.f x,.i k]=>.fl (I2 x k)
 | _=>.undef
abbrev math.Gv.ts:List AT:=[.fl,.i .i64]
def math.Gv.spec:Entry:=entry math.Gv.ts math.Gv.pre math.Gv.out
def math.Hx.pre:List Atom→Bool
 | [.f x,.i k]=>T7 x&&Cz (-2300≤k∧k≤2300)
 | _=>false
def math.Hx.out:List Atom→DV
 | [.f x,.i k]=>.fl (I2 x k)
 | _=>.undef
abbrev math.Hx.ts:List AT:=[.fl,.i .i64]
def math.Hx.spec:Entry:=entry math.Hx.ts math.Hx.pre math.Hx.out
def Aj.Br.pre:List Atom→Bool
 | [.i a,.i k]=>Di a k
 | _=>false
def Aj.Br.out:List Atom→DV
 | [.i a,.i k]=>.int .u64 (Bp a k)
 | _=>.undef
abbrev Aj.Br.ts:List AT:=[.i .u64,.i .i64]
def Aj.Br.spec:Entry:=entry Aj.Br.ts Aj.Br.pre Aj.Br.out
def Bn.ends.pre:List Atom→Bool
 | [.i b]=>Af b
 | _=>false
def Bn.ends.out:List Atom→DV
 | [.i b]=>.int .i64 (Rh b)
 | _=>.undef
abbrev Bn.ends.ts:List AT:=[.i .u64]
def Bn.ends.spec:Entry:=entry Bn.ends.ts Bn.ends.pre Bn.ends.out
def Bn.Order.pre:List Atom→Bool
 | [.i a,.i b]=>Af a&&Af b
 | _=>false
def Bn.Order.out:List Atom→DV
 | [.i a,.i b]=>.tup [.int .i64 (Tp a b),.bool (Ab3 a b)]
 | _=>.undef
abbrev Bn.Order.ts:List AT:=[.i .u64,.i .u64]
def Bn.Order.spec:Entry:=entry Bn.Order.ts Bn.Order.pre Bn.Order.out
def Bn.G1.pre:List Atom→Bool
 | [.i a]=>Af a
 | _=>false
def Bn.G1.out:List Atom→DV
 | [.i a]=>.int .u64 (It a)
 | _=>.undef
abbrev Bn.G1.ts:List AT:=[.i .u64]
def Bn.G1.spec:Entry:=entry Bn.G1.ts Bn.G1.pre Bn.G1.out
def Bn.Max.pre:List Atom→Bool
 | [.i a,.i b]=>Af a&&Af b
 | _=>false
def Bn.Max.out:List Atom→DV
 | [.i a,.i b]=>.int .u64 (Pf a b)
 | _=>.undef
abbrev Bn.Max.ts:List AT:=[.i .u64,.i .u64]
def Bn.Max.spec:Entry:=entry Bn.Max.ts Bn.Max.pre Bn.Max.out
def A3.Flat.pre:List Atom→Bool
 | [.i r,.i c,.l l]=>(A2 r c l&&Ai l)&&C2 l
 | _=>false
def A3.Flat.out:List Atom→DV
 | [.i r,.i c,.l l]=>.bool (Qd r c l)
 | _=>.undef
abbrev A3.Flat.ts:List AT:=[.st [.i .i64,.i .i64,.s .u64]]
def A3.Flat.spec:Entry:=entry A3.Flat.ts A3.Flat.pre A3.Flat.out
def root.Gt.pre:List Atom→Bool
 | [.i m]=>Cz (0≤m∧m<9223372036854775808)
 | _=>false
def root.Gt.out:List Atom→DV
 | [.i m]=>.tup [.int .u64 (Vd m),.bool (Ve m)]
 | _=>.undef
abbrev root.Gt.ts:List AT:=[.i .u64]
def root.Gt.spec:Entry:=entry root.Gt.ts root.Gt.pre root.Gt.out
def root.Sqrt.pre:List Atom→Bool
 | [.i a]=>Af a
 | _=>false
def root.Sqrt.out:List Atom→DV
 | [.i a]=>.tup [.int .u64 (F3 a),.int .u8 (Q1 a)]
 | _=>.undef
abbrev root.Sqrt.ts:List AT:=[.i .u64]
def root.Sqrt.spec:Entry:=entry root.Sqrt.ts root.Sqrt.pre root.Sqrt.out
def Ad.Sqrt.pre:List Atom→Bool
 | [.i a]=>Af a
 | _=>false
def Ad.Sqrt.out:List Atom→DV
 | [.i a]=>.int .u64 (F3 a)
 | _=>.undef
abbrev Ad.Sqrt.ts:List AT:=[.i .u64]
def Ad.Sqrt.spec:Entry:=entry Ad.Sqrt.ts Ad.Sqrt.pre Ad.Sqrt.out
def compare.Ku.pre:List Atom→Bool
 | [.i a]=>Af a
 | _=>false
def compare.Ku.out:List Atom→DV
 | [.i a]=>.int .i64 (Bs a)
 | _=>.undef
abbrev compare.Ku.ts:List AT:=[.i .u64]
def compare.Ku.spec:Entry:=entry compare.Ku.ts compare.Ku.pre compare.Ku.out
def Ad.Norm.pre:List Atom→Bool
 | [.l x]=>Cp x&&Cz (length x≤64)
 | _=>false
def Ad.Norm.out:List Atom→DV
 | [.l x]=>.tup [.int .u64 (Da x),.int .i64 (0:Int)]
 | _=>.undef
abbrev Ad.Norm.ts:List AT:=[.s .u64]
def Ad.Norm.spec:Entry:=entry Ad.Norm.ts Ad.Norm.pre Ad.Norm.out
def Ao.Bt.pre:List Atom→Bool
 | [.l x]=>Cp x
 | _=>false
def Ao.Bt.out:List Atom→DV
 | [.l x]=>.bool (Dr x)
 | _=>.undef
abbrev Ao.Bt.ts:List AT:=[.s .u64]
def Ao.Bt.spec:Entry:=entry Ao.Bt.ts Ao.Bt.pre Ao.Bt.out
def Ao.lead.pre:List Atom→Bool
 | [.l x]=>Cp x
 | _=>false
def Ao.lead.out:List Atom→DV
 | [.l x]=>.int .u64 (Mj x)
 | _=>.undef
abbrev Ao.lead.ts:List AT:=[.s .u64]
def Ao.lead.spec:Entry:=entry Ao.lead.ts Ao.lead.pre Ao.lead.out
def Ao.Df.pre:List Atom→Bool
 | [.l x,.i k]=>Cp x&&Cz (length x≤1000∧-2300≤k∧k≤2300)
 | _=>false
def Ao.Df.out:List Atom→DV
 | [.l x,.i k]=>.ints .fresh .u64 (Bo x k)
 | _=>.undef
abbrev Ao.Df.ts:List AT:=[.s .u64,.i .i64]
def Ao.Df.spec:Entry:=entry Ao.Df.ts Ao.Df.pre Ao.Df.out
def Ao.Fm.pre:List Atom→Bool
 | [.i _i]=>true
 | _=>false
def Ao.Fm.out:List Atom→DV
 | [.i _i]=>.int .u64 (0:Int)
 | _=>.undef
abbrev Ao.Fm.ts:List AT:=[.i .i64]
def Ao.Fm.spec:Entry:=entry Ao.Fm.ts Ao.Fm.pre Ao.Fm.out
def Ao.Fl.pre:List Atom→Bool
 | [.i i,.l y,.i d]=>(Cz (0≤i∧i<length y)&&Ai y)&&Af d
 | _=>false
def Ao.Fl.out:List Atom→DV
 | [.i i,.l y,.i d]=>.int .u64 (E4 (getD y (toNat i) 0) d)
 | _=>.undef
abbrev Ao.Fl.ts:List AT:=[.i .i64,.cp [.s .u64],.cp [.i .u64]]
def Ao.Fl.spec:Entry:=entry Ao.Fl.ts Ao.Fl.pre Ao.Fl.out
def Ao.row.Zero.pre:List Atom→Bool
 | [.i n]=>Cz (1≤n∧n≤64)
 | _=>false
def Ao.row.Zero.out:List Atom→DV
 | [.i n]=>.ints .fresh .u64 (I7 (toNat n) (fun _=>0))
 | _=>.undef
abbrev Ao.row.Zero.ts:List AT:=[.i .i64,.fn 254 []]
def Ao.row.Zero.spec:Entry:=entry Ao.row.Zero.ts Ao.row.Zero.pre Ao.row.Zero.out
def Ao.row.Div.pre:List Atom→Bool
 | [.i n,.l y,.i d]=>(Cz (1≤n∧n≤64∧n=length y)&&Ai y)&&Af d
 | _=>false
def Ao.row.Div.out:List Atom→DV
 | [.i n,.l y,.i d]=>.ints .fresh .u64 (I7 (toNat n) (fun j=>E4 (getD y j 0) d))
 | _=>.undef
abbrev Ao.row.Div.ts:List AT:=[.i .i64,.fn 259 [.cp [.s .u64],.cp [.i .u64]]]
def Ao.row.Div.spec:Entry:=entry Ao.row.Div.ts Ao.row.Div.pre Ao.row.Div.out
def Ao.Dl.pre:List Atom→Bool
 | [.l x]=>Cp x
 | _=>false
def Ao.Dl.out:List Atom→DV
 | [.l x]=>.tup [.ints .fresh .u64 ((Cf x).1),.int .u64 ((Cf x).2.1),.int .u64 ((Cf x).2.2.1),.int .i64 ((Cf x).2.2.2)]
 | _=>.undef
abbrev Ao.Dl.ts:List AT:=[.s .u64]
def Ao.Dl.spec:Entry:=entry Ao.Dl.ts Ao.Dl.pre Ao.Dl.out
def Ao.Apply.pre:List Atom→Bool
 | [.i r,.i c,.l l,.i i,.i k,.l v,.i t]=>((A2 r c l&&H5 r c i k v)&&(Ai l&&Ai v))&&Af t
 | _=>false
def Ao.Apply.out:List Atom→DV
 | [.i r,.i c,.l l,.i i,.i k,.l v,.i t]=>.tup [.agg [.int .i64 r,.int .i64 c,.ints (.own 114002 37) .u64 (E2 (toNat r) (toNat c) l i k v t)],.int .i64 (0:Int)]
 | _=>.undef
abbrev Ao.Apply.ts:List AT:=[.st [.i .i64,.i .i64,.s .u64],.i .i64,.i .i64,.s .u64,.i .u64]
def Ao.Apply.spec:Entry:=entry Ao.Apply.ts Ao.Apply.pre Ao.Apply.out
def qr.down.pre:List Atom→Bool
 | [.i r,.i c,.l l]=>(A2 r c l&&C2 l)&&Ai l
 | _=>false
def qr.down.out:List Atom→DV
 | [.i r,.i c,.l l]=>.tup [.agg [.int .i64 ((Gj r c l).1),.int .i64 ((Gj r c l).2.1),.ints .arg .u64 ((Gj r c l).2.2.1)],.recs .fresh 2 (K6 r c l),.int .i64 ((Gj r c l).2.2.2)]
 | _=>.undef
abbrev qr.down.ts:List AT:=[.st [.i .i64,.i .i64,.s .u64]]
def qr.down.spec:Entry:=entry qr.down.ts qr.down.pre qr.down.out
def qr.By.pre:List Atom→Bool
 | [.i _r,.i _c,.l l]=>Ai l
 | _=>false
def qr.By.out:List Atom→DV
 | [.i r,.i c,.l l]=>.tup [.agg [.int .i64 ((qX r c l).1),.int .i64 ((qX r c l).2.1),.ints .arg .u64 ((qX r c l).2.2.1)],.agg [.int .i64 ((rX r c l).1),.int .i64 ((rX r c l).2.1),.ints .arg .u64 ((rX r c l).2.2.1)],.int .i64 (E0 r c l)]
 | _=>.undef
abbrev qr.By.ts:List AT:=[.st [.i .i64,.i .i64,.s .u64]]
def qr.By.spec:Entry:=entry qr.By.ts qr.By.pre qr.By.out
def qr.Fq.pre:List Atom→Bool
 | [.i _r,.i _c,.l l]=>Ai l
 | _=>false
def qr.Fq.out:List Atom→DV
 | [.i r,.i c,.l l]=>.tup [.agg [.int .i64 ((D8 r c l).1),.int .i64 ((D8 r c l).2.1),.ints .fresh .u64 ((D8 r c l).2.2.1)],.agg [.int .i64 ((H8 r c l).1),.int .i64 ((H8 r c l).2.1),.ints .fresh .u64 ((H8 r c l).2.2.1)],.int .i64 (E0 r c l)]
 | _=>.undef
abbrev qr.Fq.ts:List AT:=[.st [.i .i64,.i .i64,.s .u64]]
def qr.Fq.spec:Entry:=entry qr.Fq.ts qr.Fq.pre qr.Fq.out
def solve.Dv.pre:List Atom→Bool
 | [.i _r,.i _c,.l l,.i _p,.i _q,.l m]=>Ai l&&Ai m
 | _=>false
def solve.Dv.out:List Atom→DV
 | [.i r,.i c,.l l,.i p,.i q,.l m]=>.tup [.agg [.int .i64 ((Dt r c l p q m).1),.int .i64 ((Dt r c l p q m).2.1),.ints .fresh .u64 ((Dt r c l p q m).2.2.1)],.int .i64 ((Dt r c l p q m).2.2.2)]
 | _=>.undef
abbrev solve.Dv.ts:List AT:=[.st [.i .i64,.i .i64,.s .u64],.st [.i .i64,.i .i64,.s .u64]]
def solve.Dv.spec:Entry:=entry solve.Dv.ts solve.Dv.pre solve.Dv.out
def Bn.Ku.pre:List Atom→Bool
 | [.i a]=>Af a
 | _=>false
def Bn.Ku.out:List Atom→DV
 | [.i a]=>.int .i64 (Bs a)
 | _=>.undef
abbrev Bn.Ku.ts:List AT:=[.i .u64]
def Bn.Ku.spec:Entry:=entry Bn.Ku.ts Bn.Ku.pre Bn.Ku.out
def Aj.Bq.pre:List Atom→Bool
 | [.l x]=>Cp x
 | _=>false
def Aj.Bq.out:List Atom→DV
 | [.l x]=>.int .u64 (Bg x)
 | _=>.undef
abbrev Aj.Bq.ts:List AT:=[.s .u64]
def Aj.Bq.spec:Entry:=entry Aj.Bq.ts Aj.Bq.pre Aj.Bq.out
def math.Sqrt.pre:List Atom→Bool
 | [.f _x]=>true
 | _=>false
def math.Sqrt.out:List Atom→DV
 | [.f x]=>.fl (((Ieee.double.sqrt x).getD nanBits))
 | _=>.undef
abbrev math.Sqrt.ts:List AT:=[.fl]
def math.Sqrt.spec:Entry:=entry math.Sqrt.ts math.Sqrt.pre math.Sqrt.out
def Aj.Sqrt.pre:List Atom→Bool
 | [.i a]=>Af a
 | _=>false
def Aj.Sqrt.out:List Atom→DV
 | [.i a]=>.int .u64 (F3 a)
 | _=>.undef
abbrev Aj.Sqrt.ts:List AT:=[.i .u64]
def Aj.Sqrt.spec:Entry:=entry Aj.Sqrt.ts Aj.Sqrt.pre Aj.Sqrt.out
def Aj.Norm.pre:List Atom→Bool
 | [.l x]=>Cp x
 | _=>false
def Aj.Norm.out:List Atom→DV
 | [.l x]=>.int .u64 (Da x)
 | _=>.undef
abbrev Aj.Norm.ts:List AT:=[.s .u64]
def Aj.Norm.spec:Entry:=entry Aj.Norm.ts Aj.Norm.pre Aj.Norm.out
def A7.Bt.pre:List Atom→Bool
 | [.l x]=>Cp x
 | _=>false
def A7.Bt.out:List Atom→DV
 | [.l x]=>.bool (Dr (List.drop 1 x))
 | _=>.undef
abbrev A7.Bt.ts:List AT:=[.s .u64]
def A7.Bt.spec:Entry:=entry A7.Bt.ts A7.Bt.pre A7.Bt.out
def A7.lead.pre:List Atom→Bool
 | [.l x]=>Cp x
 | _=>false
def A7.lead.out:List Atom→DV
 | [.l x]=>.int .i64 (Qs x 0)
 | _=>.undef
abbrev A7.lead.ts:List AT:=[.s .u64]
def A7.lead.spec:Entry:=entry A7.lead.ts A7.lead.pre A7.lead.out
def A7.Dl.pre:List Atom→Bool
 | [.l x]=>Cp x&&Cz (1≤length x∧length x≤64)
 | _=>false
def A7.Dl.out:List Atom→DV
 | [.l x]=>.tup [.agg [.ints .fresh .u64 ((Jm x).1),.int .u64 ((Jm x).2.1),.int .u64 ((Jm x).2.2.1)],.bool (decide ((Jm x).2.2.2=0))]
 | _=>.undef
abbrev A7.Dl.ts:List AT:=[.s .u64]
def A7.Dl.spec:Entry:=entry A7.Dl.ts A7.Dl.pre A7.Dl.out
def A7.Apply.pre:List Atom→Bool
 | [.i r,.i c,.l l,.i i,.i k,.l v,.i t]=>((A2 r c l&&H5 r c i k v)&&(Ai l&&Ai v))&&Af t
 | _=>false
def A7.Apply.out:List Atom→DV
 | [.i r,.i c,.l l,.i i,.i k,.l v,.i t]=>.agg [.int .i64 r,.int .i64 c,.ints .arg .u64 (E2 (toNat r) (toNat c) l i k v t)]
 | _=>.undef
abbrev A7.Apply.ts:List AT:=[.st [.i .i64,.i .i64,.s .u64],.i .i64,.i .i64,.s .u64,.i .u64]
def A7.Apply.spec:Entry:=entry A7.Apply.ts A7.Apply.pre A7.Apply.out
def B1.Dg.pre:List Atom→Bool
 | [.i r,.i c,.l l,.i j,.i _b]=>A2 r c l&&Cz (0≤j∧j<r∧j<c)
 | _=>false
def B1.Dg.out:List Atom→DV
 | [.i r,.i c,.l l,.i j,.i b]=>.agg [.int .i64 r,.int .i64 c,.ints .arg .u64 (La (toNat r) (toNat c) l (toNat j) b)]
 | _=>.undef
abbrev B1.Dg.ts:List AT:=[.st [.i .i64,.i .i64,.s .u64],.i .i64,.i .u64]
def B1.Dg.spec:Entry:=entry B1.Dg.ts B1.Dg.pre B1.Dg.out
def B1.By.pre:List Atom→Bool
 | [.i r,.i c,.l l]=>(A2 r c l&&C2 l)&&Ai l
 | _=>false
def B1.By.out:List Atom→DV
 | [.i r,.i c,.l l]=>.agg [.int .i64 ((qX r c l).1),.int .i64 ((qX r c l).2.1),.ints .arg .u64 ((qX r c l).2.2.1),.int .i64 ((rX r c l).1),.int .i64 ((rX r c l).2.1),.ints .arg .u64 ((rX r c l).2.2.1),.bool (decide (E0 r c l=0))]
 | _=>.undef
abbrev B1.By.ts:List AT:=[.st [.i .i64,.i .i64,.s .u64]]
def B1.By.spec:Entry:=entry B1.By.ts B1.By.pre B1.By.out
def B1.Fq.pre:List Atom→Bool
 | [.i r,.i c,.l l]=>(A2 r c l&&C2 l)&&Ai l
 | _=>false
def B1.Fq.out:List Atom→DV
 | [.i r,.i c,.l l]=>.agg [.int .i64 ((D8 r c l).1),.int .i64 ((D8 r c l).2.1),.ints .arg .u64 ((D8 r c l).2.2.1),.int .i64 ((H8 r c l).1),.int .i64 ((H8 r c l).2.1),.ints .arg .u64 ((H8 r c l).2.2.1),.bool (decide (E0 r c l=0))]
 | _=>.undef
abbrev B1.Fq.ts:List AT:=[.st [.i .i64,.i .i64,.s .u64]]
def B1.Fq.spec:Entry:=entry B1.Fq.ts B1.Fq.pre B1.Fq.out
def A3.Dv.pre:List Atom→Bool
 | [.i _r,.i _c,.l l,.i _p,.i _q,.l m]=>Ai l&&Ai m
 | _=>false
def A3.Dv.out:List Atom→DV
 | [.i r,.i c,.l l,.i p,.i q,.l m]=>.tup [.agg [.int .i64 ((Dt r c l p q m).1),.int .i64 ((Dt r c l p q m).2.1),.ints .arg .u64 ((Dt r c l p q m).2.2.1)],.int .i64 ((Dt r c l p q m).2.2.2)]
 | _=>.undef
abbrev A3.Dv.ts:List AT:=[.st [.i .i64,.i .i64,.s .u64],.st [.i .i64,.i .i64,.s .u64]]
def A3.Dv.spec:Entry:=entry A3.Dv.ts A3.Dv.pre A3.Dv.out
def Ak.Stack.pre:List Atom→Bool
 | [.i r,.i c,.l l,.i p,.i q,.l m]=>(A2 r c l&&A2 p q m)&&decide (q=c)
 | _=>false
def Ak.Stack.out:List Atom→DV
 | [.i r,.i c,.l l,.i p,.i _q,.l m]=>.agg [.int .i64 (r+p),.int .i64 c,.ints .fresh .u64 (l++m)]
 | _=>.undef
abbrev Ak.Stack.ts:List AT:=[.st [.i .i64,.i .i64,.s .u64],.st [.i .i64,.i .i64,.s .u64]]
def Ak.Stack.spec:Entry:=entry Ak.Stack.ts Ak.Stack.pre Ak.Stack.out
def A05.G5.pre:List Atom→Bool
 | []=>true
 | _=>false
def A1f.Check.pre:List Atom→Bool
 | [.i _r,.i _c,.l l,.i _p,.i _q,.l m,.i _u,.i _v,.l h]=>Rr l m h
 | _=>false
def Ad.Eg.pre:List Atom→Bool
 | [.i i,.i x,.l l]=>(Cz (0≤i∧i<length l)&&Ai l)&&Af x
 | _=>false
def Ad.Eg.out:List Atom→DV
 | [.i i,.i x,.l l]=>.int .u64 (C5 x (getD l (toNat i) 0))
 | _=>.undef
abbrev Ad.Eg.ts:List AT:=[.i .i64,.cp [.i .u64],.cp [.s .u64]]
def Ad.Eg.spec:Entry:=entry Ad.Eg.ts Ad.Eg.pre Ad.Eg.out
def Ad.each.B6.pre:List Atom→Bool
 | [.i n,.i x,.l l]=>((Cz (0≤n∧n≤64∧n=length l))&&Ai l)&&Af x
 | _=>false
def Ad.each.B6.out:List Atom→DV
 | [.i _n,.i x,.l l]=>.ints .fresh .u64 (Dk x l)
 | _=>.undef
abbrev Ad.each.B6.ts:List AT:=[.i .i64,.fn 203 [.cp [.i .u64],.cp [.s .u64]]]
def Ad.each.B6.spec:Entry:=entry Ad.each.B6.ts Ad.each.B6.pre Ad.each.B6.out
def Ad.B6.pre:List Atom→Bool
 | [.i x,.l l]=>(Cp l&&Af x)&&Cz (length l≤64)
 | _=>false
def Ad.B6.out:List Atom→DV
 | [.i x,.l l]=>.tup [.ints .fresh .u64 (Dk x l),.int .i64 (0:Int)]
 | _=>.undef
abbrev Ad.B6.ts:List AT:=[.i .u64,.s .u64]
def Ad.B6.spec:Entry:=entry Ad.B6.ts Ad.B6.pre Ad.B6.out
def Dq.Cx.pre:List Atom→Bool
 | [.i _r,.i _c,.l l,.i _p,.i _q,.l m,.i _u,.i _v,.l h]=>Rr l m h
 | _=>false
def Dq.Cx.out:List Atom→DV
 | [.i r,.i c,.l l,.i p,.i q,.l m,.i u,.i v,.l h]=>.int .i64 (Nv r c l p q m u v h)
 | _=>.undef
abbrev Dq.Cx.ts:List AT:=[.rs 3 [[.i .i64,.i .i64,.s .u64],[.i .i64,.i .i64,.s .u64],[.i .i64,.i .i64,.s .u64]]]
def Dq.Cx.spec:Entry:=entry Dq.Cx.ts Dq.Cx.pre Dq.Cx.out
def Dq.Kw.pre:List Atom→Bool
 | [.i _r,.i _c,.l l,.i _p,.i _q,.l m,.i _u,.i _v,.l h,.i x]=>Rr l m h&&Af x
 | _=>false
def Dq.Kw.out:List Atom→DV
 | [.i r,.i c,.l l,.i p,.i q,.l m,.i u,.i v,.l h,.i x]=>.tup [.agg [.int .i64 ((Ea r c l p q m u v h x).1),.int .i64 ((Ea r c l p q m u v h x).2.1),.ints .fresh .u64 ((Ea r c l p q m u v h x).2.2.1)],.int .i64 ((Ea r c l p q m u v h x).2.2.2)]
 | _=>.undef
abbrev Dq.Kw.ts:List AT:=[.st [.i .i64,.i .i64,.s .u64],.st [.i .i64,.i .i64,.s .u64],.st [.i .i64,.i .i64,.s .u64],.i .u64]
def Dq.Kw.spec:Entry:=entry Dq.Kw.ts Dq.Kw.pre Dq.Kw.out
def Aj.B6.pre:List Atom→Bool
 | [.i x,.l l]=>(Cp l&&Af x)&&Cz (length l≤64)
 | _=>false
def Aj.B6.out:List Atom→DV
 | [.i x,.l l]=>.ints .fresh .u64 (Dk x l)
 | _=>.undef
abbrev Aj.B6.ts:List AT:=[.i .u64,.s .u64]
def Aj.B6.spec:Entry:=entry Aj.B6.ts Aj.B6.pre Aj.B6.out
def Cn.Cx.pre:List Atom→Bool
 | [.i _r,.i _c,.l l,.i _p,.i _q,.l m,.i _u,.i _v,.l h]=>Rr l m h
 | _=>false
def Cn.Cx.out:List Atom→DV
 | [.i r,.i c,.l l,.i p,.i q,.l m,.i u,.i v,.l h]=>.int .i64 (Nv r c l p q m u v h)
 | _=>.undef
abbrev Cn.Cx.ts:List AT:=[.st [.i .i64,.i .i64,.s .u64],.st [.i .i64,.i .i64,.s .u64],.st [.i .i64,.i .i64,.s .u64]]
def Cn.Cx.spec:Entry:=entry Cn.Cx.ts Cn.Cx.pre Cn.Cx.out
def Cn.L7.pre:List Atom→Bool
 | [.i p,.i q,.l m,.i u,.i _v,.l _h]=>(A2 p q m&&Bh u)&&decide (q=1)
 | _=>false
def Cn.L7.out:List Atom→DV
 | [.i p,.i _q,.l m,.i u,.i _v,.l _h]=>.agg [.int .i64 (p+u),.int .i64 (1:Int),.ints .fresh .u64 (m++List.replicate (toNat u) 0)]
 | _=>.undef
abbrev Cn.L7.ts:List AT:=[.st [.i .i64,.i .i64,.s .u64],.st [.i .i64,.i .i64,.s .u64]]
def Cn.L7.spec:Entry:=entry Cn.L7.ts Cn.L7.pre Cn.L7.out
def Cn.Dh.pre:List Atom→Bool
 | [.i _r,.i _c,.l l,.i _p,.i _q,.l m,.i _u,.i _v,.l h,.i x]=>Rr l m h&&Af x
 | _=>false
def Cn.Dh.out:List Atom→DV
 | [.i r,.i c,.l l,.i p,.i q,.l m,.i u,.i v,.l h,.i x]=>.int .i64 (O4 r c l p q m u v h x)
 | _=>.undef
abbrev Cn.Dh.ts:List AT:=[.st [.i .i64,.i .i64,.s .u64],.st [.i .i64,.i .i64,.s .u64],.st [.i .i64,.i .i64,.s .u64],.i .u64]
def Cn.Dh.spec:Entry:=entry Cn.Dh.ts Cn.Dh.pre Cn.Dh.out
def Cq.one.pre:List Atom→Bool
 | [.i _b]=>true
 | _=>false
def Cq.one.out:List Atom→DV
 | [.i b]=>.agg [.int .i64 (1:Int),.int .i64 (1:Int),.ints .fresh .u64 ([b])]
 | _=>.undef
abbrev Cq.one.ts:List AT:=[.i .u64]
def Cq.one.spec:Entry:=entry Cq.one.ts Cq.one.pre Cq.one.out
def Cq.G5.pre:List Atom→Bool
 | []=>true
 | _=>false
def Cq.G5.out:List Atom→DV
 | []=>.bool true
 | _=>.undef
abbrev Cq.G5.ts:List AT:=[]
def Cq.G5.spec:Entry:=entry Cq.G5.ts Cq.G5.pre Cq.G5.out
def Cq.Dn.pre:List Atom→Bool
 | [.i _r,.i _c,.l l,.i _p,.i _q,.l m,.i _u,.i _v,.l h]=>Rr l m h
 | _=>false
def Cq.Dn.out:List Atom→DV
 | [.i _r,.i _c,.l _l,.i _p,.i _q,.l _m,.i _u,.i _v,.l _h]=>.bool true
 | _=>.undef
abbrev Cq.Dn.ts:List AT:=[.st [.i .i64,.i .i64,.s .u64,.i .i64,.i .i64,.s .u64,.i .i64,.i .i64,.s .u64]]
def Cq.Dn.spec:Entry:=entry Cq.Dn.ts Cq.Dn.pre Cq.Dn.out
def Ak.Fx.arg.pre:List Atom→Bool
 | [.i r,.i c,.l l,.i i,.i k,.i _b]=>C0 r c l i k
 | _=>false
def Ak.Fx.arg.out:List Atom→DV
 | [.i r,.i c,.l l,.i i,.i k,.i b]=>.agg [.int .i64 r,.int .i64 c,.ints .arg .u64 (List.set l (toNat (i*c+k)) b)]
 | _=>.undef
abbrev Ak.Fx.arg.ts:List AT:=[.st [.i .i64,.i .i64,.s .u64],.i .i64,.i .i64,.i .u64]
def Ak.Fx.arg.spec:Entry:=entry Ak.Fx.arg.ts Ak.Fx.arg.pre Ak.Fx.arg.out
def Ak.Ep.arg.pre:List Atom→Bool
 | [.i n]=>Bh n
 | _=>false
def Ak.Ep.arg.out:List Atom→DV
 | [.i n]=>.agg [.int .i64 n,.int .i64 n,.ints .arg .u64 (Jd (toNat n))]
 | _=>.undef
abbrev Ak.Ep.arg.ts:List AT:=[.i .i64]
def Ak.Ep.arg.spec:Entry:=entry Ak.Ep.arg.ts Ak.Ep.arg.pre Ak.Ep.arg.out
def Ek.Canon.nb.pre:List Atom→Bool
 | [.f _x]=>true
 | _=>false
def Ek.Canon.nb.out:List Atom→DV
 | [.f x]=>.int .u64 (Gc x)
 | _=>.undef
abbrev Ek.Canon.nb.ts:List AT:=[.nb]
def Ek.Canon.nb.spec:Entry:=entry Ek.Canon.nb.ts Ek.Canon.nb.pre Ek.Canon.nb.out
def Cu.Kq.pre:List Atom→Bool
 | [.i x]=>Af x
 | _=>false
def Cu.Kq.out:List Atom→DV
 | [.i x]=>.int .i64 (Fa x)
 | _=>.undef
abbrev Cu.Kq.ts:List AT:=[.i .u64]
def Cu.Kq.spec:Entry:=entry Cu.Kq.ts Cu.Kq.pre Cu.Kq.out
theorem tt0:∀ a b c:Bool,((a==a)&&(b&&(c&&true)))=(b&&c):=by decide
theorem tt1:∀ a b:Bool,(bif a then b else false)=(a&&b):=by decide
theorem Uf:∀ a:Bool,(((!a)||(a==true))&&true)=true:=by decide
theorem Ma:∀ a:Bool,((!(a==true))||((((!(a==true))||(a==true))&&true)&&true))=true:=by decide
theorem Qq:∀ a:Bool,((!(a==true))||true)=true:=by decide
theorem tt5:∀ a b:Bool,(bif a then true else b)=(a||b):=by decide
theorem X2:∀ a:Bool,((!(!a))||(a==false))=true:=by decide
theorem Qx:∀ a:Bool,((!(a==false))||((((!(a==false))||(a==false))&&true)&&true))=true:=by decide
theorem tt8:∀ a:Bool,((!(a==false))||((((!(a==false))||(a==false))&&(((!(a==false))||(a==false))&&true))&&true))=true:=by decide
theorem S8:∀ a:Bool,((!(a==false))||true)=true:=by decide
theorem Cy:∀ a:Bool,(a&&true)=a:=by decide
theorem A0s:∀ a b c d e:Bool,(bif a then (bif b then true else (bif c then (bif d then true else e) else false)) else false)=(a&&(b||(c&&(d||e)))):=by decide
theorem Ayq:∀ a b:Bool,((!(a==true))||(((!(a==true))||(a==true))&&((!(!b))||((a==true)&&(b==false)))))=true:=by decide
theorem A0r:∀ a b c:Bool,((!((a==true)&&(b==false)))||(((!((a==true)&&(b==false)))||((a==true)&&(b==false)))&&(((!c)||(((a==true)&&(b==false))&&(c==true)))&&true)))=true:=by decide
theorem A0q:∀ a b c d:Bool,((!(((a==true)&&(b==false))&&(c==true)))||(((!(((a==true)&&(b==false))&&(c==true)))||(((a==true)&&(b==false))&&(c==true)))&&((!(!d))||((((a==true)&&(b==false))&&(c==true))&&(d==false)))))=true:=by decide
theorem Ayn:∀ a b c d:Bool,((!((((a==true)&&(b==false))&&(c==true))&&(d==false)))||((((!((((a==true)&&(b==false))&&(c==true))&&(d==false)))||((((a==true)&&(b==false))&&(c==true))&&(d==false)))&&true)&&true))=true:=by decide
theorem A0p:∀ a b c d:Bool,((!((((a==true)&&(b==false))&&(c==true))&&(d==false)))||true)=true:=by decide
theorem A0o:∀ a b c:Bool,((!(((a==true)&&(b==false))&&(c==true)))||((((!(((a==true)&&(b==false))&&(c==true)))||(((a==true)&&(b==false))&&(c==true)))&&true)&&true))=true:=by decide
theorem A0n:∀ a b c:Bool,((!(((a==true)&&(b==false))&&(c==true)))||true)=true:=by decide
theorem As1:∀ a b:Bool,((!((a==true)&&(b==false)))||((((!((a==true)&&(b==false)))||((a==true)&&(b==false)))&&true)&&true))=true:=by decide
theorem Aym:∀ a b:Bool,((!((a==true)&&(b==false)))||((((!((a==true)&&(b==false)))||((a==true)&&(b==false)))&&(((!((a==true)&&(b==false)))||((a==true)&&(b==false)))&&true))&&true))=true:=by decide
theorem As0:∀ a b:Bool,((!((a==true)&&(b==false)))||true)=true:=by decide
theorem Afi:∀ a:Bool,((!(a==true))||((((!(a==true))||(a==true))&&(((!(a==true))||(a==true))&&true))&&true))=true:=by decide
theorem Av1:∀ a b:Bool,(bif (!a) then true else b)=((!a)||b):=by decide
theorem Adf:∀ a:Bool,((!(!(!a)))||((!a)==false))=true:=by decide
theorem S3:∀ a:Bool,((!((!a)==false))||((((!((!a)==false))||((!a)==false))&&true)&&true))=true:=by decide
theorem Ade:∀ a:Bool,((!((!a)==false))||true)=true:=by decide
theorem A0m:∀ a b:Bool,(bif a then (!b) else false)=(a&&(!b)):=by decide
theorem Ao1:∀ a b:Bool,(bif (!a) then true else (!b))=((!a)||(!b)):=by decide
theorem Ao0:∀ a b:Bool,((!((!a)==false))||((((!((!a)==false))||((!a)==false))&&true)&&b))=((!a)||b):=by decide
theorem Ayl:∀ a b c d:Bool,(bif (bif a then b else false) then true else (bif c then d else false))=((a&&b)||(c&&d)):=by decide
theorem Ayk:∀ a b:Bool,((!(!(bif a then b else false)))||((bif a then b else false)==false))=true:=by decide
theorem Ayj:∀ a b c:Bool,((!((bif a then b else false)==false))||(((!((bif a then b else false)==false))||((bif a then b else false)==false))&&(((!c)||(((bif a then b else false)==false)&&(c==true)))&&true)))=true:=by decide
theorem Ayi:∀ a b c:Bool,((!(((bif a then b else false)==false)&&(c==true)))||((((!(((bif a then b else false)==false)&&(c==true)))||(((bif a then b else false)==false)&&(c==true)))&&true)&&true))=true:=by decide
theorem Ayh:∀ a b c:Bool,((!(((bif a then b else false)==false)&&(c==true)))||true)=true:=by decide
theorem Asz:∀ a b:Bool,((!((bif a then b else false)==false))||((((!((bif a then b else false)==false))||((bif a then b else false)==false))&&true)&&true))=true:=by decide
theorem Ayg:∀ a b:Bool,((!((bif a then b else false)==false))||true)=true:=by decide
theorem Nh:∀ a b:Bool,((a&&b)&&true)=(a&&b):=by decide
theorem A0l:∀ a b c:Bool,(bif (bif (!a) then true else (!b)) then true else c)=(((!a)||(!b))||c):=by decide
theorem A0k:∀ a b:Bool,((!(!(bif (!a) then true else (!b))))||((bif (!a) then true else (!b))==false))=true:=by decide
theorem Ayf:∀ a b:Bool,((!((bif (!a) then true else (!b))==false))||((((!((bif (!a) then true else (!b))==false))||((bif (!a) then true else (!b))==false))&&(((!((bif (!a) then true else (!b))==false))||((bif (!a) then true else (!b))==false))&&true))&&true))=true:=by decide
theorem Asy:∀ a b:Bool,((!((bif (!a) then true else (!b))==false))||((((!((bif (!a) then true else (!b))==false))||((bif (!a) then true else (!b))==false))&&true)&&true))=true:=by decide
theorem Av0:∀ a b:Bool,((!((bif (!a) then true else (!b))==false))||true)=true:=by decide
theorem Aye:∀ a b c d:Bool,(((a&&b)&&(c&&d))&&true)=((a&&b)&&(c&&d)):=by decide
theorem A0j:∀ a b c d e f g h:Bool,(bif (bif (bif (bif (bif (bif (bif a then true else b) then true else c) then true else d) then true else e) then true else f) then true else g) then true else h)=(((((((a||b)||c)||d)||e)||f)||g)||h):=by decide
theorem A0i:∀ a b c d e f g:Bool,((!(!(bif (bif (bif (bif (bif (bif a then true else b) then true else c) then true else d) then true else e) then true else f) then true else g)))||((bif (bif (bif (bif (bif (bif a then true else b) then true else c) then true else d) then true else e) then true else f) then true else g)==false))=true:=by decide
theorem Ayd:∀ a b c d e f g:Bool,((!((bif (bif (bif (bif (bif (bif a then true else b) then true else c) then true else d) then true else e) then true else f) then true else g)==false))||((((!((bif (bif (bif (bif (bif (bif a then true else b) then true else c) then true else d) then true else e) then true else f) then true else g)==false))||((bif (bif (bif (bif (bif (bif a then true else b) then true else c) then true else d) then true else e) then true else f) then true else g)==false))&&(((!((bif (bif (bif (bif (bif (bif a then true else b) then true else c) then true else d) then true else e) then true else f) then true else g)==false))||((bif (bif (bif (bif (bif (bif a then true else b) then true else c) then true else d) then true else e) then true else f) then true else g)==false))&&true))&&true))=true:=by decide
theorem Avz:∀ a b c d e f g:Bool,((!((bif (bif (bif (bif (bif (bif a then true else b) then true else c) then true else d) then true else e) then true else f) then true else g)==false))||true)=true:=by decide
theorem A0h:∀ a b c d e f g:Bool,((!((bif (bif (bif (bif (bif (bif a then true else b) then true else c) then true else d) then true else e) then true else f) then true else g)==false))||((((!((bif (bif (bif (bif (bif (bif a then true else b) then true else c) then true else d) then true else e) then true else f) then true else g)==false))||((bif (bif (bif (bif (bif (bif a then true else b) then true else c) then true else d) then true else e) then true else f) then true else g)==false))&&true)&&true))=true:=by decide
theorem A0g:∀ a b c d e f:Bool,((!(!(bif (bif (bif (bif (bif a then true else b) then true else c) then true else d) then true else e) then true else f)))||((bif (bif (bif (bif (bif a then true else b) then true else c) then true else d) then true else e) then true else f)==false))=true:=by decide
theorem Ayc:∀ a b c d e f:Bool,((!((bif (bif (bif (bif (bif a then true else b) then true else c) then true else d) then true else e) then true else f)==false))||((((!((bif (bif (bif (bif (bif a then true else b) then true else c) then true else d) then true else e) then true else f)==false))||((bif (bif (bif (bif (bif a then true else b) then true else c) then true else d) then true else e) then true else f)==false))&&(((!((bif (bif (bif (bif (bif a then true else b) then true else c) then true else d) then true else e) then true else f)==false))||((bif (bif (bif (bif (bif a then true else b) then true else c) then true else d) then true else e) then true else f)==false))&&true))&&true))=true:=by decide
theorem Avy:∀ a b c d e f:Bool,((!((bif (bif (bif (bif (bif a then true else b) then true else c) then true else d) then true else e) then true else f)==false))||true)=true:=by decide
theorem A0f:∀ a b c d e f:Bool,((!((bif (bif (bif (bif (bif a then true else b) then true else c) then true else d) then true else e) then true else f)==false))||((((!((bif (bif (bif (bif (bif a then true else b) then true else c) then true else d) then true else e) then true else f)==false))||((bif (bif (bif (bif (bif a then true else b) then true else c) then true else d) then true else e) then true else f)==false))&&true)&&true))=true:=by decide
theorem A0e:∀ a b c d e:Bool,((!(!(bif (bif (bif (bif a then true else b) then true else c) then true else d) then true else e)))||((bif (bif (bif (bif a then true else b) then true else c) then true else d) then true else e)==false))=true:=by decide
theorem A0d:∀ a b c d e:Bool,((!((bif (bif (bif (bif a then true else b) then true else c) then true else d) then true else e)==false))||((((!((bif (bif (bif (bif a then true else b) then true else c) then true else d) then true else e)==false))||((bif (bif (bif (bif a then true else b) then true else c) then true else d) then true else e)==false))&&(((!((bif (bif (bif (bif a then true else b) then true else c) then true else d) then true else e)==false))||((bif (bif (bif (bif a then true else b) then true else c) then true else d) then true else e)==false))&&true))&&true))=true:=by decide
theorem A0c:∀ a b c d e:Bool,((!((bif (bif (bif (bif a then true else b) then true else c) then true else d) then true else e)==false))||((((!((bif (bif (bif (bif a then true else b) then true else c) then true else d) then true else e)==false))||((bif (bif (bif (bif a then true else b) then true else c) then true else d) then true else e)==false))&&true)&&true))=true:=by decide
theorem Ayb:∀ a b c d e:Bool,((!((bif (bif (bif (bif a then true else b) then true else c) then true else d) then true else e)==false))||true)=true:=by decide
theorem Aya:∀ a b c d:Bool,((!(!(bif (bif (bif a then true else b) then true else c) then true else d)))||((bif (bif (bif a then true else b) then true else c) then true else d)==false))=true:=by decide
theorem Ax9:∀ a b c d:Bool,((!((bif (bif (bif a then true else b) then true else c) then true else d)==false))||((((!((bif (bif (bif a then true else b) then true else c) then true else d)==false))||((bif (bif (bif a then true else b) then true else c) then true else d)==false))&&(((!((bif (bif (bif a then true else b) then true else c) then true else d)==false))||((bif (bif (bif a then true else b) then true else c) then true else d)==false))&&true))&&true))=true:=by decide
theorem Ax8:∀ a b c d:Bool,((!((bif (bif (bif a then true else b) then true else c) then true else d)==false))||((((!((bif (bif (bif a then true else b) then true else c) then true else d)==false))||((bif (bif (bif a then true else b) then true else c) then true else d)==false))&&true)&&true))=true:=by decide
theorem Asx:∀ a b c d:Bool,((!((bif (bif (bif a then true else b) then true else c) then true else d)==false))||true)=true:=by decide
theorem Asw:∀ a b c:Bool,((!(!(bif (bif a then true else b) then true else c)))||((bif (bif a then true else b) then true else c)==false))=true:=by decide
theorem Afh:∀ a b c:Bool,((!((bif (bif a then true else b) then true else c)==false))||((((!((bif (bif a then true else b) then true else c)==false))||((bif (bif a then true else b) then true else c)==false))&&true)&&true))=true:=by decide
theorem Al5:∀ a b c:Bool,((!((bif (bif a then true else b) then true else c)==false))||true)=true:=by decide
theorem Asv:∀ a b:Bool,((!(!(bif a then true else b)))||((bif a then true else b)==false))=true:=by decide
theorem Aib:∀ a b:Bool,((!((bif a then true else b)==false))||((((!((bif a then true else b)==false))||((bif a then true else b)==false))&&true)&&true))=true:=by decide
theorem Afg:∀ a b:Bool,((!((bif a then true else b)==false))||true)=true:=by decide
theorem A0b:∀ a b c d:Bool,(((!(bif (bif (bif a then b else false) then c else false) then d else false))||((bif (bif (bif a then b else false) then c else false) then d else false)==true))&&true)=true:=by decide
theorem Ax7:∀ a b c d:Bool,((!((bif (bif (bif a then b else false) then c else false) then d else false)==true))||((((!((bif (bif (bif a then b else false) then c else false) then d else false)==true))||((bif (bif (bif a then b else false) then c else false) then d else false)==true))&&(((!((bif (bif (bif a then b else false) then c else false) then d else false)==true))||((bif (bif (bif a then b else false) then c else false) then d else false)==true))&&true))&&true))=true:=by decide
theorem Asu:∀ a b c d:Bool,((!((bif (bif (bif a then b else false) then c else false) then d else false)==true))||((((!((bif (bif (bif a then b else false) then c else false) then d else false)==true))||((bif (bif (bif a then b else false) then c else false) then d else false)==true))&&true)&&true))=true:=by decide
theorem Avx:∀ a b c d:Bool,((!((bif (bif (bif a then b else false) then c else false) then d else false)==true))||true)=true:=by decide
theorem A0a:∀ a b c:Bool,(((!(bif (bif a then b else false) then c else false))||((bif (bif a then b else false) then c else false)==true))&&true)=true:=by decide
theorem Ax6:∀ a b c:Bool,((!((bif (bif a then b else false) then c else false)==true))||((((!((bif (bif a then b else false) then c else false)==true))||((bif (bif a then b else false) then c else false)==true))&&true)&&true))=true:=by decide
theorem Az9:∀ a b c:Bool,((!((bif (bif a then b else false) then c else false)==true))||true)=true:=by decide
theorem Avw:∀ a b:Bool,(((!(bif a then b else false))||((bif a then b else false)==true))&&true)=true:=by decide
theorem Aoz:∀ a b:Bool,((!((bif a then b else false)==true))||((((!((bif a then b else false)==true))||((bif a then b else false)==true))&&true)&&true))=true:=by decide
theorem Avv:∀ a b:Bool,((!((bif a then b else false)==true))||true)=true:=by decide
theorem Az8:∀ a b c:Bool,((!(a==true))||((((!(a==true))||(a==true))&&(((!(a==true))||(a==true))&&true))&&(b&&c)))=((!a)||(b&&c)):=by decide
theorem Ax5:∀ a:Bool,(((a&&true)&&true)&&true)=a:=by decide
theorem Az7:∀ a b:Bool,((!(a==true))||((((!(a==true))||(a==true))&&true)&&b))=((!a)||b):=by decide
theorem Ast:∀ a b:Bool,((!(a==false))||((((!(a==false))||(a==false))&&true)&&b))=(a||b):=by decide
theorem Ax4:∀ a b:Bool,(bif a then true else (!b))=(a||(!b)):=by decide
theorem Avu:∀ a b c:Bool,((a&&b)&&((a&&c)&&true))=((a&&b)&&(a&&c)):=by decide
theorem Az6:∀ a:Bool,((a&&true)&&true)=a:=by decide
theorem Az5:∀ a b c d e:Bool,(bif (bif (bif (bif a then true else b) then true else c) then true else d) then true else e)=((((a||b)||c)||d)||e):=by decide
theorem Ass:∀ a b:Bool,((!((bif a then true else b)==false))||((((!((bif a then true else b)==false))||((bif a then true else b)==false))&&(((!((bif a then true else b)==false))||((bif a then true else b)==false))&&true))&&true))=true:=by decide
theorem Az4:∀ a b c:Bool,((!((bif a then b else false)==true))||((((!((bif a then b else false)==true))||((bif a then b else false)==true))&&true)&&c))=((!(a&&b))||c):=by decide
theorem Ava:∀ a b c:Bool,((!((bif (bif a then true else b) then true else c)==false))||((((!((bif (bif a then true else b) then true else c)==false))||((bif (bif a then true else b) then true else c)==false))&&(((!((bif (bif a then true else b) then true else c)==false))||((bif (bif a then true else b) then true else c)==false))&&true))&&true))=true:=by decide
theorem Au9:∀ a b c d:Bool,(bif (bif (bif a then true else b) then true else c) then true else d)=(((a||b)||c)||d):=by decide
theorem Ayp:∀ a b c:Bool,(((!(bif a then (bif b then true else c) else false))||((bif a then (bif b then true else c) else false)==true))&&true)=true:=by decide
theorem Ayo:∀ a b c:Bool,((!((bif a then (bif b then true else c) else false)==true))||true)=true:=by decide
open Go Go.Den Go.Rnd Go.Proofs
set_option maxRecDepth 100000
namespace EqSoft
def soft.Split.A9:List (Nat × Entry):=[]
def soft.Split.E:Env:=Ba (A8 soft.Split.A9) (fun _=>false) (fun _=>none) (fun _=>none)
theorem soft.Split.ev (N:Nat) (x:Int):Bw soft.Split.E N f206 (An f206) [.int .u64 x]=some (.agg [.bool ((Dm .u64 x 63)==(1:Int)),.int .i64 (Ab (E1 .u64 (Dm .u64 x 52) 2047)),.int .u64 (E1 .u64 x 4503599627370495)]):=by kernel_rfl
abbrev _root_.Go.Proofs.S1.soft.Split.Kn:=A4 prog 206 soft.Split.spec
theorem soft.Split.Ac (hk:Az prog soft.Split.A9) (h:Hyp soft.Split.E f206 soft.Split.ts soft.Split.pre soft.Split.out):soft.Split.Kn :=
 Al (A0 hk _ _ _) func206 (by kernel_rfl) (by kernel_rfl) h
def soft.Kind.A9:List (Nat × Entry):=[(206,soft.Split.spec)]
def soft.Kind.E:Env:=Ba (A8 soft.Kind.A9) (fun _=>false) (fun _=>none) (fun _=>none)
theorem soft.Kind.ev (N:Nat) (x:Int):Bw soft.Kind.E N f155 (An f155) [.int .u64 x]=bif (Af x) then bif (((Mb x)==(2047:Int))&&((C3 x)==(0:Int))) then some (.int .i64 3) else bif ((Mb x)==(2047:Int)) then some (.int .i64 4) else bif (A6 0 (Mb x)) then some (.int .i64 2) else bif (A6 0 (C3 x)) then some (.int .i64 1) else some (.int .i64 0) else none :=
 Eq.trans (by kernel_rfl)
 (Et (C9 (tt0 (D0 x) ((Mb x)==(2047:Int)) ((C3 x)==(0:Int))) rfl rfl) rfl)
abbrev _root_.Go.Proofs.S1.soft.Kind.Kn:=A4 prog 155 soft.Kind.spec
theorem soft.Kind.Ac (hk:Az prog soft.Kind.A9) (h:Hyp soft.Kind.E f155 soft.Kind.ts soft.Kind.pre soft.Kind.out):soft.Kind.Kn :=
 Al (A0 hk _ _ _) func155 (by kernel_rfl) (by kernel_rfl) h
def soft.Sign.A9:List (Nat × Entry):=[]
def soft.Sign.E:Env:=Ba (A8 soft.Sign.A9) (fun _=>false) (fun _=>none) (fun _=>none)
theorem soft.Sign.ev (N:Nat) (x:Int):Bw soft.Sign.E N f213 (An f213) [.int .u64 x]=some (.bool ((Dm .u64 x 63)==(1:Int))):=by kernel_rfl
abbrev _root_.Go.Proofs.S1.soft.Sign.Kn:=A4 prog 213 soft.Sign.spec
theorem soft.Sign.Ac (hk:Az prog soft.Sign.A9) (h:Hyp soft.Sign.E f213 soft.Sign.ts soft.Sign.pre soft.Sign.out):soft.Sign.Kn :=
 Al (A0 hk _ _ _) func213 (by kernel_rfl) (by kernel_rfl) h
def soft.Finite.A9:List (Nat × Entry):=[(155,soft.Kind.spec)]
def soft.Finite.E:Env:=Ba (A8 soft.Finite.A9) (fun _=>false) (fun _=>none) (fun _=>none)
theorem soft.Finite.ev (N:Nat) (x:Int):Bw soft.Finite.E N f148 (An f148) [.int .u64 x]=bif (Af x) then bif ((A5 x)==(3:Int)) then some (.bool false) else bif ((A5 x)==(4:Int)) then some (.bool false) else some (.bool true) else none:=by kernel_rfl
abbrev _root_.Go.Proofs.S1.soft.Finite.Kn:=A4 prog 148 soft.Finite.spec
theorem soft.Finite.Ac (hk:Az prog soft.Finite.A9) (h:Hyp soft.Finite.E f148 soft.Finite.ts soft.Finite.pre soft.Finite.out):soft.Finite.Kn :=
 Al (A0 hk _ _ _) func148 (by kernel_rfl) (by kernel_rfl) h
def soft.De.A9:List (Nat × Entry):=[]
def soft.De.E:Env:=Ba (A8 soft.De.A9) (fun _=>false) (fun _=>none) (fun _=>none)
theorem soft.De.ev (N:Nat) (x:Int):Bw soft.De.E N f233 (An f233) [.int .u64 x]=some (.int .u64 (Auy .u64 x 9223372036854775808)):=by kernel_rfl
abbrev _root_.Go.Proofs.S1.soft.De.Kn:=A4 prog 233 soft.De.spec
theorem soft.De.Ac (hk:Az prog soft.De.A9) (h:Hyp soft.De.E f233 soft.De.ts soft.De.pre soft.De.out):soft.De.Kn :=
 Al (A0 hk _ _ _) func233 (by kernel_rfl) (by kernel_rfl) h
def soft.Fy.A9:List (Nat × Entry):=[(206,soft.Split.spec)]
def soft.Fy.E:Env:=Ba (A8 soft.Fy.A9) (fun _=>false) (fun _=>none) (fun _=>none)
theorem soft.Fy.ev (N:Nat) (x:Int):Bw soft.Fy.E N f211 (An f211) [.int .u64 x]=bif (Af x) then bif ((Mb x)==(0:Int)) then some (.tup [.int .u64 (C3 x),.int .i64 (-1074:Int)]) else some (.tup [.int .u64 (Is .u64 (C3 x) 4503599627370496),.int .i64 (Ab ((Mb x)-1075))]) else none:=by kernel_rfl
abbrev _root_.Go.Proofs.S1.soft.Fy.Kn:=A4 prog 211 soft.Fy.spec
theorem soft.Fy.Ac (hk:Az prog soft.Fy.A9) (h:Hyp soft.Fy.E f211 soft.Fy.ts soft.Fy.pre soft.Fy.out):soft.Fy.Kn :=
 Al (A0 hk _ _ _) func211 (by kernel_rfl) (by kernel_rfl) h
def soft.Pack.A9:List (Nat × Entry):=[(233,soft.De.spec)]
def soft.Pack.E (rk:Nat):Env:=Ba (A8 ((239,Amm [.b,.i .u64,.i .i64] soft.Pack.pre soft.Pack.out soft.Pack.mu rk)::soft.Pack.A9)) (fun _=>false) (fun _=>none) (fun _=>none)
theorem soft.Pack.ev (N rk:Nat) (n:Bool) (m e:Int):Bw (soft.Pack.E rk) N f239 (An f239) [.bool n,.int .u64 m,.int .i64 e]=bif (m==(0:Int)) then bif n then bif (Af 0) then some (.int .u64 (Cr 0)) else none else some (.int .u64 0) else bif (Em 9007199254740992 m) then bif ((Lh (Dm .u64 m 1) (Ab (e+1)))&&(Cz ((Pz (Dm .u64 m 1) (Ab (e+1)))<rk))) then some (.int .u64 (Uz n (Dm .u64 m 1) (Ab (e+1)))) else none else bif ((A6 m 4503599627370496)&&(A6 (-1074:Int) e)) then bif ((Lh (B4 .u64 m 1) (Ab (e-1)))&&(Cz ((Pz (B4 .u64 m 1) (Ab (e-1)))<rk))) then some (.int .u64 (Uz n (B4 .u64 m 1) (Ab (e-1)))) else none else bif (A6 m 4503599627370496) then bif n then bif (Af m) then some (.int .u64 (Cr m)) else none else some (.int .u64 m) else bif (Em 2047 (Ab (e+1075))) then bif n then bif (Af 9218868437227405312) then some (.int .u64 (Cr 9218868437227405312)) else none else some (.int .u64 9218868437227405312) else bif n then bif (Af (Is .u64 (B4 .u64 (Bl (Ab (e+1075))) 52) (E1 .u64 m 4503599627370495))) then some (.int .u64 (Cr (Is .u64 (B4 .u64 (Bl (Ab (e+1075))) 52) (E1 .u64 m 4503599627370495)))) else none else some (.int .u64 (Is .u64 (B4 .u64 (Bl (Ab (e+1075))) 52) (E1 .u64 m 4503599627370495))) :=
 Eq.trans (by kernel_rfl)
 (Et rfl (Et rfl (Ax (Qq (A6 m 4503599627370496)) (Ax (Ma (A6 m 4503599627370496)) (Ax (Uf (A6 m 4503599627370496)) (C9 (tt1 (A6 m 4503599627370496) (A6 (-1074:Int) e)) rfl rfl))))))
theorem soft.Pack.Ac (hk:Az prog soft.Pack.A9) (h:∀ (rk:Nat) (n:Bool) (m e:Int),soft.Pack.pre [.b n,.i m,.i e]=true→soft.Pack.mu [.b n,.i m,.i e]<rk+1→∃ N dv drops,Bw (soft.Pack.E rk) N f239 (An f239) [.bool n,.int .u64 m,.int .i64 e]=some dv∧Wk drops dv (soft.Pack.out [.b n,.i m,.i e])):A4 prog 239 soft.Pack.spec:=by
 have call:=T5 (f:=239) func239 (by kernel_rfl) (show f239.body=some (An f239) by kernel_rfl)
 refine ⟨Ai7 (E:=soft.Pack.E) func239 (show f239.body=some (An f239) by kernel_rfl) soft.Pack.mu (fun rk hm=>A0 (.cons ⟨hm,call⟩ hk) _ _ _) fun rk ats dvs he hp hr=>?_,call⟩
 obtain ⟨n,_,_,rfl,rfl,he0⟩:=he.Ay9
 obtain ⟨m,_,_,rfl,rfl,he1⟩:=he0.Aq8
 obtain ⟨e,_,_,rfl,rfl,he2⟩:=he1.Aq8
 obtain ⟨rfl,rfl⟩:=he2.Aea
 exact h rk n m e hp hr
abbrev _root_.Go.Proofs.S1.soft.Pack.Kn:Prop:=A4 prog 239 soft.Pack.spec
def soft.Dj.hint:Nat→Option Be
 | 0=>some { keep:=[0,1,2,3,10],objs:=[],boxes:=[] }
 | _=>none
def soft.Dj.A9:List (Nat × Entry):=[(155,soft.Kind.spec),(239,soft.Pack.spec)]
def soft.Dj.live:Nat→Option (List Nat)
 | 7=>some [0,1,2,3,10]
 | 12=>some [0,2,3,10,11,12,13,14]
 | 14=>some [0,2,10,11,14]
 | 16=>some [0,2,10,11,14]
 | 18=>some [14,15,16]
 | _=>none
def soft.Dj.E:Env:=Ba (A8 soft.Dj.A9) (fun _=>false) soft.Dj.hint soft.Dj.live
section
variable (N:Nat) (p14_3:Bool) (p15:Int) (M:Nat) (n:Bool) (m e p11 p10_4:Int) (p14_2:Bool) (p10_3 p11_2:Int) (p14_1 r:Bool) (p10_2 p11_1 p12 p13:Int) (p14:Bool) (p10_1 p10:Int)
def soft.Dj.L0:Option DV:=B2 soft.Dj.E N f212 (An f212) [1,1,1,0,0] [] M ⟨Gz 111 [(0,.bool n),(1,.int .u64 m),(2,.int .i64 e),(3,.bool r),(10,.int .i64 p10)],[]⟩
def soft.Dj.C7:Option DV:=cutAt soft.Dj.E N f212 (An f212) [1,1,1,1] [] ⟨Gz 111 [(0,.bool n),(1,.int .u64 m),(2,.int .i64 e),(3,.bool r),(10,.int .i64 p10_1)],[]⟩
def soft.Dj.C12:Option DV:=cutAt soft.Dj.E N f212 (An f212) [1,1,1,1,1,1,1,1,0] [] ⟨Gz 111 [(0,.bool n),(2,.int .i64 e),(3,.bool r),(10,.int .i64 p10_2),(11,.int .u64 p11_1),(12,.int .u64 p12),(13,.int .u64 p13),(14,.bool p14)],[]⟩
def soft.Dj.C14:Option DV:=cutAt soft.Dj.E N f212 (An f212) [1,1,1,1,1,1,1,1,1,0] [] ⟨Gz 111 [(0,.bool n),(2,.int .i64 e),(10,.int .i64 p10_3),(11,.int .u64 p11_2),(14,.bool p14_1)],[]⟩
def soft.Dj.C16:Option DV:=cutAt soft.Dj.E N f212 (An f212) [1,1,1,1,1,1,1,1,1,1] [] ⟨Gz 111 [(0,.bool n),(2,.int .i64 e),(10,.int .i64 p10_4),(11,.int .u64 p11),(14,.bool p14_2)],[]⟩
def soft.Dj.C18:Option DV:=cutAt soft.Dj.E N f212 (An f212) [1,1,1,1,1,1,1,1,1,1,1,1,0] [] ⟨Gz 111 [(14,.bool p14_3),(15,.int .u64 p15),(16,.int .u8 0)],[]⟩
theorem soft.Dj.Av:soft.Dj.L0 N (M+1) n m e r p10=bif (decide (0≤p10)) then bif ((Em 9007199254740992 (Dm .u64 m p10))||(A6 (Ab (e+p10)) (-1074:Int))) then bif ((Ab (p10+1))==(63:Int)) then soft.Dj.C7 N n m e r (Ab (p10+1)) else soft.Dj.L0 N M n m e r (Ab (p10+1)) else soft.Dj.C7 N n m e r p10 else none :=
 Eq.trans (by kernel_rfl)
 (Et (Ax (S8 (Em 9007199254740992 (Dm .u64 m p10))) (Ax (S8 (Em 9007199254740992 (Dm .u64 m p10))) (Ax (tt8 (Em 9007199254740992 (Dm .u64 m p10))) (Ax (Qx (Em 9007199254740992 (Dm .u64 m p10))) (Ax (X2 (Em 9007199254740992 (Dm .u64 m p10))) (C9 (tt5 (Em 9007199254740992 (Dm .u64 m p10)) (A6 (Ab (e+p10)) (-1074:Int))) rfl rfl)))))) rfl)
theorem soft.Dj.Azc:soft.Dj.C7 N n m e r p10_1=bif (decide (0≤p10_1)) then bif (decide (0≤p10_1)) then bif (A6 0 p10_1) then bif (decide (0≤(Ab (p10_1-1)))) then soft.Dj.C12 N n e r p10_1 (Dm .u64 m p10_1) (E1 .u64 m (Bl ((B4 .u64 1 p10_1)-1))) (B4 .u64 1 (Ab (p10_1-1))) (bif ((E1 .u64 m (Bl ((B4 .u64 1 p10_1)-1)))==(0:Int)) then (!r) else false) else none else soft.Dj.C12 N n e r p10_1 (Dm .u64 m p10_1) (E1 .u64 m (Bl ((B4 .u64 1 p10_1)-1))) 0 (bif ((E1 .u64 m (Bl ((B4 .u64 1 p10_1)-1)))==(0:Int)) then (!r) else false) else none else none :=
 Eq.trans ((Rk _ _ _ _ _ _ _).trans (by kernel_rfl))
 (C9 (Cy (decide (0≤p10_1))) (C9 (Cy (decide (0≤p10_1))) (Et (Et (Ax (Qq ((E1 .u64 m (Bl ((B4 .u64 1 p10_1)-1)))==(0:Int))) (Ax (Ma ((E1 .u64 m (Bl ((B4 .u64 1 p10_1)-1)))==(0:Int))) (Ax (Uf ((E1 .u64 m (Bl ((B4 .u64 1 p10_1)-1)))==(0:Int))) rfl))) rfl) (Ax (Qq ((E1 .u64 m (Bl ((B4 .u64 1 p10_1)-1)))==(0:Int))) (Ax (Ma ((E1 .u64 m (Bl ((B4 .u64 1 p10_1)-1)))==(0:Int))) (Ax (Uf ((E1 .u64 m (Bl ((B4 .u64 1 p10_1)-1)))==(0:Int))) rfl)))) rfl) rfl)
theorem soft.Dj.Axd:soft.Dj.C12 N n e r p10_2 p11_1 p12 p13 p14=bif ((A6 0 p10_2)&&((A6 p13 p12)||((p12==p13)&&(r||((E1 .u64 p11_1 1)==(1:Int)))))) then soft.Dj.C14 N n e p10_2 (Bl (p11_1+1)) p14 else soft.Dj.C14 N n e p10_2 p11_1 p14 :=
 Eq.trans ((Rk _ _ _ _ _ _ _).trans (by kernel_rfl))
 (Ax (Qq (A6 0 p10_2)) (Ax (Qq (A6 0 p10_2)) (Ax (Afi (A6 0 p10_2)) (Ax (Ma (A6 0 p10_2)) (Ax (As0 (A6 0 p10_2) (A6 p13 p12)) (Ax (As0 (A6 0 p10_2) (A6 p13 p12)) (Ax (Aym (A6 0 p10_2) (A6 p13 p12)) (Ax (As1 (A6 0 p10_2) (A6 p13 p12)) (Ax (A0n (A6 0 p10_2) (A6 p13 p12) (p12==p13)) (Ax (A0o (A6 0 p10_2) (A6 p13 p12) (p12==p13)) (Ax (A0p (A6 0 p10_2) (A6 p13 p12) (p12==p13) r) (Ax (Ayn (A6 0 p10_2) (A6 p13 p12) (p12==p13) r) (Ax (Ayn (A6 0 p10_2) (A6 p13 p12) (p12==p13) r) (Ax (A0q (A6 0 p10_2) (A6 p13 p12) (p12==p13) r) (Ax (A0r (A6 0 p10_2) (A6 p13 p12) (p12==p13)) (Ax (Ayq (A6 0 p10_2) (A6 p13 p12)) (Ax (Uf (A6 0 p10_2)) (C9 (A0s (A6 0 p10_2) (A6 p13 p12) (p12==p13) r ((E1 .u64 p11_1 1)==(1:Int))) rfl rfl))))))))))))))))))
theorem soft.Dj.Axc:soft.Dj.C14 N n e p10_3 p11_2 p14_1=bif (A6 (Ab (e+p10_3)) (-1074:Int)) then soft.Dj.C16 N n e 0 p10_3 p14_1 else soft.Dj.C16 N n e p11_2 p10_3 p14_1:=(Rk _ _ _ _ _ _ _).trans (by kernel_rfl)
theorem soft.Dj.Axb:soft.Dj.C16 N n e p11 p10_4 p14_2=bif (Lh p11 (max (Ab (e+p10_4)) (-1074:Int))) then soft.Dj.C18 N p14_2 (Uz n p11 (max (Ab (e+p10_4)) (-1074:Int))) else none:=(Rk _ _ _ _ _ _ _).trans (by kernel_rfl)
theorem soft.Dj.Aw9:soft.Dj.C18 N p14_3 p15=bif ((!p14_3)||((Gx .u64 p15 9223372036854775808)==(9218868437227405312:Int))) then bif (Af p15) then bif ((A5 p15)==(3:Int)) then some (.tup [.int .u64 p15,.int .u8 5]) else bif ((A5 p15)==(0:Int)) then bif ((A5 p15)==(0:Int)) then some (.tup [.int .u64 p15,.int .u8 3]) else some (.tup [.int .u64 p15,.int .u8 1]) else bif ((A5 p15)==(1:Int)) then some (.tup [.int .u64 p15,.int .u8 3]) else some (.tup [.int .u64 p15,.int .u8 1]) else none else some (.tup [.int .u64 p15,.int .u8 0]) :=
 Eq.trans ((Rk _ _ _ _ _ _ _).trans (by kernel_rfl))
 (Ax (Ade p14_3) (Ax (S3 p14_3) (Ax (S3 p14_3) (Ax (Adf p14_3) (C9 (Av1 p14_3 ((Gx .u64 p15 9223372036854775808)==(9218868437227405312:Int))) rfl rfl)))))
theorem soft.Dj.ev:Bw soft.Dj.E N f212 (An f212) [.bool n,.int .u64 m,.int .i64 e,.bool r]=bif ((m==(0:Int))&&(!r)) then bif (Lh 0 (-1074:Int)) then some (.tup [.int .u64 (Uz n 0 (-1074:Int)),.int .u8 0]) else none else soft.Dj.L0 N N n m e r 0 :=
 Eq.trans (by kernel_rfl)
 (Ax (Qq (m==(0:Int))) (Ax (Ma (m==(0:Int))) (Ax (Uf (m==(0:Int))) (C9 (A0m (m==(0:Int)) r) rfl rfl))))
end
abbrev _root_.Go.Proofs.S1.soft.Dj.Kn:=A4 prog 212 soft.Dj.spec
theorem soft.Dj.Ac (hk:Az prog soft.Dj.A9) (h:Hyp soft.Dj.E f212 soft.Dj.ts soft.Dj.pre soft.Dj.out):soft.Dj.Kn :=
 Al (A0 hk _ _ _) func212 (by kernel_rfl) (by kernel_rfl) h
end EqSoft
theorem Ae {a b:Bool}:(a&&b)=true↔a=true∧b=true:=by simp
theorem Akz {n:Nat} (hn:n<2^64):((Dm .u64 (n:Int) (63:Int))==(1:Int))=D0 n:=by
 rw [show (63:Int)=((63:Nat):Int) from rfl,Ii .u64 n 63 (by decide)]
 unfold D0 Bk
 rw [A1j,A1x]
 simp only [beq_iff_eq,A1o]
 omega
theorem Atg {n:Nat} (hn:n<2^64):Ab (E1 .u64 (Dm .u64 (n:Int) (52:Int)) (2047:Int))=Mb n:=by
 rw [show (52:Int)=((52:Nat):Int) from rfl,Ii .u64 n 52 (by decide),show (2047:Int)=((2^11-1:Nat):Int) from rfl,Jf 11 (by omega) (by decide)]
 unfold Mb Db
 rw [A1j,Am (by omega) (by omega)]
theorem Arc {n:Nat} (hn:n<2^64):E1 .u64 (n:Int) (4503599627370495:Int)=C3 n:=by
 rw [show (4503599627370495:Int)=((2^52-1:Nat):Int) from rfl,Jf 52 hn (by decide)]
 unfold C3 Cm
 rw [A1j]
theorem soft.Split.known:soft.Split.Kn:=EqSoft.soft.Split.Ac .nil fun x hp=>by
 obtain ⟨n,rfl,hn⟩:=Bm (x:=x) hp
 refine ⟨0,soft.Split.out [.i n],[],?_,Wk.Hk (.cons .bool (.cons .int (.cons .int .nil)))⟩
 rw [EqSoft.soft.Split.ev,Akz hn,Atg hn,Arc hn]
 rfl
theorem soft.Kind.known:soft.Kind.Kn:=EqSoft.soft.Kind.Ac (.cons soft.Split.known .nil) fun x hp=>by
 obtain ⟨n,rfl,hn⟩:=Bm (x:=x) hp
 refine ⟨0,soft.Kind.out [.i n],[],?_,.int⟩
 rw [EqSoft.soft.Kind.ev,B5 hn]
 show _=some (DV.int .i64 (A5 n))
 unfold A5 Ah Mb C3
 simp only [A1j,A1h,Au]
 have:=I9 n
 by_cases h1:Db n=2047
 ·by_cases h2:Cm n=0
  ·simp [h1,h2]
  ·have:((Cm n:Int)==0)=false:=by simp; exact h2
   simp [h1,this,h2]
 ·have h1':((Db n:Int)==2047)=false:=by simp; omega
  rw [h1']
  by_cases h3:0<Db n
  ·simp [h1,h3]
  ·by_cases h4:0<Cm n
   ·simp [h1,h3,h4]
   ·simp [h1,h3,h4]
theorem soft.Sign.known:soft.Sign.Kn:=EqSoft.soft.Sign.Ac .nil fun x hp=>by
 obtain ⟨n,rfl,hn⟩:=Bm (x:=x) hp
 refine ⟨0,soft.Sign.out [.i n],[],?_,.bool⟩
 rw [EqSoft.soft.Sign.ev,Akz hn]
 rfl
theorem Z6 (n:Nat):Ig n=!(decide (Ah n=3)||decide (Ah n=4)):=by
 have:=I9 n
 unfold Ig Ah
 by_cases h1:Db n=2047
 ·by_cases h2:Cm n=0<;>simp [h1,h2]
 ·have:Db n<2047:=by omega
  by_cases h3:0<Db n
  ·simp [h1,h3,this]
  ·by_cases h4:0<Cm n<;>simp [h1,h3,h4,this]
theorem soft.Finite.known:soft.Finite.Kn:=EqSoft.soft.Finite.Ac (.cons soft.Kind.known .nil) fun x hp=>by
 obtain ⟨n,rfl,hn⟩:=Bm (x:=x) hp
 refine ⟨0,soft.Finite.out [.i n],[],?_,.bool⟩
 rw [EqSoft.soft.Finite.ev,B5 hn]
 show _=some (DV.bool (Ck n))
 unfold Ck A5
 rw [A1j,Z6]
 by_cases h3:Ah n=3
 ·simp [h3]
 ·by_cases h4:Ah n=4
  ·simp [h4]
  ·have e3:((Ah n:Int)==3)=false:=by simp; omega
   have e4:((Ah n:Int)==4)=false:=by simp; omega
   simp [h3,h4,e3,e4]
theorem Ana {n:Nat} (hn:n<2^64):Auy .u64 (n:Int) (9223372036854775808:Int)=Cr n:=by
 rw [show (9223372036854775808:Int)=((2^63:Nat):Int) from rfl,Ar6 hn (by decide),Asl hn]
 unfold Cr Gb
 rw [A1j]
theorem soft.De.known:soft.De.Kn:=EqSoft.soft.De.Ac .nil fun x hp=>by
 obtain ⟨n,rfl,hn⟩:=Bm (x:=x) hp
 refine ⟨0,soft.De.out [.i n],[],?_,.int⟩
 rw [EqSoft.soft.De.ev,Ana hn]
 rfl
theorem soft.Fy.known:soft.Fy.Kn:=EqSoft.soft.Fy.Ac (.cons soft.Split.known .nil) fun x hp=>by
 obtain ⟨n,rfl,hn⟩:=Bm (x:=x) hp
 refine ⟨0,soft.Fy.out [.i n],[],?_,Wk.Ha (.cons .int (.cons .int .nil))⟩
 rw [EqSoft.soft.Fy.ev,B5 hn]
 show _=some (DV.tup [.int .u64 (Bx n),.int .i64 (Bi n)])
 have hf:=Kh n
 have hp:=I9 n
 unfold Bx Bi Mb C3 As Ay
 rw [A1j]
 by_cases h:Db n=0
 ·simp [h]
 ·have e:((Db n:Int)==0)=false:=by simp; omega
  have e2:Is .u64 ((Cm n:Nat):Int) (4503599627370496:Int)=((Cm n+2^52:Nat):Int):=by
   rw [show (4503599627370496:Int)=((1*2^52:Nat):Int) from rfl,Aoc (by omega) (by omega)]
   congr 1; omega
  rw [e,e2,Am (by omega) (by omega)]
  simp [h]
namespace EqRefD
def A1.Neg.A9:List (Nat × Entry):=[]
def A1.Neg.E:Env:=Ba (A8 A1.Neg.A9) (fun _=>false) (fun _=>none) (fun _=>none)
theorem A1.Neg.ev (N:Nat) (x:Int):Bw A1.Neg.E N f142 (An f142) [.int .u64 x]=some (.bool ((Bl (Int.tdiv x 9223372036854775808))==(1:Int))):=by kernel_rfl
abbrev _root_.Go.Proofs.S1.A1.Neg.Kn:=A4 prog 142 A1.Neg.spec
theorem A1.Neg.Ac (hk:Az prog A1.Neg.A9) (h:Hyp A1.Neg.E f142 A1.Neg.ts A1.Neg.pre A1.Neg.out):A1.Neg.Kn :=
 Al (A0 hk _ _ _) func142 (by kernel_rfl) (by kernel_rfl) h
def A1.Power.A9:List (Nat × Entry):=[]
def A1.Power.E:Env:=Ba (A8 A1.Power.A9) (fun _=>false) (fun _=>none) (fun _=>none)
theorem A1.Power.ev (N:Nat) (x:Int):Bw A1.Power.E N f140 (An f140) [.int .u64 x]=some (.int .i64 (Ab (Bl (Int.tdiv (Int.tmod x 9223372036854775808) 4503599627370496)))):=by kernel_rfl
abbrev _root_.Go.Proofs.S1.A1.Power.Kn:=A4 prog 140 A1.Power.spec
theorem A1.Power.Ac (hk:Az prog A1.Power.A9) (h:Hyp A1.Power.E f140 A1.Power.ts A1.Power.pre A1.Power.out):A1.Power.Kn :=
 Al (A0 hk _ _ _) func140 (by kernel_rfl) (by kernel_rfl) h
def A1.Ks.A9:List (Nat × Entry):=[]
def A1.Ks.E:Env:=Ba (A8 A1.Ks.A9) (fun _=>false) (fun _=>none) (fun _=>none)
theorem A1.Ks.ev (N:Nat) (x:Int):Bw A1.Ks.E N f141 (An f141) [.int .u64 x]=some (.int .u64 (Int.tmod x 4503599627370496)):=by kernel_rfl
abbrev _root_.Go.Proofs.S1.A1.Ks.Kn:=A4 prog 141 A1.Ks.spec
theorem A1.Ks.Ac (hk:Az prog A1.Ks.A9) (h:Hyp A1.Ks.E f141 A1.Ks.ts A1.Ks.pre A1.Ks.out):A1.Ks.Kn :=
 Al (A0 hk _ _ _) func141 (by kernel_rfl) (by kernel_rfl) h
def A1.Kind.A9:List (Nat × Entry):=[(141,A1.Ks.spec),(140,A1.Power.spec)]
def A1.Kind.E:Env:=Ba (A8 A1.Kind.A9) (fun _=>false) (fun _=>none) (fun _=>none)
theorem A1.Kind.ev (N:Nat) (x:Int):Bw A1.Kind.E N f62 (An f62) [.int .u64 x]=bif (K4 x) then bif ((Mb x)==(2047:Int)) then bif (K4 x) then bif ((C3 x)==(0:Int)) then some (.int .i64 3) else some (.int .i64 4) else none else bif (K4 x) then bif (A6 0 (Mb x)) then some (.int .i64 2) else bif (K4 x) then bif (A6 0 (C3 x)) then some (.int .i64 1) else some (.int .i64 0) else none else none else none:=by kernel_rfl
abbrev _root_.Go.Proofs.S1.A1.Kind.Kn:=A4 prog 62 A1.Kind.spec
theorem A1.Kind.Ac (hk:Az prog A1.Kind.A9) (h:Hyp A1.Kind.E f62 A1.Kind.ts A1.Kind.pre A1.Kind.out):A1.Kind.Kn :=
 Al (A0 hk _ _ _) func62 (by kernel_rfl) (by kernel_rfl) h
def A1.Finite.A9:List (Nat × Entry):=[(140,A1.Power.spec)]
def A1.Finite.E:Env:=Ba (A8 A1.Finite.A9) (fun _=>false) (fun _=>none) (fun _=>none)
theorem A1.Finite.ev (N:Nat) (x:Int):Bw A1.Finite.E N f131 (An f131) [.int .u64 x]=bif (K4 x) then some (.bool (A6 (Mb x) 2047)) else none:=by kernel_rfl
abbrev _root_.Go.Proofs.S1.A1.Finite.Kn:=A4 prog 131 A1.Finite.spec
theorem A1.Finite.Ac (hk:Az prog A1.Finite.A9) (h:Hyp A1.Finite.E f131 A1.Finite.ts A1.Finite.pre A1.Finite.out):A1.Finite.Kn :=
 Al (A0 hk _ _ _) func131 (by kernel_rfl) (by kernel_rfl) h
def A1.De.A9:List (Nat × Entry):=[(142,A1.Neg.spec)]
def A1.De.E:Env:=Ba (A8 A1.De.A9) (fun _=>false) (fun _=>none) (fun _=>none)
theorem A1.De.ev (N:Nat) (x:Int):Bw A1.De.E N f163 (An f163) [.int .u64 x]=bif (Af x) then bif (D0 x) then some (.int .u64 (Bl (x-9223372036854775808))) else some (.int .u64 (Bl (x+9223372036854775808))) else none:=by kernel_rfl
abbrev _root_.Go.Proofs.S1.A1.De.Kn:=A4 prog 163 A1.De.spec
theorem A1.De.Ac (hk:Az prog A1.De.A9) (h:Hyp A1.De.E f163 A1.De.ts A1.De.pre A1.De.out):A1.De.Kn :=
 Al (A0 hk _ _ _) func163 (by kernel_rfl) (by kernel_rfl) h
def Ek.Canon.A9:List (Nat × Entry):=[(62,A1.Kind.spec)]
def Ek.Canon.E:Env:=Ba (A8 Ek.Canon.A9) (fun _=>false) (fun _=>none) (fun _=>none)
theorem Ek.Canon.ev (N:Nat) (x:Int):Bw Ek.Canon.E N f168 (An f168) [.int .u64 x]=bif (K4 x) then bif ((A5 x)==(4:Int)) then some (.int .u64 9221120237041090560) else some (.int .u64 x) else none:=by kernel_rfl
abbrev _root_.Go.Proofs.S1.Ek.Canon.Kn:=A4 prog 168 Ek.Canon.spec
theorem Ek.Canon.Ac (hk:Az prog Ek.Canon.A9) (h:Hyp Ek.Canon.E f168 Ek.Canon.ts Ek.Canon.pre Ek.Canon.out):Ek.Canon.Kn :=
 Al (A0 hk _ _ _) func168 (by kernel_rfl) (by kernel_rfl) h
abbrev _root_.Go.Proofs.S1.Ek.Canon.nb.Kn:Prop:=A4 prog 168 Ek.Canon.nb.spec
end EqRefD
end Go.Proofs.S1
end
