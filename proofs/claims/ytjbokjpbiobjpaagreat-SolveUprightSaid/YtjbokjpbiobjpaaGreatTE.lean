/- A verified evaluator of the program's form and its use for this seat: S1Env, Rnd, Flt, Words, NearL, IeeL, OrdL, MulL, Limb, DyL, DyV, ExactL, MulW, SumL, MatL, MatW, PowL, RootL, ScaleL, SolW, TriL, HouW, LseW, GgW, RidW, WhoW, HouL, DiffL. -/
import Derived.Test.YtjbokjpbiobjpaaGreatProg
import Derived.Test.YtjbokjpbiobjpaaGreatTD
set_option linter.unusedVariables false
set_option linter.unusedSimpArgs false
noncomputable section
open Int (toNat)
open List (length getD)
namespace Go.Proofs.S1
open Go Go.Den Go.Proofs
set_option maxRecDepth 100000
abbrev tB:Nat:=37
abbrev tMR:Nat:=214
abbrev tW:Nat:=173
def tys:List (Nat × TI):=[
 (2,⟨1,8,(.int .i64),[.int .i64 (0:Int)]⟩),
 (3,⟨1,8,(.int .i64),[.int .i64 (0:Int)]⟩),
 (4,⟨1,1,.bool,[.bool false]⟩),
 (5,⟨1,1,(.int .u8),[.int .u8 (0:Int)]⟩),
 (22,⟨1,24,(.slice 37),[.nil]⟩),
 (24,⟨3,40,(.struct [(0,3),(1,3),(2,22)]),[.int .i64 (0:Int),.int .i64 (0:Int),.nil]⟩),
 (25,⟨1,8,(.int .i64),[.int .i64 (0:Int)]⟩),
 (36,⟨1,8,(.int .u64),[.int .u64 (0:Int)]⟩),
 (37,⟨1,8,(.int .u64),[.int .u64 (0:Int)]⟩),
 (38,⟨1,24,(.slice 41),[.nil]⟩),
 (41,⟨1,1,(.int .i8),[.int .i8 (0:Int)]⟩),
 (43,⟨1,24,(.slice 173),[.nil]⟩),
 (45,⟨2,32,(.struct [(0,4),(1,43)]),[.bool false,.nil]⟩),
 (47,⟨3,40,(.struct [(0,45),(2,3)]),[.bool false,.nil,.int .i64 (0:Int)]⟩),
 (57,⟨12,160,(.struct [(0,24),(3,24),(6,24),(9,24)]),[.int .i64 (0:Int),.int .i64 (0:Int),.nil,.int .i64 (0:Int),.int .i64 (0:Int),.nil,.int .i64 (0:Int),.int .i64 (0:Int),.nil,.int .i64 (0:Int),.int .i64 (0:Int),.nil]⟩),
 (60,⟨12,160,(.struct [(0,24),(3,24),(6,24),(9,24)]),[.int .i64 (0:Int),.int .i64 (0:Int),.nil,.int .i64 (0:Int),.int .i64 (0:Int),.nil,.int .i64 (0:Int),.int .i64 (0:Int),.nil,.int .i64 (0:Int),.int .i64 (0:Int),.nil]⟩),
 (71,⟨9,120,(.struct [(0,24),(3,24),(6,24)]),[.int .i64 (0:Int),.int .i64 (0:Int),.nil,.int .i64 (0:Int),.int .i64 (0:Int),.nil,.int .i64 (0:Int),.int .i64 (0:Int),.nil]⟩),
 (74,⟨9,120,(.struct [(0,24),(3,24),(6,24)]),[.int .i64 (0:Int),.int .i64 (0:Int),.nil,.int .i64 (0:Int),.int .i64 (0:Int),.nil,.int .i64 (0:Int),.int .i64 (0:Int),.nil]⟩),
 (80,⟨7,88,(.struct [(0,24),(3,24),(6,25)]),[.int .i64 (0:Int),.int .i64 (0:Int),.nil,.int .i64 (0:Int),.int .i64 (0:Int),.nil,.int .i64 (0:Int)]⟩),
 (88,⟨9,120,(.struct [(0,24),(3,24),(6,24)]),[.int .i64 (0:Int),.int .i64 (0:Int),.nil,.int .i64 (0:Int),.int .i64 (0:Int),.nil,.int .i64 (0:Int),.int .i64 (0:Int),.nil]⟩),
 (91,⟨1,24,(.slice 24),[.nil]⟩),
 (102,⟨1,8,(.int .i64),[.int .i64 (0:Int)]⟩),
 (114,⟨6,80,(.array 2 24),[.int .i64 (0:Int),.int .i64 (0:Int),.nil,.int .i64 (0:Int),.int .i64 (0:Int),.nil]⟩),
 (118,⟨7,88,(.struct [(0,24),(3,24),(6,4)]),[.int .i64 (0:Int),.int .i64 (0:Int),.nil,.int .i64 (0:Int),.int .i64 (0:Int),.nil,.bool false]⟩),
 (121,⟨1,8,.fl,[.fl 0]⟩),
 (131,⟨1,24,(.slice 47),[.nil]⟩),
 (134,⟨1,24,(.slice 135),[.nil]⟩),
 (135,⟨1,24,(.slice 45),[.nil]⟩),
 (145,⟨9,120,(.array 3 24),[.int .i64 (0:Int),.int .i64 (0:Int),.nil,.int .i64 (0:Int),.int .i64 (0:Int),.nil,.int .i64 (0:Int),.int .i64 (0:Int),.nil]⟩),
 (147,⟨15,200,(.struct [(0,24),(3,24),(6,24),(9,24),(12,24)]),[.int .i64 (0:Int),.int .i64 (0:Int),.nil,.int .i64 (0:Int),.int .i64 (0:Int),.nil,.int .i64 (0:Int),.int .i64 (0:Int),.nil,.int .i64 (0:Int),.int .i64 (0:Int),.nil,.int .i64 (0:Int),.int .i64 (0:Int),.nil]⟩),
 (155,⟨3,40,(.struct [(0,3),(1,3),(2,131)]),[.int .i64 (0:Int),.int .i64 (0:Int),.nil]⟩),
 (166,⟨1,1,(.int .u8),[.int .u8 (0:Int)]⟩),
 (173,⟨1,4,(.int .u32),[.int .u32 (0:Int)]⟩),
 (183,⟨12,160,(.array 4 24),[.int .i64 (0:Int),.int .i64 (0:Int),.nil,.int .i64 (0:Int),.int .i64 (0:Int),.nil,.int .i64 (0:Int),.int .i64 (0:Int),.nil,.int .i64 (0:Int),.int .i64 (0:Int),.nil]⟩),
 (188,⟨2,16,(.array 2 3),[.int .i64 (0:Int),.int .i64 (0:Int)]⟩),
 (189,⟨1,24,(.slice 191),[.nil]⟩),
 (191,⟨3,40,(.struct [(0,22),(1,37),(2,37)]),[.nil,.int .u64 (0:Int),.int .u64 (0:Int)]⟩),
 (199,⟨3,24,(.struct [(0,4),(1,3),(2,36)]),[.bool false,.int .i64 (0:Int),.int .u64 (0:Int)]⟩),
 (208,⟨1,24,(.slice 214),[.nil]⟩),
 (214,⟨2,32,(.struct [(0,22),(1,37)]),[.nil,.int .u64 (0:Int)]⟩)]
theorem ty2:B8 Tryz.prog 2 ⟨1,8,(.int .i64),[.int .i64 (0:Int)]⟩:=Ca (z:=.int .i64 (0:Int)) (by kernel_rfl) (fun c w=>by simp [A6,Am,Value.cells]) rfl (by simp [Value.cells,Value.oneCell']) (by simp only [Cj]; exact Tryz.underlying2)
theorem ty3:B8 Tryz.prog 3 ⟨1,8,(.int .i64),[.int .i64 (0:Int)]⟩:=Ca (z:=.int .i64 (0:Int)) (by kernel_rfl) (fun c w=>by simp [A6,Am,Value.cells]) rfl (by simp [Value.cells,Value.oneCell']) (by simp only [Cj]; exact Tryz.underlying3)
theorem ty4:B8 Tryz.prog 4 ⟨1,1,.bool,[.bool false]⟩:=Ca (z:=.bool false) (by kernel_rfl) (fun c w=>by simp [A6,Am,Value.cells]) rfl (by simp [Value.cells,Value.oneCell']) (by simp only [Cj]; exact Tryz.underlying4)
theorem ty5:B8 Tryz.prog 5 ⟨1,1,(.int .u8),[.int .u8 (0:Int)]⟩:=Ca (z:=.int .u8 (0:Int)) (by kernel_rfl) (fun c w=>by simp [A6,Am,Value.cells]) rfl (by simp [Value.cells,Value.oneCell']) (by simp only [Cj]; exact Tryz.underlying5)
theorem A3u:B8 Tryz.prog 22 ⟨1,24,(.slice 37),[.nil]⟩:=Ca (z:=.slice none 0 0) (by kernel_rfl) (fun c w=>by simp [A6,Am,Value.cells]) rfl (by simp [Value.cells,Value.oneCell']) (by simp only [Cj]; exact Tryz.underlying22)
theorem A3t:B8 Tryz.prog 24 ⟨3,40,(.struct [(0,3),(1,3),(2,22)]),[.int .i64 (0:Int),.int .i64 (0:Int),.nil]⟩:=Ca (z:=.agg #[.int .i64 (0:Int),.int .i64 (0:Int),.slice none 0 0]) (by kernel_rfl) (fun c w=>by simp [A6,Am,Value.cells]) rfl (by simp [Value.cells,Value.oneCell']) (by simp only [Cj]; exact ⟨_,Tryz.underlying24,by kernel_rfl⟩)
theorem A3s:B8 Tryz.prog 25 ⟨1,8,(.int .i64),[.int .i64 (0:Int)]⟩:=Ca (z:=.int .i64 (0:Int)) (by kernel_rfl) (fun c w=>by simp [A6,Am,Value.cells]) rfl (by simp [Value.cells,Value.oneCell']) (by simp only [Cj]; exact Tryz.underlying25)
theorem A0p:B8 Tryz.prog 36 ⟨1,8,(.int .u64),[.int .u64 (0:Int)]⟩:=Ca (z:=.int .u64 (0:Int)) (by kernel_rfl) (fun c w=>by simp [A6,Am,Value.cells]) rfl (by simp [Value.cells,Value.oneCell']) (by simp only [Cj]; exact Tryz.underlying36)
theorem A3r:B8 Tryz.prog 37 ⟨1,8,(.int .u64),[.int .u64 (0:Int)]⟩:=Ca (z:=.int .u64 (0:Int)) (by kernel_rfl) (fun c w=>by simp [A6,Am,Value.cells]) rfl (by simp [Value.cells,Value.oneCell']) (by simp only [Cj]; exact Tryz.underlying37)
theorem A3q:B8 Tryz.prog 38 ⟨1,24,(.slice 41),[.nil]⟩:=Ca (z:=.slice none 0 0) (by kernel_rfl) (fun c w=>by simp [A6,Am,Value.cells]) rfl (by simp [Value.cells,Value.oneCell']) (by simp only [Cj]; exact Tryz.underlying38)
theorem A3p:B8 Tryz.prog 41 ⟨1,1,(.int .i8),[.int .i8 (0:Int)]⟩:=Ca (z:=.int .i8 (0:Int)) (by kernel_rfl) (fun c w=>by simp [A6,Am,Value.cells]) rfl (by simp [Value.cells,Value.oneCell']) (by simp only [Cj]; exact Tryz.underlying41)
theorem A3o:B8 Tryz.prog 43 ⟨1,24,(.slice 173),[.nil]⟩:=Ca (z:=.slice none 0 0) (by kernel_rfl) (fun c w=>by simp [A6,Am,Value.cells]) rfl (by simp [Value.cells,Value.oneCell']) (by simp only [Cj]; exact Tryz.underlying43)
theorem A3n:B8 Tryz.prog 45 ⟨2,32,(.struct [(0,4),(1,43)]),[.bool false,.nil]⟩:=Ca (z:=.agg #[.bool false,.slice none 0 0]) (by kernel_rfl) (fun c w=>by simp [A6,Am,Value.cells]) rfl (by simp [Value.cells,Value.oneCell']) (by simp only [Cj]; exact ⟨_,Tryz.underlying45,by kernel_rfl⟩)
theorem A3m:B8 Tryz.prog 47 ⟨3,40,(.struct [(0,45),(2,3)]),[.bool false,.nil,.int .i64 (0:Int)]⟩:=Ca (z:=.agg #[.bool false,.slice none 0 0,.int .i64 (0:Int)]) (by kernel_rfl) (fun c w=>by simp [A6,Am,Value.cells]) rfl (by simp [Value.cells,Value.oneCell']) (by simp only [Cj]; exact ⟨_,Tryz.underlying47,by kernel_rfl⟩)
theorem A3l:B8 Tryz.prog 57 ⟨12,160,(.struct [(0,24),(3,24),(6,24),(9,24)]),[.int .i64 (0:Int),.int .i64 (0:Int),.nil,.int .i64 (0:Int),.int .i64 (0:Int),.nil,.int .i64 (0:Int),.int .i64 (0:Int),.nil,.int .i64 (0:Int),.int .i64 (0:Int),.nil]⟩:=Ca (z:=.agg #[.int .i64 (0:Int),.int .i64 (0:Int),.slice none 0 0,.int .i64 (0:Int),.int .i64 (0:Int),.slice none 0 0,.int .i64 (0:Int),.int .i64 (0:Int),.slice none 0 0,.int .i64 (0:Int),.int .i64 (0:Int),.slice none 0 0]) (by kernel_rfl) (fun c w=>by simp [A6,Am,Value.cells]) rfl (by simp [Value.cells,Value.oneCell']) (by simp only [Cj]; exact ⟨_,Tryz.underlying57,by kernel_rfl⟩)
theorem A3k:B8 Tryz.prog 60 ⟨12,160,(.struct [(0,24),(3,24),(6,24),(9,24)]),[.int .i64 (0:Int),.int .i64 (0:Int),.nil,.int .i64 (0:Int),.int .i64 (0:Int),.nil,.int .i64 (0:Int),.int .i64 (0:Int),.nil,.int .i64 (0:Int),.int .i64 (0:Int),.nil]⟩:=Ca (z:=.agg #[.int .i64 (0:Int),.int .i64 (0:Int),.slice none 0 0,.int .i64 (0:Int),.int .i64 (0:Int),.slice none 0 0,.int .i64 (0:Int),.int .i64 (0:Int),.slice none 0 0,.int .i64 (0:Int),.int .i64 (0:Int),.slice none 0 0]) (by kernel_rfl) (fun c w=>by simp [A6,Am,Value.cells]) rfl (by simp [Value.cells,Value.oneCell']) (by simp only [Cj]; exact ⟨_,Tryz.underlying60,by kernel_rfl⟩)
theorem A3j:B8 Tryz.prog 71 ⟨9,120,(.struct [(0,24),(3,24),(6,24)]),[.int .i64 (0:Int),.int .i64 (0:Int),.nil,.int .i64 (0:Int),.int .i64 (0:Int),.nil,.int .i64 (0:Int),.int .i64 (0:Int),.nil]⟩:=Ca (z:=.agg #[.int .i64 (0:Int),.int .i64 (0:Int),.slice none 0 0,.int .i64 (0:Int),.int .i64 (0:Int),.slice none 0 0,.int .i64 (0:Int),.int .i64 (0:Int),.slice none 0 0]) (by kernel_rfl) (fun c w=>by simp [A6,Am,Value.cells]) rfl (by simp [Value.cells,Value.oneCell']) (by simp only [Cj]; exact ⟨_,Tryz.underlying71,by kernel_rfl⟩)
theorem A3i:B8 Tryz.prog 74 ⟨9,120,(.struct [(0,24),(3,24),(6,24)]),[.int .i64 (0:Int),.int .i64 (0:Int),.nil,.int .i64 (0:Int),.int .i64 (0:Int),.nil,.int .i64 (0:Int),.int .i64 (0:Int),.nil]⟩:=Ca (z:=.agg #[.int .i64 (0:Int),.int .i64 (0:Int),.slice none 0 0,.int .i64 (0:Int),.int .i64 (0:Int),.slice none 0 0,.int .i64 (0:Int),.int .i64 (0:Int),.slice none 0 0]) (by kernel_rfl) (fun c w=>by simp [A6,Am,Value.cells]) rfl (by simp [Value.cells,Value.oneCell']) (by simp only [Cj]; exact ⟨_,Tryz.underlying74,by kernel_rfl⟩)
theorem A3h:B8 Tryz.prog 80 ⟨7,88,(.struct [(0,24),(3,24),(6,25)]),[.int .i64 (0:Int),.int .i64 (0:Int),.nil,.int .i64 (0:Int),.int .i64 (0:Int),.nil,.int .i64 (0:Int)]⟩:=Ca (z:=.agg #[.int .i64 (0:Int),.int .i64 (0:Int),.slice none 0 0,.int .i64 (0:Int),.int .i64 (0:Int),.slice none 0 0,.int .i64 (0:Int)]) (by kernel_rfl) (fun c w=>by simp [A6,Am,Value.cells]) rfl (by simp [Value.cells,Value.oneCell']) (by simp only [Cj]; exact ⟨_,Tryz.underlying80,by kernel_rfl⟩)
theorem A3g:B8 Tryz.prog 88 ⟨9,120,(.struct [(0,24),(3,24),(6,24)]),[.int .i64 (0:Int),.int .i64 (0:Int),.nil,.int .i64 (0:Int),.int .i64 (0:Int),.nil,.int .i64 (0:Int),.int .i64 (0:Int),.nil]⟩:=Ca (z:=.agg #[.int .i64 (0:Int),.int .i64 (0:Int),.slice none 0 0,.int .i64 (0:Int),.int .i64 (0:Int),.slice none 0 0,.int .i64 (0:Int),.int .i64 (0:Int),.slice none 0 0]) (by kernel_rfl) (fun c w=>by simp [A6,Am,Value.cells]) rfl (by simp [Value.cells,Value.oneCell']) (by simp only [Cj]; exact ⟨_,Tryz.underlying88,by kernel_rfl⟩)
theorem A3f:B8 Tryz.prog 91 ⟨1,24,(.slice 24),[.nil]⟩:=Ca (z:=.slice none 0 0) (by kernel_rfl) (fun c w=>by simp [A6,Am,Value.cells]) rfl (by simp [Value.cells,Value.oneCell']) (by simp only [Cj]; exact Tryz.underlying91)
theorem A08:B8 Tryz.prog 102 ⟨1,8,(.int .i64),[.int .i64 (0:Int)]⟩:=Ca (z:=.int .i64 (0:Int)) (by kernel_rfl) (fun c w=>by simp [A6,Am,Value.cells]) rfl (by simp [Value.cells,Value.oneCell']) (by simp only [Cj]; exact Tryz.underlying102)
theorem A07:B8 Tryz.prog 114 ⟨6,80,(.array 2 24),[.int .i64 (0:Int),.int .i64 (0:Int),.nil,.int .i64 (0:Int),.int .i64 (0:Int),.nil]⟩:=Ca (z:=.agg #[.int .i64 (0:Int),.int .i64 (0:Int),.slice none 0 0,.int .i64 (0:Int),.int .i64 (0:Int),.slice none 0 0]) (by kernel_rfl) (fun c w=>by simp [A6,Am,Value.cells]) rfl (by simp [Value.cells,Value.oneCell']) (by simp only [Cj]; exact Tryz.underlying114)
theorem A06:B8 Tryz.prog 118 ⟨7,88,(.struct [(0,24),(3,24),(6,4)]),[.int .i64 (0:Int),.int .i64 (0:Int),.nil,.int .i64 (0:Int),.int .i64 (0:Int),.nil,.bool false]⟩:=Ca (z:=.agg #[.int .i64 (0:Int),.int .i64 (0:Int),.slice none 0 0,.int .i64 (0:Int),.int .i64 (0:Int),.slice none 0 0,.bool false]) (by kernel_rfl) (fun c w=>by simp [A6,Am,Value.cells]) rfl (by simp [Value.cells,Value.oneCell']) (by simp only [Cj]; exact ⟨_,Tryz.underlying118,by kernel_rfl⟩)
theorem A05:B8 Tryz.prog 121 ⟨1,8,.fl,[.fl 0]⟩:=Ca (z:=.float .f64 0) (by kernel_rfl) (fun c w=>by simp [A6,Am,Value.cells,Ro]) rfl (by simp [Value.cells,Value.oneCell']) (by simp only [Cj]; exact Tryz.underlying121)
theorem A04:B8 Tryz.prog 131 ⟨1,24,(.slice 47),[.nil]⟩:=Ca (z:=.slice none 0 0) (by kernel_rfl) (fun c w=>by simp [A6,Am,Value.cells]) rfl (by simp [Value.cells,Value.oneCell']) (by simp only [Cj]; exact Tryz.underlying131)
theorem A03:B8 Tryz.prog 134 ⟨1,24,(.slice 135),[.nil]⟩:=Ca (z:=.slice none 0 0) (by kernel_rfl) (fun c w=>by simp [A6,Am,Value.cells]) rfl (by simp [Value.cells,Value.oneCell']) (by simp only [Cj]; exact Tryz.underlying134)
theorem A02:B8 Tryz.prog 135 ⟨1,24,(.slice 45),[.nil]⟩:=Ca (z:=.slice none 0 0) (by kernel_rfl) (fun c w=>by simp [A6,Am,Value.cells]) rfl (by simp [Value.cells,Value.oneCell']) (by simp only [Cj]; exact Tryz.underlying135)
theorem A01:B8 Tryz.prog 145 ⟨9,120,(.array 3 24),[.int .i64 (0:Int),.int .i64 (0:Int),.nil,.int .i64 (0:Int),.int .i64 (0:Int),.nil,.int .i64 (0:Int),.int .i64 (0:Int),.nil]⟩:=Ca (z:=.agg #[.int .i64 (0:Int),.int .i64 (0:Int),.slice none 0 0,.int .i64 (0:Int),.int .i64 (0:Int),.slice none 0 0,.int .i64 (0:Int),.int .i64 (0:Int),.slice none 0 0]) (by kernel_rfl) (fun c w=>by simp [A6,Am,Value.cells]) rfl (by simp [Value.cells,Value.oneCell']) (by simp only [Cj]; exact Tryz.underlying145)
theorem A00:B8 Tryz.prog 147 ⟨15,200,(.struct [(0,24),(3,24),(6,24),(9,24),(12,24)]),[.int .i64 (0:Int),.int .i64 (0:Int),.nil,.int .i64 (0:Int),.int .i64 (0:Int),.nil,.int .i64 (0:Int),.int .i64 (0:Int),.nil,.int .i64 (0:Int),.int .i64 (0:Int),.nil,.int .i64 (0:Int),.int .i64 (0:Int),.nil]⟩:=Ca (z:=.agg #[.int .i64 (0:Int),.int .i64 (0:Int),.slice none 0 0,.int .i64 (0:Int),.int .i64 (0:Int),.slice none 0 0,.int .i64 (0:Int),.int .i64 (0:Int),.slice none 0 0,.int .i64 (0:Int),.int .i64 (0:Int),.slice none 0 0,.int .i64 (0:Int),.int .i64 (0:Int),.slice none 0 0]) (by kernel_rfl) (fun c w=>by simp [A6,Am,Value.cells]) rfl (by simp [Value.cells,Value.oneCell']) (by simp only [Cj]; exact ⟨_,Tryz.underlying147,by kernel_rfl⟩)
theorem A0z:B8 Tryz.prog 155 ⟨3,40,(.struct [(0,3),(1,3),(2,131)]),[.int .i64 (0:Int),.int .i64 (0:Int),.nil]⟩:=Ca (z:=.agg #[.int .i64 (0:Int),.int .i64 (0:Int),.slice none 0 0]) (by kernel_rfl) (fun c w=>by simp [A6,Am,Value.cells]) rfl (by simp [Value.cells,Value.oneCell']) (by simp only [Cj]; exact ⟨_,Tryz.underlying155,by kernel_rfl⟩)
theorem A0y:B8 Tryz.prog 166 ⟨1,1,(.int .u8),[.int .u8 (0:Int)]⟩:=Ca (z:=.int .u8 (0:Int)) (by kernel_rfl) (fun c w=>by simp [A6,Am,Value.cells]) rfl (by simp [Value.cells,Value.oneCell']) (by simp only [Cj]; exact Tryz.underlying166)
theorem A0x:B8 Tryz.prog 173 ⟨1,4,(.int .u32),[.int .u32 (0:Int)]⟩:=Ca (z:=.int .u32 (0:Int)) (by kernel_rfl) (fun c w=>by simp [A6,Am,Value.cells]) rfl (by simp [Value.cells,Value.oneCell']) (by simp only [Cj]; exact Tryz.underlying173)
theorem A0w:B8 Tryz.prog 183 ⟨12,160,(.array 4 24),[.int .i64 (0:Int),.int .i64 (0:Int),.nil,.int .i64 (0:Int),.int .i64 (0:Int),.nil,.int .i64 (0:Int),.int .i64 (0:Int),.nil,.int .i64 (0:Int),.int .i64 (0:Int),.nil]⟩:=Ca (z:=.agg #[.int .i64 (0:Int),.int .i64 (0:Int),.slice none 0 0,.int .i64 (0:Int),.int .i64 (0:Int),.slice none 0 0,.int .i64 (0:Int),.int .i64 (0:Int),.slice none 0 0,.int .i64 (0:Int),.int .i64 (0:Int),.slice none 0 0]) (by kernel_rfl) (fun c w=>by simp [A6,Am,Value.cells]) rfl (by simp [Value.cells,Value.oneCell']) (by simp only [Cj]; exact Tryz.underlying183)
theorem A0v:B8 Tryz.prog 188 ⟨2,16,(.array 2 3),[.int .i64 (0:Int),.int .i64 (0:Int)]⟩:=Ca (z:=.agg #[.int .i64 (0:Int),.int .i64 (0:Int)]) (by kernel_rfl) (fun c w=>by simp [A6,Am,Value.cells]) rfl (by simp [Value.cells,Value.oneCell']) (by simp only [Cj]; exact Tryz.underlying188)
theorem A0u:B8 Tryz.prog 189 ⟨1,24,(.slice 191),[.nil]⟩:=Ca (z:=.slice none 0 0) (by kernel_rfl) (fun c w=>by simp [A6,Am,Value.cells]) rfl (by simp [Value.cells,Value.oneCell']) (by simp only [Cj]; exact Tryz.underlying189)
theorem A0t:B8 Tryz.prog 191 ⟨3,40,(.struct [(0,22),(1,37),(2,37)]),[.nil,.int .u64 (0:Int),.int .u64 (0:Int)]⟩:=Ca (z:=.agg #[.slice none 0 0,.int .u64 (0:Int),.int .u64 (0:Int)]) (by kernel_rfl) (fun c w=>by simp [A6,Am,Value.cells]) rfl (by simp [Value.cells,Value.oneCell']) (by simp only [Cj]; exact ⟨_,Tryz.underlying191,by kernel_rfl⟩)
theorem A0s:B8 Tryz.prog 199 ⟨3,24,(.struct [(0,4),(1,3),(2,36)]),[.bool false,.int .i64 (0:Int),.int .u64 (0:Int)]⟩:=Ca (z:=.agg #[.bool false,.int .i64 (0:Int),.int .u64 (0:Int)]) (by kernel_rfl) (fun c w=>by simp [A6,Am,Value.cells]) rfl (by simp [Value.cells,Value.oneCell']) (by simp only [Cj]; exact ⟨_,Tryz.underlying199,by kernel_rfl⟩)
theorem A0r:B8 Tryz.prog 208 ⟨1,24,(.slice 214),[.nil]⟩:=Ca (z:=.slice none 0 0) (by kernel_rfl) (fun c w=>by simp [A6,Am,Value.cells]) rfl (by simp [Value.cells,Value.oneCell']) (by simp only [Cj]; exact Tryz.underlying208)
theorem A0q:B8 Tryz.prog 214 ⟨2,32,(.struct [(0,22),(1,37)]),[.nil,.int .u64 (0:Int)]⟩:=Ca (z:=.agg #[.slice none 0 0,.int .u64 (0:Int)]) (by kernel_rfl) (fun c w=>by simp [A6,Am,Value.cells]) rfl (by simp [Value.cells,Value.oneCell']) (by simp only [Cj]; exact ⟨_,Tryz.underlying214,by kernel_rfl⟩)
theorem Ayo:Tv Tryz.prog tys:=.cons ty2 <| .cons ty3 <| .cons ty4 <| .cons ty5 <| .cons A3u <| .cons A3t <| .cons A3s <| .cons A0p <| .cons A3r <| .cons A3q <| .cons A3p <| .cons A3o <| .cons A3n <| .cons A3m <| .cons A3l <| .cons A3k <| .cons A3j <| .cons A3i <| .cons A3h <| .cons A3g <| .cons A3f <| .cons A08 <| .cons A07 <| .cons A06 <| .cons A05 <| .cons A04 <| .cons A03 <| .cons A02 <| .cons A01 <| .cons A00 <| .cons A0z <| .cons A0y <| .cons A0x <| .cons A0w <| .cons A0v <| .cons A0u <| .cons A0t <| .cons A0s <| .cons A0r <| .cons A0q <| .nil
def exts:List (Nat × Ext):=[(169,.bits),(210,.frombits),(263,.sqrt),(266,.sub64)]
def Aim:List (Nat × Ext)→Nat→Option Ext
 | [],_=>none
 | (m,e)::l,n=>bif Nat.beq m n then some e else Aim l n
theorem Ats (args:Array Value) (w:World):(callFunc 169 args).run Tryz.prog w=((Uz .bits args).run Tryz.prog w).andThen fun v w'=>.ok (.value v) w':=run_callFunc_extern (e:=Extern.MathFloatBits.float64bits) Tryz.func169 (by kernel_rfl) (by kernel_rfl) (by kernel_rfl) (by kernel_rfl) args w
theorem Atr (args:Array Value) (w:World):(callFunc 210 args).run Tryz.prog w=((Uz .frombits args).run Tryz.prog w).andThen fun v w'=>.ok (.value v) w':=run_callFunc_extern (e:=Extern.MathFloatBits.float64frombits) Tryz.func210 (by kernel_rfl) (by kernel_rfl) (by kernel_rfl) (by kernel_rfl) args w
theorem Atq (args:Array Value) (w:World):(callFunc 263 args).run Tryz.prog w=((Uz .sqrt args).run Tryz.prog w).andThen fun v w'=>.ok (.value v) w':=run_callFunc_extern (e:=Extern.MathSqrt.sqrt) Tryz.func263 (by kernel_rfl) (by kernel_rfl) (by kernel_rfl) (by kernel_rfl) args w
theorem Atp (args:Array Value) (w:World):(callFunc 266 args).run Tryz.prog w=((Uz .sub64 args).run Tryz.prog w).andThen fun v w'=>.ok (.value v) w':=run_callFunc_extern (e:=Z6) Tryz.func266 (by kernel_rfl) (by kernel_rfl) (by kernel_rfl) (by kernel_rfl) args w
def Az0:List Nat:=[199,188]
theorem A2v:Agl Tryz.prog 199 ⟨3,24,(.struct [(0,4),(1,3),(2,36)]),[.bool false,.int .i64 (0:Int),.int .u64 (0:Int)]⟩ where
 guard:=by kernel_rfl
 eq:=by
  intro w c x y xs ys hx hy hlx hly
  obtain ⟨a0,x1,rfl,hx1⟩:=Aac hx
  obtain ⟨a1,x2,rfl,hx2⟩:=J8 hx1
  obtain ⟨a2,x3,rfl,hx3⟩:=J8 hx2
  obtain rfl:=S5 hx3
  obtain ⟨b0,y1,rfl,hy1⟩:=Aac hy
  obtain ⟨b1,y2,rfl,hy2⟩:=J8 hy1
  obtain ⟨b2,y3,rfl,hy3⟩:=J8 hy2
  obtain rfl:=S5 hy3
  obtain ⟨xs⟩:=xs
  obtain ⟨ys⟩:=ys
  simp only [A6.Cw,A6.Gx,Am] at hlx hly
  obtain ⟨_,_,rfl,rfl,_,_,rfl,rfl,_,_,rfl,rfl,rfl⟩:=hlx
  obtain ⟨_,_,rfl,rfl,_,_,rfl,rfl,_,_,rfl,rfl,rfl⟩:=hly
  have hu:Tryz.prog.underlying 199=some (.struct (Tryz.prog.fieldsOf 199)):=by kernel_rfl
  have hp:Tryz.prog.stoodInHeld 199=false:=by kernel_rfl
  unfold Op.equal Op.maxDepth
  rw [run_equalIn_struct w 9999 199 _ _ hu hp]
  have hfs:Tryz.prog.fieldsOf 199=(match Tryz.prog.underlying 199 with | some (.struct fs)=>fs | _=>#[]):=rfl
  rw [hfs,Tryz.underlying199]
  simp [Op.eqFields,Ni w ty3 rfl,Ni w ty4 rfl,Ni w A0p rfl,run_equalIn_int w _ _ _ _ _ _ Tryz.underlying3,run_equalIn_bool w _ _ _ _ Tryz.underlying4,run_equalIn_int w _ _ _ _ _ _ Tryz.underlying36,Ad0,Abu]
  by_cases h0:a0=b0<;>by_cases h1:a1=b1<;>by_cases h2:a2=b2<;>simp [h0,h1,h2]
theorem A2w:Agl Tryz.prog 188 ⟨2,16,(.array 2 3),[.int .i64 (0:Int),.int .i64 (0:Int)]⟩ where
 guard:=by kernel_rfl
 eq:=by
  intro w c x y xs ys hx hy hlx hly
  obtain ⟨a0,x1,rfl,hx1⟩:=J8 hx
  obtain ⟨a1,x2,rfl,hx2⟩:=J8 hx1
  obtain rfl:=S5 hx2
  obtain ⟨b0,y1,rfl,hy1⟩:=J8 hy
  obtain ⟨b1,y2,rfl,hy2⟩:=J8 hy1
  obtain rfl:=S5 hy2
  obtain ⟨xs⟩:=xs
  obtain ⟨ys⟩:=ys
  simp only [A6.Cw,A6.Gx,Am] at hlx hly
  obtain ⟨_,_,rfl,rfl,_,_,rfl,rfl,rfl⟩:=hlx
  obtain ⟨_,_,rfl,rfl,_,_,rfl,rfl,rfl⟩:=hly
  obtain ⟨i,_,hi,_⟩:=ty3.info
  have hc:Tryz.prog.cellsOf 3=1:=by kernel_rfl
  unfold Op.equal Op.maxDepth
  rw [run_equalIn_array w 9999 _ _ Tryz.underlying188 hi,hc]
  simp [Op.eqItems,List.range,List.range.loop,Ni w ty3 rfl,run_equalIn_int w _ _ _ _ _ _ Tryz.underlying3,Ad0,Abu]
  by_cases h0:a0=b0<;>by_cases h1:a1=b1<;>simp [h0,h1]
def Bn (Bi:Nat→Option Entry) (adopt:Nat→Bool) (hint:Nat→Option Bf) (live:Nat→Option (List Nat)):Env:={ ty:=Aqs tys,Bi:=Bi,ext:=Aim exts,eqs:=fun t=>No t Az0,adopt:=adopt,live:=live,hint:=hint }
theorem A5 {l:List (Nat × Entry)} (h:A4 Tryz.prog l) (adopt:Nat→Bool) (hint:Nat→Option Bf) (live:Nat→Option (List Nat)):Kp Tryz.prog (Bn (Bh l) adopt hint live) where
 ty:=fun t ti ht=>Ayo.get ht
 Bi:=fun g e hg=>(h.get hg).meets
 call:=fun g e hg=>(h.get hg).call
 ext:=by
  intro g x hx args w
  simp only [Bn,exts,Aim] at hx
  cases hb:Nat.beq 169 g with
  | true =>
    rw [hb] at hx
    cases hx
    obtain rfl:=A53 hb
    exact Ats args w
  | false =>
  rw [hb,A5p] at hx
  clear hb
  cases hb:Nat.beq 210 g with
  | true =>
    rw [hb] at hx
    cases hx
    obtain rfl:=A53 hb
    exact Atr args w
  | false =>
  rw [hb,A5p] at hx
  clear hb
  cases hb:Nat.beq 263 g with
  | true =>
    rw [hb] at hx
    cases hx
    obtain rfl:=A53 hb
    exact Atq args w
  | false =>
  rw [hb,A5p] at hx
  clear hb
  cases hb:Nat.beq 266 g with
  | true =>
    rw [hb] at hx
    cases hx
    obtain rfl:=A53 hb
    exact Atp args w
  | false =>
  rw [hb,A5p] at hx
  clear hb
  cases hx
 eqs:=by
  intro t ti ht hti
  simp only [Bn,Az0,No] at ht hti
  cases hb:Nat.beq t 199 with
  | true =>
    obtain rfl:=A53 hb
    cases hti
    exact A2v
  | false =>
  rw [hb,A5p] at ht
  clear hb
  cases hb:Nat.beq t 188 with
  | true =>
    obtain rfl:=A53 hb
    cases hti
    exact A2w
  | false =>
  rw [hb,A5p] at ht
  clear hb
  cases ht
 mixed:=by kernel_rfl
def Aye:List (Nat × Ext):=[(169,.bitsN),(210,.frombits),(263,.sqrt),(266,.sub64)]
def Am8:List (Nat × List CK)→Nat→List CK
 | [],_=>[]
 | (m,e)::l,n=>bif Nat.beq m n then e else Am8 l n
def Abv (Bi:Nat→Option Entry) (adopt:Nat→Bool) (hint:Nat→Option Bf) (live:Nat→Option (List Nat)) (adv:Nat→List CK):Env:={ ty:=Aqs tys,Bi:=Bi,ext:=Aim Aye,eqs:=fun t=>No t Az0,adopt:=adopt,live:=live,hint:=hint,adv:=adv }
theorem Afz {l:List (Nat × Entry)} (h:A4 Tryz.prog l) (adopt:Nat→Bool) (hint:Nat→Option Bf) (live:Nat→Option (List Nat)) (adv:Nat→List CK):Kp Tryz.prog (Abv (Bh l) adopt hint live adv) :=
 have k:=A5 h adopt hint live
 ⟨k.ty,k.Bi,k.call,(by
  intro g x hx args w
  simp only [Abv,Aye,Aim] at hx
  cases hb:Nat.beq 169 g with
  | true =>
    rw [hb] at hx
    cases hx
    obtain rfl:=A53 hb
    exact Ats args w
  | false =>
  rw [hb,A5p] at hx
  clear hb
  cases hb:Nat.beq 210 g with
  | true =>
    rw [hb] at hx
    cases hx
    obtain rfl:=A53 hb
    exact Atr args w
  | false =>
  rw [hb,A5p] at hx
  clear hb
  cases hb:Nat.beq 263 g with
  | true =>
    rw [hb] at hx
    cases hx
    obtain rfl:=A53 hb
    exact Atq args w
  | false =>
  rw [hb,A5p] at hx
  clear hb
  cases hb:Nat.beq 266 g with
  | true =>
    rw [hb] at hx
    cases hx
    obtain rfl:=A53 hb
    exact Atp args w
  | false =>
  rw [hb,A5p] at hx
  clear hb
  cases hx),k.eqs,k.mixed,k.spoil⟩
end Go.Proofs.S1
namespace Go.Cv
def Jq (V k:Nat):Nat:=V / 2^k+(if 2^k<2*(V%2^k)∨(2*(V%2^k)=2^k∧V / 2^k%2=1) then 1 else 0)
def Jp (V:Nat) (s:Int):Nat:=Jq (V*2^(-s).toNat) s.toNat
def N3 (V:Nat) (s:Int):Bool:=decide (V*2^(-s).toNat%2^s.toNat=0)
def Bz (M:Nat) (E:Int):Int:=max (E+M.log2-52) (-1074)
def kept (M:Nat) (E:Int):Nat:=Jp M (Bz M E-E)
def Eo:Nat:=2047*2^52
def B1 (M:Nat) (E:Int):Nat:=if M=0 then 0 else min ((Bz M E+1074).toNat*2^52+kept M E) Eo
def exact (M:Nat) (E:Int):Bool:=N3 M (Bz M E-E)
def flags (r:Nat) (ex:Bool):Nat:=if r=Eo then 5 else if ex then 0 else if 2^52≤r then 1 else 3
def flagsOf (M:Nat) (E:Int):Nat:=if M=0 then 0 else flags (B1 M E) (exact M E)
theorem B4 (k:Nat):0<2^k:=Nat.pow_pos (by decide)
theorem Nx (V:Nat):Jq V 0=V:=by
 unfold Jq; simp [Nat.mod_one]
theorem Vn (V a k:Nat):Jq (V*2^a) (a+k)=Jq V k:=by
 unfold Jq
 have hA:=B4 a
 have e:2^(a+k)=2^a*2^k:=A6a 2 a k
 have hd:V*2^a / 2^(a+k)=V / 2^k:=by
  rw [e,A59 V,Nat.mul_div_mul_left _ _ hA]
 have hm:V*2^a%2^(a+k)=2^a*(V%2^k):=by
  rw [e,A59 V,Nat.mul_mod_mul_left]
 rw [hd,hm,e]
 have h1:(2^a*2^k<2*(2^a*(V%2^k)))↔(2^k<2*(V%2^k)):=by
  rw [Nat.mul_left_comm 2]
  exact Nat.mul_lt_mul_left hA
 have h2:(2*(2^a*(V%2^k))=2^a*2^k)↔(2*(V%2^k)=2^k):=by
  rw [Nat.mul_left_comm 2]
  exact Nat.mul_right_inj (by omega)
 simp only [h1,h2]
theorem mod_mul (V a k:Nat):(V*2^a%2^(a+k)=0)↔(V%2^k=0):=by
 have hA:=B4 a
 rw [A6a,A59 V,Nat.mul_mod_mul_left]
 constructor
 ·intro h
  rcases Nat.mul_eq_zero.1 h with h | h
  ·omega
  ·exact h
 ·intro h; rw [h]; rfl
theorem Ya (V k:Nat) (s:Int):Jp (V*2^k) (s+k)=Jp V s∧N3 (V*2^k) (s+k)=N3 V s:=by
 unfold Jp N3
 by_cases h0:0≤s
 ·have e1:(-(s+k)).toNat=0:=by omega
  have e2:(-s).toNat=0:=by omega
  have e3:(s+k).toNat=k+s.toNat:=by omega
  rw [e1,e2,e3,A6j,A6u,A6u]
  exact ⟨Vn V k _,by simp only [mod_mul]⟩
 ·by_cases h1:0≤s+k
  ·have e1:(-(s+k)).toNat=0:=by omega
   have e2:s.toNat=0:=by omega
   have e3:k=(s+k).toNat+(-s).toNat:=by omega
   rw [e1,e2,A6j,A6u]
   have e4:V*2^k=V*2^(-s).toNat*2^(s+k).toNat:=by
    rw [A6c,← A6a,Nat.add_comm (-s).toNat,← e3]
   rw [e4]
   refine ⟨?_,?_⟩
   ·have:=Vn (V*2^(-s).toNat) (s+k).toNat 0
    rw [A6t] at this; exact this
   ·have:=mod_mul (V*2^(-s).toNat) (s+k).toNat 0
    rw [A6t,A6j] at this
    simp only [this]
  ·have e1:(s+k).toNat=0:=by omega
   have e2:s.toNat=0:=by omega
   have e3:(-s).toNat=k+(-(s+k)).toNat:=by omega
   rw [e1,e2,e3,A6a,A6c]
   exact ⟨rfl,rfl⟩
theorem Od (M k:Nat) (hM:M≠0):(M*2^k).log2=M.log2+k:=by
 have hk:=B4 k
 have hne:M*2^k≠0:=by
  intro h
  rcases Nat.mul_eq_zero.1 h with h | h<;>omega
 have h1:=Nat.log2_self_le hM
 have h2:=Nat.lt_log2_self (n:=M)
 have a:M.log2+k≤(M*2^k).log2:=by
  rw [Nat.le_log2 hne,A6a]
  exact A5x _ h1
 have b:(M*2^k).log2<M.log2+k+1:=by
  rw [A61 hne,Nat.add_right_comm,A6a]
  exact (Nat.mul_lt_mul_right hk).2 h2
 omega
theorem Zj {n a:Nat} (h1:2^a≤n) (h2:n<2^(a+1)):n.log2=a:=by
 have:=B4 a
 have hn:n≠0:=by omega
 have b1:=(Nat.le_log2 hn).2 h1
 have b2:=(A61 hn).2 h2
 omega
theorem Akm (M k:Nat) (E:Int) (hM:M≠0):Bz (M*2^k) (E-k)=Bz M E:=by
 unfold Bz; rw [Od M k hM]; congr 1; omega
theorem J2 {M k:Nat} (hM:M≠0):M*2^k≠0:=by
 have:=B4 k
 intro h
 rcases Nat.mul_eq_zero.1 h with h | h<;>omega
theorem Db (M k:Nat) (E:Int):B1 (M*2^k) (E-k)=B1 M E∧flagsOf (M*2^k) (E-k)=flagsOf M E:=by
 by_cases hM:M=0
 ·subst hM; simp [B1,flagsOf]
 ·have hl:=Akm M k E hM
  have e:Bz M E-(E-k)=Bz M E-E+k:=by omega
  have h1:B1 (M*2^k) (E-k)=B1 M E:=by
   unfold B1 kept
   rw [A57 (J2 hM),A57 hM,hl,e,(Ya M k _).1]
  refine ⟨h1,?_⟩
  unfold flagsOf
  rw [A57 (J2 hM),A57 hM,h1]
  unfold exact
  rw [hl,e,(Ya M k _).2]
theorem Arq {V s d k:Nat} (hs:s%2=1) (h1:(s-1)*2^d<V) (h2:V<(s+1)*2^d) (hk:2≤k) :
 Jq V (d+k)=Jq s k∧V%2^(d+k)≠0∧s%2^k≠0:=by
 have hA:=B4 d
 obtain ⟨j,rfl⟩:∃ j,k=j+2:=⟨k-2,by omega⟩
 have hB:2^(j+2)=4*2^j:=by rw [A6a]; omega
 have hBp:=B4 (j+2)
 have hC:=B4 j
 have hsd:=Nat.div_add_mod s (2^(j+2))
 have hr2:s%2^(j+2)%2=1:=by
  rw [hB,show 4*2^j=2*(2*2^j) by omega,Nat.mod_mul_right_mod]; exact hs
 have hrlt:=Nat.mod_lt s hBp
 generalize hq:s / 2^(j+2)=q at *
 generalize hr:s%2^(j+2)=r at *
 have hAB:2^(d+(j+2))=2^d*2^(j+2):=A6a 2 d (j+2)
 generalize hBB:2^(j+2)=b at *
 generalize hAA:2^d=a at *
 have e1:(s-1)*a=q*(a*b)+(r-1)*a:=by
  have:s-1=b*q+(r-1):=by omega
  rw [this,A6p,A59 b q,A6c,A59 b a]
 have e2:(s+1)*a=q*(a*b)+(r+1)*a:=by
  have:s+1=b*q+(r+1):=by omega
  rw [this,A6p,A59 b q,A6c,A59 b a]
 have e3:(r+1)*a≤b*a:=A5x a (by omega)
 rw [A59 b a] at e3
 rw [e1] at h1
 rw [e2] at h2
 have hdiv:V / (a*b)=q:=Nat.div_eq_of_lt_le (by omega) (by rw [A6p]; omega)
 have hmod:V%(a*b)=V-q*(a*b):=by
  have:=Nat.div_add_mod V (a*b)
  rw [hdiv,A59 (a*b) q] at this; omega
 have hb2:b=2*(2*2^j):=by omega
 generalize hc:2^j=c at *
 have hR1:(r-1)*a<V-q*(a*b):=by omega
 have hR2:V-q*(a*b)<(r+1)*a:=by omega
 generalize hR:V-q*(a*b)=R at *
 have hab:a*b=2*(2*c*a):=by rw [hb2,A59 a,A6c]
 have key:(a*b<2*R∨(2*R=a*b∧q%2=1))↔(b<2*r∨(2*r=b∧q%2=1)):=by
  rw [hab,hb2]
  rcases A6i r (2*c) with hlt | hge
  ·have:(r+1)*a≤2*c*a:=A5x a (by omega)
   constructor<;>(intro h; omega)
  ·have hgt:2*c+1≤r:=by omega
   have:2*c*a≤(r-1)*a:=A5x a (by omega)
   constructor
   ·intro _; left; omega
   ·intro _; left; omega
 refine ⟨?_,?_,?_⟩
 ·unfold Jq
  rw [hAB,hdiv,hmod,hBB,hq,hr]
  simp only [key]
 ·rw [hAB,hmod]
  have:=Nat.zero_le ((r-1)*a)
  omega
 ·omega
theorem Ry {V s d:Nat} {E:Int} (hs:s%2=1) (h1:(s-1)*2^d<V) (h2:V<(s+1)*2^d) (hl:Bz V E=Bz s (E+d)) (hk:E+d+2≤Bz s (E+d)) :
 B1 V E=B1 s (E+d)∧flagsOf V E=flagsOf s (E+d):=by
 have hV:V≠0:=by omega
 have hs0:s≠0:=by omega
 generalize hL:Bz s (E+d)=L at *
 obtain ⟨k,hk2⟩:∃ k:Nat,L-(E+d)=k+2:=⟨(L-(E+d)-2).toNat,by omega⟩
 obtain ⟨a1,a2,a3⟩:=Arq (k:=k+2) hs h1 h2 (by omega)
 have e1:(L-E).toNat=d+(k+2):=by omega
 have e2:(-(L-E)).toNat=0:=by omega
 have e3:(L-(E+d)).toNat=k+2:=by omega
 have e4:(-(L-(E+d))).toNat=0:=by omega
 have hr:B1 V E=B1 s (E+d):=by
  unfold B1 kept Jp
  rw [A57 hV,A57 hs0,hl,hL,e1,e2,e3,e4]
  simp only [A6j,A6u]
  rw [a1]
 refine ⟨hr,?_⟩
 unfold flagsOf exact N3
 rw [A57 hV,A57 hs0,hr,hl,hL,e1,e2,e3,e4]
 simp only [A6j,A6u,a2,a3,decide_false]
theorem Sf {V s d:Nat} (hs:s%2=1) (hs3:3≤s) (h1:(s-1)*2^d<V) (h2:V<(s+1)*2^d):V.log2=s.log2+d:=by
 have hs0:s≠0:=by omega
 have a1:=Nat.log2_self_le hs0
 have a2:=Nat.lt_log2_self (n:=s)
 have hl:1≤s.log2:=by rw [Nat.le_log2 hs0]; omega
 obtain ⟨t,ht⟩:∃ t,s.log2=t+1:=⟨s.log2-1,by omega⟩
 rw [ht] at a1 a2 ⊢
 have ev1:2^(t+1)=2*2^t:=by rw [Nat.pow_succ]; omega
 have ev2:2^(t+1+1)=2*(2*2^t):=by rw [Nat.pow_succ,ev1]; omega
 refine Zj ?_ ?_
 ·rw [A6a]
  have:2^(t+1)*2^d≤(s-1)*2^d:=A5x _ (by omega)
  omega
 ·have e:t+1+d+1=(t+1+1)+d:=by omega
  rw [e,A6a]
  have:(s+1)*2^d≤2^(t+1+1)*2^d:=A5x _ (by omega)
  omega
end Go.Cv
namespace Go.Cv
def Br (b:Nat):Bool:=decide (2^63≤b)
def Dx (b:Nat):Nat:=b / 2^52%2048
def C2 (b:Nat):Nat:=b%2^52
def Aj (b:Nat):Nat:=if Dx b=2047 then (if C2 b=0 then 3 else 4) else if 0<Dx b then 2 else if 0<C2 b then 1 else 0
def H0 (b:Nat):Bool:=decide (Dx b<2047)
def D5 (b:Nat):Nat:=if 2^63≤b then b-2^63 else b+2^63
def An (b:Nat):Nat:=if Dx b=0 then C2 b else C2 b+2^52
def Av (b:Nat):Int:=if Dx b=0 then -1074 else (Dx b:Int)-1075
def B3 (neg:Bool) (r:Nat):Nat:=if neg then 2^63+r else r
def H3 (neg:Bool) (m:Nat):Int:=if neg then -(m:Int) else m
def E9 (b:Nat) (e:Int):Int:=H3 (Br b) (An b*2^(Av b-e).toNat)
def Sw:Nat:=0x7ff8000000000000
def Ky (z:Nat) (S:Int) (e:Int):Nat × Nat :=
 if S=0 then (z,0) else (B3 (decide (S<0)) (B1 S.natAbs e),flagsOf S.natAbs e)
def Fz (a b:Nat):Nat × Nat :=
 if Aj a=4∨Aj b=4 then (Sw,0)
 else if Aj a=3 then (if Aj b=3∧a≠b then (Sw,16) else (a,0))
 else if Aj b=3 then (b,0)
 else Ky (B3 (Br a&&Br b) 0) (E9 a (min (Av a) (Av b))+E9 b (min (Av a) (Av b))) (min (Av a) (Av b))
def Z5 (a b:Nat):Nat × Nat:=Fz a (D5 b)
def Gz (neg:Bool) (m:Nat) (e:Int) (more:Bool):Nat × Nat :=
 (B3 neg (B1 (4*m+more.toNat) (e-2)),flagsOf (4*m+more.toNat) (e-2))
def Ea (x:Int):Bool:=Br x.toNat
def Nj (x:Int):Int:=Dx x.toNat
def C1 (x:Int):Int:=C2 x.toNat
def A3 (x:Int):Int:=Aj x.toNat
def Dm (x:Int):Bool:=H0 x.toNat
def D6 (x:Int):Int:=D5 x.toNat
def Bt (x:Int):Int:=An x.toNat
def Bb (x:Int):Int:=Av x.toNat
def E6 (neg:Bool) (m e:Int) (more:Bool):Int:=(Gz neg m.toNat e more).1
def E5 (neg:Bool) (m e:Int) (more:Bool):Int:=(Gz neg m.toNat e more).2
def Le (a b:Int):Int:=(Fz a.toNat b.toNat).1
def Yr (a b:Int):Int:=(Fz a.toNat b.toNat).2
def Eh (a b:Int):Int:=(Z5 a.toNat b.toNat).1
def A2d (a b:Int):Int:=(Z5 a.toNat b.toNat).2
theorem Kz (b:Nat):Dx b<2048:=Nat.mod_lt _ (by decide)
theorem Mq (b:Nat):C2 b<4503599627370496:=Nat.mod_lt _ (by decide)
theorem Fi (b:Nat):An b<9007199254740992:=by
 have:=Mq b
 unfold An; split<;>omega
theorem Cq (b:Nat):-1074≤Av b∧Av b≤972:=by
 have:=Kz b
 unfold Av; split<;>omega
theorem Tb {m:Nat} {e:Int} (h1:2^52≤m) (h2:m<2^53) (he:-1074≤e):B1 m e=min ((e+1074).toNat*2^52+m) Eo:=by
 have hl:m.log2=52:=Zj h1 h2
 have hm:m≠0:=by omega
 have hle:Bz m e=e:=by unfold Bz; rw [hl]; omega
 unfold B1 kept
 rw [A57 hm,hle,Int.sub_self]
 unfold Jp
 simp [Nx]
theorem Aaj {m:Nat} (h2:m<2^52):B1 m (-1074)=m:=by
 by_cases hm:m=0
 ·subst hm; rfl
 ·have hl:m.log2<52:=(A61 hm).2 h2
  have hle:Bz m (-1074)=-1074:=by unfold Bz; omega
  unfold B1 kept
  rw [A57 hm,hle,Int.sub_self]
  unfold Jp Eo
  simp [Nx]
  omega
theorem Tc (m:Nat) (e:Int):B1 m e≤Eo:=by
 unfold B1
 split
 ·exact Nat.zero_le _
 ·exact Nat.min_le_right _ _
theorem Fc:Eo=9218868437227405312:=rfl
theorem I1 (m:Nat) (e:Int):B1 m e<2^63:=by
 have:=Tc m e
 rw [Fc] at this
 omega
theorem Vg (n:Bool) (m:Nat) (e:Int):B3 n (B1 m e)<2^64:=by
 have:=I1 m e
 unfold B3; split<;>omega
theorem Ur {r:Nat} (h:r<2^63):D5 r=2^63+r:=by
 unfold D5; rw [A57 (by omega)]; omega
end Go.Cv
namespace Go.Cv
open Go.Den
def L9 (m e:Int):Bool:=Cz (0≤m∧m≤9007199254740992∧-1074≤e∧e+m / 9007199254740992≤100000)
def Qq (m e:Int):Nat:=if 9007199254740992≤m then 1 else if m<4503599627370496 then 2+(e+1074).toNat else 0
def Vp (n:Bool) (m e:Int):Int:=B3 n (B1 m.toNat e)
def El (m e:Int) (r:Bool):Bool :=
 Cz (0≤m∧m<18446744073709551616∧e≤50000∧(-1137≤e∨(m<4611686018427387904∧-1140≤e))∧(r=true→4503599627370496≤m∨e≤-1074))
def Gj (n D:Nat):Nat:=if n%2^D=0 then n / 2^D else 2*(n / 2^D / 2)+1
def Fk (m d:Int):Int:=Gj m.toNat (min d.toNat 63)
def D7 (l:List Int):Bool:=Cz (l.length<4611686018427387904∧∀ x∈l,Ao x=true)
def R9 (x:Int):Bool:=Cz (0≤x)
theorem R8 (n:Nat):R9 (n:Int)=true:=As.2 (Int.natCast_nonneg n)
theorem Aay {x:Int} (h:R9 x=true):∃ n:Nat,x=n:=⟨x.toNat,by have:=As.1 h; omega⟩
end Go.Cv
namespace Go.Cv
theorem A2g (a c:Nat):(a+1)*c+c=a*c+(c+c):=by rw [A6p,Nat.one_mul,Nat.add_assoc]
theorem A09:2^52+2^52=2^53:=by decide
theorem A2f (a:Nat):(a+1)*2^52+2^52=a*2^52+2^53:=(A2g a (2^52)).trans (congrArg (fun x=>a*2^52+x) A09)
theorem Ayq:2^52*2^1=2^53:=by decide
theorem Av1 {E:Int}:B1 (2^53) E=B1 (2^52) (E+1):=by
 have:=(Db (2^52) 1 (E+1)).1
 have e1:E+1-((1:Nat):Int)=E:=by omega
 rw [e1,Ayq] at this
 exact this
theorem Arm {E:Int} (hE:-1074≤E):B1 (2^53) E=min ((E+1074).toNat*2^52+2^53) Eo:=by
 have e3:(E+1+1074).toNat=(E+1074).toNat+1:=by omega
 rw [Av1,Tb (by decide) (by decide) (by omega),e3]
 exact congrArg (fun x=>min x Eo) (A2f _)
theorem An3 {q:Nat} {E:Int} (h1:q≤2^53) (hE:-1074≤E) (h2:2^52≤q∨E=-1074):B1 q E=min ((E+1074).toNat*2^52+q) Eo:=by
 by_cases ha:q=2^53
 ·rw [ha]; exact Arm hE
 ·by_cases hb:2^52≤q
  ·exact Tb hb (by omega) hE
  ·obtain rfl:E=-1074:=h2.resolve_left hb
   rw [Aaj (by omega)]
   unfold Eo
   simp
   omega
theorem Aoa {M D s:Nat} (hs:s≤1):Jq (4*M+s) (D+2)=M / 2^D+(if 0<D∧(2^(D-1)<M%2^D∨(M%2^D=2^(D-1)∧(s=1∨M / 2^D%2=1))) then 1 else 0) ∧
 ((4*M+s)%2^(D+2)=0↔M%2^D=0∧s=0):=by
 have hp:2^(D+2)=2^D*4:=by rw [A6a]
 have hA:=B4 D
 have hdm:=Nat.div_add_mod M (2^D)
 have hlt:=Nat.mod_lt M hA
 have hdiv:(4*M+s) / (2^D*4)=M / 2^D:=by
  rw [A59 (2^D) 4,← A6e]
  congr 1; omega
 have hmod:(4*M+s)%(2^D*4)=4*(M%2^D)+s:=by
  have h:=Nat.div_add_mod (4*M+s) (2^D*4)
  rw [hdiv] at h
  have e:2^D*4*(M / 2^D)=4*(2^D*(M / 2^D)):=by rw [A59 (2^D) 4,A6c]
  rw [e] at h
  omega
 unfold Jq
 rw [hp,hdiv,hmod]
 generalize M%2^D=r at *
 generalize M / 2^D=q at *
 refine ⟨?_,by omega⟩
 congr 1
 have key:(2^D*4<2*(4*r+s)∨2*(4*r+s)=2^D*4∧q%2=1)↔(0<D∧(2^(D-1)<r∨(r=2^(D-1)∧(s=1∨q%2=1)))):=by
  cases D with
  | zero=>simp only [A6j] at hlt ⊢; omega
  | succ d =>
    rw [Nat.pow_succ] at hlt ⊢
    simp only [Nat.add_sub_cancel]
    generalize 2^d=c at *
    omega
 simp only [key]
structure Drop (M:Nat) (e:Int) (D:Nat):Prop where
 le:D≤63
 stop:D<63→M / 2^D<2^53∧-1074≤e+D
 least:∀ d,d<D→2^53≤M / 2^d∨e+d < -1074
def qOf (M D s:Nat):Nat:=M / 2^D+(if 0<D∧(2^(D-1)<M%2^D∨(M%2^D=2^(D-1)∧(s=1∨M / 2^D%2=1))) then 1 else 0)
theorem Arv {M D s:Nat} (h:M / 2^D<2^53):qOf M D s≤2^53:=by
 unfold qOf; split<;>omega
theorem Arw {M D s:Nat}:M / 2^D≤qOf M D s:=by unfold qOf; omega
theorem Az5 {M D:Nat} {c:Nat} (h:M / 2^D<c):M<c*2^D:=(Nat.div_lt_iff_lt_mul (B4 D)).1 h
theorem As3 {M D:Nat} {c:Nat} (h:c≤M / 2^D):c*2^D≤M:=(Nat.le_div_iff_mul_le (B4 D)).1 h
theorem Abg {V:Nat} {E L:Int} (h:(E+V.log2-52=L∧-1074≤L)∨(E+V.log2-52≤L∧L=-1074)):Bz V E=L:=by unfold Bz; omega
theorem Aoz {M s:Nat} (hs:s≤1) (hM:M≠0):(4*M+s).log2=M.log2+2:=by
 have h1:=Nat.log2_self_le hM
 have h2:=Nat.lt_log2_self (n:=M)
 refine Zj ?_ ?_
 ·rw [A6a]; omega
 ·have e:2^(M.log2+2+1)=2^(M.log2+1)*4:=by rw [show M.log2+2+1=M.log2+1+2 by omega,A6a]
  omega
theorem Aoo {M D s:Nat} {e:Int} (hD:Drop M e D) (hs:s≤1) (hV:4*M+s≠0) (hM:M<2^64) (he:-1137≤e∨(M<2^62∧-1140≤e)) (hr:s=1→2^52≤M∨e≤-1074) :
 B1 (4*M+s) (e-2)=B1 (if e+D < -1074 then 0 else qOf M D s) (max (e+D) (-1074)) ∧
 flagsOf (4*M+s) (e-2)=flags (B1 (4*M+s) (e-2)) (decide (M%2^D=0∧s=0)) ∧
 (if e+D < -1074 then 0 else qOf M D s)≤2^53:=by
 have hA:=B4 D
 by_cases hlow:e+D < -1074
 ·
  have hD63:D=63:=by
   rcases A6i D 63 with h | h
   ·have:=(hD.stop h).2; omega
   ·have:=hD.le; omega
  subst hD63
  have hM62:M<2^62:=by rcases he with h | h; omega; exact h.1
  have he2:-1140≤e:=by rcases he with h | h; omega; exact h.2
  have hV64:4*M+s<2^64:=by omega
  have hlog:(4*M+s).log2<64:=(A61 hV).2 hV64
  have hl:Bz (4*M+s) (e-2)=-1074:=Abg (.inr ⟨by omega,rfl⟩)
  obtain ⟨k,hk⟩:∃ k:Nat,(-1074-(e-2)).toNat=66+k:=⟨(-1074-(e-2)).toNat-66,by omega⟩
  have e2:(-(-1074-(e-2))).toNat=0:=by omega
  have hp:2^66≤2^(66+k):=A50 (by decide) (by omega)
  have hsm:4*M+s<2^(66+k):=by omega
  have hz:Jp (4*M+s) (-1074-(e-2))=0:=by
   unfold Jp Jq
   rw [e2,hk,A6j,A6u,Nat.div_eq_of_lt hsm,A5y hsm,A57 (by omega)]
  have hru:B1 (4*M+s) (e-2)=0:=by
   unfold B1 kept
   rw [A57 hV,hl,hz]
   simp
  refine ⟨?_,?_,?_⟩
  ·rw [hru,A58 hlow]; rfl
  ·unfold flagsOf exact N3
   rw [A57 hV,hl,e2,hk,A6j,A6u,A5y hsm]
   congr 1
   have h63:M%2^63=M:=A5y (by omega)
   rw [h63,A51]
   simp only [A5s]
   omega
  ·rw [A58 hlow]; exact Nat.zero_le _
 ·have hmax:max (e+D) (-1074)=e+D:=by omega
  have hq:M / 2^D<2^53:=by
   rcases A6i D 63 with h | h
   ·exact (hD.stop h).1
   ·have:D=63:=by have:=hD.le; omega
    subst this
    exact A6n (Nat.div_le_of_le_mul (show M≤2^63*2 by omega)) (by decide)
  obtain ⟨c1,c2⟩:=Aoa (M:=M) (D:=D) hs
  rw [A57 hlow,hmax]
  refine ⟨?_,?_,Arv hq⟩
  all_goals
   by_cases hD0:D=0∧s=0
   ·obtain ⟨rfl,rfl⟩:=hD0
    have hM0:M≠0:=by omega
    obtain ⟨s1,s2⟩:=Db M 2 e
    have e1:M*2^2=4*M+0:=by omega
    have e2:e-((2:Nat):Int)=e-2:=by omega
    rw [e1,e2] at s1 s2
    have hq0:qOf M 0 0=M:=by unfold qOf; simp
    have hle:Bz M e≤e:=by
     have:M.log2<53:=(A61 hM0).2 (by simpa using hq)
     unfold Bz; simp only [Int.natCast_zero,Int.add_zero] at hlow; omega
    first
    | (rw [s1,hq0]; simp; done)
    | (rw [s2,s1]
       unfold flagsOf exact N3
       have z:(Bz M e-e).toNat=0:=by omega
       rw [A57 hM0,z]
       simp [Nat.mod_one])
   ·
    have hl:Bz (4*M+s) (e-2)=e+D:=by
     by_cases hM0:M=0
     ·subst hM0
      have hs1:s=1:=by omega
      subst hs1
      have hle:e+D=-1074:=by
       rcases Nat.eq_zero_or_pos D with rfl | hpos
       ·have:=hr rfl; omega
       ·have h:=hD.least (D-1) (by omega)
        simp only [Nat.zero_div] at h
        omega
      refine Abg (.inr ⟨?_,hle⟩)
      have:(4*0+1:Nat).log2=0:=by decide
      rw [this]; omega
     ·have hlog:=Aoz hs hM0
      have hub:M.log2<53+D:=by
       rw [A61 hM0,A6a]; exact Az5 hq
      have hcase:52+D≤M.log2∨e+D=-1074:=by
       rcases Nat.eq_zero_or_pos D with rfl | hpos
       ·have hs1:s=1:=by omega
        rcases hr hs1 with h | h
        ·left; rw [Nat.le_log2 hM0]; simpa using h
        ·right; simp only [Int.natCast_zero,Int.add_zero] at hlow ⊢; omega
       ·rcases hD.least (D-1) (by omega) with h | h
        ·left
         rw [Nat.le_log2 hM0]
         have:=As3 h
         have e1:2^(52+D)=2^53*2^(D-1):=by rw [← A6a]; congr 1; omega
         rw [e1]; exact this
        ·right; omega
      refine Abg ?_
      rw [hlog]
      rcases hcase with h | h
      ·left; omega
      ·right; omega
    have e1:(e+D-(e-2)).toNat=D+2:=by omega
    have e2:(-(e+(D:Int)-(e-2))).toNat=0:=by omega
    have hkept:kept (4*M+s) (e-2)=qOf M D s:=by
     unfold kept Jp
     rw [hl,e1,e2,A6j,A6u,c1]; rfl
    first
    | (have hbig:2^52≤qOf M D s∨e+D=-1074:=by
        rcases Nat.eq_zero_or_pos D with rfl | hpos
        ·have hs1:s=1:=by omega
         rcases hr hs1 with h | h
         ·left; exact A6s (by simpa using h) Arw
         ·right; simp only [Int.natCast_zero,Int.add_zero] at hlow ⊢; omega
        ·rcases hD.least (D-1) (by omega) with h | h
         ·left
          refine A6s ?_ Arw
          rw [Nat.le_div_iff_mul_le hA]
          have:=As3 h
          have e1:2^52*2^D=2^53*2^(D-1):=by rw [← A6a,← A6a]; congr 1; omega
          rw [e1]; exact this
         ·right; omega
       rw [An3 (Arv hq) (by omega) hbig]
       unfold B1
       rw [A57 hV,hl,hkept]; done)
    | (unfold flagsOf exact N3
       rw [A57 hV,hl,e1,e2,A6j,A6u]
       congr 1
       rw [A51]
       simp only [A5s]
       exact c2)
theorem Xc (n:Bool) {r:Nat} (h:r<2^63):Dx (B3 n r)=r / 2^52:=by
 unfold Dx B3; cases n
 ·simp only [Bool.false_eq_true,if_false]; omega
 ·simp only [if_true]; omega
theorem Uw (n:Bool) (r:Nat):C2 (B3 n r)=r%2^52:=by
 unfold C2 B3; cases n
 ·rfl
 ·simp only [if_true]; omega
theorem Adt (n:Bool) {r:Nat} (h:r≤Eo):Aj (B3 n r)=if r=Eo then 3 else if 2^52≤r then 2 else if 0<r then 1 else 0:=by
 rw [Fc] at *
 unfold Aj
 rw [Xc n (by omega),Uw]
 by_cases h1:r=9218868437227405312
 ·subst h1; simp
 ·rw [A57 h1,A57 (by omega)]
  by_cases h2:2^52≤r
  ·rw [A58 h2,A58 (by omega)]
  ·rw [A57 h2,A57 (by omega)]
   by_cases h3:0<r
   ·rw [A58 h3,A58 (by omega)]
   ·rw [A57 h3,A57 (by omega)]
end Go.Cv
namespace Go.Cv
open Ieee
theorem J4 (b:Nat):(Dx b=2047∧C2 b=0∧Aj b=3)∨(Dx b=2047∧C2 b≠0∧Aj b=4)∨(Dx b<2047∧Aj b≠3∧Aj b≠4):=by
 have:=Kz b
 unfold Aj
 by_cases h1:Dx b=2047
 ·by_cases h2:C2 b=0<;>simp [h1,h2]
 ·refine .inr (.inr ⟨by omega,?_⟩)
  rw [A57 h1]
  split
  ·decide
  ·split<;>decide
theorem Qn (b:Nat):b%2^63=Dx b*2^52+C2 b:=by unfold Dx C2; omega
def Adb (b:Nat):Datum:=if Aj b=4 then .nan (Br b) (C2 b) else if Aj b=3 then .infinity (Br b) else .number (Br b) (An b) (Av b)
theorem Al2 {b:Nat} (h:b<2^64):Ieee.double.read b=Adb b:=by
 unfold Format.read Adb
 have e0:Ieee.double.signWeight=2^63:=rfl
 have e1:Ieee.double.leastPlace=-1074:=by decide
 have e2:Ieee.double.binade=2^52:=rfl
 have e3:Ieee.double.infRung=Eo:=rfl
 have hn:(b / 2^63%2==1)=Br b:=by
  unfold Br
  rw [A51]
  simp only [beq_iff_eq,A5s]
  omega
 dsimp only
 rw [e0,e1,e2,e3,hn,Qn,Fc]
 have hf:C2 b<2^52:=Mq b
 rcases J4 b with ⟨h1,h2,h3⟩ | ⟨h1,h2,h3⟩ | ⟨h1,h2,h3⟩
 ·rw [A57 (by omega),A57 (by omega),A58 (by omega),A57 (by omega),A58 h3]
 ·rw [A57 (by omega),A57 (by omega),A57 (by omega),A58 h3]
  have e:Dx b*2^52+C2 b-9218868437227405312=C2 b:=by omega
  rw [e]
 ·rw [A57 h3,A57 h2]
  by_cases h0:Dx b=0
  ·rw [A58 (by omega)]
   unfold An Av
   rw [A58 h0,A58 h0,h0,Nat.zero_mul,A6v]
  ·rw [A57 (by omega),A58 (by omega)]
   unfold An Av
   rw [A57 h0,A57 h0]
   have m1:(Dx b*2^52+C2 b)%2^52=C2 b:=by omega
   have m2:(Dx b*2^52+C2 b) / 2^52=Dx b:=by omega
   have e:(-1074:Int)+((Dx b-1:Nat):Int)=(Dx b:Int)-1075:=by omega
   rw [m1,m2,Nat.add_comm (2^52),e]
theorem Agr {b:Nat} (h:b<2^64) (h3:Aj b=3):B3 (Br b) Eo=b:=by
 rcases J4 b with ⟨h1,h2,_⟩ | ⟨_,_,h4⟩ | ⟨_,h4,_⟩
 ·have e:=Qn b
  rw [h1,h2] at e
  rw [Fc]
  unfold B3 Br
  by_cases hb:2^63≤b
  ·simp [hb]; omega
  ·simp [hb]; omega
 ·omega
 ·omega
theorem Ac3 (s:Bool) (m up:Nat):Ieee.signed s m up=H3 s (m*2^up):=by
 unfold Ieee.signed H3
 rw [Nat.shiftLeft_eq]
theorem As5 (s:Bool):Aj (B3 s Eo)=3:=by
 rw [Adt s (A6f _),A58 rfl]
theorem W9 {b:Nat} (h:Aj b=3):Adb b=.infinity (Br b):=by unfold Adb; rw [A57 (by omega),A58 h]
theorem W8 {b:Nat} (h3:Aj b≠3) (h4:Aj b≠4):Adb b=.number (Br b) (An b) (Av b):=by unfold Adb; rw [A57 h4,A57 h3]
theorem Aur {a b:Nat} (h4:¬ (Aj a=4∨Aj b=4)) (h:Aj a=3):Fz a b=(if Aj b=3∧a≠b then (Sw,16) else (a,0)):=by unfold Fz; rw [A57 h4,A58 h]
theorem Ap1 {a b:Nat} (h4:¬ (Aj a=4∨Aj b=4)) (h:Aj a≠3) (h':Aj b=3):Fz a b=(b,0):=by unfold Fz; rw [A57 h4,A57 h,A58 h']
theorem Ss {a b:Nat} (h4:¬ (Aj a=4∨Aj b=4)) (h:Aj a≠3) (h':Aj b≠3) :
 Fz a b=Ky (B3 (Br a&&Br b) 0) (E9 a (min (Av a) (Av b))+E9 b (min (Av a) (Av b))) (min (Av a) (Av b)):=by
 unfold Fz; rw [A57 h4,A57 h,A57 h']
theorem Kf {b:Nat} (h:b<2^64):Br (D5 b)=!(Br b)∧Dx (D5 b)=Dx b∧C2 (D5 b)=C2 b:=by
 unfold Br Dx C2 D5
 by_cases hb:2^63≤b
 ·rw [A58 hb]
  refine ⟨?_,by omega,by omega⟩
  have:¬ 2^63≤b-2^63:=by omega
  simp [hb,this]
 ·rw [A57 hb]
  refine ⟨?_,by omega,by omega⟩
  have:2^63≤b+2^63:=by omega
  simp [hb,this]
theorem Akb {b:Nat} (h:b<2^64):D5 b<2^64:=by unfold D5; split<;>omega
end Go.Cv
namespace Go.Cv
open Ieee
theorem Xa {V W k:Nat} (h:V≤W):Jq V k≤Jq W k:=by
 unfold Jq
 have hA:=B4 k
 have hq:V / 2^k≤W / 2^k:=Nat.div_le_div_right h
 rcases A6i (V / 2^k) (W / 2^k) with h1 | h1
 ·split<;>split<;>omega
 ·have he:V / 2^k=W / 2^k:=by omega
  have v:=Nat.div_add_mod V (2^k)
  have w:=Nat.div_add_mod W (2^k)
  rw [he] at v ⊢
  have hr:V%2^k≤W%2^k:=by omega
  by_cases hc:2^k<2*(V%2^k)∨2*(V%2^k)=2^k∧W / 2^k%2=1
  ·have hc':2^k<2*(W%2^k)∨2*(W%2^k)=2^k∧W / 2^k%2=1:=by
    rcases hc with hc | ⟨hc,hd⟩
    ·exact .inl (by omega)
    ·rcases A6i (2^k) (2*(W%2^k)) with h2 | h2
     ·exact .inl h2
     ·exact .inr ⟨by omega,hd⟩
   rw [A58 hc,A58 hc']
   exact A6f _
  ·rw [A57 hc]
   exact Nat.le_add_right _ _
theorem Av6 {V c k:Nat} (h:V≤c*2^k):Jq V k≤c:=by
 have h1:=Xa (k:=k) h
 have:Jq (c*2^k) k=c:=by
  have:=Vn c k 0
  rw [A6t,Nx] at this
  exact this
 omega
theorem Awq {V c k:Nat} (h:c*2^k≤V):c≤Jq V k:=by
 have h1:=Xa (k:=k) h
 have:Jq (c*2^k) k=c:=by
  have:=Vn c k 0
  rw [A6t,Nx] at this
  exact this
 omega
theorem Ajw {V W:Nat} {s:Int} (h:V≤W):Jp V s≤Jp W s:=Xa (A5x _ h)
theorem Akn {V W:Nat} {E:Int} (hV:V≠0) (h:V≤W):Bz V E≤Bz W E:=by
 have:V.log2≤W.log2:=(Nat.le_log2 (by omega)).2 (A6s (Nat.log2_self_le hV) h)
 unfold Bz; omega
theorem Amn {V:Nat} {E:Int}:kept V E≤2^53:=by
 have hV:V<2^(V.log2+1):=Nat.lt_log2_self
 unfold kept Jp
 refine Av6 ?_
 have hl:E+V.log2-52≤Bz V E:=by unfold Bz; omega
 rw [← A6a]
 have h1:V*2^(-(Bz V E-E)).toNat≤2^(V.log2+1)*2^(-(Bz V E-E)).toNat:=A5x _ (Nat.le_of_lt hV)
 rw [← A6a] at h1
 exact A6s h1 (A50 (by decide) (by omega))
theorem Afp {V:Nat} {E:Int} (hV:V≠0) (hl:Bz V E=E+V.log2-52):2^52≤kept V E:=by
 have h1:2^V.log2≤V:=Nat.log2_self_le hV
 unfold kept Jp
 refine Awq ?_
 rw [← A6a]
 have h2:2^V.log2*2^(-(Bz V E-E)).toNat≤V*2^(-(Bz V E-E)).toNat:=A5x _ h1
 rw [← A6a] at h2
 exact A6s (A50 (by decide) (by omega)) h2
theorem F5 {V W:Nat} {E:Int} (h:V≤W):B1 V E≤B1 W E:=by
 unfold B1
 by_cases hV:V=0
 ·rw [A58 hV]; exact Nat.zero_le _
 ·have hW:W≠0:=by omega
  rw [A57 hV,A57 hW]
  have hl:=Akn (E:=E) hV h
  have key:(Bz V E+1074).toNat*2^52+kept V E≤(Bz W E+1074).toNat*2^52+kept W E:=by
   rcases Int.lt_or_eq_of_le hl with h1 | h1
   ·have hb:-1074≤Bz V E:=by unfold Bz; omega
    have hn:Bz W E=E+W.log2-52:=by unfold Bz at h1 hb ⊢; omega
    have k1:=Amn (V:=V) (E:=E)
    have k2:=Afp hW hn
    have h2:(Bz V E+1074).toNat+1≤(Bz W E+1074).toNat:=by omega
    have h3:((Bz V E+1074).toNat+1)*2^52≤(Bz W E+1074).toNat*2^52:=A5x _ h2
    rw [A6p (Bz V E+1074).toNat 1 (2^52),Nat.one_mul] at h3
    omega
   ·unfold kept
    rw [h1]
    exact Nat.add_le_add_left (Ajw h) _
  omega
theorem W5 {b:Nat} (h4:Aj b≠4):B1 (An b) (Av b)=b%2^63:=by
 have hf:C2 b<2^52:=Mq b
 have hr:=Qn b
 rw [hr]
 unfold An Av
 by_cases h0:Dx b=0
 ·rw [A58 h0,A58 h0,Aaj hf,h0,Nat.zero_mul,A6v]
 ·rw [A57 h0,A57 h0,Tb (by omega) (by omega) (by omega),Fc]
  have e:((Dx b:Int)-1075+1074).toNat=Dx b-1:=by omega
  rw [e]
  have h5:(Dx b-1)*2^52+(C2 b+2^52)=Dx b*2^52+C2 b:=by omega
  rw [h5]
  rcases J4 b with ⟨h1,h2,_⟩ | ⟨_,_,h⟩ | ⟨h1,_,_⟩
  ·rw [h1,h2]; decide
  ·exact absurd h h4
  ·omega
def It (b:Nat):Int:=H3 (Br b) (b%2^63)
def Fb (b:Nat) (f:Int):Nat:=An b*2^(Av b-f).toNat
theorem Ml {b:Nat} {f:Int} (h4:Aj b≠4) (hf:f≤Av b):B1 (Fb b f) f=b%2^63:=by
 rw [← W5 h4]
 have h:=(Db (An b) (Av b-f).toNat (Av b)).1
 have e:Av b-((Av b-f).toNat:Int)=f:=by omega
 rw [e] at h
 exact h
theorem Aso {a b:Nat} (h:a%2^63=b%2^63) (f:Int):Fb a f=Fb b f:=by
 have h1:Dx a=Dx b:=by unfold Dx; omega
 have h2:C2 a=C2 b:=by unfold C2; omega
 unfold Fb An Av
 rw [h1,h2]
theorem Aa5 {a b:Nat} {f:Int} (ha:Aj a≠4) (hb:Aj b≠4) (hfa:f≤Av a) (hfb:f≤Av b):Fb a f<Fb b f↔a%2^63<b%2^63:=by
 constructor
 ·intro h
  have h1:=F5 (E:=f) (Nat.le_of_lt h)
  rw [Ml ha hfa,Ml hb hfb] at h1
  rcases Nat.lt_or_eq_of_le h1 with h2 | h2
  ·exact h2
  ·have:=Aso h2 f; omega
 ·intro h
  rcases A6i (Fb a f) (Fb b f) with h1 | h1
  ·exact h1
  ·have h1:=F5 (E:=f) h1
   rw [Ml ha hfa,Ml hb hfb] at h1
   omega
theorem Ahv (b:Nat) (f:Int):Fb b f=0↔b%2^63=0:=by
 have hp:=B4 (Av b-f).toNat
 unfold Fb
 rw [Nat.mul_eq_zero,Qn]
 have h1:¬ (2^(Av b-f).toNat=0):=by omega
 have h2:An b=0↔Dx b*2^52+C2 b=0:=by unfold An; split<;>omega
 rw [h2]
 exact ⟨fun h=>h.resolve_right h1,.inl⟩
theorem Ay8 {s t:Bool} {m n m' n':Nat} (h1:m<n↔m'<n') (h2:n<m↔n'<m') (h3:m=0↔m'=0) (h4:n=0↔n'=0):H3 s m<H3 t n↔H3 s m'<H3 t n':=by
 unfold H3
 cases s<;>cases t<;>simp<;>omega
theorem Aqb {a b:Nat} {f:Int} (ha:Aj a≠4) (hb:Aj b≠4) (hfa:f≤Av a) (hfb:f≤Av b):E9 a f<E9 b f↔It a<It b :=
 Ay8 (Aa5 ha hb hfa hfb) (Aa5 hb ha hfb hfa) (Ahv a f) (Ahv b f)
theorem Apm {x y x' y':Int} (h1:x<y↔x'<y') (h2:y<x↔y'<x'):compare x y=compare x' y':=by
 show compareOfLessAndEq x y=compareOfLessAndEq x' y'
 unfold compareOfLessAndEq
 by_cases h:x<y
 ·rw [A58 h,A58 (h1.1 h)]
 ·rw [A57 h,A57 (fun k=>h (h1.2 k))]
  by_cases e:x=y
  ·rw [A58 e,A58 (by omega)]
  ·rw [A57 e,A57 (by omega)]
theorem Azt {b:Nat} (h4:Aj b≠4):b%2^63≤Eo:=by
 rw [← W5 h4]; exact Tc _ _
theorem Qw {b:Nat} (h:Aj b=3):b%2^63=Eo:=by
 rw [Qn]
 rcases J4 b with ⟨h1,h2,_⟩ | ⟨_,_,h4⟩ | ⟨_,h4,_⟩
 ·rw [h1,h2]; rfl
 ·omega
 ·omega
theorem V7 {b:Nat} (h3:Aj b≠3) (h4:Aj b≠4):b%2^63<Eo:=by
 have hf:C2 b<2^52:=Mq b
 rw [Qn,Fc]
 rcases J4 b with ⟨_,_,h⟩ | ⟨_,_,h⟩ | ⟨h1,_,_⟩
 ·exact absurd h h3
 ·exact absurd h h4
 ·omega
theorem Ak3 {x y:Int} (h:x<y):compare x y=.lt:=by
 show compareOfLessAndEq x y=_; unfold compareOfLessAndEq; rw [A58 h]
theorem Ak4 {x y:Int} (h:y<x):compare x y=.gt:=by
 show compareOfLessAndEq x y=_; unfold compareOfLessAndEq; rw [A57 (by omega),A57 (by omega)]
theorem Aod {a b:Nat} (ha:a<2^64) (hb:b<2^64) (a4:Aj a≠4) (b4:Aj b≠4):Ieee.double.order a b=some (compare (It a) (It b)):=by
 unfold Format.order
 rw [Al2 ha,Al2 hb]
 have hpos:0<Eo:=by decide
 by_cases a3:Aj a=3
 ·have ka:=Qw a3
  rw [W9 a3]
  by_cases b3:Aj b=3
  ·have kb:=Qw b3
   rw [W9 b3]
   show some (compare (Br b).toNat (Br a).toNat)=_
   unfold It
   rw [ka,kb]
   cases Br a<;>cases Br b<;>decide
  ·have kb:=V7 b3 b4
   rw [W8 b3 b4]
   show some (if Br a then Ordering.lt else .gt)=_
   unfold It H3
   rw [ka]
   cases Br a
   ·rw [Ak4 (by simp; split<;>omega)]; rfl
   ·rw [Ak3 (by simp; split<;>omega)]; rfl
 ·have ka:=V7 a3 a4
  rw [W8 a3 a4]
  by_cases b3:Aj b=3
  ·have kb:=Qw b3
   rw [W9 b3]
   show some (if Br b then Ordering.gt else .lt)=_
   unfold It H3
   rw [kb]
   cases Br b
   ·rw [Ak3 (by simp; split<;>omega)]; rfl
   ·rw [Ak4 (by simp; split<;>omega)]; rfl
  ·rw [W8 b3 b4]
   show some (compare (Ieee.signed _ _ _) (Ieee.signed _ _ _))=_
   rw [Ac3,Ac3]
   congr 1
   exact Apm (Aqb a4 b4 (Int.min_le_left _ _) (Int.min_le_right _ _)) (Aqb b4 a4 (Int.min_le_right _ _) (Int.min_le_left _ _))
def Acf (S:Int) (f:Int):Int:=if S<0 then -(B1 S.natAbs f:Int) else B1 S.natAbs f
theorem Aju (S:Int) (k:Nat) (f:Int):Acf (S*((2^k:Nat):Int)) (f-k)=Acf S f:=by
 have hp:=B4 k
 have h0:S*((2^k:Nat):Int)<0↔S<0:=by
  constructor
  ·intro h
   rcases Int.lt_or_le S 0 with h1 | h1
   ·exact h1
   ·have:=Int.mul_nonneg h1 (Int.natCast_nonneg (2^k)); omega
  ·intro h
   exact Int.mul_neg_of_neg_of_pos h (by omega)
 unfold Acf
 rw [Int.natAbs_mul,Int.natAbs_natCast,(Db S.natAbs k f).1]
 by_cases h:S<0
 ·rw [A58 h,A58 (h0.2 h)]
 ·rw [A57 h,A57 (fun k=>h (h0.1 k))]
theorem Abj (s:Bool) {r:Nat} (h:r<2^63):It (B3 s r)=H3 s r:=by
 unfold It B3 Br
 cases s
 ·have h1:¬ 2^63≤r:=by omega
  have h2:r%2^63=r:=A5y h
  simp only [Bool.false_eq_true,if_false,A5q h1,h2]
 ·have h1:2^63≤2^63+r:=by omega
  have h2:(2^63+r)%2^63=r:=by omega
  simp only [if_true,A5m h1,h2]
theorem Ao7 (s:Bool) (S f:Int):It (Ky (B3 s 0) S f).1=Acf S f:=by
 unfold Ky Acf
 by_cases h:S=0
 ·subst h
  have e:B1 (Int.natAbs 0) f=0:=A58 rfl
  rw [A58 rfl,e,Abj s (by decide)]
  cases s<;>rfl
 ·rw [A57 h]
  show It (B3 _ _)=_
  rw [Abj _ (I1 _ _)]
  unfold H3
  by_cases h1:S<0
  ·rw [A58 h1,A5m h1,A58 rfl]
  ·rw [A57 h1,A5q h1,A57 (by decide)]
theorem Aco {b:Nat} {f g:Int} {k:Nat} (hk:g=f-k) (hf:f≤Av b):E9 b g=E9 b f*((2^k:Nat):Int):=by
 unfold E9
 have e:(Av b-g).toNat=(Av b-f).toNat+k:=by omega
 rw [e,A6a,← A6c]
 generalize An b*2^(Av b-f).toNat=m
 generalize 2^k=p
 unfold H3
 cases Br b
 ·exact A56 m p
 ·show -((m*p:Nat):Int)=-(m:Int)*(p:Int)
  rw [A56,Int.neg_mul]
theorem Zt {a c:Nat} (a3:Aj a≠3) (a4:Aj a≠4) (c3:Aj c≠3) (c4:Aj c≠4) {g:Int} (hg:g≤min (Av a) (Av c)) :
 It (Fz a c).1=Acf (E9 a g+E9 c g) g:=by
 rw [Ss (fun h=>h.elim a4 c4) a3 c3,Ao7]
 obtain ⟨k,hk⟩:∃ k:Nat,g=min (Av a) (Av c)-k:=⟨(min (Av a) (Av c)-g).toNat,by omega⟩
 rw [Aco (b:=a) hk (Int.min_le_left _ _),Aco (b:=c) hk (Int.min_le_right _ _),← Int.add_mul,hk,Aju]
end Go.Cv
namespace Go.Cv
def H7 (a b:Nat):Nat × Nat :=
 if Aj a=4∨Aj b=4 then (Sw,0)
 else if Aj a=3∨Aj b=3 then (if Aj a=0∨Aj b=0 then (Sw,16) else (B3 (Br a !=Br b) Eo,0))
 else (B3 (Br a !=Br b) (B1 (An a*An b) (Av a+Av b)),flagsOf (An a*An b) (Av a+Av b))
def Fg (X Y K:Nat):Nat:=2*(X*2^K / Y)+(if X*2^K%Y=0 then 0 else 1)
def Rl (a b:Nat):Nat × Nat :=
 if Aj a=4∨Aj b=4 then (Sw,0)
 else if Aj a=Aj b∧(Aj a=3∨Aj a=0) then (Sw,16)
 else if Aj a=3 then (B3 (Br a !=Br b) Eo,0)
 else if Aj b=3∨Aj a=0 then (B3 (Br a !=Br b) 0,0)
 else if Aj b=0 then (B3 (Br a !=Br b) Eo,8)
 else (B3 (Br a !=Br b) (B1 (Fg (An a) (An b) 120) (Av a-Av b-121)),flagsOf (Fg (An a) (An b) 120) (Av a-Av b-121))
theorem Aj6 {V k:Nat} {E:Int} (hm:1≤V / 2^k) (hc:2^53≤V / 2^k∨E+k+1≤-1074) :
 B1 (4*(V / 2^k)+(if V%2^k=0 then 0 else 1)) (E+k-2)=B1 V E∧flagsOf (4*(V / 2^k)+(if V%2^k=0 then 0 else 1)) (E+k-2)=flagsOf V E:=by
 have hA:=B4 k
 have h1:=Nat.div_add_mod V (2^k)
 have h2:=Nat.mod_lt V hA
 generalize hq:V / 2^k=q at *
 generalize hr:V%2^k=r at *
 by_cases h0:r=0
 ·rw [A58 h0]
  obtain ⟨a1,a2⟩:=Db q k (E+k)
  obtain ⟨b1,b2⟩:=Db q 2 (E+k)
  have e1:E+(k:Int)-k=E:=by omega
  have e2:V=q*2^k:=by rw [A59]; omega
  have e3:q*2^2=4*q+0:=by omega
  have e4:E+(k:Int)-((2:Nat):Int)=E+k-2:=by omega
  rw [e1,← e2] at a1 a2
  rw [e3,e4] at b1 b2
  rw [a1,a2,b1,b2]
  exact ⟨rfl,rfl⟩
 ·rw [A57 h0]
  obtain ⟨d,rfl⟩:∃ d,k=d+1:=by
   cases k with
   | zero=>simp only [A6j] at h2; omega
   | succ d=>exact ⟨d,rfl⟩
  have hD:2^(d+1)=2*2^d:=by rw [Nat.pow_succ]; omega
  rw [hD] at h1 h2
  generalize hc2:2^d=c at *
  have p1:(2*q+1-1)*c=2*c*q:=by rw [Nat.add_sub_cancel,A59,Nat.mul_left_comm,A6c]
  have p2:(2*q+1+1)*c=2*c*q+2*c:=by
   rw [show 2*q+1+1=2*(q+1) by omega,A6c,A6p,Nat.mul_add,A59 q c,A6c]; omega
  have lt1:(2*q+1-1)*2^d<V:=by rw [hc2,p1]; omega
  have lt2:V<(2*q+1+1)*2^d:=by rw [hc2,p2]; omega
  have od:(2*q+1)%2=1:=by omega
  have lV:=Sf od (by omega) lt1 lt2
  have l4:(4*q+1).log2=(2*q+1).log2+1:=Sf (d:=1) od (by omega) (by omega) (by omega)
  have hs:(2*q+1).log2≥54∨E+d+2≤-1074:=by
   rcases hc with h | h
   ·left; rw [ge_iff_le,Nat.le_log2 (by omega)]; omega
   ·right; omega
  have hk:E+d+2≤Bz (2*q+1) (E+d):=by unfold Bz; omega
  obtain ⟨a1,a2⟩:=Ry (E:=E) od lt1 lt2 (by unfold Bz; rw [lV]; omega) hk
  have ee:E+((d+1:Nat):Int)-2+((1:Nat):Int)=E+d:=by omega
  obtain ⟨b1,b2⟩:=Ry (V:=4*q+1) (d:=1) (E:=E+((d+1:Nat):Int)-2) od (by omega) (by omega) (by unfold Bz; rw [l4]; omega) (by rw [ee]; unfold Bz; omega)
  rw [ee] at b1 b2
  rw [a1,a2,b1,b2]
  exact ⟨rfl,rfl⟩
theorem Vw (n:Bool) {V k:Nat} {E e:Int} {s:Bool} (he:e=E+k) (hs:s=decide (V%2^k≠0)) (hm:1≤V / 2^k) (hc:2^53≤V / 2^k∨E+k+1≤-1074) :
 Gz n (V / 2^k) e s=(B3 n (B1 V E),flagsOf V E):=by
 obtain ⟨a,b⟩:=Aj6 hm hc
 have e1:s.toNat=if V%2^k=0 then 0 else 1:=by
  rw [hs]
  by_cases h:V%2^k=0
  ·rw [A5q (by omega),A58 h]; rfl
  ·rw [A5m h,A57 h]; rfl
 unfold Gz
 rw [he,e1,a,b]
theorem Z7 {X Y K:Nat} (d:Nat) (E:Int) (hY:0<Y) (h:2^53≤X*2^K / Y) :
 B1 (Fg X Y (K+d)) (E-d)=B1 (Fg X Y K) E∧flagsOf (Fg X Y (K+d)) (E-d)=flagsOf (Fg X Y K) E:=by
 have hA:=B4 d
 unfold Fg
 have e:X*2^(K+d)=X*2^K*2^d:=by rw [A6a,A6c]
 rw [e]
 generalize X*2^K=Z at *
 have h1:=Nat.div_add_mod Z Y
 have h2:=Nat.mod_lt Z hY
 by_cases h0:Z%Y=0
 ·obtain ⟨q,rfl⟩:=Nat.dvd_of_mod_eq_zero h0
  have e1:Y*q*2^d=Y*(q*2^d):=A6c _ _ _
  rw [e1,Nat.mul_mod_right,Nat.mul_mod_right,Nat.mul_div_cancel_left _ hY,Nat.mul_div_cancel_left _ hY,A58 rfl]
  have:=Db (2*q+0) d E
  rw [show (2*q+0)*2^d=2*(q*2^d)+0 by rw [A6t,A6t,A6c]] at this
  exact this
 ·have h3:=Nat.div_add_mod (Z*2^d) Y
  have h4:=Nat.mod_lt (Z*2^d) hY
  rw [A57 h0]
  generalize hq:Z / Y=q at *
  generalize hr:Z%Y=r at *
  generalize hc:2^d=c at *
  have hz:Z*c=Y*(q*c)+r*c:=by rw [← h1,A6p,A6c]
  have hrc:r*c<Y*c:=(Nat.mul_lt_mul_right hA).2 h2
  have hrc0:0<r*c:=Nat.mul_pos (by omega) hA
  have q1:q*c≤Z*c / Y:=by rw [Nat.le_div_iff_mul_le hY,A59 (q*c)]; omega
  have q2:Z*c / Y<(q+1)*c:=by
   rw [Nat.div_lt_iff_lt_mul hY,A6p,A6p,Nat.one_mul,A59 (q*c),A59 c Y]; omega
  have q3:Z*c / Y=q*c→Z*c%Y≠0:=fun h5 h6=>by rw [h5,h6] at h3; omega
  generalize hQ:Z*c / Y=Q at *
  have p1:(2*q+1-1)*c=2*(q*c):=by rw [Nat.add_sub_cancel,A6c]
  have p2:(2*q+1+1)*c=2*((q+1)*c):=by rw [show 2*q+1+1=2*(q+1) by omega,A6c]
  have od:(2*q+1)%2=1:=by omega
  generalize hV:2*Q+(if Z*c%Y=0 then 0 else 1)=V
  have v1:(2*q+1-1)*2^d<V:=by
   rw [hc,p1,← hV]
   by_cases h5:Q=q*c
   ·rw [A57 (q3 h5)]; omega
   ·split<;>omega
  have v2:V<(2*q+1+1)*2^d:=by
   rw [hc,p2,← hV]
   split<;>omega
  have lV:=Sf od (by omega) v1 v2
  have hs:54≤(2*q+1).log2:=by rw [Nat.le_log2 (by omega)]; omega
  have ee:E-(d:Int)+d=E:=by omega
  have:=Ry (E:=E-d) od v1 v2 (by unfold Bz; rw [lV]; omega) (by unfold Bz; omega)
  rw [ee] at this
  exact this
theorem Aje {X Y K L:Nat} {E F:Int} (hY:0<Y) (h1:2^53≤X*2^K / Y) (h2:2^53≤X*2^L / Y) (he:E+K=F+L) :
 B1 (Fg X Y K) E=B1 (Fg X Y L) F∧flagsOf (Fg X Y K) E=flagsOf (Fg X Y L) F:=by
 rcases Nat.le_total K L with h | h
 ·obtain ⟨d,rfl⟩:=Nat.exists_eq_add_of_le h
  have:=Z7 d E hY h1
  rw [show E-(d:Int)=F by omega] at this
  exact ⟨this.1.symm,this.2.symm⟩
 ·obtain ⟨d,rfl⟩:=Nat.exists_eq_add_of_le h
  have:=Z7 d F hY h2
  rw [show F-(d:Int)=E by omega] at this
  exact this
theorem Ajf (X Y a K:Nat):Fg (X*2^a) Y K=Fg X Y (K+a):=by
 unfold Fg
 have:X*2^a*2^K=X*2^(K+a):=by rw [A6c,← A6a,Nat.add_comm a K]
 rw [this]
theorem Ag0 (X Y b K:Nat):Fg X (Y*2^b) (K+b)=Fg X Y K:=by
 have hp:=B4 b
 unfold Fg
 have:X*2^(K+b)=X*2^K*2^b:=by rw [A6a,A6c]
 rw [this,Nat.mul_div_mul_right _ _ hp,Nat.mul_mod_mul_right]
 have:(X*2^K%Y*2^b=0)↔(X*2^K%Y=0):=by
  constructor
  ·intro h
   rcases Nat.mul_eq_zero.1 h with h | h
   ·exact h
   ·omega
  ·intro h; rw [h,Nat.zero_mul]
 simp only [this]
theorem Azc {X Y K t:Nat} (hX:0<X) (hY0:0<Y) (hY:Y<2^t) (hK:53+t≤K):2^53≤X*2^K / Y:=by
 rw [Nat.le_div_iff_mul_le hY0]
 have h1:2^53*Y≤2^53*2^t:=Nat.mul_le_mul_left _ (by omega)
 have h2:2^(53+t)≤2^K:=A50 (by decide) hK
 have h3:1*2^K≤X*2^K:=A5x _ (by omega)
 rw [A6a] at h2
 omega
theorem Aop (n:Bool) {X Y K:Nat} {e E:Int} {s:Bool} (hs:s=decide (X*2^K%Y≠0)) (he:E=e-1) (hq:2^53≤X*2^K / Y) :
 Gz n (X*2^K / Y) e s=(B3 n (B1 (Fg X Y K) E),flagsOf (Fg X Y K) E):=by
 have e1:Fg X Y K / 2^1=X*2^K / Y:=by
  unfold Fg
  split<;>omega
 have e2:decide (Fg X Y K%2^1≠0)=decide (X*2^K%Y≠0):=by
  unfold Fg
  by_cases h:X*2^K%Y=0
  ·rw [A58 h,A5q (by omega),A5q (by omega)]
  ·rw [A57 h,A5m (by omega),A5m h]
 have:=Vw n (V:=Fg X Y K) (k:=1) (E:=E) (e:=e) (s:=s) (by omega) (by rw [e2]; exact hs) (by omega) (.inl (by omega))
 rw [e1] at this
 exact this
end Go.Cv
namespace Go.Cv
open Go.Den
def B9:List Int→Nat
 | []=>0
 | x::l=>x.toNat+4294967296*B9 l
def digits:Nat→Nat→List Int
 | 0,_=>[]
 | k+1,v=>((v%4294967296:Nat):Int)::digits k (v / 4294967296)
def Dk (n:Nat):Nat:=if n=0 then 0 else n.log2 / 32+1
def Rf (n:Nat):List Int:=digits (Dk n) n
def Ah (v:Int):List Int:=Rf v.natAbs
def Az (v:Int):Bool:=decide (v<0)
def wv (n:Bool) (l:List Int):Int:=H3 n (B9 l)
def Wa (l:List Int):Prop:=∀ x∈l,0≤x∧x<4294967296
def Ig (l:List Int):Bool:=Cz (l.length<1073741824∧Wa l)
def Ks (n:Bool) (l:List Int):Bool:=Cz (l.length<268435456∧l=Rf (B9 l)∧(n=true→l≠[]))
def Yc (n:Bool) (l:List Int):Bool:=Cz (l.length<134217728∧l=Rf (B9 l)∧(n=true→l≠[]))
def Azi (k:Int):Bool:=Cz (-1000000≤k∧k≤1000000)
def Adw (k:Int):Bool:=Cz (-9223372036854775808≤k∧k≤9223372036854775807)
def Hh (l:List Int) (i:Int):Int:=if 0≤i then l.getD i.toNat 0 else 0
def Kb (a b:List Int):List Int:=digits (max a.length b.length+1) (B9 a+B9 b)
def Is (a b:List Int):List Int:=digits a.length (B9 a-B9 b)
def leL (a b:List Int):Bool:=Cz (B9 a≤B9 b)
def Xs (a b:Nat):Int:=if a<b then -1 else if b<a then 1 else 0
def Yw (a b:Int):Int:=if a<b then -1 else if b<a then 1 else 0
def Lk (v:Int) (j:Nat):Int:=H3 (Az v) (v.natAbs / 2^j)
def Io (v k:Int):Int:=if 0≤k then v*((2^k.toNat:Nat):Int) else Lk v (-k).toNat
def Abe (v:Int):Int:=if v=0 then 0 else (v.natAbs.log2:Int)+1
def Aog (v:Int):Bool:=decide (v%2=1)
theorem two32:2^32=4294967296:=by decide
theorem Nb (k:Nat):2^(32*(k+1))=4294967296*2^(32*k):=by
 rw [Nat.mul_add,A6u,A6a,A59,two32]
theorem Ec:∀ (k v:Nat),(digits k v).length=k
 | 0,_=>rfl
 | k+1,v=>by rw [digits,List.length_cons,Ec k]
theorem Nz:∀ (k v:Nat),Wa (digits k v)
 | 0,_=>fun x h=>by cases h
 | k+1,v=>fun x h=>by
   rw [digits,List.mem_cons] at h
   rcases h with rfl | h
   ·omega
   ·exact Nz k _ x h
theorem J6:∀ (k v:Nat),B9 (digits k v)=v%2^(32*k)
 | 0,v=>by rw [digits,B9,Nat.mul_zero,A6j,Nat.mod_one]
 | k+1,v=>by
   rw [digits,B9,J6 k,A5n,Nb,Nat.mod_mul]
theorem Ku:∀ {l:List Int},Wa l→B9 l<2^(32*l.length)
 | [],_=>by decide
 | x::l,h=>by
   have h1:=h x (A60 ..)
   have h2:=Ku (l:=l) (fun y hy=>h y (A6q _ hy))
   rw [B9,List.length_cons,Nb]
   omega
theorem Sk:∀ {l:List Int},Wa l→digits l.length (B9 l)=l
 | [],_=>rfl
 | x::l,h=>by
   have h1:=h x (A60 ..)
   have h2:=Sk (l:=l) (fun y hy=>h y (A6q _ hy))
   rw [B9,List.length_cons,digits]
   have e1:(x.toNat+4294967296*B9 l)%4294967296=x.toNat:=by omega
   have e2:(x.toNat+4294967296*B9 l) / 4294967296=B9 l:=by omega
   rw [e1,e2,h2]
   congr 1
   omega
theorem K6 (n:Nat):n<2^(32*Dk n):=by
 unfold Dk
 by_cases h:n=0
 ·rw [A58 h,h]; decide
 ·rw [A57 h]
  exact A6w Nat.lt_log2_self (A50 (by decide) (by omega))
theorem Ma {n k:Nat} (h:n<2^(32*k)):Dk n≤k:=by
 unfold Dk
 by_cases h0:n=0
 ·rw [A58 h0]; exact Nat.zero_le _
 ·rw [A57 h0]
  have:=(A61 h0).2 h
  omega
theorem Awn {n k:Nat} (h:2^(32*k)≤n):k+1≤Dk n:=by
 have hp:=B4 (32*k)
 unfold Dk
 rw [A57 (by omega)]
 have:=(Nat.le_log2 (by omega)).2 h
 omega
theorem Ny {n m:Nat} (h:n≤m):Dk n≤Dk m:=Ma (A6n h (K6 m))
theorem Uf (n:Nat):B9 (Rf n)=n:=by
 unfold Rf
 rw [J6,A5y (K6 n)]
theorem G5 (n:Nat):(Rf n).length=Dk n:=Ec _ _
theorem Ah1 (n:Nat):Wa (Rf n):=Nz _ _
theorem Abz:∀ (k v i:Nat),i<k→(digits k v).getD i 0=((v / 2^(32*i)%4294967296:Nat):Int)
 | k+1,v,0,_=>by rw [digits,List.getD_cons_zero,Nat.mul_zero,A6j,Nat.div_one]
 | k+1,v,i+1,h=>by
   rw [digits,List.getD_cons_succ,Abz k _ i (by omega),Nb,A6e]
theorem O8 {l:List Int} (h:Wa l) (i:Nat):l.getD i 0=((B9 l / 2^(32*i)%4294967296:Nat):Int):=by
 by_cases hi:i<l.length
 ·have:=Abz l.length (B9 l) i hi
  rw [Sk h] at this
  exact this
 ·have h1:=Ku h
  have h2:2^(32*l.length)≤2^(32*i):=A50 (by decide) (by omega)
  rw [Nat.div_eq_of_lt (by omega),A5v,A63 (by omega)]
  rfl
theorem Hz {l:List Int} (h:Wa l) (i:Nat):Hh l (i:Int)=((B9 l / 2^(32*i)%4294967296:Nat):Int):=by
 unfold Hh
 rw [A58 (by omega),A5n,O8 h]
theorem Kk:∀ (k v:Nat),digits (k+1) v=digits k v++[((v / 2^(32*k)%4294967296:Nat):Int)]
 | 0,v=>by rw [digits,digits,digits,Nat.mul_zero,A6j,Nat.div_one]; rfl
 | k+1,v=>by
   rw [digits,Kk k,Nb,← A6e]
   rfl
theorem Yl:∀ (j k v:Nat),j≤k→(digits k v).take j=digits j v
 | 0,_,_,_=>by rw [List.take_zero,digits]
 | j+1,k+1,v,h=>by rw [digits,List.take_succ_cons,Yl j k _ (by omega),digits]
theorem Aki {l:List Int} (h:Wa l):l.take (Dk (B9 l))=Rf (B9 l):=by
 have h1:=Yl (Dk (B9 l)) l.length (B9 l) (Ma (Ku h))
 rw [Sk h] at h1
 exact h1
theorem Js {n:Nat} (h:n≠0):0<Dk n:=by unfold Dk; rw [A57 h]; omega
theorem Ff (v:Int):wv (Az v) (Ah v)=v:=by
 unfold wv Az Ah H3
 rw [Uf]
 by_cases h:v<0
 ·rw [A5m h,A58 rfl]; omega
 ·rw [A5q h,A57 (by decide)]; omega
theorem K0 {l:List Int} (h:l.length<1073741824) (hi:Wa l):Ig l=true:=As.2 ⟨h,hi⟩
theorem K1 {l:List Int} (h:Ig l=true):l.length<1073741824∧Wa l:=As.1 h
theorem Ab2 (v:Int):Ah v=Rf (B9 (Ah v))∧(Az v=true→Ah v≠[]):=by
 unfold Ah
 rw [Uf]
 refine ⟨rfl,fun h e=>?_⟩
 have h1:v<0:=A6b h
 have h2:=G5 v.natAbs
 rw [e] at h2
 have:=Js (n:=v.natAbs) (by omega)
 rw [← h2] at this
 exact absurd this (by decide)
theorem Ie {v:Int} (h:Dk v.natAbs<268435456):Ks (Az v) (Ah v)=true :=
 As.2 ⟨by unfold Ah; rw [G5]; exact h,Ab2 v⟩
theorem Aj2 {v:Int} (h:Dk v.natAbs<134217728):Yc (Az v) (Ah v)=true :=
 As.2 ⟨by unfold Ah; rw [G5]; exact h,Ab2 v⟩
theorem Xu {n:Bool} {l:List Int} (h1:l=Rf (B9 l)) (h2:n=true→l≠[]):n=Az (wv n l)∧l=Ah (wv n l):=by
 have e:(wv n l).natAbs=B9 l:=by unfold wv H3; split<;>omega
 refine ⟨?_,by unfold Ah; rw [e]; exact h1⟩
 unfold Az wv H3
 cases n
 ·simp
 ·have h3:=h2 rfl
  have h4:B9 l≠0:=fun h=>by
   rw [h] at h1
   exact h3 h1
  simp; omega
theorem Jw {n:Bool} {l:List Int} (h:Ks n l=true):∃ v,n=Az v∧l=Ah v∧Dk v.natAbs<268435456:=by
 obtain ⟨h0,h1,h2⟩:=As.1 h
 obtain ⟨e1,e2⟩:=Xu h1 h2
 refine ⟨_,e1,e2,?_⟩
 have:=congrArg length e2
 unfold Ah at this
 rw [G5] at this
 omega
theorem Qu {n:Bool} {l:List Int} (h:Yc n l=true):∃ v,n=Az v∧l=Ah v∧Dk v.natAbs<134217728:=by
 obtain ⟨h0,h1,h2⟩:=As.1 h
 obtain ⟨e1,e2⟩:=Xu h1 h2
 refine ⟨_,e1,e2,?_⟩
 have:=congrArg length e2
 unfold Ah at this
 rw [G5] at this
 omega
theorem P2 {v:Int} (h:Dk v.natAbs<1073741824):Ig (Ah v)=true :=
 K0 (by unfold Ah; rw [G5]; exact h) (Ah1 _)
theorem D4 (v:Int):B9 (Ah v)=v.natAbs:=Uf _
theorem Cl (v:Int):(Ah v).length=Dk v.natAbs:=G5 _
theorem Ayg (n:Bool) (l:List Int):wv (!n) l=- wv n l:=by
 unfold wv H3
 cases n<;>simp
theorem Adf {a b:List Int} (ha:Wa a) (hb:Wa b):B9 (Kb a b)=B9 a+B9 b:=by
 unfold Kb
 rw [J6,A5y]
 have h1:=Ku ha
 have h2:=Ku hb
 have h3:2^(32*a.length)≤2^(32*max a.length b.length):=A50 (by decide) (by omega)
 have h4:2^(32*b.length)≤2^(32*max a.length b.length):=A50 (by decide) (by omega)
 rw [Nb]
 omega
theorem Qp (a b:List Int):(Kb a b).length=max a.length b.length+1:=Ec _ _
theorem Aaq (a b:List Int):Wa (Kb a b):=Nz _ _
theorem Akc {a:List Int} (b:List Int) (ha:Wa a):B9 (Is a b)=B9 a-B9 b:=by
 unfold Is
 rw [J6,A5y]
 have h1:=Ku ha
 omega
theorem T6 (a b:List Int):(Is a b).length=a.length:=Ec _ _
theorem Adp (a b:List Int):Wa (Is a b):=Nz _ _
theorem Nh (v:Int) (j:Nat):(Lk v j).natAbs=v.natAbs / 2^j:=by
 unfold Lk
 generalize v.natAbs / 2^j=m
 unfold H3; split<;>omega
theorem S8 {v:Int} (h:v<0) (m:Nat):H3 (Az v) m=-(m:Int):=by
 unfold H3 Az; rw [A5m h,A58 rfl]
theorem S7 {v:Int} (h:¬ v<0) (m:Nat):H3 (Az v) m=(m:Int):=by
 unfold H3 Az; rw [A5q h,A57 (by decide)]
theorem Ae4 (v:Int) (i j:Nat):Lk (Lk v i) j=Lk v (i+j):=by
 have e:v.natAbs / 2^(i+j)=v.natAbs / 2^i / 2^j:=by rw [A6a,A6e]
 have h1:=Nh v i
 by_cases hv:v<0
 ·have h2:Lk v i=-((v.natAbs / 2^i:Nat):Int):=S8 hv _
  rw [show Lk v (i+j)=-((v.natAbs / 2^(i+j):Nat):Int) from S8 hv _,e]
  by_cases h0:v.natAbs / 2^i=0
  ·rw [h2,h0]
   show Lk 0 j=_
   rw [Nat.zero_div]
   show H3 (Az 0) (0 / 2^j)=_
   rw [Nat.zero_div]; rfl
  ·have h3:Lk v i<0:=by omega
   rw [show Lk (Lk v i) j=-(((Lk v i).natAbs / 2^j:Nat):Int) from S8 h3 _,h1]
 ·have h2:Lk v i=((v.natAbs / 2^i:Nat):Int):=S7 hv _
  have h3:¬ Lk v i<0:=by omega
  rw [show Lk (Lk v i) j=(((Lk v i).natAbs / 2^j:Nat):Int) from S7 h3 _,h1,show Lk v (i+j)=((v.natAbs / 2^(i+j):Nat):Int) from S7 hv _,e]
theorem Ahb (v:Int):Lk v 0=v:=by
 unfold Lk H3 Az
 rw [A6j,Nat.div_one]
 by_cases h:v<0
 ·rw [A5m h,A58 rfl]; omega
 ·rw [A5q h,A57 (by decide)]; omega
theorem S6 (j:Nat):Lk 0 j=0:=by
 unfold Lk
 rw [show (Int.natAbs 0)=0 from rfl,Nat.zero_div]
 rfl
theorem Anf {l:List Int} (h:Wa l):B9 (l.drop 1)=B9 l / 4294967296:=by
 cases l with
 | nil=>rfl
 | cons x l =>
   have:=h x (A60 ..)
   show B9 l=_
   rw [B9]; omega
theorem Aic {l:List Int} (h:Wa l):Wa (l.drop 1):=fun x hx=>h x (List.mem_of_mem_drop hx)
theorem Aib {l:List Int} (h:Wa l):Wa ([(0:Int)]++l):=fun x hx=>by
 rcases List.mem_cons.1 hx with rfl | hx
 ·omega
 ·exact h x hx
theorem Asy (n:Nat):Dk (2*n)≤Dk n+1:=by
 refine Ma ?_
 have h:=K6 n
 rw [Nb]
 omega
theorem Awm (n:Nat):Dk (n*4294967296)≤Dk n+1:=by
 refine Ma ?_
 have h:=K6 n
 rw [Nb]
 omega
theorem Ahy {n m:Nat} (h:2^m≤n):(n / 2^m).log2+m=n.log2:=by
 have hp:=B4 m
 have h0:n≠0:=by omega
 have hm:m≤n.log2:=(Nat.le_log2 h0).2 h
 have e:(n / 2^m).log2=n.log2-m:=by
  refine Zj ?_ ?_
  ·rw [Nat.le_div_iff_mul_le hp,← A6a]
   exact A6s (A50 (by decide) (by omega)) (Nat.log2_self_le h0)
  ·rw [Nat.div_lt_iff_lt_mul hp,← A6a]
   exact A6w Nat.lt_log2_self (A50 (by decide) (by omega))
 omega
end Go.Cv
namespace Go.Cv
open Go.Den
def Sz (n:Nat):Nat:=if h:n=0∨n%2=1 then 0 else Sz (n / 2)+1
termination_by n
decreasing_by omega
def mD (v:Int):Int:=Lk v (Sz v.natAbs)
def eD (v e:Int):Int:=if v=0 then 0 else e+Sz v.natAbs
def Dj (v e w f:Int):Int:=if v=0 then f else if w=0 then e else min e f
def Alf (v e w f:Int):Int:=Io v (e-Dj v e w f)+Io w (f-Dj v e w f)
def Ow (v e w f:Int):Int:=mD (Alf v e w f)
def Ai1 (v e w f:Int):Int:=eD (Alf v e w f) (Dj v e w f)
def Ip (v e:Int):Int:=if v=0 then 0 else Abe v+e
def Ou (v:Int):Int:=if v<0 then -1 else if v=0 then 0 else 1
def Yx (v e w f:Int):Int:=Yw (Io v (e-Dj v e w f)) (Io w (f-Dj v e w f))
def Un (e:Int):Bool:=Cz (-2000000≤e∧e≤2000000)
def Rk (e:Int):Bool:=Cz (-400000≤e∧e≤400000)
def Aof (v e f:Int):Bool:=Cz (v=0∨(-1000000≤e-f∧e-f≤1000000))&&Cz (-400000≤e∧e≤400000∧-1000000≤f∧f≤1000000)
theorem Aja {n:Nat} (h:n=0∨n%2=1):Sz n=0:=by rw [Sz,dif_pos h]
theorem Aln {n:Nat} (h0:n≠0) (h:n%2=0):Sz n=Sz (n / 2)+1:=by rw [Sz,dif_neg (by omega)]
theorem Aep {n:Nat} (h:n≠0):∀ k,Sz (n*2^k)=k+Sz n
 | 0=>by rw [A6j,A6u,A6v]
 | k+1=>by
   have hp:=B4 k
   have h1:n*2^k≠0:=by
    intro e
    rcases Nat.mul_eq_zero.1 e with e | e<;>omega
   have e:n*2^(k+1)=n*2^k*2:=by rw [Nat.pow_succ,A6c]
   rw [e,Aln (by omega) (by omega),Nat.mul_div_cancel _ (by decide),Aep h k]
   omega
theorem Alm (n:Nat) (h:n≠0):∃ m,n=m*2^Sz n∧m%2=1:=by
 induction n using Nat.strongRecOn with
 | _ n ih =>
   by_cases h2:n%2=1
   ·refine ⟨n,?_,h2⟩
    rw [Aja (.inr h2),A6j,A6u]
   ·obtain ⟨m,h3,h4⟩:=ih (n / 2) (by omega) (by omega)
    refine ⟨m,?_,h4⟩
    rw [Aln h (by omega),Nat.pow_succ,← A6c,← h3]
    omega
theorem Aqq {n:Nat} (h:n≠0):Sz n≤n.log2:=by
 obtain ⟨m,h1,h2⟩:=Alm n h
 refine (Nat.le_log2 h).2 ?_
 have:1*2^Sz n≤m*2^Sz n:=A5x _ (by omega)
 omega
theorem Adr {n:Nat}:n.log2<32*Dk n+1:=by
 unfold Dk
 by_cases h:n=0
 ·rw [h]; decide
 ·rw [A57 h]; omega
theorem Ake {v:Int} {k:Nat} (h:v.natAbs%2^k=0):mD (Lk v k)=mD v:=by
 unfold mD
 by_cases h0:v=0
 ·rw [h0,S6]
 ·have hp:=B4 k
  have hv:=Nat.div_add_mod v.natAbs (2^k)
  rw [h,A6t,A59] at hv
  have hq:v.natAbs / 2^k≠0:=by
   intro e; rw [e] at hv; omega
  have:=Aep hq k
  rw [hv] at this
  rw [Nh,Ae4,this]
theorem Akw {v e:Int} {k:Nat} (h:v.natAbs%2^k=0) (h0:v≠0):eD (Lk v k) (e+k)=eD v e:=by
 unfold eD
 have hp:=B4 k
 have hv:=Nat.div_add_mod v.natAbs (2^k)
 rw [h,A6t,A59] at hv
 have hq:v.natAbs / 2^k≠0:=by
  intro e; rw [e] at hv; omega
 have ht:=Aep hq k
 rw [hv] at ht
 have ha:=Nh v k
 rw [A57 h0,A57 (by omega),ha,ht]
 omega
theorem Azq {v:Int} (h:v%2=1):mD v=v:=by
 unfold mD
 rw [Aja (.inr (by omega)),Ahb]
theorem Az1 {v:Int} (h:v%2=1) (e:Int):eD v e=e:=by
 unfold eD
 rw [Aja (.inr (by omega)),A57 (by omega)]
 omega
theorem Alw (v:Int) (k:Nat):Lk (v*((2^k:Nat):Int)) k=v:=by
 have hp:=B4 k
 unfold Lk
 rw [Int.natAbs_mul,Int.natAbs_natCast,Nat.mul_div_cancel _ hp]
 by_cases h:v<0
 ·have h1:v*((2^k:Nat):Int)<0:=Int.mul_neg_of_neg_of_pos h (by omega)
  rw [S8 h1]; omega
 ·have h1:¬ v*((2^k:Nat):Int)<0:=by
   have:=Int.mul_nonneg (show (0:Int)≤v by omega) (Int.natCast_nonneg (2^k))
   omega
  rw [S7 h1]; omega
theorem Vx (v:Int) (k:Nat):(v*((2^k:Nat):Int)).natAbs%2^k=0:=by
 rw [Int.natAbs_mul,Int.natAbs_natCast,Nat.mul_mod_left]
theorem Azr (v:Int) (k:Nat):mD (v*((2^k:Nat):Int))=mD v:=by
 rw [← Ake (Vx v k),Alw]
theorem Aj8 {v:Int} (h:v≠0) (k:Nat):v*((2^k:Nat):Int)≠0:=by
 have hp:=B4 k
 intro e
 rcases Int.mul_eq_zero.1 e with e | e
 ·exact h e
 ·omega
theorem Az2 (v e:Int) (k:Nat):eD (v*((2^k:Nat):Int)) (e-k)=eD v e:=by
 by_cases h:v=0
 ·rw [h,Int.zero_mul]; rfl
 ·rw [← Akw (Vx v k) (Aj8 h k),Alw]
  congr 1
  omega
theorem Zi (v:Int):v=mD v*((2^Sz v.natAbs:Nat):Int):=by
 by_cases h:v=0
 ·rw [h]
  show (0:Int)=Lk 0 _*_
  rw [S6,Int.zero_mul]
 ·obtain ⟨m,h1,h2⟩:=Alm v.natAbs (by omega)
  have hp:=B4 (Sz v.natAbs)
  have hq:v.natAbs / 2^Sz v.natAbs=m:=Nat.div_eq_of_eq_mul_left hp h1
  unfold mD Lk
  rw [hq]
  by_cases hv:v<0
  ·rw [S8 hv,Int.neg_mul,← A56,← h1]; omega
  ·rw [S7 hv,← A56,← h1]; omega
theorem O4 {v:Int}:mD v=0↔v=0:=by
 constructor
 ·intro h
  have:=Zi v
  rw [h,Int.zero_mul] at this
  exact this
 ·intro h
  rw [h]
  exact S6 _
theorem Xk (v:Int):(mD v).natAbs≤v.natAbs:=by
 unfold mD
 rw [Nh]
 exact Nat.div_le_self _ _
end Go.Cv
namespace Go.Cv
open Go.Den
def vAt (v e g:Int):Int:=v*((2^(e-g).toNat:Nat):Int)
theorem Ji (e g:Int):vAt 0 e g=0:=Int.zero_mul _
theorem Acr {v e g h:Int} (h1:h≤e) (h2:g≤h):vAt v e g=vAt v e h*((2^(h-g).toNat:Nat):Int):=by
 unfold vAt
 rw [Int.mul_assoc,← A56,← A6a]
 have:(e-h).toNat+(h-g).toNat=(e-g).toNat:=by omega
 rw [this]
theorem Ae3 {v e l:Int} (h:v≠0→l≤e):Io v (e-l)=vAt v e l:=by
 by_cases h0:v=0
 ·rw [h0,Ji]
  unfold Io
  split
  ·exact Int.zero_mul _
  ·exact S6 _
 ·unfold Io vAt
  rw [A58 (by have:=h h0; omega)]
theorem Asr {v e w f:Int}:(v≠0→Dj v e w f≤e)∧(w≠0→Dj v e w f≤f):=by
 unfold Dj
 constructor
 ·intro h
  rw [A57 h]
  split<;>omega
 ·intro h
  split
  ·omega
  ·omega
theorem Aub (x y:Int) (k:Nat):Yw (x*((2^k:Nat):Int)) (y*((2^k:Nat):Int))=Yw x y:=by
 have hp:=B4 k
 have h1:x*((2^k:Nat):Int)<y*((2^k:Nat):Int)↔x<y:=Int.mul_lt_mul_right (by omega)
 have h2:y*((2^k:Nat):Int)<x*((2^k:Nat):Int)↔y<x:=Int.mul_lt_mul_right (by omega)
 unfold Yw
 simp only [h1,h2]
theorem Axe {v e w f g:Int} (h1:v≠0→g≤e) (h2:w≠0→g≤f):Yx v e w f=Yw (vAt v e g) (vAt w f g):=by
 obtain ⟨l1,l2⟩:=Asr (v:=v) (e:=e) (w:=w) (f:=f)
 unfold Yx
 rw [Ae3 l1,Ae3 l2]
 by_cases h0:v=0∧w=0
 ·rw [h0.1,h0.2,Ji,Ji,Ji,Ji]
 ·have hg:g≤Dj v e w f:=by
   unfold Dj
   split
   ·rename_i hv
    exact h2 (fun k=>h0 ⟨hv,k⟩)
   ·split
    ·exact h1 (by assumption)
    ·have:=h1 (by assumption); have:=h2 (by assumption); omega
  have e1:vAt v e g=vAt v e (Dj v e w f)*((2^(Dj v e w f-g).toNat:Nat):Int):=by
   by_cases h0:v=0
   ·rw [h0,Ji,Ji,Int.zero_mul]
   ·exact Acr (l1 h0) hg
  have e2:vAt w f g=vAt w f (Dj v e w f)*((2^(Dj v e w f-g).toNat:Nat):Int):=by
   by_cases h0:w=0
   ·rw [h0,Ji,Ji,Int.zero_mul]
   ·exact Acr (l2 h0) hg
  rw [e1,e2,Aub]
def Ak (l:List Int):Bool:=Cz (∀ x∈l,Ao x=true)
def Ho (x:Int):Int:=H3 (Br x.toNat) (An x.toNat)
def T2 (n:Bool) (b:Int):Int:=if n then D6 b else b
end Go.Cv
namespace Go.Cv
open Go.Den
theorem Ud (s:Bool) {q:Nat} {L:Int} (hq:q<2^53) (hL:-1074≤L) (h:2^52≤q∨L=-1074) (hr:(L+1074).toNat*2^52+q<Eo) :
 An (B3 s ((L+1074).toNat*2^52+q))=q∧Av (B3 s ((L+1074).toNat*2^52+q))=L:=by
 rw [Fc] at hr
 obtain ⟨t,ht⟩:∃ t:Nat,L=t-1074:=⟨(L+1074).toNat,by omega⟩
 have et:(L+1074).toNat=t:=by omega
 rw [et] at hr ⊢
 have hp:=Xc s (r:=t*2^52+q) (by omega)
 have hf:=Uw s (t*2^52+q)
 unfold An Av
 by_cases h52:2^52≤q
 ·have e1:Dx (B3 s (t*2^52+q))=t+1:=by rw [hp]; omega
  rw [e1,hf,A57 (by omega),A57 (by omega)]
  omega
 ·have t0:t=0:=by omega
  subst t0
  have e1:Dx (B3 s (0*2^52+q))=0:=by rw [hp]; omega
  rw [e1,hf,A58 rfl,A58 rfl]
  omega
theorem sign_neg (s:Bool) {r:Nat} (h:r<2^63):Br (B3 s r)=s:=by
 unfold Br B3
 cases s
 ·simp only [Bool.false_eq_true,if_false,A54]; omega
 ·simp only [if_true,A5s]; omega
theorem Abt (s:Bool) {V:Nat} {E:Int} (h0:V≠0) (hE:Bz V E≤E) (hi:B1 V E<Eo) :
 flagsOf V E=0∧∃ k:Nat,An (B3 s (B1 V E))=V*2^k∧Av (B3 s (B1 V E))=E-k:=by
 have hl2:V.log2=V.log2:=rfl
 have ek:kept V E=V*2^(E-Bz V E).toNat:=by
  unfold kept Jp
  have e1:(Bz V E-E).toNat=0:=by omega
  have e2:(-(Bz V E-E)).toNat=(E-Bz V E).toNat:=by omega
  rw [e1,e2,Nx]
 have eex:exact V E=true:=by
  unfold exact N3
  have e1:(Bz V E-E).toNat=0:=by omega
  rw [e1,A6j,Nat.mod_one]; rfl
 constructor
 ·unfold flagsOf flags
  rw [A57 h0,A57 (by omega),eex]; rfl
 ·have hr:B1 V E=(Bz V E+1074).toNat*2^52+kept V E:=by
   unfold B1 at hi ⊢
   rw [A57 h0] at hi ⊢
   omega
  have hk:kept V E<2^53:=by
   rw [ek,← A61 (J2 h0),Od V _ h0]
   unfold Bz at hE ⊢
   omega
  have hb:2^52≤kept V E∨Bz V E=-1074:=by
   by_cases h:Bz V E=-1074
   ·exact .inr h
   ·left
    refine Afp h0 ?_
    unfold Bz at h ⊢
    omega
  rw [hr] at hi
  obtain ⟨p1,p2⟩:=Ud s hk (by unfold Bz; omega) hb hi
  refine ⟨(E-Bz V E).toNat,?_,?_⟩
  ·rw [hr,p1,ek]
  ·rw [hr,p2]; omega
theorem Yg {V:Nat} {E:Int} (h:V<2^53) (hE:-1074≤E):Bz V E≤E:=by
 by_cases h0:V=0
 ·subst h0; unfold Bz; rw [Nat.log2_zero]; omega
 ·have:=(A61 h0).2 h
  unfold Bz; omega
end Go.Cv
namespace Go.Cv
open Go.Den
def E7 (x:Int):Int:=if x=0 then 0 else (x.toNat.log2:Int)+1
def T5 (x y:Int):Int:=((x.toNat*y.toNat / 18446744073709551616:Nat):Int)
def O3 (x y:Int):Int:=((x.toNat*y.toNat%18446744073709551616:Nat):Int)
def Asg (a b:Int):Bool:=decide (A3 a=4)||decide (A3 b=4)
def Ch (b:Nat):Nat:=52-(An b).log2
def C3 (b:Int):Int:=((An b.toNat*2^Ch b.toNat:Nat):Int)
def Hu (b:Int):Int:=Av b.toNat-Ch b.toNat
def Nl (b:Int):Bool:=Cz (An b.toNat≠0)
def Qj (m e:Int):Bool:=Cz (1152921504606846976≤m∧m<4611686018427387904∧-6000≤e∧e≤6000)
def Em (a b:Int):Int:=(H7 a.toNat b.toNat).1
def A2p (a b:Int):Int:=(H7 a.toNat b.toNat).2
def Hc (a b:Int):Int:=(Rl a.toNat b.toNat).1
def A2z (a b:Int):Int:=(Rl a.toNat b.toNat).2
def As9 (x:Int):Bool:=Cz (0≤x∧x<4294967296)
def singleL (l:List Int) (x:Int):List Int:=digits (l.length+1) (B9 l*x.toNat)
def okM (n:Bool) (l:List Int):Bool:=Cz (l.length<33554432∧l=Rf (B9 l)∧(n=true→l≠[]))
end Go.Cv
namespace Go.Cv
theorem Ap2 (a b:Nat):Fz a b=Fz b a:=by
 unfold Fz
 by_cases ha:Aj a=4
 ·simp only [ha,true_or,or_true,if_true]
 ·by_cases hb:Aj b=4
  ·simp only [hb,true_or,or_true,if_true]
  ·simp only [ha,hb,or_self,if_false]
   by_cases ha3:Aj a=3
   ·by_cases hb3:Aj b=3
    ·simp only [ha3,hb3,if_true,true_and]
     by_cases e:a=b
     ·subst e; rfl
     ·rw [A58 e,A58 (fun h=>e h.symm)]
    ·simp only [ha3,hb3,if_true,if_false,false_and]
   ·by_cases hb3:Aj b=3
    ·simp only [ha3,hb3,if_true,if_false,false_and]
    ·simp only [ha3,hb3,if_false]
     rw [Bool.and_comm,Int.min_comm,Int.add_comm]
theorem Ahh {Y D:Nat} (h:Y%2^D=0):Gj Y D=Y / 2^D:=by unfold Gj; rw [A58 h]
theorem Ajv {Y D:Nat} (h:Y%2^D≠0):Gj Y D%2=1:=by unfold Gj; rw [A57 h]; omega
theorem Ahi {Y d:Nat} (hY:Y<2^62) (h:Y%2^d≠0):(Gj Y (min d 63)-1)*2^d<Y∧Y<(Gj Y (min d 63)+1)*2^d∧Gj Y (min d 63)%2=1:=by
 have hA:=B4 d
 by_cases hd:d≤63
 ·rw [Nat.min_eq_left hd]
  refine ⟨?_,?_,Ajv h⟩
  all_goals
   unfold Gj
   rw [A57 h]
   have h1:=Nat.div_add_mod Y (2^d)
   have h2:=Nat.mod_lt Y hA
   generalize Y / 2^d=q at *
   generalize Y%2^d=r at *
   generalize 2^d=c at *
   rw [A59] at h1
  ·have h3:(2*(q / 2)+1-1)*c≤q*c:=A5x c (by omega)
   omega
  ·have h3:(q+1)*c≤(2*(q / 2)+1+1)*c:=A5x c (by omega)
   rw [A6p,Nat.one_mul] at h3
   omega
 ·rw [Nat.min_eq_right (by omega)]
  have h63:Y%2^63=Y:=A5y (by omega)
  have hd0:Y / 2^63=0:=Nat.div_eq_of_lt (by omega)
  have hY0:Y≠0:=by intro e; rw [e] at h; simp at h
  have hr:Gj Y 63=1:=by unfold Gj; rw [h63,A57 hY0,hd0]
  have hp:2^62≤2^d:=A50 (by decide) (by omega)
  rw [hr]
  refine ⟨by simp; omega,by omega,rfl⟩
theorem A4o {d M:Nat} (h:(M*2^9)%2^d≠0):10≤d:=by
 refine Nat.lt_of_not_le fun hle=>h ?_
 obtain ⟨k,hk⟩:∃ k,9=d+k:=⟨9-d,by omega⟩
 rw [hk,A6a,A59 (2^d),← A6c,Nat.mul_mod_left]
theorem Qi {V m d:Nat} {e f:Int} (hd:e=f+d) (h:V=m*2^d∨(m%2=1∧(m-1)*2^d<V∧V<(m+1)*2^d∧2^60≤m)) :
 B1 m (e-9)=B1 V (f-9)∧flagsOf m (e-9)=flagsOf V (f-9):=by
 rcases h with rfl | ⟨h1,h2,h3,h4⟩
 ·have:=Db m d (e-9)
  have e1:e-9-(d:Int)=f-9:=by omega
  rw [e1] at this
  exact ⟨this.1.symm,this.2.symm⟩
 ·have hm0:m≠0:=by omega
  have hlog:=Sf h1 (by omega) h2 h3
  have hl60:60≤m.log2:=(Nat.le_log2 hm0).2 h4
  have e1:f-9+(d:Int)=e-9:=by omega
  have hle:Bz V (f-9)=Bz m (f-9+d):=by unfold Bz; rw [hlog]; congr 1; omega
  have hk:f-9+d+2≤Bz m (f-9+d):=by unfold Bz; omega
  obtain ⟨a1,a2⟩:=Ry h1 h2 h3 hle hk
  rw [e1] at a1 a2
  exact ⟨a1.symm,a2.symm⟩
theorem Ajn (V:Nat) (f:Int):B1 (V*2^9) (f-9)=B1 V f∧flagsOf (V*2^9) (f-9)=flagsOf V f:=Db V 9 f
structure Ax3 (Mx My d:Nat) (e f:Int) (X r:Nat):Prop where
 plus:B1 (X+r) (e-9)=B1 (Mx*2^d+My) f∧flagsOf (X+r) (e-9)=flagsOf (Mx*2^d+My) f
 less:r<X→My<Mx*2^d∧B1 (X-r) (e-9)=B1 (Mx*2^d-My) f∧flagsOf (X-r) (e-9)=flagsOf (Mx*2^d-My) f
 more:X<r→Mx*2^d<My∧B1 (r-X) (e-9)=B1 (My-Mx*2^d) f∧flagsOf (r-X) (e-9)=flagsOf (My-Mx*2^d) f
 same:X=r→Mx*2^d=My
 small:r≤2^62
theorem Axy {X My r d p:Nat} {e f:Int} (hd:e=f+d) (comm:X*2^d=p*2^9) (n1:(r-1)*2^d<My*2^9) (n2:My*2^9<r*2^d+2^d) (n3:r%2=1) (hX2:X%2=0) (hX:2^61≤X) (hr:r≤2^53) :
 (B1 (X+r) (e-9)=B1 (p+My) f∧flagsOf (X+r) (e-9)=flagsOf (p+My) f)∧My<p∧B1 (X-r) (e-9)=B1 (p-My) f∧flagsOf (X-r) (e-9)=flagsOf (p-My) f:=by
 have e1:(r-1)*2^d+2^d=r*2^d:=by
  obtain ⟨k,rfl⟩:∃ k,r=k+1:=⟨r-1,by omega⟩
  rw [Nat.add_sub_cancel,A6p,Nat.one_mul]
 have e2:(r+1)*2^d=r*2^d+2^d:=by rw [A6p,Nat.one_mul]
 have hXd:(r+1)*2^d≤X*2^d:=A5x _ (by omega)
 have hlt:My<p:=by rw [e2,comm] at hXd; omega
 have a1:B1 (X+r) (e-9)=B1 ((p+My)*2^9) (f-9)∧flagsOf (X+r) (e-9)=flagsOf ((p+My)*2^9) (f-9):=by
  refine Qi hd (.inr ⟨by omega,?_,?_,by omega⟩)
  ·have h1:X+r-1=X+(r-1):=by omega
   rw [h1,A6p X (r-1) (2^d),A6p p My (2^9),comm]
   exact Nat.add_lt_add_left n1 _
  ·have h1:X+r+1=X+(r+1):=by omega
   rw [h1,A6p X (r+1) (2^d),A6p p My (2^9),comm,e2]
   exact Nat.add_lt_add_left n2 _
 have a2:B1 (X-r) (e-9)=B1 ((p-My)*2^9) (f-9)∧flagsOf (X-r) (e-9)=flagsOf ((p-My)*2^9) (f-9):=by
  rw [e2,comm] at hXd
  refine Qi hd (.inr ⟨by omega,?_,?_,by omega⟩)
  ·have h1:X-r-1=X-(r+1):=by omega
   rw [h1,Nat.sub_mul X (r+1) (2^d),Nat.sub_mul p My (2^9),comm,e2]
   omega
  ·have h1:X-r+1=X-(r-1):=by omega
   rw [h1,Nat.sub_mul X (r-1) (2^d),Nat.sub_mul p My (2^9),comm]
   omega
 rw [(Ajn _ f).1,(Ajn _ f).2] at a1 a2
 exact ⟨a1,hlt,a2⟩
theorem Aiz {Mx My d:Nat} {e f:Int} (hd:e=f+d) (hx:Mx<2^53) (hy:My<2^53) (hbig:10≤d→2^52≤Mx) :
 Ax3 Mx My d e f (Mx*2^9) (Gj (My*2^9) (min d 63)):=by
 have hA:=B4 d
 have hY:My*2^9<2^62:=by omega
 have comm:Mx*2^9*2^d=Mx*2^d*2^9:=by rw [A6c,A59 (2^9),← A6c]
 have s9:=fun V=>Ajn V f
 by_cases hz:(My*2^9)%2^d=0
 ·
  have hr:∃ r,Gj (My*2^9) (min d 63)=r∧My*2^9=r*2^d:=by
   by_cases hd63:d≤63
   ·rw [Nat.min_eq_left hd63]
    exact ⟨_,rfl,by rw [Ahh hz]; exact (Nat.div_mul_cancel (Nat.dvd_of_mod_eq_zero hz)).symm⟩
   ·have hp:2^62≤2^d:=A50 (by decide) (by omega)
    have:My*2^9=0:=by rw [A5y (by omega)] at hz; exact hz
    rw [Nat.min_eq_right (by omega),this]
    exact ⟨0,by decide,by omega⟩
  obtain ⟨r,hr,hYr⟩:=hr
  rw [hr]
  have hle:r≤2^62:=by
   have:r*1≤r*2^d:=Nat.mul_le_mul_left r hA
   omega
  have cmp:∀ x y:Nat,x*2^d<y*2^d↔x<y:=fun x y=>Nat.mul_lt_mul_right hA
  refine ⟨?_,fun h=>?_,fun h=>?_,fun h=>?_,hle⟩
  ·rw [← (s9 _).1,← (s9 _).2]
   exact Qi hd (.inl (by rw [A6p (Mx*2^d) My (2^9),A6p (Mx*2^9) r (2^d),comm,hYr]))
  ·have h1:=(cmp r (Mx*2^9)).2 h
   refine ⟨by omega,?_⟩
   rw [← (s9 _).1,← (s9 _).2]
   exact Qi hd (.inl (by first | rw [Nat.sub_mul (Mx*2^d) My (2^9),Nat.sub_mul (Mx*2^9) r (2^d),comm,hYr] | rw [Nat.sub_mul My (Mx*2^d) (2^9),Nat.sub_mul r (Mx*2^9) (2^d),comm,hYr]))
  ·have h1:=(cmp (Mx*2^9) r).2 h
   refine ⟨by omega,?_⟩
   rw [← (s9 _).1,← (s9 _).2]
   exact Qi hd (.inl (by first | rw [Nat.sub_mul (Mx*2^d) My (2^9),Nat.sub_mul (Mx*2^9) r (2^d),comm,hYr] | rw [Nat.sub_mul My (Mx*2^d) (2^9),Nat.sub_mul r (Mx*2^9) (2^d),comm,hYr]))
  ·rw [← h] at hYr
   omega
 ·
  have hd10:=A4o hz
  have hMx:=hbig hd10
  obtain ⟨n1,n2,n3⟩:=Ahi hY hz
  have hrle:Gj (My*2^9) (min d 63)≤2^53:=by
   refine Nat.le_of_not_lt fun h=>?_
   have h1:2^53*2^d≤(Gj (My*2^9) (min d 63)-1)*2^d:=A5x _ (by omega)
   have h2:2^10≤2^d:=A50 (by decide) hd10
   have h3:2^53*2^10≤2^53*2^d:=Nat.mul_le_mul_left _ h2
   omega
  generalize Gj (My*2^9) (min d 63)=r at *
  have hr1:1≤r:=by omega
  have e1:(r-1)*2^d+2^d=r*2^d:=by
   obtain ⟨k,rfl⟩:∃ k,r=k+1:=⟨r-1,by omega⟩
   rw [Nat.add_sub_cancel,A6p,Nat.one_mul]
  have e2:(r+1)*2^d=r*2^d+2^d:=by rw [A6p,Nat.one_mul]
  rw [e2] at n2
  have hXr:r<Mx*2^9:=by omega
  have hXd:(r+1)*2^d≤Mx*2^9*2^d:=A5x _ (by omega)
  rw [e2,comm] at hXd
  obtain ⟨p1,p2,p3⟩:=Axy hd comm n1 n2 n3 (by omega) (by omega) hrle
  exact ⟨p1,fun _=>⟨p2,p3⟩,fun h=>by omega,fun h=>by omega,by omega⟩
theorem Ye (n:Bool) (m:Nat) (e:Int):Gz n m e false=(B3 n (B1 m e),flagsOf m e):=by
 unfold Gz
 have:=Db m 2 e
 have e1:m*2^2=4*m+false.toNat:=by simp; omega
 have e2:e-((2:Nat):Int)=e-2:=by omega
 rw [e1,e2] at this
 rw [this.1,this.2]
theorem Ac7 (E:Int):B1 0 E=0:=A58 rfl
theorem Wd (E:Int):flagsOf 0 E=0:=A58 rfl
theorem Iu {b:Nat} (h:H0 b=true):Aj b≠4∧Aj b≠3:=by
 unfold H0 at h
 simp only [A5s] at h
 unfold Aj
 rw [A57 (by omega)]
 split
 ·omega
 ·split<;>omega
theorem Adj {b:Nat} (h:-1064≤Av b):2^52≤An b:=by
 unfold Av at h
 unfold An
 split at h
 ·omega
 ·rw [A57 (by assumption)]; omega
theorem Ui (z:Nat) (s:Bool) {V:Nat} (hV:V≠0) (f:Int):Ky z (H3 s V) f=(B3 s (B1 V f),flagsOf V f):=by
 unfold Ky H3
 cases s
 ·have h1:¬ (V:Int)=0:=by omega
  have h2:¬ (V:Int)<0:=by omega
  simp only [Bool.false_eq_true,if_false,h1,h2,decide_false,Int.natAbs_natCast]
 ·have h1:¬ -(V:Int)=0:=by omega
  have h2:-(V:Int)<0:=by omega
  simp only [if_true,h1,if_false,h2,decide_true,Int.natAbs_neg,Int.natAbs_natCast]
theorem Ax0 {p q X r:Nat} {e f:Int} (s t:Bool)
 (plus:B1 (X+r) e=B1 (p+q) f∧flagsOf (X+r) e=flagsOf (p+q) f)
 (less:r<X→q<p∧B1 (X-r) e=B1 (p-q) f∧flagsOf (X-r) e=flagsOf (p-q) f)
 (more:X<r→p<q∧B1 (r-X) e=B1 (q-p) f∧flagsOf (r-X) e=flagsOf (q-p) f)
 (same:X=r→p=q) :
 Ky (B3 (s&&t) 0) (H3 s p+H3 t q) f=(if s=t then Gz s (X+r) e false
  else if r<X then Gz s (X-r) e false
  else if X<r then Gz t (r-X) e false
  else (0,0)):=by
 simp only [Ye]
 by_cases hs:s=t
 ·rw [A58 hs,← hs]
  have hsum:H3 s p+H3 s q=H3 s (p+q):=by unfold H3; cases s<;>simp<;>omega
  rw [hsum,plus.1,plus.2]
  by_cases h0:p+q=0
  ·rw [h0,Ac7,Wd]
   unfold Ky
   have:H3 s 0=0:=by unfold H3; cases s<;>rfl
   rw [A58 this,A5r]
  ·exact Ui _ _ h0 _
 ·rw [A57 hs]
  by_cases h1:r<X
  ·obtain ⟨c1,c2,c3⟩:=less h1
   rw [A58 h1,c2,c3]
   have hsum:H3 s p+H3 t q=H3 s (p-q):=by
    unfold H3; cases s<;>cases t<;>simp at hs ⊢<;>omega
   rw [hsum]
   exact Ui _ _ (by omega) _
  ·rw [A57 h1]
   by_cases h2:X<r
   ·obtain ⟨c1,c2,c3⟩:=more h2
    rw [A58 h2,c2,c3]
    have hsum:H3 s p+H3 t q=H3 t (q-p):=by
     unfold H3; cases s<;>cases t<;>simp at hs ⊢<;>omega
    rw [hsum]
    exact Ui _ _ (by omega) _
   ·rw [A57 h2]
    have c:=same (by omega)
    have hsum:H3 s p+H3 t q=0:=by
     unfold H3; cases s<;>cases t<;>simp at hs ⊢<;>omega
    have hz:(s&&t)=false:=by cases s<;>cases t<;>simp at hs ⊢
    rw [hsum,hz]
    rfl
theorem Aus {a b:Nat} (ha:H0 a=true) (hb:H0 b=true) :
 Fz a b=Ky (B3 (Br a&&Br b) 0) (E9 a (min (Av a) (Av b))+E9 b (min (Av a) (Av b))) (min (Av a) (Av b)):=by
 have k1:=Iu ha
 have k2:=Iu hb
 unfold Fz
 rw [A57 (fun h=>h.elim k1.1 k2.1),A57 k1.2,A57 k2.2]
theorem Ai7 (b:Nat):E9 b (Av b)=H3 (Br b) (An b):=by
 unfold E9; rw [Int.sub_self,Int.toNat_zero,A6j,A6u]
theorem Aqd {b:Nat} {f:Int} {d:Nat} (h:Av b=f+d):E9 b f=H3 (Br b) (An b*2^d):=by
 unfold E9
 have:(Av b-f).toNat=d:=by omega
 rw [this]
theorem Aiy {a b:Nat} (ha:H0 a=true) (hb:H0 b=true) {d:Nat} (hd:Av a=Av b+d) :
 Fz a b=(if Br a=Br b then Gz (Br a) (An a*2^9+Gj (An b*2^9) (min d 63)) (Av a-9) false
  else if Gj (An b*2^9) (min d 63)<An a*2^9 then Gz (Br a) (An a*2^9-Gj (An b*2^9) (min d 63)) (Av a-9) false
  else if An a*2^9<Gj (An b*2^9) (min d 63) then Gz (Br b) (Gj (An b*2^9) (min d 63)-An a*2^9) (Av a-9) false
  else (0,0)):=by
 have hx:=Fi a
 have hy:=Fi b
 have C:=Aiz (Mx:=An a) (My:=An b) hd hx hy (fun h=>Adj (by have:=Cq b; omega))
 rw [Aus ha hb,Int.min_eq_right (by omega),Ai7,Aqd hd]
 exact Ax0 _ _ C.plus C.less C.more C.same
theorem Xj {b:Nat} (h:b<2^64):D5 b<2^64:=by unfold D5; split<;>omega
theorem Aks (m:Nat) (e:Int):flagsOf m e<32:=by
 unfold flagsOf flags
 split
 ·decide
 ·split
  ·decide
  ·split
   ·decide
   ·split<;>decide
theorem Wu {a b:Nat} (ha:a<2^64) (hb:b<2^64):(Fz a b).1<2^64∧(Fz a b).2<32:=by
 unfold Fz
 split
 ·exact ⟨by decide,by decide⟩
 ·split
  ·split
   ·decide
   ·exact ⟨ha,(by decide:0<32)⟩
  ·split
   ·exact ⟨hb,(by decide:0<32)⟩
   ·unfold Ky
    split
    ·refine ⟨?_,(by decide:0<32)⟩
     unfold B3; split<;>decide
    ·exact ⟨Vg _ _ _,Aks _ _⟩
end Go.Cv
namespace Go.Cv
open Go.Den
def Di (r c:Nat) (f:Nat→Nat→Int):List Int:=(List.range (r*c)).map fun j=>f (j / c) (j%c)
theorem Cf (r c:Nat) (f:Nat→Nat→Int):(Di r c f).length=r*c:=by unfold Di; rw [A6r,A6o]
theorem Ls {r c i k:Nat} (hi:i<r) (hk:k<c):i*c+k<r*c:=by
 have:(i+1)*c≤r*c:=A5x c hi
 rw [A6p,Nat.one_mul] at this
 omega
theorem Xd {c i k:Nat} (hk:k<c):(i*c+k) / c=i∧(i*c+k)%c=k:=by
 constructor
 ·rw [A59,Nat.mul_add_div (by omega),Nat.div_eq_of_lt hk,A6t]
 ·rw [A59,Nat.mul_add_mod,A5y hk]
theorem Ib {r c:Nat} {f:Nat→Nat→Int} {j:Nat} (h:j<r*c):(Di r c f)[j]?=some (f (j / c) (j%c)):=by
 unfold Di
 rw [A62,List.getElem?_range h]
 rfl
theorem Atd {r c i k:Nat} {f:Nat→Nat→Int} (hi:i<r) (hk:k<c):(Di r c f).getD (i*c+k) 0=f i k:=by
 obtain ⟨d1,d2⟩:=Xd (i:=i) hk
 rw [A5v,Ib (Ls hi hk),d1,d2]
 rfl
theorem V1 {l m:List Int} (h:l.length=m.length) (he:∀ j,j<l.length→l[j]?=m[j]?):l=m:=by
 refine List.ext_getElem? fun j=>?_
 by_cases hj:j<l.length
 ·exact he j hj
 ·rw [A63 (by omega),A63 (by omega)]
theorem F9 {r c:Nat} {f g:Nat→Nat→Int} (h:∀ i k,i<r→k<c→f i k=g i k):Di r c f=Di r c g:=by
 refine V1 (by rw [Cf,Cf]) fun j hj=>?_
 rw [Cf] at hj
 have hc:0<c:=by
  rcases Nat.eq_zero_or_pos c with h0 | h0
  ·subst h0; rw [Nat.mul_zero] at hj; omega
  ·exact h0
 rw [Ib hj,Ib hj,h (j / c) (j%c) ((Nat.div_lt_iff_lt_mul hc).2 hj) (Nat.mod_lt _ hc)]
theorem Apb {r c:Nat} {l:List Int} (h:l.length=r*c):l=Di r c fun i k=>l.getD (i*c+k) 0:=by
 refine V1 (by rw [Cf,h]) fun j hj=>?_
 rw [Ib (by omega)]
 have e:j / c*c+j%c=j:=by rw [A59]; exact Nat.div_add_mod j c
 rw [e,A5v,A52 hj]
 rfl
theorem Wb {r c i k:Nat} {f:Nat→Nat→Int} (hk:k<c) (x:Int) :
 (Di r c f).set (i*c+k) x=Di r c fun a b=>if a=i∧b=k then x else f a b:=by
 refine V1 (by rw [List.length_set,Cf,Cf]) fun j hj=>?_
 rw [List.length_set,Cf] at hj
 obtain ⟨d1,d2⟩:=Xd (i:=i) hk
 rw [Ib hj,List.getElem?_set]
 by_cases h:i*c+k=j
 ·subst h
  rw [A58 rfl,A58 (by rw [Cf]; exact hj),d1,d2,A58 ⟨rfl,rfl⟩]
 ·rw [A57 h,Ib hj,A57]
  rintro ⟨h1,h2⟩
  exact h (by rw [← h1,← h2,A59]; exact Nat.div_add_mod j c)
theorem Qb (r c:Nat) (f:Nat→Nat→Int):Di (r+1) c f=Di r c f++(List.range c).map (f r):=by
 unfold Di
 rw [A6p,Nat.one_mul,List.range_add,List.map_append,List.map_map]
 congr 1
 refine List.map_congr_left fun k hk=>?_
 have hk:=List.mem_range.1 hk
 obtain ⟨d1,d2⟩:=Xd (i:=r) hk
 show f ((r*c+k) / c) ((r*c+k)%c)=f r k
 rw [d1,d2]
theorem Qa (c:Nat) (f:Nat→Nat→Int):Di 0 c f=[]:=by
 unfold Di; rw [Nat.zero_mul]; rfl
theorem Mf (k:Nat) (g:Nat→Int):(List.range (k+1)).map g=(List.range k).map g++[g k]:=by
 rw [List.range_succ,List.map_append]; rfl
def Tz:Nat→List Int→List Int→Nat
 | s,x::xs,y::ys=>Tz (Fz s (H7 x.toNat y.toNat).1).1 xs ys
 | s,_,_=>s
def Lx (x y:List Int):Int:=Tz 0 x y
theorem Zg {a b:Nat}:(H7 a b).1<2^64:=by
 unfold H7
 split
 ·decide
 ·split
  ·split
   ·decide
   ·unfold B3; split<;>decide
  ·exact Vg _ _ _
theorem Af5:∀ (x y:List Int) (s:Nat),s<2^64→Tz s x y<2^64
 | x::xs,y::ys,s,h=>Af5 xs ys _ (Wu h Zg).1
 | [],_,_,h=>by unfold Tz; exact h
 | _::_,[],_,h=>by unfold Tz; exact h
end Go.Cv
namespace Go.Cv
open Go.Den
def Cd (n:Int):Bool:=decide (0≤n)&&decide (n≤6)
def Be (r c:Int) (l:List Int):Bool:=(Cd r&&Cd c)&&decide ((l.length:Int)=r*c)
def M7 (r c:Int) (l:List Int):Int:=if Be r c l=true then 0 else 1
def Aeq (r c:Int) (l:List Int) (p q:Int) (m:List Int):Int:=if (Be r c l&&Be p q m)=true then 0 else 1
def Hi (_r c:Int) (l:List Int) (i k:Int):Bool:=Cz (0≤i∧i<10∧0≤k∧k<10∧0≤c∧c<10∧i*c+k<l.length∧l.length<1000)
def Co (c:Int) (l:List Int) (i k:Int):Int:=l.getD (i*c+k).toNat 0
def Uy (i k:Int):Int:=if i=k then 4607182418800017408 else 0
def Aaa (x y i k:Int):Bool:=Cz (0≤x∧x<10∧0≤y∧y<10∧0≤i∧i<10∧0≤k∧k<10)
def Pz (r c x y a b:Int):Bool:=decide (0≤x∧0≤y∧0≤a∧0≤b∧x≤r∧y≤c∧a≤r-x∧b≤c-y)
def Qo (r c:Int) (l:List Int) (i:Int):Bool:=Be r c l&&Cz (0≤i∧i<r)
def Gw (r c:Int) (l:List Int) (k:Int):Bool:=Be r c l&&Cz (0≤k∧k<c)
def Xh (r c:Int) (l:List Int) (p q:Int) (m:List Int) (i k:Int):Bool:=(Qo r c l i&&Gw p q m k)&&((Ak l&&Ak m)&&Cz (c=p))
def Gt (c:Int) (l:List Int) (i:Int):List Int:=List.drop (i*c).toNat (List.take ((i+1)*c).toNat l)
def Rm (r c:Int) (l:List Int) (k:Int):List Int:=(List.range r.toNat).map fun j:Nat=>Co c l (j:Int) k
abbrev MX:=Int × Int × List Int × Int
def Pu (e:Int):MX:=(0,0,[],e)
def Q0 (n:Int):MX:=if Cd n=true then (n,n,Di n.toNat n.toNat fun i k=>Uy i k,0) else Pu 3
def Gc (r c:Int) (l:List Int):MX:=if Be r c l=true then (c,r,Di c.toNat r.toNat fun i k=>Co c l k i,0) else Pu 1
def Ir (r c:Int) (l:List Int) (x y a b:Int):MX :=
 if Be r c l=true then (if Pz r c x y a b=true then (a,b,Di a.toNat b.toNat fun i k=>Co c l (x+i) (y+k),0) else Pu 3) else Pu 1
def Uq (r c:Int) (l:List Int) (p q:Int) (m:List Int):MX :=
 if (Be r c l&&Be p q m)=true then (if c=p then (r,q,Di r.toNat q.toNat fun i k=>Lx (Gt c l i) (Rm p q m k),0) else Pu 3) else Pu 1
def Yv (x y:List Int):Bool:=decide (x.length=y.length)&&decide (x.length≤64)
def A44 (l:List Int):Bool:=Cz (l.length≤17592186044416)
theorem Jn {n:Int}:Cd n=true↔0≤n∧n≤6:=by unfold Cd; simp
theorem Nw {r c:Int} {l:List Int}:Be r c l=true↔(0≤r∧r≤6)∧(0≤c∧c≤6)∧(l.length:Int)=r*c:=by
 unfold Be
 rw [A5w,A5w,Jn,Jn,A5s,and_assoc]
theorem Ef {r c:Int} {l:List Int} (h:Be r c l=true):∃ R C:Nat,r=R∧c=C∧R≤6∧C≤6∧l.length=R*C:=by
 obtain ⟨h1,h2,h3⟩:=Nw.1 h
 refine ⟨r.toNat,c.toNat,by omega,by omega,by omega,by omega,?_⟩
 have:(((r.toNat*c.toNat:Nat)):Int)=r*c:=by rw [A56,Int.toNat_of_nonneg h1.1,Int.toNat_of_nonneg h2.1]
 omega
theorem Jm {n:Int} (h:Cd n=true):∃ R:Nat,n=R∧R≤6:=by
 have:=Jn.1 h
 exact ⟨n.toNat,by omega,by omega⟩
theorem Avt {n:Nat} (h:n≤6):Cd (n:Int)=true:=Jn.2 ⟨by omega,by omega⟩
theorem E0 {r c:Nat} {l:List Int} (hr:r≤6) (hc:c≤6) (hl:l.length=r*c):Be (r:Int) (c:Int) l=true :=
 Nw.2 ⟨⟨by omega,by omega⟩,⟨by omega,by omega⟩,by rw [hl,A56]⟩
theorem Zr (c:Nat) (l:List Int) (i k:Nat):Co (c:Int) l (i:Int) (k:Int)=l.getD (i*c+k) 0:=by
 unfold Co
 have:((i:Int)*(c:Int)+(k:Int)).toNat=i*c+k:=by
  rw [← A56,← Int.natCast_add,A5n]
 rw [this]
theorem Ix {r c i k:Nat} {R:Int} {l:List Int} (hr:r≤6) (hc:c≤6) (hl:l.length=r*c) (hi:i<r) (hk:k<c):Hi R (c:Int) l (i:Int) (k:Int)=true:=by
 have:=Ls hi hk
 have h36:=A6h hr hc
 refine As.2 ⟨by omega,by omega,by omega,by omega,by omega,by omega,?_,by omega⟩
 rw [← A56]
 omega
theorem I5 {r c i k:Nat} {f:Nat→Nat→Int} (hi:i<r) (hk:k<c):Co (c:Int) (Di r c f) (i:Int) (k:Int)=f i k:=by
 rw [Zr,Atd hi hk]
theorem Adx {r c:Nat} {l:List Int} (h:l.length=r*c):(Di r c fun i k=>Co (c:Int) l (i:Int) (k:Int))=l:=by
 conv=>rhs; rw [Apb h]
 exact F9 fun i k _ _=>Zr c l i k
theorem Jy {l:List Int} (h:Ak l=true) {j:Nat} (hj:j<l.length):Ao (l.getD j 0)=true:=by
 have h:=As.1 h
 rw [A5v,A52 hj]
 exact h _ (List.getElem_mem hj)
end Go.Cv
namespace Go.Cv
theorem Anw {b:Nat} (h:b<2^64):B3 (Br b) (b%2^63)=b:=by
 unfold B3 Br
 by_cases hb:2^63≤b
 ·simp only [hb,decide_true,if_true]; omega
 ·simp only [hb,decide_false,Bool.false_eq_true,if_false]; omega
end Go.Cv
namespace Go.Cv
def Lj (n:Nat):Nat:=Ieee.Datum.rootFrom n (n.log2 / 2+1) 0
theorem Avu (k:Nat):1 <<< k=2^k:=by rw [Nat.shiftLeft_eq,Nat.one_mul]
theorem W6 {n:Nat}:∀ (todo root:Nat),root*root≤n→n<(root+2^todo)*(root+2^todo) →
 Ieee.Datum.rootFrom n todo root*Ieee.Datum.rootFrom n todo root≤n∧n<(Ieee.Datum.rootFrom n todo root+1)*(Ieee.Datum.rootFrom n todo root+1)
 | 0,root,h1,h2=>⟨h1,h2⟩
 | todo+1,root,h1,h2=>by
   unfold Ieee.Datum.rootFrom
   simp only [Avu]
   have hp:2^(todo+1)=2^todo+2^todo:=by rw [Nat.pow_succ]; omega
   rw [hp] at h2
   by_cases h:(root+2^todo)*(root+2^todo)≤n
   ·rw [A58 h]
    exact W6 todo _ h (by rw [Nat.add_assoc]; exact h2)
   ·rw [A57 h]
    exact W6 todo _ h1 (by omega)
theorem Mo (n:Nat):Lj n*Lj n≤n∧n<(Lj n+1)*(Lj n+1):=by
 refine W6 _ _ (by simp) ?_
 rw [A6v,← A6a]
 rcases Nat.eq_zero_or_pos n with rfl | hn
 ·decide
 ·refine (A61 (by omega)).1 ?_
  omega
theorem Ag6 {a b:Nat} (h:a*a<b*b):a<b:=by
 rcases A6i a b with h1 | h1
 ·exact h1
 ·have:=A6h h1 h1; omega
theorem Abl {n w:Nat} (h1:w*w≤n) (h2:n<(w+1)*(w+1)):w=Lj n:=by
 obtain ⟨a,b⟩:=Mo n
 have c1:=Ag6 (A6n h1 b)
 have c2:=Ag6 (A6n a h2)
 omega
theorem Afq {n w:Nat} (h:w*w≤n):w≤Lj n:=by
 have:=Ag6 (A6n h (Mo n).2)
 omega
def Ek (n:Nat):Nat:=2*Lj n+(if Lj n*Lj n=n then 0 else 1)
theorem W4 (a c:Nat):a*c*(a*c)=a*a*(c*c):=by
 rw [A6c,Nat.mul_left_comm c,← A6c a a]
theorem Ac8 {n:Nat} (d:Nat) (E:Int) (h:2^53≤Lj n) :
 B1 (Ek (n*(2^d*2^d))) (E-d)=B1 (Ek n) E∧flagsOf (Ek (n*(2^d*2^d))) (E-d)=flagsOf (Ek n) E:=by
 have hA:=B4 d
 obtain ⟨h1,h2⟩:=Mo n
 unfold Ek
 generalize hw:Lj n=w at *
 generalize hc:2^d=c at *
 have hcc:0<c*c:=Nat.mul_pos hA hA
 by_cases h0:w*w=n
 ·have e1:Lj (n*(c*c))=w*c:=by
   refine (Abl ?_ ?_).symm
   ·rw [W4,h0]; exact A6f _
   ·have:=W4 w c
    rw [h0] at this
    rw [A6p,Nat.mul_add,this]; omega
  rw [e1,W4,h0,A58 rfl,A58 rfl]
  have:=Db (2*w+0) d E
  rw [hc,show (2*w+0)*c=2*(w*c)+0 by rw [A6t,A6t,A6c]] at this
  exact this
 ·rw [A57 h0]
  obtain ⟨g1,g2⟩:=Mo (n*(c*c))
  have q1:w*c≤Lj (n*(c*c)):=Afq (by rw [W4]; exact A5x _ h1)
  have q2:Lj (n*(c*c))<(w+1)*c:=by
   refine Ag6 (A6n g1 ?_)
   rw [W4]
   exact (Nat.mul_lt_mul_right hcc).2 h2
  have q3:Lj (n*(c*c))=w*c→Lj (n*(c*c))*Lj (n*(c*c))≠n*(c*c):=fun h5 h6=>by
   rw [h5,W4] at h6
   exact h0 (Nat.eq_of_mul_eq_mul_right hcc h6)
  generalize hQ:Lj (n*(c*c))=Q at *
  have p1:(2*w+1-1)*c=2*(w*c):=by rw [Nat.add_sub_cancel,A6c]
  have p2:(2*w+1+1)*c=2*((w+1)*c):=by rw [show 2*w+1+1=2*(w+1) by omega,A6c]
  have od:(2*w+1)%2=1:=by omega
  generalize hV:2*Q+(if Q*Q=n*(c*c) then 0 else 1)=V
  have v1:(2*w+1-1)*2^d<V:=by
   rw [hc,p1,← hV]
   by_cases h5:Q=w*c
   ·rw [A57 (q3 h5)]; omega
   ·split<;>omega
  have v2:V<(2*w+1+1)*2^d:=by
   rw [hc,p2,← hV]
   split<;>omega
  have lV:=Sf od (by omega) v1 v2
  have hs:54≤(2*w+1).log2:=by rw [Nat.le_log2 (by omega)]; omega
  have ee:E-(d:Int)+d=E:=by omega
  have:=Ry (E:=E-d) od v1 v2 (by unfold Bz; rw [lV]; omega) (by unfold Bz; omega)
  rw [ee] at this
  exact this
theorem V8 {n t:Nat} (h:2^(t+t)≤n):2^t≤Lj n:=Afq (by rw [← A6a]; exact h)
theorem pow_two (k d:Nat):2^(k+2*d)=2^k*(2^d*2^d):=by rw [A6a,Nat.two_mul,A6a]
theorem An6 {m k l:Nat} {E F:Int} (h1:2^106≤m*2^k) (h2:2^106≤m*2^l) (he:2*E+k=2*F+l) :
 B1 (Ek (m*2^k)) E=B1 (Ek (m*2^l)) F∧flagsOf (Ek (m*2^k)) E=flagsOf (Ek (m*2^l)) F:=by
 rcases Nat.le_total k l with h | h
 ·obtain ⟨d,rfl⟩:∃ d,l=k+2*d:=⟨(l-k) / 2,by omega⟩
  have:=Ac8 (n:=m*2^k) d E (V8 (t:=53) h1)
  rw [A6c,← pow_two,show E-(d:Int)=F by omega] at this
  exact ⟨this.1.symm,this.2.symm⟩
 ·obtain ⟨d,rfl⟩:∃ d,k=l+2*d:=⟨(k-l) / 2,by omega⟩
  have:=Ac8 (n:=m*2^l) d F (V8 (t:=53) h2)
  rw [A6c,← pow_two,show F-(d:Int)=E by omega] at this
  exact this
def Fh (b:Nat):Nat:=128+(Av b%2).toNat
def Hg (b:Nat):Nat × Nat :=
 if Aj b=4 then (Sw,0)
 else if Aj b=0∨b=Eo then (b,0)
 else if Br b=true then (Sw,16)
 else (B1 (Ek (An b*2^Fh b)) ((Av b-Fh b) / 2-1),flagsOf (Ek (An b*2^Fh b)) ((Av b-Fh b) / 2-1))
theorem Dc {b:Nat} (h3:Aj b≠3) (h4:Aj b≠4):An b=0↔Aj b=0:=by
 have:=Mq b
 have:=Kz b
 unfold An
 unfold Aj at *
 split at h3<;>split<;>(try split)<;>(try split)<;>simp_all<;>omega
theorem Z9 {b:Nat} (h:Aj b=4):Hg b=(Sw,0):=A58 h
theorem Nu {b:Nat} (h4:Aj b≠4) (h:Aj b=0∨b=Eo):Hg b=(b,0):=by unfold Hg; rw [A57 h4,A58 h]
theorem Ag5 {b:Nat} (h4:Aj b≠4) (h:¬ (Aj b=0∨b=Eo)) (hn:Br b=true):Hg b=(Sw,16):=by unfold Hg; rw [A57 h4,A57 h,A58 hn]
theorem Vd {b:Nat} (h4:Aj b≠4) (h:¬ (Aj b=0∨b=Eo)) (hn:Br b=false) :
 Hg b=(B1 (Ek (An b*2^Fh b)) ((Av b-Fh b) / 2-1),flagsOf (Ek (An b*2^Fh b)) ((Av b-Fh b) / 2-1)):=by
 unfold Hg; rw [A57 h4,A57 h,A57 (by rw [hn]; decide)]
theorem Aia:Aj Eo=3:=by decide
theorem H5 (r:Nat):B3 false r=r:=rfl
theorem Vm {b:Nat} (hm:An b≠0):2^106≤An b*2^Fh b∧2*((Av b-(Fh b:Int)) / 2-1)+Fh b=Av b-2:=by
 refine ⟨?_,by unfold Fh; omega⟩
 have:2^128≤2^Fh b:=A50 (by decide) (by unfold Fh; omega)
 have h5:=A6h (show 1≤An b by omega) this
 omega
theorem Ahx {b:Nat} (hm:An b≠0):(An b).log2≤52:=by
 have:=(A61 hm).2 (show An b<2^53 from Fi b)
 omega
end Go.Cv
namespace Go.Cv
def Cg (b:Nat) (n:Int):Nat × Nat :=
 if Aj b=4 then (Sw,0)
 else if Aj b=3∨Aj b=0 then (b,0)
 else (B3 (Br b) (B1 (An b) (Av b+n)),flagsOf (An b) (Av b+n))
theorem Aq1 {V:Nat} {E:Int} (h0:V≠0) (h:E+V.log2+1≤-1075):B1 V E=0∧flagsOf V E=3:=by
 have hl:Bz V E=-1074:=by unfold Bz; omega
 obtain ⟨k,hk⟩:∃ k:Nat,(-1074:Int)-E=((k:Nat):Int):=⟨(-1074-E).toNat,by omega⟩
 have hV:V<2^(V.log2+1):=(A61 h0).1 (by omega)
 have hp:2^(V.log2+1)*2≤2^k:=by rw [← Nat.pow_succ]; exact A50 (by decide) (by omega)
 have e1:V*2^(-((-1074:Int)-E)).toNat=V:=by rw [hk]; simp
 have e2:((-1074:Int)-E).toNat=k:=by rw [hk]; rfl
 have hk2:kept V E=0:=by
  unfold kept Jp
  rw [hl,e1,e2]
  unfold Jq
  rw [Nat.div_eq_of_lt (by omega),A5y (by omega),A57 (by omega)]
 have hx:exact V E=false:=by
  unfold exact N3
  rw [hl,e1,e2,A5y (by omega)]
  exact A5q h0
 have hr:B1 V E=0:=by
  unfold B1
  rw [A57 h0,hl,hk2]
  rfl
 refine ⟨hr,?_⟩
 unfold flagsOf
 rw [A57 h0,hr,hx]
 rfl
theorem Ao0 {m:Nat} (h:m<2^53):m.log2≤52:=by
 rcases Nat.eq_zero_or_pos m with rfl | h0
 ·decide
 ·have:=(A61 (by omega)).2 h; omega
theorem Aok (n:Bool) {m:Nat} {e:Int} {more:Bool} (hm:m<2^53) (h0:m≠0∨more=true) (he:e≤-1130) :
 Gz n m e more=(B3 n 0,3):=by
 have h1:more.toNat≤1:=by cases more<;>decide
 have hV:4*m+more.toNat≠0:=by
  rcases h0 with h | h
  ·omega
  ·rw [h]; simp
 have hl:(4*m+more.toNat).log2≤54:=by
  have:=(A61 hV).2 (show 4*m+more.toNat<2^55 by omega); omega
 have:=Aq1 hV (E:=e-2) (by omega)
 unfold Gz
 rw [this.1,this.2]
theorem Asd (n:Bool):Gz n 0 (-1074) true=(B3 n 0,3):=by
 cases n<;>decide +kernel
theorem Ajp {b:Nat} {n:Int} (h4:Aj b≠4) (h:¬ (Aj b=3∨Aj b=0)) (hn:Av b+n≤-1130):Cg b n=(B3 (Br b) 0,3):=by
 have hm:An b≠0:=fun h5=>h (.inr ((Dc (by omega) h4).1 h5))
 have:=Aq1 hm (E:=Av b+n) (by have:=Ahx hm; omega)
 unfold Cg
 rw [A57 h4,A57 h,this.1,this.2]
theorem Iz {b:Nat} {n:Int} (h4:Aj b≠4) (h:¬ (Aj b=3∨Aj b=0)):Cg b n=(B3 (Br b) (B1 (An b) (Av b+n)),flagsOf (An b) (Av b+n)):=by
 unfold Cg; rw [A57 h4,A57 h]
def Eu (b:Nat):Int:=if H0 b=true∧Aj b≠0 then ((An b).log2:Int)+Av b else 0
def Dn (b:Nat):Nat:=b%2^63
def Arz (a b:Nat):Int:=if Aj a=4∨Aj b=4 then 0 else if It a<It b then -1 else if It b<It a then 1 else 0
def Azf (a b:Nat):Bool:=!(decide (Aj a=4∨Aj b=4))
end Go.Cv
namespace Go.Cv
open Go.Den
def Adc (b:Int):Int:=It b.toNat
def Xf (a b:Int):Int:=Arz a.toNat b.toNat
def A2j (a b:Int):Bool:=Azf a.toNat b.toNat
def Sc (x:Int):Int:=Dn x.toNat
def Cc (x n:Int):Int:=(Cg x.toNat n).1
def Avz (x n:Int):Int:=(Cg x.toNat n).2
def Gf (x n:Int):Bool:=Ao x&&Cz (-2300≤n∧n≤2300)
def Bj (x:Int):Int:=Eu x.toNat
def M8:List Int→Nat→Nat
 | [],m=>m
 | x::l,m=>if Aj x.toNat=4 then Sw else M8 l (max m (Dn x.toNat))
def A9 (l:List Int):Int:=M8 l 0
def Fm (l:List Int):Bool:=l.all Dm
def Da (r c:Int) (l:List Int):Int:=if Be r c l=true then (if Fm l=true then 0 else 4) else 1
def Amc (c:Int) (l:List Int) (n:Nat):Bool:=(List.range n).any fun i:Nat=>decide (A3 (Co c l (i:Int) (i:Int))=0)
def Wn (r c:Int) (l:List Int) (p q:Int) (m:List Int):Int :=
 if Da r c l≠0 then Da r c l else if Da p q m≠0 then Da p q m
 else if r≠c∨r≠p then 3 else if Amc c l r.toNat=true then 5 else 0
def Og (c:Int) (l:List Int) (i:Int):Int→Int→List Int→Int
 | s,_,[]=>s
 | s,j,x::xs=>Og c l i (Eh s (Em (Co c l i j) x)) (j+1) xs
def Qk (c:Int) (l:List Int) (b:Nat→Int) (n:Nat):Nat→List Int
 | 0=>[]
 | k+1=>Hc (Og c l ((n-1-k:Nat):Int) (b (n-1-k)) ((n-k:Nat):Int) (Qk c l b n k)) (Co c l ((n-1-k:Nat):Int) ((n-1-k:Nat):Int))::Qk c l b n k
def loL (c:Int) (l:List Int) (b:Nat→Int):Nat→List Int
 | 0=>[]
 | k+1=>loL c l b k++[Hc (Og c l (k:Int) (b k) 0 (loL c l b k)) (Co c l (k:Int) (k:Int))]
def Y1 (c:Int) (l:List Int) (q:Int) (m:List Int) (n w:Nat):List Int:=Di n w fun i j=>(Qk c l (fun i=>Co q m (i:Int) (j:Int)) n n).getD i 0
def loG (c:Int) (l:List Int) (q:Int) (m:List Int) (n w:Nat):List Int:=Di n w fun i j=>(loL c l (fun i=>Co q m (i:Int) (j:Int)) n).getD i 0
def Ux (r c:Int) (l:List Int):MX:=if Fm l=true then (r,c,l,0) else Pu 2
def upX (r c:Int) (l:List Int) (p q:Int) (m:List Int):MX :=
 if Wn r c l p q m≠0 then Pu (Wn r c l p q m) else Ux r q (Y1 c l q m r.toNat q.toNat)
def loX (r c:Int) (l:List Int) (p q:Int) (m:List Int):MX :=
 if Wn r c l p q m≠0 then Pu (Wn r c l p q m) else Ux r q (loG c l q m r.toNat q.toNat)
def En (c:Int) (l:List Int) (n:Nat):List Int:=(List.range n).map fun i:Nat=>Sc (Co c l (i:Int) (i:Int))
def Wc (d:List Int):Bool:=d.any fun x=>!(decide (Xf (Cc (A9 d) (-40)) x<0))
def Afv (r c:Int) (l:List Int):Bool:=Wc (En c l (min r.toNat c.toNat))
def Ok (r c:Int) (l:List Int):Bool × Int:=if Da r c l≠0 then (false,Da r c l) else (Afv r c l,0)
def Aer (r c:Int) (l:List Int) (p q:Int) (m:List Int):Bool:=(Be r c l&&Be p q m)&&((Ak l&&Ak m)&&Cz (r=c∧r=p))
def K9 (n:Nat):List Int:=Di n n fun i k=>Uy (i:Int) (k:Int)
def Dw (r c:Int) (l:List Int) (p q:Int) (m:List Int):MX :=
 if (Gc r c l).2.2.2≠0 then Pu (Gc r c l).2.2.2 else Uq (Gc r c l).1 (Gc r c l).2.1 (Gc r c l).2.2.1 p q m
end Go.Cv
namespace Go.Cv
open Go.Den
theorem Aw7 {a b:Nat}:(Rl a b).1<2^64:=by
 have h1:Eo<2^63:=by decide
 have hs:∀ (s:Bool) {r:Nat},r<2^63→B3 s r<2^64:=by
  intro s r h
  unfold B3
  cases s
  ·rw [A57 (by decide)]; omega
  ·rw [A58 rfl]; omega
 have hN:Sw<2^64:=by decide
 unfold Rl
 by_cases c1:Aj a=4∨Aj b=4
 ·rw [A58 c1]; exact hN
 rw [A57 c1]
 by_cases c2:Aj a=Aj b∧(Aj a=3∨Aj a=0)
 ·rw [A58 c2]; exact hN
 rw [A57 c2]
 by_cases c3:Aj a=3
 ·rw [A58 c3]; exact hs _ h1
 rw [A57 c3]
 by_cases c4:Aj b=3∨Aj a=0
 ·rw [A58 c4]; exact hs _ (by decide)
 rw [A57 c4]
 by_cases c5:Aj b=0
 ·rw [A58 c5]; exact hs _ h1
 rw [A57 c5]
 exact hs _ (I1 _ _)
theorem Akz (a b:Int):Ao (Hc a b)=true:=Ck Aw7
theorem W0 {a b:Int} (ha:Ao a=true) (hb:Ao b=true):Ao (Eh a b)=true:=by
 obtain ⟨x,rfl,hx⟩:=Cb ha
 obtain ⟨y,rfl,hy⟩:=Cb hb
 exact Ck (Wu (by rw [A5n]; exact hx) (Xj (by rw [A5n]; exact hy))).1
theorem O7 {r c:Nat} {f:Nat→Nat→Int} (h:∀ i k,Ao (f i k)=true):Ak (Di r c f)=true:=As.2 fun x hx=>by
 obtain ⟨j,_,rfl⟩:=List.mem_map.1 hx
 exact h _ _
theorem K4 (a b:Int):Ao (Em a b)=true:=Ck Zg
theorem Lm (c:Int) (l:List Int) (b:Nat→Int) (n:Nat):∀ k,(Qk c l b n k).length=k
 | 0=>rfl
 | k+1=>by rw [Qk,List.length_cons,Lm c l b n k]
theorem Ai9 (c:Int) (l:List Int) (b:Nat→Int) (n:Nat):∀ k,∀ x∈Qk c l b n k,Ao x=true
 | 0,x,h=>by cases h
 | k+1,x,h=>by
   rw [Qk] at h
   rcases List.mem_cons.1 h with rfl | h
   ·exact Akz _ _
   ·exact Ai9 c l b n k x h
theorem Agv (c:Int) (l:List Int) (b:Nat→Int) (n k:Nat):∀ d,(Qk c l b n (k+d)).drop d=Qk c l b n k
 | 0=>rfl
 | d+1=>by
   rw [← Nat.add_assoc,Qk,List.drop_succ_cons]
   exact Agv c l b n k d
theorem Zy {c:Int} {l:List Int} {b:Nat→Int} {n k:Nat} (h:k≤n):(Qk c l b n n).drop (n-k)=Qk c l b n k:=by
 have:=Agv c l b n k (n-k)
 rw [Nat.add_sub_cancel' h] at this
 exact this
theorem All {c:Int} {l:List Int} {b:Nat→Int} {n i:Nat} (h:i<n) :
 (Qk c l b n n).getD i 0=Hc (Og c l (i:Int) (b i) ((i+1:Nat):Int) ((Qk c l b n n).drop (i+1))) (Co c l (i:Int) (i:Int)):=by
 have e1:=Zy (c:=c) (l:=l) (b:=b) (n:=n) (k:=n-i) (by omega)
 have e2:=Zy (c:=c) (l:=l) (b:=b) (n:=n) (k:=n-i-1) (by omega)
 rw [show n-(n-i)=i by omega] at e1
 rw [show n-(n-i-1)=i+1 by omega] at e2
 rw [e2]
 have e3:(Qk c l b n n).getD i 0=((Qk c l b n n).drop i).getD 0 0:=by
  rw [A5v,A5v,List.getElem?_drop,A6t]
 rw [e3,e1,show n-i=(n-i-1)+1 by omega,Qk]
 have e4:n-1-(n-i-1)=i:=by omega
 have e5:n-(n-i-1)=i+1:=by omega
 rw [e4,e5]
 rfl
theorem Afu {l:List Int} (h:∀ x∈l,Ao x=true) (i:Nat):Ao (l.getD i 0)=true:=by
 rw [A5v]
 cases hi:l[i]? with
 | none=>exact Ck (n:=0) (by decide)
 | some x=>exact h x (List.mem_of_getElem? hi)
theorem Ao2 {c:Int} {l:List Int} {i s j:Int} {xs:List Int} {t:Nat} (h:t<xs.length):Og c l i s j (xs.drop t)=Og c l i (Eh s (Em (Co c l i j) (xs.getD t 0))) (j+1) (xs.drop (t+1)):=by
 rw [List.drop_eq_getElem_cons h,Og,A5v,A52 h]; rfl
end Go.Cv
namespace Go.Cv
open Go.Den
def Ar3:Int:=4607182418800017408
def Hx (x:Int):Int:=(Hg x.toNat).1
def Ru (x:Int):Int:=(Hg x.toNat).2
def Ph (k:Int):Int→List Int→Int
 | s,[]=>s
 | s,x::l=>Ph k (Le s (Em (Cc x k) (Cc x k))) l
def Dh (x:List Int):Int :=
 if A9 x=0∨Dm (A9 x)=false then A9 x else Cc (Hx (Ph (-Bj (A9 x)) 0 x)) (Bj (A9 x))
def Fx (l:List Int):Bool:=l.all fun x=>decide (A3 x=0)
def O6:List Int→Int
 | []=>0
 | x::l=>if A3 x=0 then O6 l else x
def Bg (l:List Int) (k:Int):List Int:=l.map fun x=>Cc x k
def Ic (n:Nat) (f:Nat→Int):List Int:=Ar3::(List.range (n-1)).map fun j=>f (j+1)
def Pj (x:List Int):Int:=if Ea (O6 x)=true then Dh (Bg x (-Bj (A9 x))) else D6 (Dh (Bg x (-Bj (A9 x))))
def Gp (x:List Int):Int:=Cc (Pj x) (Bj (A9 x))
def Et (x:List Int):Int:=Cc (x.getD 0 0) (-Bj (A9 x))
def Xi (x:List Int):List Int:=Ic x.length fun j=>Hc (Cc (x.getD j 0) (-Bj (A9 x))) (Eh (Et x) (Pj x))
def Aa1 (x:List Int):Int:=Hc (Eh (Pj x) (Et x)) (Pj x)
def Ahn (x:List Int):List Int × Int × Int × Int :=
 if Fx (x.drop 1)=true then (Ic x.length fun _=>0,0,x.getD 0 0,0)
 else if Dm (Gp x)=true then (Xi x,Aa1 x,Gp x,0) else ([],0,0,2)
def Bu (x:List Int):List Int × Int × Int × Int :=
 if x.length=0∨64<x.length then ([],0,0,3) else if Fm x=true then Ahn x else ([],0,0,4)
def By (c:Int) (l:List Int) (b i:Int) (n:Nat):List Int:=(List.range n).map fun j:Nat=>Co c l (i+(j:Int)) b
def Ly (c:Int) (l:List Int) (i:Int) (v:List Int) (t b:Int):Int:=Em t (Lx v (By c l b i v.length))
def Hj (c:Int) (l:List Int) (i k:Int) (v:List Int) (t a b:Int):Int :=
 if k≤b∧i≤a∧a<i+v.length then Eh (Co c l a b) (Em (Ly c l i v t b) (v.getD (a-i).toNat 0)) else Co c l a b
def Ga (r c:Nat) (l:List Int) (i k:Int) (v:List Int) (t:Int):List Int:=Di r c fun a b=>Hj (c:Int) l i k v t (a:Int) (b:Int)
def Q8 (r c i k:Int) (v:List Int):Bool:=decide (0≤i∧(v.length:Int)≤r∧i≤r-v.length∧0≤k∧k≤c)
def Po (r c:Nat) (l:List Int) (j:Nat) (x:Int):List Int:=Di r c fun a b=>if b=j∧j≤a then (if a=j then x else 0) else Co (c:Int) l (a:Int) (b:Int)
def De (r c:Nat) (l:List Int) (j:Nat):List Int:=By (c:Int) l (j:Int) (j:Int) (r-j)
def Ov (r c:Nat) (l:List Int) (j:Nat):List Int:=Po r c (Ga r c l (j:Int) (j:Int) (Bu (De r c l j)).1 (Bu (De r c l j)).2.1) j (Bu (De r c l j)).2.2.1
def I9 (r c:Nat):Nat→Nat→List Int→Option (List Int × List (List Int × Int))
 | 0,_,l=>some (l,[])
 | n+1,j,l=>if (Bu (De r c l j)).2.2.2=0 then
  (I9 r c n (j+1) (Ov r c l j)).map fun x=>(x.1,((Bu (De r c l j)).1,(Bu (De r c l j)).2.1)::x.2) else none
def Fj (r c:Nat):Nat:=min c (r-1)
def Kl (n:Nat):Nat→List (List Int × Int)→List Int→List Int
 | _,[],q=>q
 | j,m::ms,q=>Ga n n (Kl n (j+1) ms q) (j:Int) 0 m.1 m.2
def Im (r c:Nat) (l:List Int):Option (List Int × List (List Int × Int)):=I9 r c (Fj r c) 0 l
def I6 (r c:Nat) (l:List Int):List Int:=match Im r c l with
 | some x=>Kl r 0 x.2 (K9 r)
 | none=>[]
def Hq (r c:Nat) (l:List Int):List Int:=match Im r c l with
 | some x=>x.1
 | none=>[]
def G0 (r c:Int) (l:List Int):MX:=if (Im r.toNat c.toNat l).isSome=true then (r,c,Hq r.toNat c.toNat l,0) else Pu 2
def Aa2 (ms:List (List Int × Int)):List (List DV):=ms.map fun m=>[.ints .arg .u64 m.1,.int .u64 m.2]
def P4 (r c:Int) (l:List Int):List (List DV):=match Im r.toNat c.toNat l with
 | some x=>Aa2 x.2
 | none=>[]
def Vz (m:Int):Int:=Lj (m.toNat*2^64)
def V0 (m:Int):Bool:=decide (Lj (m.toNat*2^64)*Lj (m.toNat*2^64)=m.toNat*2^64)
def Sj (r c:Nat) (l:List Int):Bool:=(Im r c l).isSome&&(Fm (I6 r c l)&&Fm (Hq r c l))
def Hb (r c:Int) (l:List Int):Int:=if Da r c l≠0 then Da r c l else if Sj r.toNat c.toNat l=true then 0 else 2
def qX (r c:Int) (l:List Int):MX:=if Hb r c l≠0 then Pu (Hb r c l) else (r,r,I6 r.toNat c.toNat l,0)
def rX (r c:Int) (l:List Int):MX:=if Hb r c l≠0 then Pu (Hb r c l) else (r,c,Hq r.toNat c.toNat l,0)
def Jd (r c:Int) (l:List Int):MX:=if Hb r c l≠0 then Pu (Hb r c l) else (r,min r c,(Ir r r (I6 r.toNat c.toNat l) 0 0 r (min r c)).2.2.1,0)
def N7 (r c:Int) (l:List Int):MX:=if Hb r c l≠0 then Pu (Hb r c l) else (min r c,c,(Ir r c (Hq r.toNat c.toNat l) 0 0 (min r c) c).2.2.1,0)
def Aql (a b:MX) (p q:Int) (m:List Int):MX :=
 if (Dw a.1 a.2.1 a.2.2.1 p q m).2.2.2≠0 then Pu (Dw a.1 a.2.1 a.2.2.1 p q m).2.2.2
 else upX b.1 b.2.1 b.2.2.1 (Dw a.1 a.2.1 a.2.2.1 p q m).1 (Dw a.1 a.2.1 a.2.2.1 p q m).2.1 (Dw a.1 a.2.1 a.2.2.1 p q m).2.2.1
def A7 (r c:Int) (l:List Int) (p q:Int) (m:List Int):MX :=
 if Da r c l≠0 then Pu (Da r c l) else if Da p q m≠0 then Pu (Da p q m) else if r<c∨r≠p then Pu 3
 else if Hb r c l≠0 then Pu (Hb r c l)
 else if (Ok (N7 r c l).1 (N7 r c l).2.1 (N7 r c l).2.2.1).1=true then Pu 5
 else Aql (Jd r c l) (N7 r c l) p q m
end Go.Cv
namespace Go.Cv
open Go.Den
def A1b (x:MX):MX:=Gc x.1 x.2.1 x.2.2.1
def Aze (x:MX) (i k a b:Int):MX:=Ir x.1 x.2.1 x.2.2.1 i k a b
def eqT (p q:Int) (m:List Int):List Int:=(Gc p q m).2.2.1
def eqR (p q:Int) (m:List Int):MX:=rX q p (eqT p q m)
def eqS (p q:Int) (m:List Int):MX:=A1b (Aze (eqR p q m) 0 0 p p)
def hY (p q:Int) (m:List Int) (u v:Int) (h:List Int):MX :=
 if Hb q p (eqT p q m)≠0 then Pu (Hb q p (eqT p q m)) else if (Ok (eqS p q m).1 (eqS p q m).2.1 (eqS p q m).2.2.1).1=true then Pu 5
 else loX (eqS p q m).1 (eqS p q m).2.1 (eqS p q m).2.2.1 u v h
def hQ (p q:Int) (m:List Int):MX :=
 if Hb q p (eqT p q m)≠0 then Pu (Hb q p (eqT p q m)) else if (Ok (eqS p q m).1 (eqS p q m).2.1 (eqS p q m).2.2.1).1=true then Pu 5
 else qX q p (eqT p q m)
end Go.Cv
namespace Go.Cv
open Go.Den
def A4x (l m h:List Int):Bool:=(Ak l&&Ak m)&&Ak h
end Go.Cv
namespace Go.Cv
open Go.Den
def Ac0 (k b:Int):Bool:=Dm b&&(decide (A3 b=0)||(decide (-k≤Bj b)&&decide (Bj b<k)))
def Mb (x:List Int) (k:Int):Bool:=x.all (Ac0 k)
end Go.Cv
namespace Go.Cv
open Go.Den
structure Wh (x:Int) (v:Int):Prop where
 word:Ao x=true
 k3:Aj x.toNat≠3
 k4:Aj x.toNat≠4
 val:∃ g:Int,g≤0∧g≤Av x.toNat∧E9 x.toNat g=v*((2^(-g).toNat:Nat):Int)
end Go.Cv
namespace Go.Cv
open Go.Den
theorem Nf:Ao (0:Int)=true:=Ck (n:=0) (by decide)
theorem Ar0:Ao Ar3=true:=Ck (n:=4607182418800017408) (by decide)
theorem An2 {b:Nat} {n:Int} (h:b<2^64):(Cg b n).1<2^64:=by
 unfold Cg
 by_cases h4:Aj b=4
 ·rw [A58 h4]; exact (by decide:Sw<2^64)
 rw [A57 h4]
 by_cases h3:Aj b=3∨Aj b=0
 ·rw [A58 h3]; exact h
 rw [A57 h3]
 exact Vg _ _ _
theorem Jo {b n:Int} (h:Ao b=true):Ao (Cc b n)=true:=by
 obtain ⟨x,rfl,hx⟩:=Cb h
 exact Ck (An2 (by rw [A5n]; exact hx))
theorem Zv (b:Nat):Dn b<2^63:=Nat.mod_lt _ (by decide)
theorem Ab4:∀ (l:List Int) (m:Nat),m<2^64→M8 l m<2^64
 | [],m,h=>h
 | x::l,m,h=>by
   unfold M8
   split
   ·exact (by decide:Sw<2^64)
   ·have h2:=Zv x.toNat
    exact Ab4 l _ (by omega)
theorem U4 (l:List Int):Ao (A9 l)=true:=Ck (Ab4 l 0 (by decide))
theorem Asp (x:Int):Ao (Sc x)=true:=Ck (Nat.lt_trans (Zv x.toNat) (by decide))
theorem Aup {a b:Int} (ha:Ao a=true) (hb:Ao b=true):Ao (Le a b)=true:=by
 obtain ⟨x,rfl,hx⟩:=Cb ha
 obtain ⟨y,rfl,hy⟩:=Cb hb
 exact Ck (Wu (by rw [A5n]; exact hx) (by rw [A5n]; exact hy)).1
theorem Ahr {a:Int} (ha:Ao a=true):Ao (D6 a)=true:=by
 obtain ⟨x,rfl,hx⟩:=Cb ha
 exact Ck (Xj (by rw [A5n]; exact hx))
theorem Ara {b:Nat} (h:b<2^64):(Hg b).1<2^64:=by
 by_cases h4:Aj b=4
 ·rw [Z9 h4]; exact (by decide:Sw<2^64)
 by_cases h0:Aj b=0∨b=Eo
 ·rw [Nu h4 h0]; exact h
 cases hn:Br b with
 | true=>rw [Ag5 h4 h0 hn]; exact (by decide:Sw<2^64)
 | false =>
   unfold Hg
   rw [A57 h4,A57 h0,hn,A57 (by decide)]
   exact Nat.lt_trans (I1 _ _) (by decide)
theorem Alq {a:Int} (ha:Ao a=true):Ao (Hx a)=true:=by
 obtain ⟨x,rfl,hx⟩:=Cb ha
 exact Ck (Ara (by rw [A5n]; exact hx))
theorem Aq7 (k:Int):∀ (l:List Int) {s:Int},Ao s=true→Ao (Ph k s l)=true
 | [],_,h=>h
 | _::l,_,h=>Aq7 k l (Aup h (K4 _ _))
theorem Zf (x:List Int):Ao (Dh x)=true:=by
 unfold Dh
 split
 ·exact U4 x
 ·exact Jo (Alq (Aq7 _ _ Nf))
theorem Asm (x:List Int):Ao (Pj x)=true:=by
 unfold Pj
 split
 ·exact Zf _
 ·exact Ahr (Zf _)
theorem Axq (x:List Int):Ao (Gp x)=true:=Jo (Asm x)
theorem Apg (b:Nat):-1100≤Eu b∧Eu b≤1100:=by
 unfold Eu
 split
 ·have h1:=Cq b
  have h2:=Fi b
  rename_i h
  have h3:(An b).log2<53:=by
   by_cases h0:An b=0
   ·rw [h0]; decide
   ·exact (A61 h0).2 h2
  omega
 ·omega
theorem Att (x:Int):-1100≤Bj x∧Bj x≤1100:=Apg x.toNat
theorem Mu {l:List Int} (h:Ak l=true) (j:Nat):Ao (l.getD j 0)=true:=Afu (As.1 h) j
theorem Tu {l:List Int} (h:∀ x∈l,Ao x=true):Ak l=true:=As.2 h
theorem Lc:Ak []=true:=Tu fun _ h=>by cases h
theorem Aix {α:Type} {l:List α} {f:α→Int} (h:∀ j,Ao (f j)=true):Ak (l.map f)=true:=Tu fun x hx=>by
 obtain ⟨j,_,rfl⟩:=List.mem_map.1 hx
 exact h j
theorem Apz {x:Int} {l:List Int} (h1:Ao x=true) (h2:Ak l=true):Ak (x::l)=true:=Tu fun y hy=>by
 rcases List.mem_cons.1 hy with rfl | hy
 ·exact h1
 ·exact As.1 h2 y hy
theorem Zs {c i k:Int} {l:List Int} (h:Ak l=true):Ao (Co c l i k)=true:=Mu h _
theorem Gl (c b i:Int) (n:Nat) (l:List Int):(By c l b i n).length=n:=by unfold By; rw [A6r,A6o]
theorem Oa {c b i:Int} {n:Nat} {l:List Int} (h:Ak l=true):Ak (By c l b i n)=true:=Aix fun _=>Zs h
theorem Arn (n:Nat) {f:Nat→Int} (h:∀ j,Ao (f j)=true):Ak (Ic n f)=true:=Apz Ar0 (Aix fun _=>h _)
theorem Kw {n:Nat} (h:n≠0) (f:Nat→Int):(Ic n f).length=n:=by
 unfold Ic
 rw [List.length_cons,A6r,A6o]
 omega
theorem Zh {x:List Int} (h:Ak x=true):Ak (Bu x).1=true∧Ao (Bu x).2.1=true∧Ao (Bu x).2.2.1=true:=by
 have hz:Ak []=true∧Ao (0:Int)=true∧Ao (0:Int)=true:=⟨Lc,Nf,Nf⟩
 unfold Bu
 split
 ·exact hz
 split
 ·unfold Ahn
  split
  ·dsimp only
   exact ⟨Arn _ fun _=>Nf,Nf,Mu h 0⟩
  ·split
   ·dsimp only
    exact ⟨Arn _ fun _=>Akz _ _,Akz _ _,Axq x⟩
   ·exact hz
 ·exact hz
theorem P5 {x:List Int} (h:(Bu x).2.2.2=0):(Bu x).1.length=x.length:=by
 unfold Bu at h ⊢
 by_cases h1:x.length=0∨64<x.length
 ·rw [A58 h1] at h; exact absurd h (by decide)
 rw [A57 h1] at h ⊢
 by_cases h2:Fm x=true
 ·rw [A58 h2] at h ⊢
  unfold Ahn at h ⊢
  by_cases h3:Fx (x.drop 1)=true
  ·rw [A58 h3]; dsimp only; exact Kw (n:=x.length) (by omega) _
  ·rw [A57 h3] at h ⊢
   by_cases h4:Dm (Gp x)=true
   ·rw [A58 h4]; dsimp only [Xi]; exact Kw (n:=x.length) (by omega) _
   ·rw [A57 h4] at h; exact absurd h (by decide)
 ·rw [A57 h2] at h; exact absurd h (by decide)
theorem Af6 (x y:List Int):Ao (Lx x y)=true:=Ck (Af5 x y 0 (by decide))
theorem Apx {c i k t a b:Int} {l v:List Int} (h:Ak l=true):Ao (Hj c l i k v t a b)=true:=by
 unfold Hj
 split
 ·exact W0 (Zs h) (K4 _ _)
 ·exact Zs h
theorem Aec {r c:Nat} {l:List Int} (h:Ak l=true) (i k:Int) (v:List Int) (t:Int):Ak (Ga r c l i k v t)=true:=O7 fun _ _=>Apx h
theorem Pq (r c:Nat) (l:List Int) (i k:Int) (v:List Int) (t:Int):(Ga r c l i k v t).length=r*c:=Cf _ _ _
theorem Apn {r c:Nat} {l:List Int} (h:Ak l=true) (j:Nat) {x:Int} (hx:Ao x=true):Ak (Po r c l j x)=true:=O7 fun a b=>by
 split
 ·split
  ·exact hx
  ·exact Nf
 ·exact Zs h
theorem Sa (r c:Nat) (l:List Int) (j:Nat):(Ov r c l j).length=r*c:=by unfold Ov Po; exact Cf _ _ _
theorem Tj {r c:Nat} {l:List Int} (h:Ak l=true) (j:Nat):Ak (Ov r c l j)=true:=Apn (Aec h _ _ _ _) _ (Zh (Oa h)).2.2
def Ahp (r:Nat):Nat→List (List Int × Int)→Prop
 | _,[]=>True
 | j,m::ms=>(Ak m.1=true∧Ao m.2=true∧m.1.length+j=r)∧Ahp r (j+1) ms
theorem Abx (r c:Nat):∀ (n j:Nat) (l:List Int) (x:List Int × List (List Int × Int)),Ak l=true→l.length=r*c→j+n≤r→I9 r c n j l=some x→Ak x.1=true∧x.1.length=r*c∧x.2.length=n∧Ahp r j x.2
 | 0,j,l,x,ha,hl,_,h=>by
   cases h
   exact ⟨ha,hl,rfl,trivial⟩
 | n+1,j,l,x,ha,hl,hj,h=>by
   unfold I9 at h
   by_cases h1:(Bu (De r c l j)).2.2.2=0
   ·rw [A58 h1,Option.map_eq_some_iff] at h
    obtain ⟨y,hy,rfl⟩:=h
    obtain ⟨a1,a2,a3,a4⟩:=Abx r c n (j+1) _ y (Tj ha j) (Sa r c l j) (by omega) hy
    have hm:=Zh (x:=De r c l j) (Oa ha)
    have hlen:=P5 h1
    refine ⟨a1,a2,by rw [List.length_cons,a3],⟨hm.1,hm.2.1,?_⟩,a4⟩
    show (Bu (De r c l j)).1.length+j=r
    rw [hlen]
    unfold De
    rw [Gl]
    omega
   ·rw [A57 h1] at h; cases h
theorem Zm (n:Nat):Ak (K9 n)=true:=O7 fun i k=>by
 unfold Uy
 split
 ·exact Ar0
 ·exact Nf
theorem Wr (n:Nat):∀ (ms:List (List Int × Int)) (j:Nat) (q:List Int),Ak q=true→q.length=n*n→Ak (Kl n j ms q)=true∧(Kl n j ms q).length=n*n
 | [],_,_,h1,h2=>⟨h1,h2⟩
 | m::ms,j,q,h1,h2=>by
   unfold Kl
   exact ⟨Aec (Wr n ms (j+1) q h1 h2).1 _ _ _ _,Pq _ _ _ _ _ _ _⟩
theorem Amt {r c:Nat} {l:List Int} (h:(Im r c l).isSome=true):Ak (I6 r c l)=true∧(I6 r c l).length=r*r:=by
 unfold I6
 cases hd:Im r c l with
 | none=>rw [hd] at h; cases h
 | some x=>exact Wr r x.2 0 _ (Zm r) (by unfold K9; exact Cf _ _ _)
theorem Ams {r c:Nat} {l:List Int} (ha:Ak l=true) (hl:l.length=r*c) (h:(Im r c l).isSome=true):Ak (Hq r c l)=true∧(Hq r c l).length=r*c:=by
 unfold Hq
 cases hd:Im r c l with
 | none=>rw [hd] at h; cases h
 | some x =>
   have hn:Fj r c≤r:=by unfold Fj; omega
   have:=Abx r c (Fj r c) 0 l x ha hl (by omega) hd
   exact ⟨this.1,this.2.1⟩
end Go.Cv
namespace Go.Cv
open Go.Den
theorem Kh (n:Nat):H0 n=!(decide (Aj n=3)||decide (Aj n=4)):=by
 have:=Kz n
 unfold H0 Aj
 by_cases h:Dx n=2047
 ·by_cases h2:C2 n=0<;>simp [h,h2]
 ·have h3:Dx n<2047:=by omega
  by_cases h4:0<Dx n
  ·simp [h,h3,h4]
  ·by_cases h5:0<C2 n<;>simp [h,h3,h4,h5]
theorem Y9 (s:Bool) (m:Nat):(H3 s m).natAbs=m:=by unfold H3; split<;>omega
theorem Acp {b:Nat} (h:b<2^64) (g:Int):E9 (D5 b) g=-(E9 b g)∧Av (D5 b)=Av b∧H0 (D5 b)=H0 b:=by
 obtain ⟨h1,h2,h3⟩:=Kf h
 have hm:An (D5 b)=An b:=by unfold An; rw [h2,h3]
 have he:Av (D5 b)=Av b:=by unfold Av; rw [h2]
 refine ⟨?_,he,by unfold H0; rw [h2]⟩
 unfold E9
 rw [h1,hm,he]
 unfold H3
 cases Br b
 ·rfl
 ·show ((_:Nat):Int)=- -((_:Nat):Int)
  omega
end Go.Cv
end
