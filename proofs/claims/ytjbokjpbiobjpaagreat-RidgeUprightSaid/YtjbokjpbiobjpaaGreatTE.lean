/- A verified evaluator of the program's form and its use for this seat: S1Env, Rnd, Flt, Words, NearL, IeeL, OrdL, MulL, Limb, DyL, DyV, ExactL, MulW, SumL, MatL, MatW, PowL, RootL, ScaleL, SolW, TriL, HouW, LseW, GgW, RidW, WhoW. -/
import Derived.Test.YtjbokjpbiobjpaaGreatProg
import Derived.Test.YtjbokjpbiobjpaaGreatTD
set_option linter.unusedVariables false
set_option linter.unusedSimpArgs false
noncomputable section
open Int (toNat)
open List (length getD)
namespace Go.Proofs.S1
open Go Go.Den Go.Proofs
set_option maxRecDepth 100000
abbrev tB:Nat:=37
abbrev tMR:Nat:=214
abbrev tW:Nat:=173
def tys:List (Nat × TI):=[
 (2,⟨1,8,(.int .i64),[.int .i64 (0:Int)]⟩),
 (3,⟨1,8,(.int .i64),[.int .i64 (0:Int)]⟩),
 (4,⟨1,1,.bool,[.bool false]⟩),
 (5,⟨1,1,(.int .u8),[.int .u8 (0:Int)]⟩),
 (22,⟨1,24,(.slice 37),[.nil]⟩),
 (24,⟨3,40,(.struct [(0,3),(1,3),(2,22)]),[.int .i64 (0:Int),.int .i64 (0:Int),.nil]⟩),
 (25,⟨1,8,(.int .i64),[.int .i64 (0:Int)]⟩),
 (36,⟨1,8,(.int .u64),[.int .u64 (0:Int)]⟩),
 (37,⟨1,8,(.int .u64),[.int .u64 (0:Int)]⟩),
 (38,⟨1,24,(.slice 41),[.nil]⟩),
 (41,⟨1,1,(.int .i8),[.int .i8 (0:Int)]⟩),
 (43,⟨1,24,(.slice 173),[.nil]⟩),
 (45,⟨2,32,(.struct [(0,4),(1,43)]),[.bool false,.nil]⟩),
 (47,⟨3,40,(.struct [(0,45),(2,3)]),[.bool false,.nil,.int .i64 (0:Int)]⟩),
 (57,⟨12,160,(.struct [(0,24),(3,24),(6,24),(9,24)]),[.int .i64 (0:Int),.int .i64 (0:Int),.nil,.int .i64 (0:Int),.int .i64 (0:Int),.nil,.int .i64 (0:Int),.int .i64 (0:Int),.nil,.int .i64 (0:Int),.int .i64 (0:Int),.nil]⟩),
 (60,⟨12,160,(.struct [(0,24),(3,24),(6,24),(9,24)]),[.int .i64 (0:Int),.int .i64 (0:Int),.nil,.int .i64 (0:Int),.int .i64 (0:Int),.nil,.int .i64 (0:Int),.int .i64 (0:Int),.nil,.int .i64 (0:Int),.int .i64 (0:Int),.nil]⟩),
 (71,⟨9,120,(.struct [(0,24),(3,24),(6,24)]),[.int .i64 (0:Int),.int .i64 (0:Int),.nil,.int .i64 (0:Int),.int .i64 (0:Int),.nil,.int .i64 (0:Int),.int .i64 (0:Int),.nil]⟩),
 (74,⟨9,120,(.struct [(0,24),(3,24),(6,24)]),[.int .i64 (0:Int),.int .i64 (0:Int),.nil,.int .i64 (0:Int),.int .i64 (0:Int),.nil,.int .i64 (0:Int),.int .i64 (0:Int),.nil]⟩),
 (80,⟨7,88,(.struct [(0,24),(3,24),(6,25)]),[.int .i64 (0:Int),.int .i64 (0:Int),.nil,.int .i64 (0:Int),.int .i64 (0:Int),.nil,.int .i64 (0:Int)]⟩),
 (88,⟨9,120,(.struct [(0,24),(3,24),(6,24)]),[.int .i64 (0:Int),.int .i64 (0:Int),.nil,.int .i64 (0:Int),.int .i64 (0:Int),.nil,.int .i64 (0:Int),.int .i64 (0:Int),.nil]⟩),
 (91,⟨1,24,(.slice 24),[.nil]⟩),
 (102,⟨1,8,(.int .i64),[.int .i64 (0:Int)]⟩),
 (114,⟨6,80,(.array 2 24),[.int .i64 (0:Int),.int .i64 (0:Int),.nil,.int .i64 (0:Int),.int .i64 (0:Int),.nil]⟩),
 (118,⟨7,88,(.struct [(0,24),(3,24),(6,4)]),[.int .i64 (0:Int),.int .i64 (0:Int),.nil,.int .i64 (0:Int),.int .i64 (0:Int),.nil,.bool false]⟩),
 (121,⟨1,8,.fl,[.fl 0]⟩),
 (131,⟨1,24,(.slice 47),[.nil]⟩),
 (134,⟨1,24,(.slice 135),[.nil]⟩),
 (135,⟨1,24,(.slice 45),[.nil]⟩),
 (145,⟨9,120,(.array 3 24),[.int .i64 (0:Int),.int .i64 (0:Int),.nil,.int .i64 (0:Int),.int .i64 (0:Int),.nil,.int .i64 (0:Int),.int .i64 (0:Int),.nil]⟩),
 (147,⟨15,200,(.struct [(0,24),(3,24),(6,24),(9,24),(12,24)]),[.int .i64 (0:Int),.int .i64 (0:Int),.nil,.int .i64 (0:Int),.int .i64 (0:Int),.nil,.int .i64 (0:Int),.int .i64 (0:Int),.nil,.int .i64 (0:Int),.int .i64 (0:Int),.nil,.int .i64 (0:Int),.int .i64 (0:Int),.nil]⟩),
 (155,⟨3,40,(.struct [(0,3),(1,3),(2,131)]),[.int .i64 (0:Int),.int .i64 (0:Int),.nil]⟩),
 (166,⟨1,1,(.int .u8),[.int .u8 (0:Int)]⟩),
 (173,⟨1,4,(.int .u32),[.int .u32 (0:Int)]⟩),
 (183,⟨12,160,(.array 4 24),[.int .i64 (0:Int),.int .i64 (0:Int),.nil,.int .i64 (0:Int),.int .i64 (0:Int),.nil,.int .i64 (0:Int),.int .i64 (0:Int),.nil,.int .i64 (0:Int),.int .i64 (0:Int),.nil]⟩),
 (188,⟨2,16,(.array 2 3),[.int .i64 (0:Int),.int .i64 (0:Int)]⟩),
 (189,⟨1,24,(.slice 191),[.nil]⟩),
 (191,⟨3,40,(.struct [(0,22),(1,37),(2,37)]),[.nil,.int .u64 (0:Int),.int .u64 (0:Int)]⟩),
 (199,⟨3,24,(.struct [(0,4),(1,3),(2,36)]),[.bool false,.int .i64 (0:Int),.int .u64 (0:Int)]⟩),
 (208,⟨1,24,(.slice 214),[.nil]⟩),
 (214,⟨2,32,(.struct [(0,22),(1,37)]),[.nil,.int .u64 (0:Int)]⟩)]
theorem ty2:Cc Tryz.prog 2 ⟨1,8,(.int .i64),[.int .i64 (0:Int)]⟩:=Cg (z:=.int .i64 (0:Int)) (by kernel_rfl) (fun c w=>by simp [Ba,Ap,Value.cells]) rfl (by simp [Value.cells,Value.oneCell']) (by simp only [Cl]; exact Tryz.underlying2)
theorem ty3:Cc Tryz.prog 3 ⟨1,8,(.int .i64),[.int .i64 (0:Int)]⟩:=Cg (z:=.int .i64 (0:Int)) (by kernel_rfl) (fun c w=>by simp [Ba,Ap,Value.cells]) rfl (by simp [Value.cells,Value.oneCell']) (by simp only [Cl]; exact Tryz.underlying3)
theorem ty4:Cc Tryz.prog 4 ⟨1,1,.bool,[.bool false]⟩:=Cg (z:=.bool false) (by kernel_rfl) (fun c w=>by simp [Ba,Ap,Value.cells]) rfl (by simp [Value.cells,Value.oneCell']) (by simp only [Cl]; exact Tryz.underlying4)
theorem ty5:Cc Tryz.prog 5 ⟨1,1,(.int .u8),[.int .u8 (0:Int)]⟩:=Cg (z:=.int .u8 (0:Int)) (by kernel_rfl) (fun c w=>by simp [Ba,Ap,Value.cells]) rfl (by simp [Value.cells,Value.oneCell']) (by simp only [Cl]; exact Tryz.underlying5)
theorem A6g:Cc Tryz.prog 22 ⟨1,24,(.slice 37),[.nil]⟩:=Cg (z:=.slice none 0 0) (by kernel_rfl) (fun c w=>by simp [Ba,Ap,Value.cells]) rfl (by simp [Value.cells,Value.oneCell']) (by simp only [Cl]; exact Tryz.underlying22)
theorem A6f:Cc Tryz.prog 24 ⟨3,40,(.struct [(0,3),(1,3),(2,22)]),[.int .i64 (0:Int),.int .i64 (0:Int),.nil]⟩:=Cg (z:=.agg #[.int .i64 (0:Int),.int .i64 (0:Int),.slice none 0 0]) (by kernel_rfl) (fun c w=>by simp [Ba,Ap,Value.cells]) rfl (by simp [Value.cells,Value.oneCell']) (by simp only [Cl]; exact ⟨_,Tryz.underlying24,by kernel_rfl⟩)
theorem A6e:Cc Tryz.prog 25 ⟨1,8,(.int .i64),[.int .i64 (0:Int)]⟩:=Cg (z:=.int .i64 (0:Int)) (by kernel_rfl) (fun c w=>by simp [Ba,Ap,Value.cells]) rfl (by simp [Value.cells,Value.oneCell']) (by simp only [Cl]; exact Tryz.underlying25)
theorem A26:Cc Tryz.prog 36 ⟨1,8,(.int .u64),[.int .u64 (0:Int)]⟩:=Cg (z:=.int .u64 (0:Int)) (by kernel_rfl) (fun c w=>by simp [Ba,Ap,Value.cells]) rfl (by simp [Value.cells,Value.oneCell']) (by simp only [Cl]; exact Tryz.underlying36)
theorem A6d:Cc Tryz.prog 37 ⟨1,8,(.int .u64),[.int .u64 (0:Int)]⟩:=Cg (z:=.int .u64 (0:Int)) (by kernel_rfl) (fun c w=>by simp [Ba,Ap,Value.cells]) rfl (by simp [Value.cells,Value.oneCell']) (by simp only [Cl]; exact Tryz.underlying37)
theorem A6c:Cc Tryz.prog 38 ⟨1,24,(.slice 41),[.nil]⟩:=Cg (z:=.slice none 0 0) (by kernel_rfl) (fun c w=>by simp [Ba,Ap,Value.cells]) rfl (by simp [Value.cells,Value.oneCell']) (by simp only [Cl]; exact Tryz.underlying38)
theorem A6b:Cc Tryz.prog 41 ⟨1,1,(.int .i8),[.int .i8 (0:Int)]⟩:=Cg (z:=.int .i8 (0:Int)) (by kernel_rfl) (fun c w=>by simp [Ba,Ap,Value.cells]) rfl (by simp [Value.cells,Value.oneCell']) (by simp only [Cl]; exact Tryz.underlying41)
theorem A6a:Cc Tryz.prog 43 ⟨1,24,(.slice 173),[.nil]⟩:=Cg (z:=.slice none 0 0) (by kernel_rfl) (fun c w=>by simp [Ba,Ap,Value.cells]) rfl (by simp [Value.cells,Value.oneCell']) (by simp only [Cl]; exact Tryz.underlying43)
theorem A59:Cc Tryz.prog 45 ⟨2,32,(.struct [(0,4),(1,43)]),[.bool false,.nil]⟩:=Cg (z:=.agg #[.bool false,.slice none 0 0]) (by kernel_rfl) (fun c w=>by simp [Ba,Ap,Value.cells]) rfl (by simp [Value.cells,Value.oneCell']) (by simp only [Cl]; exact ⟨_,Tryz.underlying45,by kernel_rfl⟩)
theorem A58:Cc Tryz.prog 47 ⟨3,40,(.struct [(0,45),(2,3)]),[.bool false,.nil,.int .i64 (0:Int)]⟩:=Cg (z:=.agg #[.bool false,.slice none 0 0,.int .i64 (0:Int)]) (by kernel_rfl) (fun c w=>by simp [Ba,Ap,Value.cells]) rfl (by simp [Value.cells,Value.oneCell']) (by simp only [Cl]; exact ⟨_,Tryz.underlying47,by kernel_rfl⟩)
theorem A57:Cc Tryz.prog 57 ⟨12,160,(.struct [(0,24),(3,24),(6,24),(9,24)]),[.int .i64 (0:Int),.int .i64 (0:Int),.nil,.int .i64 (0:Int),.int .i64 (0:Int),.nil,.int .i64 (0:Int),.int .i64 (0:Int),.nil,.int .i64 (0:Int),.int .i64 (0:Int),.nil]⟩:=Cg (z:=.agg #[.int .i64 (0:Int),.int .i64 (0:Int),.slice none 0 0,.int .i64 (0:Int),.int .i64 (0:Int),.slice none 0 0,.int .i64 (0:Int),.int .i64 (0:Int),.slice none 0 0,.int .i64 (0:Int),.int .i64 (0:Int),.slice none 0 0]) (by kernel_rfl) (fun c w=>by simp [Ba,Ap,Value.cells]) rfl (by simp [Value.cells,Value.oneCell']) (by simp only [Cl]; exact ⟨_,Tryz.underlying57,by kernel_rfl⟩)
theorem A56:Cc Tryz.prog 60 ⟨12,160,(.struct [(0,24),(3,24),(6,24),(9,24)]),[.int .i64 (0:Int),.int .i64 (0:Int),.nil,.int .i64 (0:Int),.int .i64 (0:Int),.nil,.int .i64 (0:Int),.int .i64 (0:Int),.nil,.int .i64 (0:Int),.int .i64 (0:Int),.nil]⟩:=Cg (z:=.agg #[.int .i64 (0:Int),.int .i64 (0:Int),.slice none 0 0,.int .i64 (0:Int),.int .i64 (0:Int),.slice none 0 0,.int .i64 (0:Int),.int .i64 (0:Int),.slice none 0 0,.int .i64 (0:Int),.int .i64 (0:Int),.slice none 0 0]) (by kernel_rfl) (fun c w=>by simp [Ba,Ap,Value.cells]) rfl (by simp [Value.cells,Value.oneCell']) (by simp only [Cl]; exact ⟨_,Tryz.underlying60,by kernel_rfl⟩)
theorem A55:Cc Tryz.prog 71 ⟨9,120,(.struct [(0,24),(3,24),(6,24)]),[.int .i64 (0:Int),.int .i64 (0:Int),.nil,.int .i64 (0:Int),.int .i64 (0:Int),.nil,.int .i64 (0:Int),.int .i64 (0:Int),.nil]⟩:=Cg (z:=.agg #[.int .i64 (0:Int),.int .i64 (0:Int),.slice none 0 0,.int .i64 (0:Int),.int .i64 (0:Int),.slice none 0 0,.int .i64 (0:Int),.int .i64 (0:Int),.slice none 0 0]) (by kernel_rfl) (fun c w=>by simp [Ba,Ap,Value.cells]) rfl (by simp [Value.cells,Value.oneCell']) (by simp only [Cl]; exact ⟨_,Tryz.underlying71,by kernel_rfl⟩)
theorem A54:Cc Tryz.prog 74 ⟨9,120,(.struct [(0,24),(3,24),(6,24)]),[.int .i64 (0:Int),.int .i64 (0:Int),.nil,.int .i64 (0:Int),.int .i64 (0:Int),.nil,.int .i64 (0:Int),.int .i64 (0:Int),.nil]⟩:=Cg (z:=.agg #[.int .i64 (0:Int),.int .i64 (0:Int),.slice none 0 0,.int .i64 (0:Int),.int .i64 (0:Int),.slice none 0 0,.int .i64 (0:Int),.int .i64 (0:Int),.slice none 0 0]) (by kernel_rfl) (fun c w=>by simp [Ba,Ap,Value.cells]) rfl (by simp [Value.cells,Value.oneCell']) (by simp only [Cl]; exact ⟨_,Tryz.underlying74,by kernel_rfl⟩)
theorem A53:Cc Tryz.prog 80 ⟨7,88,(.struct [(0,24),(3,24),(6,25)]),[.int .i64 (0:Int),.int .i64 (0:Int),.nil,.int .i64 (0:Int),.int .i64 (0:Int),.nil,.int .i64 (0:Int)]⟩:=Cg (z:=.agg #[.int .i64 (0:Int),.int .i64 (0:Int),.slice none 0 0,.int .i64 (0:Int),.int .i64 (0:Int),.slice none 0 0,.int .i64 (0:Int)]) (by kernel_rfl) (fun c w=>by simp [Ba,Ap,Value.cells]) rfl (by simp [Value.cells,Value.oneCell']) (by simp only [Cl]; exact ⟨_,Tryz.underlying80,by kernel_rfl⟩)
theorem A52:Cc Tryz.prog 88 ⟨9,120,(.struct [(0,24),(3,24),(6,24)]),[.int .i64 (0:Int),.int .i64 (0:Int),.nil,.int .i64 (0:Int),.int .i64 (0:Int),.nil,.int .i64 (0:Int),.int .i64 (0:Int),.nil]⟩:=Cg (z:=.agg #[.int .i64 (0:Int),.int .i64 (0:Int),.slice none 0 0,.int .i64 (0:Int),.int .i64 (0:Int),.slice none 0 0,.int .i64 (0:Int),.int .i64 (0:Int),.slice none 0 0]) (by kernel_rfl) (fun c w=>by simp [Ba,Ap,Value.cells]) rfl (by simp [Value.cells,Value.oneCell']) (by simp only [Cl]; exact ⟨_,Tryz.underlying88,by kernel_rfl⟩)
theorem A51:Cc Tryz.prog 91 ⟨1,24,(.slice 24),[.nil]⟩:=Cg (z:=.slice none 0 0) (by kernel_rfl) (fun c w=>by simp [Ba,Ap,Value.cells]) rfl (by simp [Value.cells,Value.oneCell']) (by simp only [Cl]; exact Tryz.underlying91)
theorem A3p:Cc Tryz.prog 102 ⟨1,8,(.int .i64),[.int .i64 (0:Int)]⟩:=Cg (z:=.int .i64 (0:Int)) (by kernel_rfl) (fun c w=>by simp [Ba,Ap,Value.cells]) rfl (by simp [Value.cells,Value.oneCell']) (by simp only [Cl]; exact Tryz.underlying102)
theorem A3o:Cc Tryz.prog 114 ⟨6,80,(.array 2 24),[.int .i64 (0:Int),.int .i64 (0:Int),.nil,.int .i64 (0:Int),.int .i64 (0:Int),.nil]⟩:=Cg (z:=.agg #[.int .i64 (0:Int),.int .i64 (0:Int),.slice none 0 0,.int .i64 (0:Int),.int .i64 (0:Int),.slice none 0 0]) (by kernel_rfl) (fun c w=>by simp [Ba,Ap,Value.cells]) rfl (by simp [Value.cells,Value.oneCell']) (by simp only [Cl]; exact Tryz.underlying114)
theorem A3n:Cc Tryz.prog 118 ⟨7,88,(.struct [(0,24),(3,24),(6,4)]),[.int .i64 (0:Int),.int .i64 (0:Int),.nil,.int .i64 (0:Int),.int .i64 (0:Int),.nil,.bool false]⟩:=Cg (z:=.agg #[.int .i64 (0:Int),.int .i64 (0:Int),.slice none 0 0,.int .i64 (0:Int),.int .i64 (0:Int),.slice none 0 0,.bool false]) (by kernel_rfl) (fun c w=>by simp [Ba,Ap,Value.cells]) rfl (by simp [Value.cells,Value.oneCell']) (by simp only [Cl]; exact ⟨_,Tryz.underlying118,by kernel_rfl⟩)
theorem A3m:Cc Tryz.prog 121 ⟨1,8,.fl,[.fl 0]⟩:=Cg (z:=.float .f64 0) (by kernel_rfl) (fun c w=>by simp [Ba,Ap,Value.cells,Sr]) rfl (by simp [Value.cells,Value.oneCell']) (by simp only [Cl]; exact Tryz.underlying121)
theorem A3l:Cc Tryz.prog 131 ⟨1,24,(.slice 47),[.nil]⟩:=Cg (z:=.slice none 0 0) (by kernel_rfl) (fun c w=>by simp [Ba,Ap,Value.cells]) rfl (by simp [Value.cells,Value.oneCell']) (by simp only [Cl]; exact Tryz.underlying131)
theorem A3k:Cc Tryz.prog 134 ⟨1,24,(.slice 135),[.nil]⟩:=Cg (z:=.slice none 0 0) (by kernel_rfl) (fun c w=>by simp [Ba,Ap,Value.cells]) rfl (by simp [Value.cells,Value.oneCell']) (by simp only [Cl]; exact Tryz.underlying134)
theorem A3j:Cc Tryz.prog 135 ⟨1,24,(.slice 45),[.nil]⟩:=Cg (z:=.slice none 0 0) (by kernel_rfl) (fun c w=>by simp [Ba,Ap,Value.cells]) rfl (by simp [Value.cells,Value.oneCell']) (by simp only [Cl]; exact Tryz.underlying135)
theorem A3i:Cc Tryz.prog 145 ⟨9,120,(.array 3 24),[.int .i64 (0:Int),.int .i64 (0:Int),.nil,.int .i64 (0:Int),.int .i64 (0:Int),.nil,.int .i64 (0:Int),.int .i64 (0:Int),.nil]⟩:=Cg (z:=.agg #[.int .i64 (0:Int),.int .i64 (0:Int),.slice none 0 0,.int .i64 (0:Int),.int .i64 (0:Int),.slice none 0 0,.int .i64 (0:Int),.int .i64 (0:Int),.slice none 0 0]) (by kernel_rfl) (fun c w=>by simp [Ba,Ap,Value.cells]) rfl (by simp [Value.cells,Value.oneCell']) (by simp only [Cl]; exact Tryz.underlying145)
theorem A3h:Cc Tryz.prog 147 ⟨15,200,(.struct [(0,24),(3,24),(6,24),(9,24),(12,24)]),[.int .i64 (0:Int),.int .i64 (0:Int),.nil,.int .i64 (0:Int),.int .i64 (0:Int),.nil,.int .i64 (0:Int),.int .i64 (0:Int),.nil,.int .i64 (0:Int),.int .i64 (0:Int),.nil,.int .i64 (0:Int),.int .i64 (0:Int),.nil]⟩:=Cg (z:=.agg #[.int .i64 (0:Int),.int .i64 (0:Int),.slice none 0 0,.int .i64 (0:Int),.int .i64 (0:Int),.slice none 0 0,.int .i64 (0:Int),.int .i64 (0:Int),.slice none 0 0,.int .i64 (0:Int),.int .i64 (0:Int),.slice none 0 0,.int .i64 (0:Int),.int .i64 (0:Int),.slice none 0 0]) (by kernel_rfl) (fun c w=>by simp [Ba,Ap,Value.cells]) rfl (by simp [Value.cells,Value.oneCell']) (by simp only [Cl]; exact ⟨_,Tryz.underlying147,by kernel_rfl⟩)
theorem A3g:Cc Tryz.prog 155 ⟨3,40,(.struct [(0,3),(1,3),(2,131)]),[.int .i64 (0:Int),.int .i64 (0:Int),.nil]⟩:=Cg (z:=.agg #[.int .i64 (0:Int),.int .i64 (0:Int),.slice none 0 0]) (by kernel_rfl) (fun c w=>by simp [Ba,Ap,Value.cells]) rfl (by simp [Value.cells,Value.oneCell']) (by simp only [Cl]; exact ⟨_,Tryz.underlying155,by kernel_rfl⟩)
theorem A3f:Cc Tryz.prog 166 ⟨1,1,(.int .u8),[.int .u8 (0:Int)]⟩:=Cg (z:=.int .u8 (0:Int)) (by kernel_rfl) (fun c w=>by simp [Ba,Ap,Value.cells]) rfl (by simp [Value.cells,Value.oneCell']) (by simp only [Cl]; exact Tryz.underlying166)
theorem A3e:Cc Tryz.prog 173 ⟨1,4,(.int .u32),[.int .u32 (0:Int)]⟩:=Cg (z:=.int .u32 (0:Int)) (by kernel_rfl) (fun c w=>by simp [Ba,Ap,Value.cells]) rfl (by simp [Value.cells,Value.oneCell']) (by simp only [Cl]; exact Tryz.underlying173)
theorem A3d:Cc Tryz.prog 183 ⟨12,160,(.array 4 24),[.int .i64 (0:Int),.int .i64 (0:Int),.nil,.int .i64 (0:Int),.int .i64 (0:Int),.nil,.int .i64 (0:Int),.int .i64 (0:Int),.nil,.int .i64 (0:Int),.int .i64 (0:Int),.nil]⟩:=Cg (z:=.agg #[.int .i64 (0:Int),.int .i64 (0:Int),.slice none 0 0,.int .i64 (0:Int),.int .i64 (0:Int),.slice none 0 0,.int .i64 (0:Int),.int .i64 (0:Int),.slice none 0 0,.int .i64 (0:Int),.int .i64 (0:Int),.slice none 0 0]) (by kernel_rfl) (fun c w=>by simp [Ba,Ap,Value.cells]) rfl (by simp [Value.cells,Value.oneCell']) (by simp only [Cl]; exact Tryz.underlying183)
theorem A3c:Cc Tryz.prog 188 ⟨2,16,(.array 2 3),[.int .i64 (0:Int),.int .i64 (0:Int)]⟩:=Cg (z:=.agg #[.int .i64 (0:Int),.int .i64 (0:Int)]) (by kernel_rfl) (fun c w=>by simp [Ba,Ap,Value.cells]) rfl (by simp [Value.cells,Value.oneCell']) (by simp only [Cl]; exact Tryz.underlying188)
theorem A3b:Cc Tryz.prog 189 ⟨1,24,(.slice 191),[.nil]⟩:=Cg (z:=.slice none 0 0) (by kernel_rfl) (fun c w=>by simp [Ba,Ap,Value.cells]) rfl (by simp [Value.cells,Value.oneCell']) (by simp only [Cl]; exact Tryz.underlying189)
theorem A3a:Cc Tryz.prog 191 ⟨3,40,(.struct [(0,22),(1,37),(2,37)]),[.nil,.int .u64 (0:Int),.int .u64 (0:Int)]⟩:=Cg (z:=.agg #[.slice none 0 0,.int .u64 (0:Int),.int .u64 (0:Int)]) (by kernel_rfl) (fun c w=>by simp [Ba,Ap,Value.cells]) rfl (by simp [Value.cells,Value.oneCell']) (by simp only [Cl]; exact ⟨_,Tryz.underlying191,by kernel_rfl⟩)
theorem A29:Cc Tryz.prog 199 ⟨3,24,(.struct [(0,4),(1,3),(2,36)]),[.bool false,.int .i64 (0:Int),.int .u64 (0:Int)]⟩:=Cg (z:=.agg #[.bool false,.int .i64 (0:Int),.int .u64 (0:Int)]) (by kernel_rfl) (fun c w=>by simp [Ba,Ap,Value.cells]) rfl (by simp [Value.cells,Value.oneCell']) (by simp only [Cl]; exact ⟨_,Tryz.underlying199,by kernel_rfl⟩)
theorem A28:Cc Tryz.prog 208 ⟨1,24,(.slice 214),[.nil]⟩:=Cg (z:=.slice none 0 0) (by kernel_rfl) (fun c w=>by simp [Ba,Ap,Value.cells]) rfl (by simp [Value.cells,Value.oneCell']) (by simp only [Cl]; exact Tryz.underlying208)
theorem A27:Cc Tryz.prog 214 ⟨2,32,(.struct [(0,22),(1,37)]),[.nil,.int .u64 (0:Int)]⟩:=Cg (z:=.agg #[.slice none 0 0,.int .u64 (0:Int)]) (by kernel_rfl) (fun c w=>by simp [Ba,Ap,Value.cells]) rfl (by simp [Value.cells,Value.oneCell']) (by simp only [Cl]; exact ⟨_,Tryz.underlying214,by kernel_rfl⟩)
theorem A0x:Uv Tryz.prog tys:=.cons ty2 <| .cons ty3 <| .cons ty4 <| .cons ty5 <| .cons A6g <| .cons A6f <| .cons A6e <| .cons A26 <| .cons A6d <| .cons A6c <| .cons A6b <| .cons A6a <| .cons A59 <| .cons A58 <| .cons A57 <| .cons A56 <| .cons A55 <| .cons A54 <| .cons A53 <| .cons A52 <| .cons A51 <| .cons A3p <| .cons A3o <| .cons A3n <| .cons A3m <| .cons A3l <| .cons A3k <| .cons A3j <| .cons A3i <| .cons A3h <| .cons A3g <| .cons A3f <| .cons A3e <| .cons A3d <| .cons A3c <| .cons A3b <| .cons A3a <| .cons A29 <| .cons A28 <| .cons A27 <| .nil
def exts:List (Nat × Ext):=[(169,.bits),(210,.frombits),(263,.sqrt),(266,.sub64)]
def Aj6:List (Nat × Ext)→Nat→Option Ext
 | [],_=>none
 | (m,e)::l,n=>bif Nat.beq m n then some e else Aj6 l n
theorem Avx (args:Array Value) (w:World):(callFunc 169 args).run Tryz.prog w=((V1 .bits args).run Tryz.prog w).andThen fun v w'=>.ok (.value v) w':=run_callFunc_extern (e:=Extern.MathFloatBits.float64bits) Tryz.func169 (by kernel_rfl) (by kernel_rfl) (by kernel_rfl) (by kernel_rfl) args w
theorem Avw (args:Array Value) (w:World):(callFunc 210 args).run Tryz.prog w=((V1 .frombits args).run Tryz.prog w).andThen fun v w'=>.ok (.value v) w':=run_callFunc_extern (e:=Extern.MathFloatBits.float64frombits) Tryz.func210 (by kernel_rfl) (by kernel_rfl) (by kernel_rfl) (by kernel_rfl) args w
theorem Avv (args:Array Value) (w:World):(callFunc 263 args).run Tryz.prog w=((V1 .sqrt args).run Tryz.prog w).andThen fun v w'=>.ok (.value v) w':=run_callFunc_extern (e:=Extern.MathSqrt.sqrt) Tryz.func263 (by kernel_rfl) (by kernel_rfl) (by kernel_rfl) (by kernel_rfl) args w
theorem Avu (args:Array Value) (w:World):(callFunc 266 args).run Tryz.prog w=((V1 .sub64 args).run Tryz.prog w).andThen fun v w'=>.ok (.value v) w':=run_callFunc_extern (e:=Abe) Tryz.func266 (by kernel_rfl) (by kernel_rfl) (by kernel_rfl) (by kernel_rfl) args w
def A2e:List Nat:=[199,188]
theorem A5g:Ah1 Tryz.prog 199 ⟨3,24,(.struct [(0,4),(1,3),(2,36)]),[.bool false,.int .i64 (0:Int),.int .u64 (0:Int)]⟩ where
 guard:=by kernel_rfl
 eq:=by
  intro w c x y xs ys hx hy hlx hly
  obtain ⟨a0,x1,rfl,hx1⟩:=Abl hx
  obtain ⟨a1,x2,rfl,hx2⟩:=K1 hx1
  obtain ⟨a2,x3,rfl,hx3⟩:=K1 hx2
  obtain rfl:=T5 hx3
  obtain ⟨b0,y1,rfl,hy1⟩:=Abl hy
  obtain ⟨b1,y2,rfl,hy2⟩:=K1 hy1
  obtain ⟨b2,y3,rfl,hy3⟩:=K1 hy2
  obtain rfl:=T5 hy3
  obtain ⟨xs⟩:=xs
  obtain ⟨ys⟩:=ys
  simp only [Ba.C2,Ba.Hb,Ap] at hlx hly
  obtain ⟨_,_,rfl,rfl,_,_,rfl,rfl,_,_,rfl,rfl,rfl⟩:=hlx
  obtain ⟨_,_,rfl,rfl,_,_,rfl,rfl,_,_,rfl,rfl,rfl⟩:=hly
  have hu:Tryz.prog.underlying 199=some (.struct (Tryz.prog.fieldsOf 199)):=by kernel_rfl
  have hp:Tryz.prog.stoodInHeld 199=false:=by kernel_rfl
  unfold Op.equal Op.maxDepth
  rw [run_equalIn_struct w 9999 199 _ _ hu hp]
  have hfs:Tryz.prog.fieldsOf 199=(match Tryz.prog.underlying 199 with | some (.struct fs)=>fs | _=>#[]):=rfl
  rw [hfs,Tryz.underlying199]
  simp [Op.eqFields,Oe w ty3 rfl,Oe w ty4 rfl,Oe w A26 rfl,run_equalIn_int w _ _ _ _ _ _ Tryz.underlying3,run_equalIn_bool w _ _ _ _ Tryz.underlying4,run_equalIn_int w _ _ _ _ _ _ Tryz.underlying36,Afd,Ac5]
  by_cases h0:a0=b0<;>by_cases h1:a1=b1<;>by_cases h2:a2=b2<;>simp [h0,h1,h2]
theorem A5h:Ah1 Tryz.prog 188 ⟨2,16,(.array 2 3),[.int .i64 (0:Int),.int .i64 (0:Int)]⟩ where
 guard:=by kernel_rfl
 eq:=by
  intro w c x y xs ys hx hy hlx hly
  obtain ⟨a0,x1,rfl,hx1⟩:=K1 hx
  obtain ⟨a1,x2,rfl,hx2⟩:=K1 hx1
  obtain rfl:=T5 hx2
  obtain ⟨b0,y1,rfl,hy1⟩:=K1 hy
  obtain ⟨b1,y2,rfl,hy2⟩:=K1 hy1
  obtain rfl:=T5 hy2
  obtain ⟨xs⟩:=xs
  obtain ⟨ys⟩:=ys
  simp only [Ba.C2,Ba.Hb,Ap] at hlx hly
  obtain ⟨_,_,rfl,rfl,_,_,rfl,rfl,rfl⟩:=hlx
  obtain ⟨_,_,rfl,rfl,_,_,rfl,rfl,rfl⟩:=hly
  obtain ⟨i,_,hi,_⟩:=ty3.info
  have hc:Tryz.prog.cellsOf 3=1:=by kernel_rfl
  unfold Op.equal Op.maxDepth
  rw [run_equalIn_array w 9999 _ _ Tryz.underlying188 hi,hc]
  simp [Op.eqItems,List.range,List.range.loop,Oe w ty3 rfl,run_equalIn_int w _ _ _ _ _ _ Tryz.underlying3,Afd,Ac5]
  by_cases h0:a0=b0<;>by_cases h1:a1=b1<;>simp [h0,h1]
def Bk (Bf:Nat→Option Entry) (adopt:Nat→Bool) (hint:Nat→Option Bh) (live:Nat→Option (List Nat)):Env:={ ty:=Ass tys,Bf:=Bf,ext:=Aj6 exts,eqs:=fun t=>Ok t A2e,adopt:=adopt,live:=live,hint:=hint }
theorem A5 {l:List (Nat × Entry)} (h:A3 Tryz.prog l) (adopt:Nat→Bool) (hint:Nat→Option Bh) (live:Nat→Option (List Nat)):Lj Tryz.prog (Bk (Be l) adopt hint live) where
 ty:=fun t ti ht=>A0x.get ht
 Bf:=fun g e hg=>(h.get hg).meets
 call:=fun g e hg=>(h.get hg).call
 ext:=by
  intro g x hx args w
  simp only [Bk,exts,Aj6] at hx
  cases hb:Nat.beq 169 g with
  | true =>
    rw [hb] at hx
    cases hx
    obtain rfl:=A8p hb
    exact Avx args w
  | false =>
  rw [hb,A8b] at hx
  clear hb
  cases hb:Nat.beq 210 g with
  | true =>
    rw [hb] at hx
    cases hx
    obtain rfl:=A8p hb
    exact Avw args w
  | false =>
  rw [hb,A8b] at hx
  clear hb
  cases hb:Nat.beq 263 g with
  | true =>
    rw [hb] at hx
    cases hx
    obtain rfl:=A8p hb
    exact Avv args w
  | false =>
  rw [hb,A8b] at hx
  clear hb
  cases hb:Nat.beq 266 g with
  | true =>
    rw [hb] at hx
    cases hx
    obtain rfl:=A8p hb
    exact Avu args w
  | false =>
  rw [hb,A8b] at hx
  clear hb
  cases hx
 eqs:=by
  intro t ti ht hti
  simp only [Bk,A2e,Ok] at ht hti
  cases hb:Nat.beq t 199 with
  | true =>
    obtain rfl:=A8p hb
    cases hti
    exact A5g
  | false =>
  rw [hb,A8b] at ht
  clear hb
  cases hb:Nat.beq t 188 with
  | true =>
    obtain rfl:=A8p hb
    cases hti
    exact A5h
  | false =>
  rw [hb,A8b] at ht
  clear hb
  cases ht
 mixed:=by kernel_rfl
def A0p:List (Nat × Ext):=[(169,.bitsN),(210,.frombits),(263,.sqrt),(266,.sub64)]
def Ao2:List (Nat × List CK)→Nat→List CK
 | [],_=>[]
 | (m,e)::l,n=>bif Nat.beq m n then e else Ao2 l n
def Ac6 (Bf:Nat→Option Entry) (adopt:Nat→Bool) (hint:Nat→Option Bh) (live:Nat→Option (List Nat)) (adv:Nat→List CK):Env:={ ty:=Ass tys,Bf:=Bf,ext:=Aj6 A0p,eqs:=fun t=>Ok t A2e,adopt:=adopt,live:=live,hint:=hint,adv:=adv }
theorem Ahe {l:List (Nat × Entry)} (h:A3 Tryz.prog l) (adopt:Nat→Bool) (hint:Nat→Option Bh) (live:Nat→Option (List Nat)) (adv:Nat→List CK):Lj Tryz.prog (Ac6 (Be l) adopt hint live adv) :=
 have k:=A5 h adopt hint live
 ⟨k.ty,k.Bf,k.call,(by
  intro g x hx args w
  simp only [Ac6,A0p,Aj6] at hx
  cases hb:Nat.beq 169 g with
  | true =>
    rw [hb] at hx
    cases hx
    obtain rfl:=A8p hb
    exact Avx args w
  | false =>
  rw [hb,A8b] at hx
  clear hb
  cases hb:Nat.beq 210 g with
  | true =>
    rw [hb] at hx
    cases hx
    obtain rfl:=A8p hb
    exact Avw args w
  | false =>
  rw [hb,A8b] at hx
  clear hb
  cases hb:Nat.beq 263 g with
  | true =>
    rw [hb] at hx
    cases hx
    obtain rfl:=A8p hb
    exact Avv args w
  | false =>
  rw [hb,A8b] at hx
  clear hb
  cases hb:Nat.beq 266 g with
  | true =>
    rw [hb] at hx
    cases hx
    obtain rfl:=A8p hb
    exact Avu args w
  | false =>
  rw [hb,A8b] at hx
  clear hb
  cases hx),k.eqs,k.mixed,k.spoil,k.wr⟩
end Go.Proofs.S1
namespace Go.Cv
def Jt (V k:Nat):Nat:=V / 2^k+(if 2^k<2*(V%2^k)∨(2*(V%2^k)=2^k∧V / 2^k%2=1) then 1 else 0)
def J1 (V:Nat) (s:Int):Nat:=Jt (V*2^(-s).toNat) s.toNat
def O2 (V:Nat) (s:Int):Bool:=decide (V*2^(-s).toNat%2^s.toNat=0)
def Bz (M:Nat) (E:Int):Int:=max (E+M.log2-52) (-1074)
def kept (M:Nat) (E:Int):Nat:=J1 M (Bz M E-E)
def Ei:Nat:=2047*2^52
def B1 (M:Nat) (E:Int):Nat:=if M=0 then 0 else min ((Bz M E+1074).toNat*2^52+kept M E) Ei
def exact (M:Nat) (E:Int):Bool:=O2 M (Bz M E-E)
def flags (r:Nat) (ex:Bool):Nat:=if r=Ei then 5 else if ex then 0 else if 2^52≤r then 1 else 3
def flagsOf (M:Nat) (E:Int):Nat:=if M=0 then 0 else flags (B1 M E) (exact M E)
theorem B5 (k:Nat):0<2^k:=Nat.pow_pos (by decide)
theorem Ox (V:Nat):Jt V 0=V:=by
 unfold Jt; simp [Nat.mod_one]
theorem Ws (V a k:Nat):Jt (V*2^a) (a+k)=Jt V k:=by
 unfold Jt
 have hA:=B5 a
 have e:2^(a+k)=2^a*2^k:=A8w 2 a k
 have hd:V*2^a / 2^(a+k)=V / 2^k:=by
  rw [e,A8v V,Nat.mul_div_mul_left _ _ hA]
 have hm:V*2^a%2^(a+k)=2^a*(V%2^k):=by
  rw [e,A8v V,Nat.mul_mod_mul_left]
 rw [hd,hm,e]
 have h1:(2^a*2^k<2*(2^a*(V%2^k)))↔(2^k<2*(V%2^k)):=by
  rw [Nat.mul_left_comm 2]
  exact Nat.mul_lt_mul_left hA
 have h2:(2*(2^a*(V%2^k))=2^a*2^k)↔(2*(V%2^k)=2^k):=by
  rw [Nat.mul_left_comm 2]
  exact Nat.mul_right_inj (by omega)
 simp only [h1,h2]
theorem mod_mul (V a k:Nat):(V*2^a%2^(a+k)=0)↔(V%2^k=0):=by
 have hA:=B5 a
 rw [A8w,A8v V,Nat.mul_mod_mul_left]
 constructor
 ·intro h
  rcases Nat.mul_eq_zero.1 h with h | h
  ·omega
  ·exact h
 ·intro h; rw [h]; rfl
theorem Zi (V k:Nat) (s:Int):J1 (V*2^k) (s+k)=J1 V s∧O2 (V*2^k) (s+k)=O2 V s:=by
 unfold J1 O2
 by_cases h0:0≤s
 ·have e1:(-(s+k)).toNat=0:=by omega
  have e2:(-s).toNat=0:=by omega
  have e3:(s+k).toNat=k+s.toNat:=by omega
  rw [e1,e2,e3,A85,A9g,A9g]
  exact ⟨Ws V k _,by simp only [mod_mul]⟩
 ·by_cases h1:0≤s+k
  ·have e1:(-(s+k)).toNat=0:=by omega
   have e2:s.toNat=0:=by omega
   have e3:k=(s+k).toNat+(-s).toNat:=by omega
   rw [e1,e2,A85,A9g]
   have e4:V*2^k=V*2^(-s).toNat*2^(s+k).toNat:=by
    rw [A8y,← A8w,Nat.add_comm (-s).toNat,← e3]
   rw [e4]
   refine ⟨?_,?_⟩
   ·have:=Ws (V*2^(-s).toNat) (s+k).toNat 0
    rw [A9f] at this; exact this
   ·have:=mod_mul (V*2^(-s).toNat) (s+k).toNat 0
    rw [A9f,A85] at this
    simp only [this]
  ·have e1:(s+k).toNat=0:=by omega
   have e2:s.toNat=0:=by omega
   have e3:(-s).toNat=k+(-(s+k)).toNat:=by omega
   rw [e1,e2,e3,A8w,A8y]
   exact ⟨rfl,rfl⟩
theorem Pe (M k:Nat) (hM:M≠0):(M*2^k).log2=M.log2+k:=by
 have hk:=B5 k
 have hne:M*2^k≠0:=by
  intro h
  rcases Nat.mul_eq_zero.1 h with h | h<;>omega
 have h1:=Nat.log2_self_le hM
 have h2:=Nat.lt_log2_self (n:=M)
 have a:M.log2+k≤(M*2^k).log2:=by
  rw [Nat.le_log2 hne,A8w]
  exact A8j _ h1
 have b:(M*2^k).log2<M.log2+k+1:=by
  rw [A9n hne,Nat.add_right_comm,A8w]
  exact (Nat.mul_lt_mul_right hk).2 h2
 omega
theorem Aaw {n a:Nat} (h1:2^a≤n) (h2:n<2^(a+1)):n.log2=a:=by
 have:=B5 a
 have hn:n≠0:=by omega
 have b1:=(Nat.le_log2 hn).2 h1
 have b2:=(A9n hn).2 h2
 omega
theorem Ame (M k:Nat) (E:Int) (hM:M≠0):Bz (M*2^k) (E-k)=Bz M E:=by
 unfold Bz; rw [Pe M k hM]; congr 1; omega
theorem Kt {M k:Nat} (hM:M≠0):M*2^k≠0:=by
 have:=B5 k
 intro h
 rcases Nat.mul_eq_zero.1 h with h | h<;>omega
theorem Di (M k:Nat) (E:Int):B1 (M*2^k) (E-k)=B1 M E∧flagsOf (M*2^k) (E-k)=flagsOf M E:=by
 by_cases hM:M=0
 ·subst hM; simp [B1,flagsOf]
 ·have hl:=Ame M k E hM
  have e:Bz M E-(E-k)=Bz M E-E+k:=by omega
  have h1:B1 (M*2^k) (E-k)=B1 M E:=by
   unfold B1 kept
   rw [A8t (Kt hM),A8t hM,hl,e,(Zi M k _).1]
  refine ⟨h1,?_⟩
  unfold flagsOf
  rw [A8t (Kt hM),A8t hM,h1]
  unfold exact
  rw [hl,e,(Zi M k _).2]
theorem Ats {V s d k:Nat} (hs:s%2=1) (h1:(s-1)*2^d<V) (h2:V<(s+1)*2^d) (hk:2≤k) :
 Jt V (d+k)=Jt s k∧V%2^(d+k)≠0∧s%2^k≠0:=by
 have hA:=B5 d
 obtain ⟨j,rfl⟩:∃ j,k=j+2:=⟨k-2,by omega⟩
 have hB:2^(j+2)=4*2^j:=by rw [A8w]; omega
 have hBp:=B5 (j+2)
 have hC:=B5 j
 have hsd:=Nat.div_add_mod s (2^(j+2))
 have hr2:s%2^(j+2)%2=1:=by
  rw [hB,show 4*2^j=2*(2*2^j) by omega,Nat.mod_mul_right_mod]; exact hs
 have hrlt:=Nat.mod_lt s hBp
 generalize hq:s / 2^(j+2)=q at *
 generalize hr:s%2^(j+2)=r at *
 have hAB:2^(d+(j+2))=2^d*2^(j+2):=A8w 2 d (j+2)
 generalize hBB:2^(j+2)=b at *
 generalize hAA:2^d=a at *
 have e1:(s-1)*a=q*(a*b)+(r-1)*a:=by
  have:s-1=b*q+(r-1):=by omega
  rw [this,A9b,A8v b q,A8y,A8v b a]
 have e2:(s+1)*a=q*(a*b)+(r+1)*a:=by
  have:s+1=b*q+(r+1):=by omega
  rw [this,A9b,A8v b q,A8y,A8v b a]
 have e3:(r+1)*a≤b*a:=A8j a (by omega)
 rw [A8v b a] at e3
 rw [e1] at h1
 rw [e2] at h2
 have hdiv:V / (a*b)=q:=Nat.div_eq_of_lt_le (by omega) (by rw [A9b]; omega)
 have hmod:V%(a*b)=V-q*(a*b):=by
  have:=Nat.div_add_mod V (a*b)
  rw [hdiv,A8v (a*b) q] at this; omega
 have hb2:b=2*(2*2^j):=by omega
 generalize hc:2^j=c at *
 have hR1:(r-1)*a<V-q*(a*b):=by omega
 have hR2:V-q*(a*b)<(r+1)*a:=by omega
 generalize hR:V-q*(a*b)=R at *
 have hab:a*b=2*(2*c*a):=by rw [hb2,A8v a,A8y]
 have key:(a*b<2*R∨(2*R=a*b∧q%2=1))↔(b<2*r∨(2*r=b∧q%2=1)):=by
  rw [hab,hb2]
  rcases A84 r (2*c) with hlt | hge
  ·have:(r+1)*a≤2*c*a:=A8j a (by omega)
   constructor<;>(intro h; omega)
  ·have hgt:2*c+1≤r:=by omega
   have:2*c*a≤(r-1)*a:=A8j a (by omega)
   constructor
   ·intro _; left; omega
   ·intro _; left; omega
 refine ⟨?_,?_,?_⟩
 ·unfold Jt
  rw [hAB,hdiv,hmod,hBB,hq,hr]
  simp only [key]
 ·rw [hAB,hmod]
  have:=Nat.zero_le ((r-1)*a)
  omega
 ·omega
theorem S7 {V s d:Nat} {E:Int} (hs:s%2=1) (h1:(s-1)*2^d<V) (h2:V<(s+1)*2^d) (hl:Bz V E=Bz s (E+d)) (hk:E+d+2≤Bz s (E+d)) :
 B1 V E=B1 s (E+d)∧flagsOf V E=flagsOf s (E+d):=by
 have hV:V≠0:=by omega
 have hs0:s≠0:=by omega
 generalize hL:Bz s (E+d)=L at *
 obtain ⟨k,hk2⟩:∃ k:Nat,L-(E+d)=k+2:=⟨(L-(E+d)-2).toNat,by omega⟩
 obtain ⟨a1,a2,a3⟩:=Ats (k:=k+2) hs h1 h2 (by omega)
 have e1:(L-E).toNat=d+(k+2):=by omega
 have e2:(-(L-E)).toNat=0:=by omega
 have e3:(L-(E+d)).toNat=k+2:=by omega
 have e4:(-(L-(E+d))).toNat=0:=by omega
 have hr:B1 V E=B1 s (E+d):=by
  unfold B1 kept J1
  rw [A8t hV,A8t hs0,hl,hL,e1,e2,e3,e4]
  simp only [A85,A9g]
  rw [a1]
 refine ⟨hr,?_⟩
 unfold flagsOf exact O2
 rw [A8t hV,A8t hs0,hr,hl,hL,e1,e2,e3,e4]
 simp only [A85,A9g,a2,a3,decide_false]
theorem Tj {V s d:Nat} (hs:s%2=1) (hs3:3≤s) (h1:(s-1)*2^d<V) (h2:V<(s+1)*2^d):V.log2=s.log2+d:=by
 have hs0:s≠0:=by omega
 have a1:=Nat.log2_self_le hs0
 have a2:=Nat.lt_log2_self (n:=s)
 have hl:1≤s.log2:=by rw [Nat.le_log2 hs0]; omega
 obtain ⟨t,ht⟩:∃ t,s.log2=t+1:=⟨s.log2-1,by omega⟩
 rw [ht] at a1 a2 ⊢
 have ev1:2^(t+1)=2*2^t:=by rw [Nat.pow_succ]; omega
 have ev2:2^(t+1+1)=2*(2*2^t):=by rw [Nat.pow_succ,ev1]; omega
 refine Aaw ?_ ?_
 ·rw [A8w]
  have:2^(t+1)*2^d≤(s-1)*2^d:=A8j _ (by omega)
  omega
 ·have e:t+1+d+1=(t+1+1)+d:=by omega
  rw [e,A8w]
  have:(s+1)*2^d≤2^(t+1+1)*2^d:=A8j _ (by omega)
  omega
end Go.Cv
namespace Go.Cv
def Bp (b:Nat):Bool:=decide (2^63≤b)
def D5 (b:Nat):Nat:=b / 2^52%2048
def C9 (b:Nat):Nat:=b%2^52
def Aj (b:Nat):Nat:=if D5 b=2047 then (if C9 b=0 then 3 else 4) else if 0<D5 b then 2 else if 0<C9 b then 1 else 0
def Ii (b:Nat):Bool:=decide (D5 b<2047)
def Eg (b:Nat):Nat:=if 2^63≤b then b-2^63 else b+2^63
def An (b:Nat):Nat:=if D5 b=0 then C9 b else C9 b+2^52
def Av (b:Nat):Int:=if D5 b=0 then -1074 else (D5 b:Int)-1075
def Bx (neg:Bool) (r:Nat):Nat:=if neg then 2^63+r else r
def Ik (neg:Bool) (m:Nat):Int:=if neg then -(m:Int) else m
def Fo (b:Nat) (e:Int):Int:=Ik (Bp b) (An b*2^(Av b-e).toNat)
def Sq:Nat:=0x7ff8000000000000
def Lu (z:Nat) (S:Int) (e:Int):Nat × Nat :=
 if S=0 then (z,0) else (Bx (decide (S<0)) (B1 S.natAbs e),flagsOf S.natAbs e)
def Gf (a b:Nat):Nat × Nat :=
 if Aj a=4∨Aj b=4 then (Sq,0)
 else if Aj a=3 then (if Aj b=3∧a≠b then (Sq,16) else (a,0))
 else if Aj b=3 then (b,0)
 else Lu (Bx (Bp a&&Bp b) 0) (Fo a (min (Av a) (Av b))+Fo b (min (Av a) (Av b))) (min (Av a) (Av b))
def Abd (a b:Nat):Nat × Nat:=Gf a (Eg b)
def He (neg:Bool) (m:Nat) (e:Int) (more:Bool):Nat × Nat :=
 (Bx neg (B1 (4*m+more.toNat) (e-2)),flagsOf (4*m+more.toNat) (e-2))
def Em (x:Int):Bool:=Bp x.toNat
def Og (x:Int):Int:=D5 x.toNat
def Db (x:Int):Int:=C9 x.toNat
def A7 (x:Int):Int:=Aj x.toNat
def Dk (x:Int):Bool:=Ii x.toNat
def Eh (x:Int):Int:=Eg x.toNat
def Bu (x:Int):Int:=An x.toNat
def Bi (x:Int):Int:=Av x.toNat
def Fj (neg:Bool) (m e:Int) (more:Bool):Int:=(He neg m.toNat e more).1
def Fi (neg:Bool) (m e:Int) (more:Bool):Int:=(He neg m.toNat e more).2
def Md (a b:Int):Int:=(Gf a.toNat b.toNat).1
def Zy (a b:Int):Int:=(Gf a.toNat b.toNat).2
def Eu (a b:Int):Int:=(Abd a.toNat b.toNat).1
def A4y (a b:Int):Int:=(Abd a.toNat b.toNat).2
theorem Lv (b:Nat):D5 b<2048:=Nat.mod_lt _ (by decide)
theorem L8 (b:Nat):C9 b<4503599627370496:=Nat.mod_lt _ (by decide)
theorem Fx (b:Nat):An b<9007199254740992:=by
 have:=L8 b
 unfold An; split<;>omega
theorem Cu (b:Nat):-1074≤Av b∧Av b≤972:=by
 have:=Lv b
 unfold Av; split<;>omega
theorem Ub {m:Nat} {e:Int} (h1:2^52≤m) (h2:m<2^53) (he:-1074≤e):B1 m e=min ((e+1074).toNat*2^52+m) Ei:=by
 have hl:m.log2=52:=Aaw h1 h2
 have hm:m≠0:=by omega
 have hle:Bz m e=e:=by unfold Bz; rw [hl]; omega
 unfold B1 kept
 rw [A8t hm,hle,Int.sub_self]
 unfold J1
 simp [Ox]
theorem Abt {m:Nat} (h2:m<2^52):B1 m (-1074)=m:=by
 by_cases hm:m=0
 ·subst hm; rfl
 ·have hl:m.log2<52:=(A9n hm).2 h2
  have hle:Bz m (-1074)=-1074:=by unfold Bz; omega
  unfold B1 kept
  rw [A8t hm,hle,Int.sub_self]
  unfold J1 Ei
  simp [Ox]
  omega
theorem Rj (m:Nat) (e:Int):B1 m e≤Ei:=by
 unfold B1
 split
 ·exact Nat.zero_le _
 ·exact Nat.min_le_right _ _
theorem Fl:Ei=9218868437227405312:=rfl
theorem Jr (m:Nat) (e:Int):B1 m e<2^63:=by
 have:=Rj m e
 rw [Fl] at this
 omega
theorem Wm (n:Bool) (m:Nat) (e:Int):Bx n (B1 m e)<2^64:=by
 have:=Jr m e
 unfold Bx; split<;>omega
theorem Vt {r:Nat} (h:r<2^63):Eg r=2^63+r:=by
 unfold Eg; rw [A8t (by omega)]; omega
end Go.Cv
namespace Go.Cv
open Go.Den
def Na (m e:Int):Bool:=Cr (0≤m∧m≤9007199254740992∧-1074≤e∧e+m / 9007199254740992≤100000)
def Rm (m e:Int):Nat:=if 9007199254740992≤m then 1 else if m<4503599627370496 then 2+(e+1074).toNat else 0
def Wu (n:Bool) (m e:Int):Int:=Bx n (B1 m.toNat e)
def E0 (m e:Int) (r:Bool):Bool :=
 Cr (0≤m∧m<18446744073709551616∧e≤50000∧(-1137≤e∨(m<4611686018427387904∧-1140≤e))∧(r=true→4503599627370496≤m∨e≤-1074))
def Gy (n D:Nat):Nat:=if n%2^D=0 then n / 2^D else 2*(n / 2^D / 2)+1
def Fz (m d:Int):Int:=Gy m.toNat (min d.toNat 63)
def Dp (l:List Int):Bool:=Cr (l.length<4611686018427387904∧∀ x∈l,Al x=true)
def J7 (x:Nat):Nat:=if Aj x=4 then Sq else x
def Adg (x:Int):Int:=J7 x.toNat
def R6 (x:Nat):Int:=J7 x
def Rt (x:Int):Bool:=Cr (0≤x)
theorem Pd (n:Nat):Rt (n:Int)=true:=Ao.2 (Int.natCast_nonneg n)
theorem W3 {x:Int} (h:Rt x=true):∃ n:Nat,x=n:=⟨x.toNat,by have:=Ao.1 h; omega⟩
end Go.Cv
namespace Go.Cv
theorem A41 (a c:Nat):(a+1)*c+c=a*c+(c+c):=by rw [A9b,Nat.one_mul,Nat.add_assoc]
theorem A3q:2^52+2^52=2^53:=by decide
theorem A40 (a:Nat):(a+1)*2^52+2^52=a*2^52+2^53:=(A41 a (2^52)).trans (congrArg (fun x=>a*2^52+x) A3q)
theorem A0y:2^52*2^1=2^53:=by decide
theorem Ax9 {E:Int}:B1 (2^53) E=B1 (2^52) (E+1):=by
 have:=(Di (2^52) 1 (E+1)).1
 have e1:E+1-((1:Nat):Int)=E:=by omega
 rw [e1,A0y] at this
 exact this
theorem Atn {E:Int} (hE:-1074≤E):B1 (2^53) E=min ((E+1074).toNat*2^52+2^53) Ei:=by
 have e3:(E+1+1074).toNat=(E+1074).toNat+1:=by omega
 rw [Ax9,Ub (by decide) (by decide) (by omega),e3]
 exact congrArg (fun x=>min x Ei) (A40 _)
theorem Ap0 {q:Nat} {E:Int} (h1:q≤2^53) (hE:-1074≤E) (h2:2^52≤q∨E=-1074):B1 q E=min ((E+1074).toNat*2^52+q) Ei:=by
 by_cases ha:q=2^53
 ·rw [ha]; exact Atn hE
 ·by_cases hb:2^52≤q
  ·exact Ub hb (by omega) hE
  ·obtain rfl:E=-1074:=h2.resolve_left hb
   rw [Abt (by omega)]
   unfold Ei
   simp
   omega
theorem Ap8 {M D s:Nat} (hs:s≤1):Jt (4*M+s) (D+2)=M / 2^D+(if 0<D∧(2^(D-1)<M%2^D∨(M%2^D=2^(D-1)∧(s=1∨M / 2^D%2=1))) then 1 else 0) ∧
 ((4*M+s)%2^(D+2)=0↔M%2^D=0∧s=0):=by
 have hp:2^(D+2)=2^D*4:=by rw [A8w]
 have hA:=B5 D
 have hdm:=Nat.div_add_mod M (2^D)
 have hlt:=Nat.mod_lt M hA
 have hdiv:(4*M+s) / (2^D*4)=M / 2^D:=by
  rw [A8v (2^D) 4,← A80]
  congr 1; omega
 have hmod:(4*M+s)%(2^D*4)=4*(M%2^D)+s:=by
  have h:=Nat.div_add_mod (4*M+s) (2^D*4)
  rw [hdiv] at h
  have e:2^D*4*(M / 2^D)=4*(2^D*(M / 2^D)):=by rw [A8v (2^D) 4,A8y]
  rw [e] at h
  omega
 unfold Jt
 rw [hp,hdiv,hmod]
 generalize M%2^D=r at *
 generalize M / 2^D=q at *
 refine ⟨?_,by omega⟩
 congr 1
 have key:(2^D*4<2*(4*r+s)∨2*(4*r+s)=2^D*4∧q%2=1)↔(0<D∧(2^(D-1)<r∨(r=2^(D-1)∧(s=1∨q%2=1)))):=by
  cases D with
  | zero=>simp only [A85] at hlt ⊢; omega
  | succ d =>
    rw [Nat.pow_succ] at hlt ⊢
    simp only [Nat.add_sub_cancel]
    generalize 2^d=c at *
    omega
 simp only [key]
structure Drop (M:Nat) (e:Int) (D:Nat):Prop where
 le:D≤63
 stop:D<63→M / 2^D<2^53∧-1074≤e+D
 least:∀ d,d<D→2^53≤M / 2^d∨e+d < -1074
def qOf (M D s:Nat):Nat:=M / 2^D+(if 0<D∧(2^(D-1)<M%2^D∨(M%2^D=2^(D-1)∧(s=1∨M / 2^D%2=1))) then 1 else 0)
theorem Atx {M D s:Nat} (h:M / 2^D<2^53):qOf M D s≤2^53:=by
 unfold qOf; split<;>omega
theorem Aty {M D s:Nat}:M / 2^D≤qOf M D s:=by unfold qOf; omega
theorem A2j {M D:Nat} {c:Nat} (h:M / 2^D<c):M<c*2^D:=(Nat.div_lt_iff_lt_mul (B5 D)).1 h
theorem Au8 {M D:Nat} {c:Nat} (h:c≤M / 2^D):c*2^D≤M:=(Nat.le_div_iff_mul_le (B5 D)).1 h
theorem Acr {V:Nat} {E L:Int} (h:(E+V.log2-52=L∧-1074≤L)∨(E+V.log2-52≤L∧L=-1074)):Bz V E=L:=by unfold Bz; omega
theorem Aqw {M s:Nat} (hs:s≤1) (hM:M≠0):(4*M+s).log2=M.log2+2:=by
 have h1:=Nat.log2_self_le hM
 have h2:=Nat.lt_log2_self (n:=M)
 refine Aaw ?_ ?_
 ·rw [A8w]; omega
 ·have e:2^(M.log2+2+1)=2^(M.log2+1)*4:=by rw [show M.log2+2+1=M.log2+1+2 by omega,A8w]
  omega
theorem Aqm {M D s:Nat} {e:Int} (hD:Drop M e D) (hs:s≤1) (hV:4*M+s≠0) (hM:M<2^64) (he:-1137≤e∨(M<2^62∧-1140≤e)) (hr:s=1→2^52≤M∨e≤-1074) :
 B1 (4*M+s) (e-2)=B1 (if e+D < -1074 then 0 else qOf M D s) (max (e+D) (-1074)) ∧
 flagsOf (4*M+s) (e-2)=flags (B1 (4*M+s) (e-2)) (decide (M%2^D=0∧s=0)) ∧
 (if e+D < -1074 then 0 else qOf M D s)≤2^53:=by
 have hA:=B5 D
 by_cases hlow:e+D < -1074
 ·
  have hD63:D=63:=by
   rcases A84 D 63 with h | h
   ·have:=(hD.stop h).2; omega
   ·have:=hD.le; omega
  subst hD63
  have hM62:M<2^62:=by rcases he with h | h; omega; exact h.1
  have he2:-1140≤e:=by rcases he with h | h; omega; exact h.2
  have hV64:4*M+s<2^64:=by omega
  have hlog:(4*M+s).log2<64:=(A9n hV).2 hV64
  have hl:Bz (4*M+s) (e-2)=-1074:=Acr (.inr ⟨by omega,rfl⟩)
  obtain ⟨k,hk⟩:∃ k:Nat,(-1074-(e-2)).toNat=66+k:=⟨(-1074-(e-2)).toNat-66,by omega⟩
  have e2:(-(-1074-(e-2))).toNat=0:=by omega
  have hp:2^66≤2^(66+k):=A8m (by decide) (by omega)
  have hsm:4*M+s<2^(66+k):=by omega
  have hz:J1 (4*M+s) (-1074-(e-2))=0:=by
   unfold J1 Jt
   rw [e2,hk,A85,A9g,Nat.div_eq_of_lt hsm,A8k hsm,A8t (by omega)]
  have hru:B1 (4*M+s) (e-2)=0:=by
   unfold B1 kept
   rw [A8t hV,hl,hz]
   simp
  refine ⟨?_,?_,?_⟩
  ·rw [hru,A8u hlow]; rfl
  ·unfold flagsOf exact O2
   rw [A8t hV,hl,e2,hk,A85,A9g,A8k hsm]
   congr 1
   have h63:M%2^63=M:=A8k (by omega)
   rw [h63,A8n]
   simp only [A8e]
   omega
  ·rw [A8u hlow]; exact Nat.zero_le _
 ·have hmax:max (e+D) (-1074)=e+D:=by omega
  have hq:M / 2^D<2^53:=by
   rcases A84 D 63 with h | h
   ·exact (hD.stop h).1
   ·have:D=63:=by have:=hD.le; omega
    subst this
    exact A89 (Nat.div_le_of_le_mul (show M≤2^63*2 by omega)) (by decide)
  obtain ⟨c1,c2⟩:=Ap8 (M:=M) (D:=D) hs
  rw [A8t hlow,hmax]
  refine ⟨?_,?_,Atx hq⟩
  all_goals
   by_cases hD0:D=0∧s=0
   ·obtain ⟨rfl,rfl⟩:=hD0
    have hM0:M≠0:=by omega
    obtain ⟨s1,s2⟩:=Di M 2 e
    have e1:M*2^2=4*M+0:=by omega
    have e2:e-((2:Nat):Int)=e-2:=by omega
    rw [e1,e2] at s1 s2
    have hq0:qOf M 0 0=M:=by unfold qOf; simp
    have hle:Bz M e≤e:=by
     have:M.log2<53:=(A9n hM0).2 (by simpa using hq)
     unfold Bz; simp only [Int.natCast_zero,Int.add_zero] at hlow; omega
    first
    | (rw [s1,hq0]; simp; done)
    | (rw [s2,s1]
       unfold flagsOf exact O2
       have z:(Bz M e-e).toNat=0:=by omega
       rw [A8t hM0,z]
       simp [Nat.mod_one])
   ·
    have hl:Bz (4*M+s) (e-2)=e+D:=by
     by_cases hM0:M=0
     ·subst hM0
      have hs1:s=1:=by omega
      subst hs1
      have hle:e+D=-1074:=by
       rcases Nat.eq_zero_or_pos D with rfl | hpos
       ·have:=hr rfl; omega
       ·have h:=hD.least (D-1) (by omega)
        simp only [Nat.zero_div] at h
        omega
      refine Acr (.inr ⟨?_,hle⟩)
      have:(4*0+1:Nat).log2=0:=by decide
      rw [this]; omega
     ·have hlog:=Aqw hs hM0
      have hub:M.log2<53+D:=by
       rw [A9n hM0,A8w]; exact A2j hq
      have hcase:52+D≤M.log2∨e+D=-1074:=by
       rcases Nat.eq_zero_or_pos D with rfl | hpos
       ·have hs1:s=1:=by omega
        rcases hr hs1 with h | h
        ·left; rw [Nat.le_log2 hM0]; simpa using h
        ·right; simp only [Int.natCast_zero,Int.add_zero] at hlow ⊢; omega
       ·rcases hD.least (D-1) (by omega) with h | h
        ·left
         rw [Nat.le_log2 hM0]
         have:=Au8 h
         have e1:2^(52+D)=2^53*2^(D-1):=by rw [← A8w]; congr 1; omega
         rw [e1]; exact this
        ·right; omega
      refine Acr ?_
      rw [hlog]
      rcases hcase with h | h
      ·left; omega
      ·right; omega
    have e1:(e+D-(e-2)).toNat=D+2:=by omega
    have e2:(-(e+(D:Int)-(e-2))).toNat=0:=by omega
    have hkept:kept (4*M+s) (e-2)=qOf M D s:=by
     unfold kept J1
     rw [hl,e1,e2,A85,A9g,c1]; rfl
    first
    | (have hbig:2^52≤qOf M D s∨e+D=-1074:=by
        rcases Nat.eq_zero_or_pos D with rfl | hpos
        ·have hs1:s=1:=by omega
         rcases hr hs1 with h | h
         ·left; exact A9e (by simpa using h) Aty
         ·right; simp only [Int.natCast_zero,Int.add_zero] at hlow ⊢; omega
        ·rcases hD.least (D-1) (by omega) with h | h
         ·left
          refine A9e ?_ Aty
          rw [Nat.le_div_iff_mul_le hA]
          have:=Au8 h
          have e1:2^52*2^D=2^53*2^(D-1):=by rw [← A8w,← A8w]; congr 1; omega
          rw [e1]; exact this
         ·right; omega
       rw [Ap0 (Atx hq) (by omega) hbig]
       unfold B1
       rw [A8t hV,hl,hkept]; done)
    | (unfold flagsOf exact O2
       rw [A8t hV,hl,e1,e2,A85,A9g]
       congr 1
       rw [A8n]
       simp only [A8e]
       exact c2)
theorem Yg (n:Bool) {r:Nat} (h:r<2^63):D5 (Bx n r)=r / 2^52:=by
 unfold D5 Bx; cases n
 ·simp only [Bool.false_eq_true,if_false]; omega
 ·simp only [if_true]; omega
theorem Vy (n:Bool) (r:Nat):C9 (Bx n r)=r%2^52:=by
 unfold C9 Bx; cases n
 ·rfl
 ·simp only [if_true]; omega
theorem Yt (n:Bool) {r:Nat} (h:r≤Ei):Aj (Bx n r)=if r=Ei then 3 else if 2^52≤r then 2 else if 0<r then 1 else 0:=by
 rw [Fl] at *
 unfold Aj
 rw [Yg n (by omega),Vy]
 by_cases h1:r=9218868437227405312
 ·subst h1; simp
 ·rw [A8t h1,A8t (by omega)]
  by_cases h2:2^52≤r
  ·rw [A8u h2,A8u (by omega)]
  ·rw [A8t h2,A8t (by omega)]
   by_cases h3:0<r
   ·rw [A8u h3,A8u (by omega)]
   ·rw [A8t h3,A8t (by omega)]
end Go.Cv
namespace Go.Cv
open Ieee
theorem A2k (neg:Bool) (V k:Nat):Toward.even.cut neg V k=Jt V k:=by
 unfold Toward.cut Jt
 simp only [Nat.shiftLeft_eq,Nat.one_mul]
 by_cases h:k≤V.log2+2
 ·rw [Nat.min_eq_left h]
  congr 1
  by_cases h1:2^k<2*(V%2^k)
  ·simp [h1]
  ·by_cases h2:2*(V%2^k)=2^k∧V / 2^k%2=1
   ·simp [h2.1,h2.2]
   ·simp [h1,h2]
    intro h3
    have:=Nat.mod_lt (V / 2^k) (show 0<2 by decide)
    omega
 ·rw [Nat.min_eq_right (by omega)]
  have hV:V<2^(V.log2+1):=Nat.lt_log2_self
  have e:2^(V.log2+2)=2*2^(V.log2+1):=by rw [Nat.pow_succ,A8v]
  have hk:2^(V.log2+2)≤2^k:=A8m (by decide) (by omega)
  have d1:V / 2^(V.log2+2)=0:=Nat.div_eq_of_lt (by omega)
  have d2:V / 2^k=0:=Nat.div_eq_of_lt (by omega)
  have m1:V%2^(V.log2+2)=V:=A8k (by omega)
  have m2:V%2^k=V:=A8k (by omega)
  rw [d1,d2,m1,m2]
  have c1:¬ (2^(V.log2+2)<2*V):=by omega
  have c2:¬ (2^k<2*V):=by omega
  simp [c1,c2]
theorem Aw9 (neg:Bool) (r:Nat):Ieee.double.word neg r=Bx neg r:=rfl
theorem Alx (neg:Bool) (M:Nat) (E:Int):Ieee.double.nearest neg M E=Bx neg (B1 M E):=by
 unfold Format.nearest B1
 by_cases h:M=0
 ·rw [A8u h,A8u h]; rfl
 ·rw [A8t h,A8t h,Aw9]
  have e1:Ieee.double.leastPlace=-1074:=by decide
  have e2:max (E+(M.log2:Int)-(Ieee.double.fractionBits:Int)) Ieee.double.leastPlace=Bz M E:=by rw [e1]; rfl
  rw [e2,e1,A2k,Nat.shiftLeft_eq]
  unfold kept J1
  have e3:(-(Bz M E-E)).toNat=(E-Bz M E).toNat:=by congr 1; omega
  have e4:Bz M E - -1074=Bz M E+1074:=by omega
  rw [e3,e4]
  rfl
theorem Ji (b:Nat):(D5 b=2047∧C9 b=0∧Aj b=3)∨(D5 b=2047∧C9 b≠0∧Aj b=4)∨(D5 b<2047∧Aj b≠3∧Aj b≠4):=by
 have:=Lv b
 unfold Aj
 by_cases h1:D5 b=2047
 ·by_cases h2:C9 b=0<;>simp [h1,h2]
 ·refine .inr (.inr ⟨by omega,?_⟩)
  rw [A8t h1]
  split
  ·decide
  ·split<;>decide
theorem Pz (b:Nat):b%2^63=D5 b*2^52+C9 b:=by unfold D5 C9; omega
def Ab1 (b:Nat):Datum:=if Aj b=4 then .nan (Bp b) (C9 b) else if Aj b=3 then .infinity (Bp b) else .number (Bp b) (An b) (Av b)
theorem Aam {b:Nat} (h:b<2^64):Ieee.double.read b=Ab1 b:=by
 unfold Format.read Ab1
 have e0:Ieee.double.signWeight=2^63:=rfl
 have e1:Ieee.double.leastPlace=-1074:=by decide
 have e2:Ieee.double.binade=2^52:=rfl
 have e3:Ieee.double.infRung=Ei:=rfl
 have hn:(b / 2^63%2==1)=Bp b:=by
  unfold Bp
  rw [A8n]
  simp only [beq_iff_eq,A8e]
  omega
 dsimp only
 rw [e0,e1,e2,e3,hn,Pz,Fl]
 have hf:C9 b<2^52:=L8 b
 rcases Ji b with ⟨h1,h2,h3⟩ | ⟨h1,h2,h3⟩ | ⟨h1,h2,h3⟩
 ·rw [A8t (by omega),A8t (by omega),A8u (by omega),A8t (by omega),A8u h3]
 ·rw [A8t (by omega),A8t (by omega),A8t (by omega),A8u h3]
  have e:D5 b*2^52+C9 b-9218868437227405312=C9 b:=by omega
  rw [e]
 ·rw [A8t h3,A8t h2]
  by_cases h0:D5 b=0
  ·rw [A8u (by omega)]
   unfold An Av
   rw [A8u h0,A8u h0,h0,Nat.zero_mul,A9h]
  ·rw [A8t (by omega),A8u (by omega)]
   unfold An Av
   rw [A8t h0,A8t h0]
   have m1:(D5 b*2^52+C9 b)%2^52=C9 b:=by omega
   have m2:(D5 b*2^52+C9 b) / 2^52=D5 b:=by omega
   have e:(-1074:Int)+((D5 b-1:Nat):Int)=(D5 b:Int)-1075:=by omega
   rw [m1,m2,Nat.add_comm (2^52),e]
theorem Ao8 (s:Bool) (m:Nat) (e:Int):Ieee.double.write (.number s m e)=Bx s (B1 m e):=Alx s m e
theorem Ah6 {b:Nat} (h:b<2^64) (h3:Aj b=3):Bx (Bp b) Ei=b:=by
 rcases Ji b with ⟨h1,h2,_⟩ | ⟨_,_,h4⟩ | ⟨_,h4,_⟩
 ·have e:=Pz b
  rw [h1,h2] at e
  rw [Fl]
  unfold Bx Bp
  by_cases hb:2^63≤b
  ·simp [hb]; omega
  ·simp [hb]; omega
 ·omega
 ·omega
theorem Ade (s:Bool) {r:Nat} (h:r≤Ei):J7 (Bx s r)=Bx s r:=by
 unfold J7
 rw [A8t]
 rw [Yt s h]
 split
 ·decide
 ·split
  ·decide
  ·split<;>decide
theorem Aek (s:Bool) (m up:Nat):Ieee.signed s m up=Ik s (m*2^up):=by
 unfold Ieee.signed Ik
 rw [Nat.shiftLeft_eq]
theorem Ava (s:Bool):Aj (Bx s Ei)=3:=by
 rw [Yt s (A81 _),A8u rfl]
theorem Aes {b:Nat} (h:Aj b=4):Ab1 b=.nan (Bp b) (C9 b):=A8u h
theorem Mr {b:Nat} (h:Aj b=3):Ab1 b=.infinity (Bp b):=by unfold Ab1; rw [A8t (by omega),A8u h]
theorem Mq {b:Nat} (h3:Aj b≠3) (h4:Aj b≠4):Ab1 b=.number (Bp b) (An b) (Av b):=by unfold Ab1; rw [A8t h4,A8t h3]
theorem Awy {a b:Nat} (h4:¬ (Aj a=4∨Aj b=4)) (h:Aj a=3):Gf a b=(if Aj b=3∧a≠b then (Sq,16) else (a,0)):=by unfold Gf; rw [A8t h4,A8u h]
theorem Arz {a b:Nat} (h4:¬ (Aj a=4∨Aj b=4)) (h:Aj a≠3) (h':Aj b=3):Gf a b=(b,0):=by unfold Gf; rw [A8t h4,A8t h,A8u h']
theorem Tw {a b:Nat} (h4:¬ (Aj a=4∨Aj b=4)) (h:Aj a≠3) (h':Aj b≠3) :
 Gf a b=Lu (Bx (Bp a&&Bp b) 0) (Fo a (min (Av a) (Av b))+Fo b (min (Av a) (Av b))) (min (Av a) (Av b)):=by
 unfold Gf; rw [A8t h4,A8t h,A8t h']
theorem Lb {b:Nat} (h:b<2^64):Bp (Eg b)=!(Bp b)∧D5 (Eg b)=D5 b∧C9 (Eg b)=C9 b:=by
 unfold Bp D5 C9 Eg
 by_cases hb:2^63≤b
 ·rw [A8u hb]
  refine ⟨?_,by omega,by omega⟩
  have:¬ 2^63≤b-2^63:=by omega
  simp [hb,this]
 ·rw [A8t hb]
  refine ⟨?_,by omega,by omega⟩
  have:2^63≤b+2^63:=by omega
  simp [hb,this]
theorem Al3 {b:Nat} (h:b<2^64):Eg b<2^64:=by unfold Eg; split<;>omega
theorem Ai6 (b:Nat):(Ieee.double.read b).isNaN=decide (Aj b=4):=by
 unfold Format.read
 have e0:Ieee.double.signWeight=2^63:=rfl
 have e2:Ieee.double.binade=2^52:=rfl
 have e3:Ieee.double.infRung=Ei:=rfl
 dsimp only
 rw [e0,e2,e3,Pz,Fl]
 have hf:C9 b<2^52:=L8 b
 rcases Ji b with ⟨h1,h2,h3⟩ | ⟨h1,h2,h3⟩ | ⟨h1,h2,h3⟩
 ·rw [A8t (by omega),A8t (by omega),A8u (by omega),A8c (by omega)]; rfl
 ·rw [A8t (by omega),A8t (by omega),A8t (by omega),A78 h3]; rfl
 ·rw [A8c h3]
  by_cases h0:D5 b=0
  ·rw [A8u (by omega)]; rfl
  ·rw [A8t (by omega),A8u (by omega)]; rfl
end Go.Cv
namespace Go.Cv
open Ieee
theorem Ye {V W k:Nat} (h:V≤W):Jt V k≤Jt W k:=by
 unfold Jt
 have hA:=B5 k
 have hq:V / 2^k≤W / 2^k:=Nat.div_le_div_right h
 rcases A84 (V / 2^k) (W / 2^k) with h1 | h1
 ·split<;>split<;>omega
 ·have he:V / 2^k=W / 2^k:=by omega
  have v:=Nat.div_add_mod V (2^k)
  have w:=Nat.div_add_mod W (2^k)
  rw [he] at v ⊢
  have hr:V%2^k≤W%2^k:=by omega
  by_cases hc:2^k<2*(V%2^k)∨2*(V%2^k)=2^k∧W / 2^k%2=1
  ·have hc':2^k<2*(W%2^k)∨2*(W%2^k)=2^k∧W / 2^k%2=1:=by
    rcases hc with hc | ⟨hc,hd⟩
    ·exact .inl (by omega)
    ·rcases A84 (2^k) (2*(W%2^k)) with h2 | h2
     ·exact .inl h2
     ·exact .inr ⟨by omega,hd⟩
   rw [A8u hc,A8u hc']
   exact A81 _
  ·rw [A8t hc]
   exact Nat.le_add_right _ _
theorem Ayf {V c k:Nat} (h:V≤c*2^k):Jt V k≤c:=by
 have h1:=Ye (k:=k) h
 have:Jt (c*2^k) k=c:=by
  have:=Ws c k 0
  rw [A9f,Ox] at this
  exact this
 omega
theorem Ay2 {V c k:Nat} (h:c*2^k≤V):c≤Jt V k:=by
 have h1:=Ye (k:=k) h
 have:Jt (c*2^k) k=c:=by
  have:=Ws c k 0
  rw [A9f,Ox] at this
  exact this
 omega
theorem Alm {V W:Nat} {s:Int} (h:V≤W):J1 V s≤J1 W s:=Ye (A8j _ h)
theorem Amf {V W:Nat} {E:Int} (hV:V≠0) (h:V≤W):Bz V E≤Bz W E:=by
 have:V.log2≤W.log2:=(Nat.le_log2 (by omega)).2 (A9e (Nat.log2_self_le hV) h)
 unfold Bz; omega
theorem Aog {V:Nat} {E:Int}:kept V E≤2^53:=by
 have hV:V<2^(V.log2+1):=Nat.lt_log2_self
 unfold kept J1
 refine Ayf ?_
 have hl:E+V.log2-52≤Bz V E:=by unfold Bz; omega
 rw [← A8w]
 have h1:V*2^(-(Bz V E-E)).toNat≤2^(V.log2+1)*2^(-(Bz V E-E)).toNat:=A8j _ (Nat.le_of_lt hV)
 rw [← A8w] at h1
 exact A9e h1 (A8m (by decide) (by omega))
theorem Ag4 {V:Nat} {E:Int} (hV:V≠0) (hl:Bz V E=E+V.log2-52):2^52≤kept V E:=by
 have h1:2^V.log2≤V:=Nat.log2_self_le hV
 unfold kept J1
 refine Ay2 ?_
 rw [← A8w]
 have h2:2^V.log2*2^(-(Bz V E-E)).toNat≤V*2^(-(Bz V E-E)).toNat:=A8j _ h1
 rw [← A8w] at h2
 exact A9e (A8m (by decide) (by omega)) h2
theorem Gj {V W:Nat} {E:Int} (h:V≤W):B1 V E≤B1 W E:=by
 unfold B1
 by_cases hV:V=0
 ·rw [A8u hV]; exact Nat.zero_le _
 ·have hW:W≠0:=by omega
  rw [A8t hV,A8t hW]
  have hl:=Amf (E:=E) hV h
  have key:(Bz V E+1074).toNat*2^52+kept V E≤(Bz W E+1074).toNat*2^52+kept W E:=by
   rcases Int.lt_or_eq_of_le hl with h1 | h1
   ·have hb:-1074≤Bz V E:=by unfold Bz; omega
    have hn:Bz W E=E+W.log2-52:=by unfold Bz at h1 hb ⊢; omega
    have k1:=Aog (V:=V) (E:=E)
    have k2:=Ag4 hW hn
    have h2:(Bz V E+1074).toNat+1≤(Bz W E+1074).toNat:=by omega
    have h3:((Bz V E+1074).toNat+1)*2^52≤(Bz W E+1074).toNat*2^52:=A8j _ h2
    rw [A9b (Bz V E+1074).toNat 1 (2^52),Nat.one_mul] at h3
    omega
   ·unfold kept
    rw [h1]
    exact Nat.add_le_add_left (Alm h) _
  omega
theorem Yb {b:Nat} (h4:Aj b≠4):B1 (An b) (Av b)=b%2^63:=by
 have hf:C9 b<2^52:=L8 b
 have hr:=Pz b
 rw [hr]
 unfold An Av
 by_cases h0:D5 b=0
 ·rw [A8u h0,A8u h0,Abt hf,h0,Nat.zero_mul,A9h]
 ·rw [A8t h0,A8t h0,Ub (by omega) (by omega) (by omega),Fl]
  have e:((D5 b:Int)-1075+1074).toNat=D5 b-1:=by omega
  rw [e]
  have h5:(D5 b-1)*2^52+(C9 b+2^52)=D5 b*2^52+C9 b:=by omega
  rw [h5]
  rcases Ji b with ⟨h1,h2,_⟩ | ⟨_,_,h⟩ | ⟨h1,_,_⟩
  ·rw [h1,h2]; decide
  ·exact absurd h h4
  ·omega
def Jj (b:Nat):Int:=Ik (Bp b) (b%2^63)
def Fq (b:Nat) (f:Int):Nat:=An b*2^(Av b-f).toNat
theorem Nk {b:Nat} {f:Int} (h4:Aj b≠4) (hf:f≤Av b):B1 (Fq b f) f=b%2^63:=by
 rw [← Yb h4]
 have h:=(Di (An b) (Av b-f).toNat (Av b)).1
 have e:Av b-((Av b-f).toNat:Int)=f:=by omega
 rw [e] at h
 exact h
theorem Aus {a b:Nat} (h:a%2^63=b%2^63) (f:Int):Fq a f=Fq b f:=by
 have h1:D5 a=D5 b:=by unfold D5; omega
 have h2:C9 a=C9 b:=by unfold C9; omega
 unfold Fq An Av
 rw [h1,h2]
theorem Ach {a b:Nat} {f:Int} (ha:Aj a≠4) (hb:Aj b≠4) (hfa:f≤Av a) (hfb:f≤Av b):Fq a f<Fq b f↔a%2^63<b%2^63:=by
 constructor
 ·intro h
  have h1:=Gj (E:=f) (Nat.le_of_lt h)
  rw [Nk ha hfa,Nk hb hfb] at h1
  rcases Nat.lt_or_eq_of_le h1 with h2 | h2
  ·exact h2
  ·have:=Aus h2 f; omega
 ·intro h
  rcases A84 (Fq a f) (Fq b f) with h1 | h1
  ·exact h1
  ·have h1:=Gj (E:=f) h1
   rw [Nk ha hfa,Nk hb hfb] at h1
   omega
theorem Ajg (b:Nat) (f:Int):Fq b f=0↔b%2^63=0:=by
 have hp:=B5 (Av b-f).toNat
 unfold Fq
 rw [Nat.mul_eq_zero,Pz]
 have h1:¬ (2^(Av b-f).toNat=0):=by omega
 have h2:An b=0↔D5 b*2^52+C9 b=0:=by unfold An; split<;>omega
 rw [h2]
 exact ⟨fun h=>h.resolve_right h1,.inl⟩
theorem A1g {s t:Bool} {m n m' n':Nat} (h1:m<n↔m'<n') (h2:n<m↔n'<m') (h3:m=0↔m'=0) (h4:n=0↔n'=0):Ik s m<Ik t n↔Ik s m'<Ik t n':=by
 unfold Ik
 cases s<;>cases t<;>simp<;>omega
theorem Asa {a b:Nat} {f:Int} (ha:Aj a≠4) (hb:Aj b≠4) (hfa:f≤Av a) (hfb:f≤Av b):Fo a f<Fo b f↔Jj a<Jj b :=
 A1g (Ach ha hb hfa hfb) (Ach hb ha hfb hfa) (Ajg a f) (Ajg b f)
theorem Ark {x y x' y':Int} (h1:x<y↔x'<y') (h2:y<x↔y'<x'):compare x y=compare x' y':=by
 show compareOfLessAndEq x y=compareOfLessAndEq x' y'
 unfold compareOfLessAndEq
 by_cases h:x<y
 ·rw [A8u h,A8u (h1.1 h)]
 ·rw [A8t h,A8t (fun k=>h (h1.2 k))]
  by_cases e:x=y
  ·rw [A8u e,A8u (by omega)]
  ·rw [A8t e,A8t (by omega)]
theorem A17 {b:Nat} (h4:Aj b≠4):b%2^63≤Ei:=by
 rw [← Yb h4]; exact Rj _ _
theorem Ru {b:Nat} (h:Aj b=3):b%2^63=Ei:=by
 rw [Pz]
 rcases Ji b with ⟨h1,h2,_⟩ | ⟨_,_,h4⟩ | ⟨_,h4,_⟩
 ·rw [h1,h2]; rfl
 ·omega
 ·omega
theorem Xd {b:Nat} (h3:Aj b≠3) (h4:Aj b≠4):b%2^63<Ei:=by
 have hf:C9 b<2^52:=L8 b
 rw [Pz,Fl]
 rcases Ji b with ⟨_,_,h⟩ | ⟨_,_,h⟩ | ⟨h1,_,_⟩
 ·exact absurd h h3
 ·exact absurd h h4
 ·omega
theorem Amv {x y:Int} (h:x<y):compare x y=.lt:=by
 show compareOfLessAndEq x y=_; unfold compareOfLessAndEq; rw [A8u h]
theorem Amw {x y:Int} (h:y<x):compare x y=.gt:=by
 show compareOfLessAndEq x y=_; unfold compareOfLessAndEq; rw [A8t (by omega),A8t (by omega)]
theorem Aqb {a b:Nat} (ha:a<2^64) (hb:b<2^64) (a4:Aj a≠4) (b4:Aj b≠4):Ieee.double.order a b=some (compare (Jj a) (Jj b)):=by
 unfold Format.order
 rw [Aam ha,Aam hb]
 have hpos:0<Ei:=by decide
 by_cases a3:Aj a=3
 ·have ka:=Ru a3
  rw [Mr a3]
  by_cases b3:Aj b=3
  ·have kb:=Ru b3
   rw [Mr b3]
   show some (compare (Bp b).toNat (Bp a).toNat)=_
   unfold Jj
   rw [ka,kb]
   cases Bp a<;>cases Bp b<;>decide
  ·have kb:=Xd b3 b4
   rw [Mq b3 b4]
   show some (if Bp a then Ordering.lt else .gt)=_
   unfold Jj Ik
   rw [ka]
   cases Bp a
   ·rw [Amw (by simp; split<;>omega)]; rfl
   ·rw [Amv (by simp; split<;>omega)]; rfl
 ·have ka:=Xd a3 a4
  rw [Mq a3 a4]
  by_cases b3:Aj b=3
  ·have kb:=Ru b3
   rw [Mr b3]
   show some (if Bp b then Ordering.gt else .lt)=_
   unfold Jj Ik
   rw [kb]
   cases Bp b
   ·rw [Amv (by simp; split<;>omega)]; rfl
   ·rw [Amw (by simp; split<;>omega)]; rfl
  ·rw [Mq b3 b4]
   show some (compare (Ieee.signed _ _ _) (Ieee.signed _ _ _))=_
   rw [Aek,Aek]
   congr 1
   exact Ark (Asa a4 b4 (Int.min_le_left _ _) (Int.min_le_right _ _)) (Asa b4 a4 (Int.min_le_right _ _) (Int.min_le_left _ _))
def Adt (S:Int) (f:Int):Int:=if S<0 then -(B1 S.natAbs f:Int) else B1 S.natAbs f
theorem Ali (S:Int) (k:Nat) (f:Int):Adt (S*((2^k:Nat):Int)) (f-k)=Adt S f:=by
 have hp:=B5 k
 have h0:S*((2^k:Nat):Int)<0↔S<0:=by
  constructor
  ·intro h
   rcases Int.lt_or_le S 0 with h1 | h1
   ·exact h1
   ·have:=Int.mul_nonneg h1 (Int.natCast_nonneg (2^k)); omega
  ·intro h
   exact Int.mul_neg_of_neg_of_pos h (by omega)
 unfold Adt
 rw [Int.natAbs_mul,Int.natAbs_natCast,(Di S.natAbs k f).1]
 by_cases h:S<0
 ·rw [A8u h,A8u (h0.2 h)]
 ·rw [A8t h,A8t (fun k=>h (h0.1 k))]
theorem Acv (s:Bool) {r:Nat} (h:r<2^63):Jj (Bx s r)=Ik s r:=by
 unfold Jj Bx Bp
 cases s
 ·have h1:¬ 2^63≤r:=by omega
  have h2:r%2^63=r:=A8k h
  simp only [Bool.false_eq_true,if_false,A8c h1,h2]
 ·have h1:2^63≤2^63+r:=by omega
  have h2:(2^63+r)%2^63=r:=by omega
  simp only [if_true,A78 h1,h2]
theorem Aq3 (s:Bool) (S f:Int):Jj (Lu (Bx s 0) S f).1=Adt S f:=by
 unfold Lu Adt
 by_cases h:S=0
 ·subst h
  have e:B1 (Int.natAbs 0) f=0:=A8u rfl
  rw [A8u rfl,e,Acv s (by decide)]
  cases s<;>rfl
 ·rw [A8t h]
  show Jj (Bx _ _)=_
  rw [Acv _ (Jr _ _)]
  unfold Ik
  by_cases h1:S<0
  ·rw [A8u h1,A78 h1,A8u rfl]
  ·rw [A8t h1,A8c h1,A8t (by decide)]
theorem Ad4 {b:Nat} {f g:Int} {k:Nat} (hk:g=f-k) (hf:f≤Av b):Fo b g=Fo b f*((2^k:Nat):Int):=by
 unfold Fo
 have e:(Av b-g).toNat=(Av b-f).toNat+k:=by omega
 rw [e,A8w,← A8y]
 generalize An b*2^(Av b-f).toNat=m
 generalize 2^k=p
 unfold Ik
 cases Bp b
 ·exact A8s m p
 ·show -((m*p:Nat):Int)=-(m:Int)*(p:Int)
  rw [A8s,Int.neg_mul]
theorem Aa4 {a c:Nat} (a3:Aj a≠3) (a4:Aj a≠4) (c3:Aj c≠3) (c4:Aj c≠4) {g:Int} (hg:g≤min (Av a) (Av c)) :
 Jj (Gf a c).1=Adt (Fo a g+Fo c g) g:=by
 rw [Tw (fun h=>h.elim a4 c4) a3 c3,Aq3]
 obtain ⟨k,hk⟩:∃ k:Nat,g=min (Av a) (Av c)-k:=⟨(min (Av a) (Av c)-g).toNat,by omega⟩
 rw [Ad4 (b:=a) hk (Int.min_le_left _ _),Ad4 (b:=c) hk (Int.min_le_right _ _),← Int.add_mul,hk,Ali]
end Go.Cv
namespace Go.Cv
def Hc (a b:Nat):Nat × Nat :=
 if Aj a=4∨Aj b=4 then (Sq,0)
 else if Aj a=3∨Aj b=3 then (if Aj a=0∨Aj b=0 then (Sq,16) else (Bx (Bp a !=Bp b) Ei,0))
 else (Bx (Bp a !=Bp b) (B1 (An a*An b) (Av a+Av b)),flagsOf (An a*An b) (Av a+Av b))
def Fu (X Y K:Nat):Nat:=2*(X*2^K / Y)+(if X*2^K%Y=0 then 0 else 1)
def Sm (a b:Nat):Nat × Nat :=
 if Aj a=4∨Aj b=4 then (Sq,0)
 else if Aj a=Aj b∧(Aj a=3∨Aj a=0) then (Sq,16)
 else if Aj a=3 then (Bx (Bp a !=Bp b) Ei,0)
 else if Aj b=3∨Aj a=0 then (Bx (Bp a !=Bp b) 0,0)
 else if Aj b=0 then (Bx (Bp a !=Bp b) Ei,8)
 else (Bx (Bp a !=Bp b) (B1 (Fu (An a) (An b) 120) (Av a-Av b-121)),flagsOf (Fu (An a) (An b) 120) (Av a-Av b-121))
theorem Aly {V k:Nat} {E:Int} (hm:1≤V / 2^k) (hc:2^53≤V / 2^k∨E+k+1≤-1074) :
 B1 (4*(V / 2^k)+(if V%2^k=0 then 0 else 1)) (E+k-2)=B1 V E∧flagsOf (4*(V / 2^k)+(if V%2^k=0 then 0 else 1)) (E+k-2)=flagsOf V E:=by
 have hA:=B5 k
 have h1:=Nat.div_add_mod V (2^k)
 have h2:=Nat.mod_lt V hA
 generalize hq:V / 2^k=q at *
 generalize hr:V%2^k=r at *
 by_cases h0:r=0
 ·rw [A8u h0]
  obtain ⟨a1,a2⟩:=Di q k (E+k)
  obtain ⟨b1,b2⟩:=Di q 2 (E+k)
  have e1:E+(k:Int)-k=E:=by omega
  have e2:V=q*2^k:=by rw [A8v]; omega
  have e3:q*2^2=4*q+0:=by omega
  have e4:E+(k:Int)-((2:Nat):Int)=E+k-2:=by omega
  rw [e1,← e2] at a1 a2
  rw [e3,e4] at b1 b2
  rw [a1,a2,b1,b2]
  exact ⟨rfl,rfl⟩
 ·rw [A8t h0]
  obtain ⟨d,rfl⟩:∃ d,k=d+1:=by
   cases k with
   | zero=>simp only [A85] at h2; omega
   | succ d=>exact ⟨d,rfl⟩
  have hD:2^(d+1)=2*2^d:=by rw [Nat.pow_succ]; omega
  rw [hD] at h1 h2
  generalize hc2:2^d=c at *
  have p1:(2*q+1-1)*c=2*c*q:=by rw [Nat.add_sub_cancel,A8v,Nat.mul_left_comm,A8y]
  have p2:(2*q+1+1)*c=2*c*q+2*c:=by
   rw [show 2*q+1+1=2*(q+1) by omega,A8y,A9b,Nat.mul_add,A8v q c,A8y]; omega
  have lt1:(2*q+1-1)*2^d<V:=by rw [hc2,p1]; omega
  have lt2:V<(2*q+1+1)*2^d:=by rw [hc2,p2]; omega
  have od:(2*q+1)%2=1:=by omega
  have lV:=Tj od (by omega) lt1 lt2
  have l4:(4*q+1).log2=(2*q+1).log2+1:=Tj (d:=1) od (by omega) (by omega) (by omega)
  have hs:(2*q+1).log2≥54∨E+d+2≤-1074:=by
   rcases hc with h | h
   ·left; rw [ge_iff_le,Nat.le_log2 (by omega)]; omega
   ·right; omega
  have hk:E+d+2≤Bz (2*q+1) (E+d):=by unfold Bz; omega
  obtain ⟨a1,a2⟩:=S7 (E:=E) od lt1 lt2 (by unfold Bz; rw [lV]; omega) hk
  have ee:E+((d+1:Nat):Int)-2+((1:Nat):Int)=E+d:=by omega
  obtain ⟨b1,b2⟩:=S7 (V:=4*q+1) (d:=1) (E:=E+((d+1:Nat):Int)-2) od (by omega) (by omega) (by unfold Bz; rw [l4]; omega) (by rw [ee]; unfold Bz; omega)
  rw [ee] at b1 b2
  rw [a1,a2,b1,b2]
  exact ⟨rfl,rfl⟩
theorem W1 (n:Bool) {V k:Nat} {E e:Int} {s:Bool} (he:e=E+k) (hs:s=decide (V%2^k≠0)) (hm:1≤V / 2^k) (hc:2^53≤V / 2^k∨E+k+1≤-1074) :
 He n (V / 2^k) e s=(Bx n (B1 V E),flagsOf V E):=by
 obtain ⟨a,b⟩:=Aly hm hc
 have e1:s.toNat=if V%2^k=0 then 0 else 1:=by
  rw [hs]
  by_cases h:V%2^k=0
  ·rw [A8c (by omega),A8u h]; rfl
  ·rw [A78 h,A8t h]; rfl
 unfold He
 rw [he,e1,a,b]
theorem Abf {X Y K:Nat} (d:Nat) (E:Int) (hY:0<Y) (h:2^53≤X*2^K / Y) :
 B1 (Fu X Y (K+d)) (E-d)=B1 (Fu X Y K) E∧flagsOf (Fu X Y (K+d)) (E-d)=flagsOf (Fu X Y K) E:=by
 have hA:=B5 d
 unfold Fu
 have e:X*2^(K+d)=X*2^K*2^d:=by rw [A8w,A8y]
 rw [e]
 generalize X*2^K=Z at *
 have h1:=Nat.div_add_mod Z Y
 have h2:=Nat.mod_lt Z hY
 by_cases h0:Z%Y=0
 ·obtain ⟨q,rfl⟩:=Nat.dvd_of_mod_eq_zero h0
  have e1:Y*q*2^d=Y*(q*2^d):=A8y _ _ _
  rw [e1,Nat.mul_mod_right,Nat.mul_mod_right,Nat.mul_div_cancel_left _ hY,Nat.mul_div_cancel_left _ hY,A8u rfl]
  have:=Di (2*q+0) d E
  rw [show (2*q+0)*2^d=2*(q*2^d)+0 by rw [A9f,A9f,A8y]] at this
  exact this
 ·have h3:=Nat.div_add_mod (Z*2^d) Y
  have h4:=Nat.mod_lt (Z*2^d) hY
  rw [A8t h0]
  generalize hq:Z / Y=q at *
  generalize hr:Z%Y=r at *
  generalize hc:2^d=c at *
  have hz:Z*c=Y*(q*c)+r*c:=by rw [← h1,A9b,A8y]
  have hrc:r*c<Y*c:=(Nat.mul_lt_mul_right hA).2 h2
  have hrc0:0<r*c:=Nat.mul_pos (by omega) hA
  have q1:q*c≤Z*c / Y:=by rw [Nat.le_div_iff_mul_le hY,A8v (q*c)]; omega
  have q2:Z*c / Y<(q+1)*c:=by
   rw [Nat.div_lt_iff_lt_mul hY,A9b,A9b,Nat.one_mul,A8v (q*c),A8v c Y]; omega
  have q3:Z*c / Y=q*c→Z*c%Y≠0:=fun h5 h6=>by rw [h5,h6] at h3; omega
  generalize hQ:Z*c / Y=Q at *
  have p1:(2*q+1-1)*c=2*(q*c):=by rw [Nat.add_sub_cancel,A8y]
  have p2:(2*q+1+1)*c=2*((q+1)*c):=by rw [show 2*q+1+1=2*(q+1) by omega,A8y]
  have od:(2*q+1)%2=1:=by omega
  generalize hV:2*Q+(if Z*c%Y=0 then 0 else 1)=V
  have v1:(2*q+1-1)*2^d<V:=by
   rw [hc,p1,← hV]
   by_cases h5:Q=q*c
   ·rw [A8t (q3 h5)]; omega
   ·split<;>omega
  have v2:V<(2*q+1+1)*2^d:=by
   rw [hc,p2,← hV]
   split<;>omega
  have lV:=Tj od (by omega) v1 v2
  have hs:54≤(2*q+1).log2:=by rw [Nat.le_log2 (by omega)]; omega
  have ee:E-(d:Int)+d=E:=by omega
  have:=S7 (E:=E-d) od v1 v2 (by unfold Bz; rw [lV]; omega) (by unfold Bz; omega)
  rw [ee] at this
  exact this
theorem Ak1 {X Y K L:Nat} {E F:Int} (hY:0<Y) (h1:2^53≤X*2^K / Y) (h2:2^53≤X*2^L / Y) (he:E+K=F+L) :
 B1 (Fu X Y K) E=B1 (Fu X Y L) F∧flagsOf (Fu X Y K) E=flagsOf (Fu X Y L) F:=by
 rcases Nat.le_total K L with h | h
 ·obtain ⟨d,rfl⟩:=Nat.exists_eq_add_of_le h
  have:=Abf d E hY h1
  rw [show E-(d:Int)=F by omega] at this
  exact ⟨this.1.symm,this.2.symm⟩
 ·obtain ⟨d,rfl⟩:=Nat.exists_eq_add_of_le h
  have:=Abf d F hY h2
  rw [show F-(d:Int)=E by omega] at this
  exact this
theorem Ak2 (X Y a K:Nat):Fu (X*2^a) Y K=Fu X Y (K+a):=by
 unfold Fu
 have:X*2^a*2^K=X*2^(K+a):=by rw [A8y,← A8w,Nat.add_comm a K]
 rw [this]
theorem Aid (X Y b K:Nat):Fu X (Y*2^b) (K+b)=Fu X Y K:=by
 have hp:=B5 b
 unfold Fu
 have:X*2^(K+b)=X*2^K*2^b:=by rw [A8w,A8y]
 rw [this,Nat.mul_div_mul_right _ _ hp,Nat.mul_mod_mul_right]
 have:(X*2^K%Y*2^b=0)↔(X*2^K%Y=0):=by
  constructor
  ·intro h
   rcases Nat.mul_eq_zero.1 h with h | h
   ·exact h
   ·omega
  ·intro h; rw [h,Nat.zero_mul]
 simp only [this]
theorem A1o {X Y K t:Nat} (hX:0<X) (hY0:0<Y) (hY:Y<2^t) (hK:53+t≤K):2^53≤X*2^K / Y:=by
 rw [Nat.le_div_iff_mul_le hY0]
 have h1:2^53*Y≤2^53*2^t:=Nat.mul_le_mul_left _ (by omega)
 have h2:2^(53+t)≤2^K:=A8m (by decide) hK
 have h3:1*2^K≤X*2^K:=A8j _ (by omega)
 rw [A8w] at h2
 omega
theorem Aqn (n:Bool) {X Y K:Nat} {e E:Int} {s:Bool} (hs:s=decide (X*2^K%Y≠0)) (he:E=e-1) (hq:2^53≤X*2^K / Y) :
 He n (X*2^K / Y) e s=(Bx n (B1 (Fu X Y K) E),flagsOf (Fu X Y K) E):=by
 have e1:Fu X Y K / 2^1=X*2^K / Y:=by
  unfold Fu
  split<;>omega
 have e2:decide (Fu X Y K%2^1≠0)=decide (X*2^K%Y≠0):=by
  unfold Fu
  by_cases h:X*2^K%Y=0
  ·rw [A8u h,A8c (by omega),A8c (by omega)]
  ·rw [A8t h,A78 (by omega),A78 h]
 have:=W1 n (V:=Fu X Y K) (k:=1) (E:=E) (e:=e) (s:=s) (by omega) (by rw [e2]; exact hs) (by omega) (.inl (by omega))
 rw [e1] at this
 exact this
end Go.Cv
namespace Go.Cv
open Go.Den
def Ce:List Int→Nat
 | []=>0
 | x::l=>x.toNat+4294967296*Ce l
def digits:Nat→Nat→List Int
 | 0,_=>[]
 | k+1,v=>((v%4294967296:Nat):Int)::digits k (v / 4294967296)
def Du (n:Nat):Nat:=if n=0 then 0 else n.log2 / 32+1
def Sh (n:Nat):List Int:=digits (Du n) n
def Ah (v:Int):List Int:=Sh v.natAbs
def A2 (v:Int):Bool:=decide (v<0)
def wv (n:Bool) (l:List Int):Int:=Ik n (Ce l)
def Xf (l:List Int):Prop:=∀ x∈l,0≤x∧x<4294967296
def Iy (l:List Int):Bool:=Cr (l.length<1073741824∧Xf l)
def Ll (n:Bool) (l:List Int):Bool:=Cr (l.length<268435456∧l=Sh (Ce l)∧(n=true→l≠[]))
def Zk (n:Bool) (l:List Int):Bool:=Cr (l.length<134217728∧l=Sh (Ce l)∧(n=true→l≠[]))
def A1v (k:Int):Bool:=Cr (-1000000≤k∧k≤1000000)
def Afa (k:Int):Bool:=Cr (-9223372036854775808≤k∧k≤9223372036854775807)
def Hx (l:List Int) (i:Int):Int:=if 0≤i then l.getD i.toNat 0 else 0
def K5 (a b:List Int):List Int:=digits (max a.length b.length+1) (Ce a+Ce b)
def Jg (a b:List Int):List Int:=digits a.length (Ce a-Ce b)
def leL (a b:List Int):Bool:=Cr (Ce a≤Ce b)
def Y0 (a b:Nat):Int:=if a<b then -1 else if b<a then 1 else 0
def Z6 (a b:Int):Int:=if a<b then -1 else if b<a then 1 else 0
def Mn (v:Int) (j:Nat):Int:=Ik (A2 v) (v.natAbs / 2^j)
def Ja (v k:Int):Int:=if 0≤k then v*((2^k.toNat:Nat):Int) else Mn v (-k).toNat
def Acp (v:Int):Int:=if v=0 then 0 else (v.natAbs.log2:Int)+1
def Aqe (v:Int):Bool:=decide (v%2=1)
theorem two32:2^32=4294967296:=by decide
theorem N8 (k:Nat):2^(32*(k+1))=4294967296*2^(32*k):=by
 rw [Nat.mul_add,A9g,A8w,A8v,two32]
theorem En:∀ (k v:Nat),(digits k v).length=k
 | 0,_=>rfl
 | k+1,v=>by rw [digits,List.length_cons,En k]
theorem O1:∀ (k v:Nat),Xf (digits k v)
 | 0,_=>fun x h=>by cases h
 | k+1,v=>fun x h=>by
   rw [digits,List.mem_cons] at h
   rcases h with rfl | h
   ·omega
   ·exact O1 k _ x h
theorem Kz:∀ (k v:Nat),Ce (digits k v)=v%2^(32*k)
 | 0,v=>by rw [digits,Ce,Nat.mul_zero,A85,Nat.mod_one]
 | k+1,v=>by
   rw [digits,Ce,Kz k,A79,N8,Nat.mod_mul]
theorem Lr:∀ {l:List Int},Xf l→Ce l<2^(32*l.length)
 | [],_=>by decide
 | x::l,h=>by
   have h1:=h x (A9m ..)
   have h2:=Lr (l:=l) (fun y hy=>h y (A9c _ hy))
   rw [Ce,List.length_cons,N8]
   omega
theorem Tq:∀ {l:List Int},Xf l→digits l.length (Ce l)=l
 | [],_=>rfl
 | x::l,h=>by
   have h1:=h x (A9m ..)
   have h2:=Tq (l:=l) (fun y hy=>h y (A9c _ hy))
   rw [Ce,List.length_cons,digits]
   have e1:(x.toNat+4294967296*Ce l)%4294967296=x.toNat:=by omega
   have e2:(x.toNat+4294967296*Ce l) / 4294967296=Ce l:=by omega
   rw [e1,e2,h2]
   congr 1
   omega
theorem L7 (n:Nat):n<2^(32*Du n):=by
 unfold Du
 by_cases h:n=0
 ·rw [A8u h,h]; decide
 ·rw [A8t h]
  exact A9i Nat.lt_log2_self (A8m (by decide) (by omega))
theorem Nb {n k:Nat} (h:n<2^(32*k)):Du n≤k:=by
 unfold Du
 by_cases h0:n=0
 ·rw [A8u h0]; exact Nat.zero_le _
 ·rw [A8t h0]
  have:=(A9n h0).2 h
  omega
theorem Ayz {n k:Nat} (h:2^(32*k)≤n):k+1≤Du n:=by
 have hp:=B5 (32*k)
 unfold Du
 rw [A8t (by omega)]
 have:=(Nat.le_log2 (by omega)).2 h
 omega
theorem Oz {n m:Nat} (h:n≤m):Du n≤Du m:=Nb (A89 h (L7 m))
theorem Vg (n:Nat):Ce (Sh n)=n:=by
 unfold Sh
 rw [Kz,A8k (L7 n)]
theorem Hj (n:Nat):(Sh n).length=Du n:=En _ _
theorem Ajm (n:Nat):Xf (Sh n):=O1 _ _
theorem Ada:∀ (k v i:Nat),i<k→(digits k v).getD i 0=((v / 2^(32*i)%4294967296:Nat):Int)
 | k+1,v,0,_=>by rw [digits,List.getD_cons_zero,Nat.mul_zero,A85,Nat.div_one]
 | k+1,v,i+1,h=>by
   rw [digits,List.getD_cons_succ,Ada k _ i (by omega),N8,A80]
theorem P8 {l:List Int} (h:Xf l) (i:Nat):l.getD i 0=((Ce l / 2^(32*i)%4294967296:Nat):Int):=by
 by_cases hi:i<l.length
 ·have:=Ada l.length (Ce l) i hi
  rw [Tq h] at this
  exact this
 ·have h1:=Lr h
  have h2:2^(32*l.length)≤2^(32*i):=A8m (by decide) (by omega)
  rw [Nat.div_eq_of_lt (by omega),A8h,A9p (by omega)]
  rfl
theorem Ih {l:List Int} (h:Xf l) (i:Nat):Hx l (i:Int)=((Ce l / 2^(32*i)%4294967296:Nat):Int):=by
 unfold Hx
 rw [A8u (by omega),A79,P8 h]
theorem Lf:∀ (k v:Nat),digits (k+1) v=digits k v++[((v / 2^(32*k)%4294967296:Nat):Int)]
 | 0,v=>by rw [digits,digits,digits,Nat.mul_zero,A85,Nat.div_one]; rfl
 | k+1,v=>by
   rw [digits,Lf k,N8,← A80]
   rfl
theorem Zt:∀ (j k v:Nat),j≤k→(digits k v).take j=digits j v
 | 0,_,_,_=>by rw [List.take_zero,digits]
 | j+1,k+1,v,h=>by rw [digits,List.take_succ_cons,Zt j k _ (by omega),digits]
theorem Ama {l:List Int} (h:Xf l):l.take (Du (Ce l))=Sh (Ce l):=by
 have h1:=Zt (Du (Ce l)) l.length (Ce l) (Nb (Lr h))
 rw [Tq h] at h1
 exact h1
theorem Kh {n:Nat} (h:n≠0):0<Du n:=by unfold Du; rw [A8t h]; omega
theorem Ft (v:Int):wv (A2 v) (Ah v)=v:=by
 unfold wv A2 Ah Ik
 rw [Vg]
 by_cases h:v<0
 ·rw [A78 h,A8u rfl]; omega
 ·rw [A8c h,A8t (by decide)]; omega
theorem Lw {l:List Int} (h:l.length<1073741824) (hi:Xf l):Iy l=true:=Ao.2 ⟨h,hi⟩
theorem Lx {l:List Int} (h:Iy l=true):l.length<1073741824∧Xf l:=Ao.1 h
theorem Adf (v:Int):Ah v=Sh (Ce (Ah v))∧(A2 v=true→Ah v≠[]):=by
 unfold Ah
 rw [Vg]
 refine ⟨rfl,fun h e=>?_⟩
 have h1:v<0:=A8x h
 have h2:=Hj v.natAbs
 rw [e] at h2
 have:=Kh (n:=v.natAbs) (by omega)
 rw [← h2] at this
 exact absurd this (by decide)
theorem Ix {v:Int} (h:Du v.natAbs<268435456):Ll (A2 v) (Ah v)=true :=
 Ao.2 ⟨by unfold Ah; rw [Hj]; exact h,Adf v⟩
theorem Als {v:Int} (h:Du v.natAbs<134217728):Zk (A2 v) (Ah v)=true :=
 Ao.2 ⟨by unfold Ah; rw [Hj]; exact h,Adf v⟩
theorem Y2 {n:Bool} {l:List Int} (h1:l=Sh (Ce l)) (h2:n=true→l≠[]):n=A2 (wv n l)∧l=Ah (wv n l):=by
 have e:(wv n l).natAbs=Ce l:=by unfold wv Ik; split<;>omega
 refine ⟨?_,by unfold Ah; rw [e]; exact h1⟩
 unfold A2 wv Ik
 cases n
 ·simp
 ·have h3:=h2 rfl
  have h4:Ce l≠0:=fun h=>by
   rw [h] at h1
   exact h3 h1
  simp; omega
theorem Km {n:Bool} {l:List Int} (h:Ll n l=true):∃ v,n=A2 v∧l=Ah v∧Du v.natAbs<268435456:=by
 obtain ⟨h0,h1,h2⟩:=Ao.1 h
 obtain ⟨e1,e2⟩:=Y2 h1 h2
 refine ⟨_,e1,e2,?_⟩
 have:=congrArg length e2
 unfold Ah at this
 rw [Hj] at this
 omega
theorem Rq {n:Bool} {l:List Int} (h:Zk n l=true):∃ v,n=A2 v∧l=Ah v∧Du v.natAbs<134217728:=by
 obtain ⟨h0,h1,h2⟩:=Ao.1 h
 obtain ⟨e1,e2⟩:=Y2 h1 h2
 refine ⟨_,e1,e2,?_⟩
 have:=congrArg length e2
 unfold Ah at this
 rw [Hj] at this
 omega
theorem Q1 {v:Int} (h:Du v.natAbs<1073741824):Iy (Ah v)=true :=
 Lw (by unfold Ah; rw [Hj]; exact h) (Ajm _)
theorem Ef (v:Int):Ce (Ah v)=v.natAbs:=Vg _
theorem Cm (v:Int):(Ah v).length=Du v.natAbs:=Hj _
theorem A0q (n:Bool) (l:List Int):wv (!n) l=- wv n l:=by
 unfold wv Ik
 cases n<;>simp
theorem Aev {a b:List Int} (ha:Xf a) (hb:Xf b):Ce (K5 a b)=Ce a+Ce b:=by
 unfold K5
 rw [Kz,A8k]
 have h1:=Lr ha
 have h2:=Lr hb
 have h3:2^(32*a.length)≤2^(32*max a.length b.length):=A8m (by decide) (by omega)
 have h4:2^(32*b.length)≤2^(32*max a.length b.length):=A8m (by decide) (by omega)
 rw [N8]
 omega
theorem Rl (a b:List Int):(K5 a b).length=max a.length b.length+1:=En _ _
theorem Ab2 (a b:List Int):Xf (K5 a b):=O1 _ _
theorem Al4 {a:List Int} (b:List Int) (ha:Xf a):Ce (Jg a b)=Ce a-Ce b:=by
 unfold Jg
 rw [Kz,A8k]
 have h1:=Lr ha
 omega
theorem U7 (a b:List Int):(Jg a b).length=a.length:=En _ _
theorem Ae4 (a b:List Int):Xf (Jg a b):=O1 _ _
theorem Od (v:Int) (j:Nat):(Mn v j).natAbs=v.natAbs / 2^j:=by
 unfold Mn
 generalize v.natAbs / 2^j=m
 unfold Ik; split<;>omega
theorem T8 {v:Int} (h:v<0) (m:Nat):Ik (A2 v) m=-(m:Int):=by
 unfold Ik A2; rw [A78 h,A8u rfl]
theorem T7 {v:Int} (h:¬ v<0) (m:Nat):Ik (A2 v) m=(m:Int):=by
 unfold Ik A2; rw [A8c h,A8t (by decide)]
theorem Agi (v:Int) (i j:Nat):Mn (Mn v i) j=Mn v (i+j):=by
 have e:v.natAbs / 2^(i+j)=v.natAbs / 2^i / 2^j:=by rw [A8w,A80]
 have h1:=Od v i
 by_cases hv:v<0
 ·have h2:Mn v i=-((v.natAbs / 2^i:Nat):Int):=T8 hv _
  rw [show Mn v (i+j)=-((v.natAbs / 2^(i+j):Nat):Int) from T8 hv _,e]
  by_cases h0:v.natAbs / 2^i=0
  ·rw [h2,h0]
   show Mn 0 j=_
   rw [Nat.zero_div]
   show Ik (A2 0) (0 / 2^j)=_
   rw [Nat.zero_div]; rfl
  ·have h3:Mn v i<0:=by omega
   rw [show Mn (Mn v i) j=-(((Mn v i).natAbs / 2^j:Nat):Int) from T8 h3 _,h1]
 ·have h2:Mn v i=((v.natAbs / 2^i:Nat):Int):=T7 hv _
  have h3:¬ Mn v i<0:=by omega
  rw [show Mn (Mn v i) j=(((Mn v i).natAbs / 2^j:Nat):Int) from T7 h3 _,h1,show Mn v (i+j)=((v.natAbs / 2^(i+j):Nat):Int) from T7 hv _,e]
theorem Aip (v:Int):Mn v 0=v:=by
 unfold Mn Ik A2
 rw [A85,Nat.div_one]
 by_cases h:v<0
 ·rw [A78 h,A8u rfl]; omega
 ·rw [A8c h,A8t (by decide)]; omega
theorem T6 (j:Nat):Mn 0 j=0:=by
 unfold Mn
 rw [show (Int.natAbs 0)=0 from rfl,Nat.zero_div]
 rfl
theorem Apa {l:List Int} (h:Xf l):Ce (l.drop 1)=Ce l / 4294967296:=by
 cases l with
 | nil=>rfl
 | cons x l =>
   have:=h x (A9m ..)
   show Ce l=_
   rw [Ce]; omega
theorem Ajx {l:List Int} (h:Xf l):Xf (l.drop 1):=fun x hx=>h x (List.mem_of_mem_drop hx)
theorem Ajw {l:List Int} (h:Xf l):Xf ([(0:Int)]++l):=fun x hx=>by
 rcases List.mem_cons.1 hx with rfl | hx
 ·omega
 ·exact h x hx
theorem Au2 (n:Nat):Du (2*n)≤Du n+1:=by
 refine Nb ?_
 have h:=L7 n
 rw [N8]
 omega
theorem Ayy (n:Nat):Du (n*4294967296)≤Du n+1:=by
 refine Nb ?_
 have h:=L7 n
 rw [N8]
 omega
theorem Ajj {n m:Nat} (h:2^m≤n):(n / 2^m).log2+m=n.log2:=by
 have hp:=B5 m
 have h0:n≠0:=by omega
 have hm:m≤n.log2:=(Nat.le_log2 h0).2 h
 have e:(n / 2^m).log2=n.log2-m:=by
  refine Aaw ?_ ?_
  ·rw [Nat.le_div_iff_mul_le hp,← A8w]
   exact A9e (A8m (by decide) (by omega)) (Nat.log2_self_le h0)
  ·rw [Nat.div_lt_iff_lt_mul hp,← A8w]
   exact A9i Nat.lt_log2_self (A8m (by decide) (by omega))
 omega
end Go.Cv
namespace Go.Cv
open Go.Den
def T1 (n:Nat):Nat:=if h:n=0∨n%2=1 then 0 else T1 (n / 2)+1
termination_by n
decreasing_by omega
def mD (v:Int):Int:=Mn v (T1 v.natAbs)
def eD (v e:Int):Int:=if v=0 then 0 else e+T1 v.natAbs
def Dt (v e w f:Int):Int:=if v=0 then f else if w=0 then e else min e f
def Am8 (v e w f:Int):Int:=Ja v (e-Dt v e w f)+Ja w (f-Dt v e w f)
def Pu (v e w f:Int):Int:=mD (Am8 v e w f)
def Akl (v e w f:Int):Int:=eD (Am8 v e w f) (Dt v e w f)
def Jb (v e:Int):Int:=if v=0 then 0 else Acp v+e
def Pr (v:Int):Int:=if v<0 then -1 else if v=0 then 0 else 1
def Z7 (v e w f:Int):Int:=Z6 (Ja v (e-Dt v e w f)) (Ja w (f-Dt v e w f))
def Vq (e:Int):Bool:=Cr (-2000000≤e∧e≤2000000)
def Sl (e:Int):Bool:=Cr (-400000≤e∧e≤400000)
def Aqd (v e f:Int):Bool:=Cr (v=0∨(-1000000≤e-f∧e-f≤1000000))&&Cr (-400000≤e∧e≤400000∧-1000000≤f∧f≤1000000)
theorem Aku {n:Nat} (h:n=0∨n%2=1):T1 n=0:=by rw [T1,dif_pos h]
theorem Anh {n:Nat} (h0:n≠0) (h:n%2=0):T1 n=T1 (n / 2)+1:=by rw [T1,dif_neg (by omega)]
theorem Af2 {n:Nat} (h:n≠0):∀ k,T1 (n*2^k)=k+T1 n
 | 0=>by rw [A85,A9g,A9h]
 | k+1=>by
   have hp:=B5 k
   have h1:n*2^k≠0:=by
    intro e
    rcases Nat.mul_eq_zero.1 e with e | e<;>omega
   have e:n*2^(k+1)=n*2^k*2:=by rw [Nat.pow_succ,A8y]
   rw [e,Anh (by omega) (by omega),Nat.mul_div_cancel _ (by decide),Af2 h k]
   omega
theorem Ang (n:Nat) (h:n≠0):∃ m,n=m*2^T1 n∧m%2=1:=by
 induction n using Nat.strongRecOn with
 | _ n ih =>
   by_cases h2:n%2=1
   ·refine ⟨n,?_,h2⟩
    rw [Aku (.inr h2),A85,A9g]
   ·obtain ⟨m,h3,h4⟩:=ih (n / 2) (by omega) (by omega)
    refine ⟨m,?_,h4⟩
    rw [Anh h (by omega),Nat.pow_succ,← A8y,← h3]
    omega
theorem Asq {n:Nat} (h:n≠0):T1 n≤n.log2:=by
 obtain ⟨m,h1,h2⟩:=Ang n h
 refine (Nat.le_log2 h).2 ?_
 have:1*2^T1 n≤m*2^T1 n:=A8j _ (by omega)
 omega
theorem Ae6 {n:Nat}:n.log2<32*Du n+1:=by
 unfold Du
 by_cases h:n=0
 ·rw [h]; decide
 ·rw [A8t h]; omega
theorem Al6 {v:Int} {k:Nat} (h:v.natAbs%2^k=0):mD (Mn v k)=mD v:=by
 unfold mD
 by_cases h0:v=0
 ·rw [h0,T6]
 ·have hp:=B5 k
  have hv:=Nat.div_add_mod v.natAbs (2^k)
  rw [h,A9f,A8v] at hv
  have hq:v.natAbs / 2^k≠0:=by
   intro e; rw [e] at hv; omega
  have:=Af2 hq k
  rw [hv] at this
  rw [Od,Agi,this]
theorem Amo {v e:Int} {k:Nat} (h:v.natAbs%2^k=0) (h0:v≠0):eD (Mn v k) (e+k)=eD v e:=by
 unfold eD
 have hp:=B5 k
 have hv:=Nat.div_add_mod v.natAbs (2^k)
 rw [h,A9f,A8v] at hv
 have hq:v.natAbs / 2^k≠0:=by
  intro e; rw [e] at hv; omega
 have ht:=Af2 hq k
 rw [hv] at ht
 have ha:=Od v k
 rw [A8t h0,A8t (by omega),ha,ht]
 omega
theorem A14 {v:Int} (h:v%2=1):mD v=v:=by
 unfold mD
 rw [Aku (.inr (by omega)),Aip]
theorem A2f {v:Int} (h:v%2=1) (e:Int):eD v e=e:=by
 unfold eD
 rw [Aku (.inr (by omega)),A8t (by omega)]
 omega
theorem Anp (v:Int) (k:Nat):Mn (v*((2^k:Nat):Int)) k=v:=by
 have hp:=B5 k
 unfold Mn
 rw [Int.natAbs_mul,Int.natAbs_natCast,Nat.mul_div_cancel _ hp]
 by_cases h:v<0
 ·have h1:v*((2^k:Nat):Int)<0:=Int.mul_neg_of_neg_of_pos h (by omega)
  rw [T8 h1]; omega
 ·have h1:¬ v*((2^k:Nat):Int)<0:=by
   have:=Int.mul_nonneg (show (0:Int)≤v by omega) (Int.natCast_nonneg (2^k))
   omega
  rw [T7 h1]; omega
theorem W4 (v:Int) (k:Nat):(v*((2^k:Nat):Int)).natAbs%2^k=0:=by
 rw [Int.natAbs_mul,Int.natAbs_natCast,Nat.mul_mod_left]
theorem A15 (v:Int) (k:Nat):mD (v*((2^k:Nat):Int))=mD v:=by
 rw [← Al6 (W4 v k),Anp]
theorem Al0 {v:Int} (h:v≠0) (k:Nat):v*((2^k:Nat):Int)≠0:=by
 have hp:=B5 k
 intro e
 rcases Int.mul_eq_zero.1 e with e | e
 ·exact h e
 ·omega
theorem A2g (v e:Int) (k:Nat):eD (v*((2^k:Nat):Int)) (e-k)=eD v e:=by
 by_cases h:v=0
 ·rw [h,Int.zero_mul]; rfl
 ·rw [← Amo (W4 v k) (Al0 h k),Anp]
  congr 1
  omega
theorem Aav (v:Int):v=mD v*((2^T1 v.natAbs:Nat):Int):=by
 by_cases h:v=0
 ·rw [h]
  show (0:Int)=Mn 0 _*_
  rw [T6,Int.zero_mul]
 ·obtain ⟨m,h1,h2⟩:=Ang v.natAbs (by omega)
  have hp:=B5 (T1 v.natAbs)
  have hq:v.natAbs / 2^T1 v.natAbs=m:=Nat.div_eq_of_eq_mul_left hp h1
  unfold mD Mn
  rw [hq]
  by_cases hv:v<0
  ·rw [T8 hv,Int.neg_mul,← A8s,← h1]; omega
  ·rw [T7 hv,← A8s,← h1]; omega
theorem P4 {v:Int}:mD v=0↔v=0:=by
 constructor
 ·intro h
  have:=Aav v
  rw [h,Int.zero_mul] at this
  exact this
 ·intro h
  rw [h]
  exact T6 _
theorem Yp (v:Int):(mD v).natAbs≤v.natAbs:=by
 unfold mD
 rw [Od]
 exact Nat.div_le_self _ _
end Go.Cv
namespace Go.Cv
open Go.Den
def vAt (v e g:Int):Int:=v*((2^(e-g).toNat:Nat):Int)
theorem Kb (e g:Int):vAt 0 e g=0:=Int.zero_mul _
theorem Ad7 {v e g h:Int} (h1:h≤e) (h2:g≤h):vAt v e g=vAt v e h*((2^(h-g).toNat:Nat):Int):=by
 unfold vAt
 rw [Int.mul_assoc,← A8s,← A8w]
 have:(e-h).toNat+(h-g).toNat=(e-g).toNat:=by omega
 rw [this]
theorem Agh {v e l:Int} (h:v≠0→l≤e):Ja v (e-l)=vAt v e l:=by
 by_cases h0:v=0
 ·rw [h0,Kb]
  unfold Ja
  split
  ·exact Int.zero_mul _
  ·exact T6 _
 ·unfold Ja vAt
  rw [A8u (by have:=h h0; omega)]
theorem Auv {v e w f:Int}:(v≠0→Dt v e w f≤e)∧(w≠0→Dt v e w f≤f):=by
 unfold Dt
 constructor
 ·intro h
  rw [A8t h]
  split<;>omega
 ·intro h
  split
  ·omega
  ·omega
theorem Awh (x y:Int) (k:Nat):Z6 (x*((2^k:Nat):Int)) (y*((2^k:Nat):Int))=Z6 x y:=by
 have hp:=B5 k
 have h1:x*((2^k:Nat):Int)<y*((2^k:Nat):Int)↔x<y:=Int.mul_lt_mul_right (by omega)
 have h2:y*((2^k:Nat):Int)<x*((2^k:Nat):Int)↔y<x:=Int.mul_lt_mul_right (by omega)
 unfold Z6
 simp only [h1,h2]
theorem Azq {v e w f g:Int} (h1:v≠0→g≤e) (h2:w≠0→g≤f):Z7 v e w f=Z6 (vAt v e g) (vAt w f g):=by
 obtain ⟨l1,l2⟩:=Auv (v:=v) (e:=e) (w:=w) (f:=f)
 unfold Z7
 rw [Agh l1,Agh l2]
 by_cases h0:v=0∧w=0
 ·rw [h0.1,h0.2,Kb,Kb,Kb,Kb]
 ·have hg:g≤Dt v e w f:=by
   unfold Dt
   split
   ·rename_i hv
    exact h2 (fun k=>h0 ⟨hv,k⟩)
   ·split
    ·exact h1 (by assumption)
    ·have:=h1 (by assumption); have:=h2 (by assumption); omega
  have e1:vAt v e g=vAt v e (Dt v e w f)*((2^(Dt v e w f-g).toNat:Nat):Int):=by
   by_cases h0:v=0
   ·rw [h0,Kb,Kb,Int.zero_mul]
   ·exact Ad7 (l1 h0) hg
  have e2:vAt w f g=vAt w f (Dt v e w f)*((2^(Dt v e w f-g).toNat:Nat):Int):=by
   by_cases h0:w=0
   ·rw [h0,Kb,Kb,Int.zero_mul]
   ·exact Ad7 (l2 h0) hg
  rw [e1,e2,Awh]
def Ak (l:List Int):Bool:=Cr (∀ x∈l,Al x=true)
def H5 (x:Int):Int:=Ik (Bp x.toNat) (An x.toNat)
def U3 (n:Bool) (b:Int):Int:=if n then Eh b else b
end Go.Cv
namespace Go.Cv
open Go.Den
theorem Vf (s:Bool) {q:Nat} {L:Int} (hq:q<2^53) (hL:-1074≤L) (h:2^52≤q∨L=-1074) (hr:(L+1074).toNat*2^52+q<Ei) :
 An (Bx s ((L+1074).toNat*2^52+q))=q∧Av (Bx s ((L+1074).toNat*2^52+q))=L:=by
 rw [Fl] at hr
 obtain ⟨t,ht⟩:∃ t:Nat,L=t-1074:=⟨(L+1074).toNat,by omega⟩
 have et:(L+1074).toNat=t:=by omega
 rw [et] at hr ⊢
 have hp:=Yg s (r:=t*2^52+q) (by omega)
 have hf:=Vy s (t*2^52+q)
 unfold An Av
 by_cases h52:2^52≤q
 ·have e1:D5 (Bx s (t*2^52+q))=t+1:=by rw [hp]; omega
  rw [e1,hf,A8t (by omega),A8t (by omega)]
  omega
 ·have t0:t=0:=by omega
  subst t0
  have e1:D5 (Bx s (0*2^52+q))=0:=by rw [hp]; omega
  rw [e1,hf,A8u rfl,A8u rfl]
  omega
theorem sign_neg (s:Bool) {r:Nat} (h:r<2^63):Bp (Bx s r)=s:=by
 unfold Bp Bx
 cases s
 ·simp only [Bool.false_eq_true,if_false,A8q]; omega
 ·simp only [if_true,A8e]; omega
theorem Ac4 (s:Bool) {V:Nat} {E:Int} (h0:V≠0) (hE:Bz V E≤E) (hi:B1 V E<Ei) :
 flagsOf V E=0∧∃ k:Nat,An (Bx s (B1 V E))=V*2^k∧Av (Bx s (B1 V E))=E-k:=by
 have hl2:V.log2=V.log2:=rfl
 have ek:kept V E=V*2^(E-Bz V E).toNat:=by
  unfold kept J1
  have e1:(Bz V E-E).toNat=0:=by omega
  have e2:(-(Bz V E-E)).toNat=(E-Bz V E).toNat:=by omega
  rw [e1,e2,Ox]
 have eex:exact V E=true:=by
  unfold exact O2
  have e1:(Bz V E-E).toNat=0:=by omega
  rw [e1,A85,Nat.mod_one]; rfl
 constructor
 ·unfold flagsOf flags
  rw [A8t h0,A8t (by omega),eex]; rfl
 ·have hr:B1 V E=(Bz V E+1074).toNat*2^52+kept V E:=by
   unfold B1 at hi ⊢
   rw [A8t h0] at hi ⊢
   omega
  have hk:kept V E<2^53:=by
   rw [ek,← A9n (Kt h0),Pe V _ h0]
   unfold Bz at hE ⊢
   omega
  have hb:2^52≤kept V E∨Bz V E=-1074:=by
   by_cases h:Bz V E=-1074
   ·exact .inr h
   ·left
    refine Ag4 h0 ?_
    unfold Bz at h ⊢
    omega
  rw [hr] at hi
  obtain ⟨p1,p2⟩:=Vf s hk (by unfold Bz; omega) hb hi
  refine ⟨(E-Bz V E).toNat,?_,?_⟩
  ·rw [hr,p1,ek]
  ·rw [hr,p2]; omega
theorem Zo {V:Nat} {E:Int} (h:V<2^53) (hE:-1074≤E):Bz V E≤E:=by
 by_cases h0:V=0
 ·subst h0; unfold Bz; rw [Nat.log2_zero]; omega
 ·have:=(A9n h0).2 h
  unfold Bz; omega
end Go.Cv
namespace Go.Cv
open Go.Den
def Fk (x:Int):Int:=if x=0 then 0 else (x.toNat.log2:Int)+1
def U6 (x y:Int):Int:=((x.toNat*y.toNat / 18446744073709551616:Nat):Int)
def P3 (x y:Int):Int:=((x.toNat*y.toNat%18446744073709551616:Nat):Int)
def Auk (a b:Int):Bool:=decide (A7 a=4)||decide (A7 b=4)
def Ck (b:Nat):Nat:=52-(An b).log2
def Dc (b:Int):Int:=((An b.toNat*2^Ck b.toNat:Nat):Int)
def Ia (b:Int):Int:=Av b.toNat-Ck b.toNat
def Oi (b:Int):Bool:=Cr (An b.toNat≠0)
def Re (m e:Int):Bool:=Cr (1152921504606846976≤m∧m<4611686018427387904∧-6000≤e∧e≤6000)
def D6 (a b:Int):Int:=(Hc a.toNat b.toNat).1
def A5a (a b:Int):Int:=(Hc a.toNat b.toNat).2
def Hr (a b:Int):Int:=(Sm a.toNat b.toNat).1
def A5k (a b:Int):Int:=(Sm a.toNat b.toNat).2
def Ave (x:Int):Bool:=Cr (0≤x∧x<4294967296)
def singleL (l:List Int) (x:Int):List Int:=digits (l.length+1) (Ce l*x.toNat)
def okM (n:Bool) (l:List Int):Bool:=Cr (l.length<33554432∧l=Sh (Ce l)∧(n=true→l≠[]))
end Go.Cv
namespace Go.Cv
theorem Ar0 (a b:Nat):Gf a b=Gf b a:=by
 unfold Gf
 by_cases ha:Aj a=4
 ·simp only [ha,true_or,or_true,if_true]
 ·by_cases hb:Aj b=4
  ·simp only [hb,true_or,or_true,if_true]
  ·simp only [ha,hb,or_self,if_false]
   by_cases ha3:Aj a=3
   ·by_cases hb3:Aj b=3
    ·simp only [ha3,hb3,if_true,true_and]
     by_cases e:a=b
     ·subst e; rfl
     ·rw [A8u e,A8u (fun h=>e h.symm)]
    ·simp only [ha3,hb3,if_true,if_false,false_and]
   ·by_cases hb3:Aj b=3
    ·simp only [ha3,hb3,if_true,if_false,false_and]
    ·simp only [ha3,hb3,if_false]
     rw [Bool.and_comm,Int.min_comm,Int.add_comm]
theorem Aix {Y D:Nat} (h:Y%2^D=0):Gy Y D=Y / 2^D:=by unfold Gy; rw [A8u h]
theorem Alj {Y D:Nat} (h:Y%2^D≠0):Gy Y D%2=1:=by unfold Gy; rw [A8t h]; omega
theorem Aiy {Y d:Nat} (hY:Y<2^62) (h:Y%2^d≠0):(Gy Y (min d 63)-1)*2^d<Y∧Y<(Gy Y (min d 63)+1)*2^d∧Gy Y (min d 63)%2=1:=by
 have hA:=B5 d
 by_cases hd:d≤63
 ·rw [Nat.min_eq_left hd]
  refine ⟨?_,?_,Alj h⟩
  all_goals
   unfold Gy
   rw [A8t h]
   have h1:=Nat.div_add_mod Y (2^d)
   have h2:=Nat.mod_lt Y hA
   generalize Y / 2^d=q at *
   generalize Y%2^d=r at *
   generalize 2^d=c at *
   rw [A8v] at h1
  ·have h3:(2*(q / 2)+1-1)*c≤q*c:=A8j c (by omega)
   omega
  ·have h3:(q+1)*c≤(2*(q / 2)+1+1)*c:=A8j c (by omega)
   rw [A9b,Nat.one_mul] at h3
   omega
 ·rw [Nat.min_eq_right (by omega)]
  have h63:Y%2^63=Y:=A8k (by omega)
  have hd0:Y / 2^63=0:=Nat.div_eq_of_lt (by omega)
  have hY0:Y≠0:=by intro e; rw [e] at h; simp at h
  have hr:Gy Y 63=1:=by unfold Gy; rw [h63,A8t hY0,hd0]
  have hp:2^62≤2^d:=A8m (by decide) (by omega)
  rw [hr]
  refine ⟨by simp; omega,by omega,rfl⟩
theorem A7b {d M:Nat} (h:(M*2^9)%2^d≠0):10≤d:=by
 refine Nat.lt_of_not_le fun hle=>h ?_
 obtain ⟨k,hk⟩:∃ k,9=d+k:=⟨9-d,by omega⟩
 rw [hk,A8w,A8v (2^d),← A8y,Nat.mul_mod_left]
theorem Rd {V m d:Nat} {e f:Int} (hd:e=f+d) (h:V=m*2^d∨(m%2=1∧(m-1)*2^d<V∧V<(m+1)*2^d∧2^60≤m)) :
 B1 m (e-9)=B1 V (f-9)∧flagsOf m (e-9)=flagsOf V (f-9):=by
 rcases h with rfl | ⟨h1,h2,h3,h4⟩
 ·have:=Di m d (e-9)
  have e1:e-9-(d:Int)=f-9:=by omega
  rw [e1] at this
  exact ⟨this.1.symm,this.2.symm⟩
 ·have hm0:m≠0:=by omega
  have hlog:=Tj h1 (by omega) h2 h3
  have hl60:60≤m.log2:=(Nat.le_log2 hm0).2 h4
  have e1:f-9+(d:Int)=e-9:=by omega
  have hle:Bz V (f-9)=Bz m (f-9+d):=by unfold Bz; rw [hlog]; congr 1; omega
  have hk:f-9+d+2≤Bz m (f-9+d):=by unfold Bz; omega
  obtain ⟨a1,a2⟩:=S7 h1 h2 h3 hle hk
  rw [e1] at a1 a2
  exact ⟨a1.symm,a2.symm⟩
theorem Alb (V:Nat) (f:Int):B1 (V*2^9) (f-9)=B1 V f∧flagsOf (V*2^9) (f-9)=flagsOf V f:=Di V 9 f
structure A0f (Mx My d:Nat) (e f:Int) (X r:Nat):Prop where
 plus:B1 (X+r) (e-9)=B1 (Mx*2^d+My) f∧flagsOf (X+r) (e-9)=flagsOf (Mx*2^d+My) f
 less:r<X→My<Mx*2^d∧B1 (X-r) (e-9)=B1 (Mx*2^d-My) f∧flagsOf (X-r) (e-9)=flagsOf (Mx*2^d-My) f
 more:X<r→Mx*2^d<My∧B1 (r-X) (e-9)=B1 (My-Mx*2^d) f∧flagsOf (r-X) (e-9)=flagsOf (My-Mx*2^d) f
 same:X=r→Mx*2^d=My
 small:r≤2^62
theorem A0a {X My r d p:Nat} {e f:Int} (hd:e=f+d) (comm:X*2^d=p*2^9) (n1:(r-1)*2^d<My*2^9) (n2:My*2^9<r*2^d+2^d) (n3:r%2=1) (hX2:X%2=0) (hX:2^61≤X) (hr:r≤2^53) :
 (B1 (X+r) (e-9)=B1 (p+My) f∧flagsOf (X+r) (e-9)=flagsOf (p+My) f)∧My<p∧B1 (X-r) (e-9)=B1 (p-My) f∧flagsOf (X-r) (e-9)=flagsOf (p-My) f:=by
 have e1:(r-1)*2^d+2^d=r*2^d:=by
  obtain ⟨k,rfl⟩:∃ k,r=k+1:=⟨r-1,by omega⟩
  rw [Nat.add_sub_cancel,A9b,Nat.one_mul]
 have e2:(r+1)*2^d=r*2^d+2^d:=by rw [A9b,Nat.one_mul]
 have hXd:(r+1)*2^d≤X*2^d:=A8j _ (by omega)
 have hlt:My<p:=by rw [e2,comm] at hXd; omega
 have a1:B1 (X+r) (e-9)=B1 ((p+My)*2^9) (f-9)∧flagsOf (X+r) (e-9)=flagsOf ((p+My)*2^9) (f-9):=by
  refine Rd hd (.inr ⟨by omega,?_,?_,by omega⟩)
  ·have h1:X+r-1=X+(r-1):=by omega
   rw [h1,A9b X (r-1) (2^d),A9b p My (2^9),comm]
   exact Nat.add_lt_add_left n1 _
  ·have h1:X+r+1=X+(r+1):=by omega
   rw [h1,A9b X (r+1) (2^d),A9b p My (2^9),comm,e2]
   exact Nat.add_lt_add_left n2 _
 have a2:B1 (X-r) (e-9)=B1 ((p-My)*2^9) (f-9)∧flagsOf (X-r) (e-9)=flagsOf ((p-My)*2^9) (f-9):=by
  rw [e2,comm] at hXd
  refine Rd hd (.inr ⟨by omega,?_,?_,by omega⟩)
  ·have h1:X-r-1=X-(r+1):=by omega
   rw [h1,Nat.sub_mul X (r+1) (2^d),Nat.sub_mul p My (2^9),comm,e2]
   omega
  ·have h1:X-r+1=X-(r-1):=by omega
   rw [h1,Nat.sub_mul X (r-1) (2^d),Nat.sub_mul p My (2^9),comm]
   omega
 rw [(Alb _ f).1,(Alb _ f).2] at a1 a2
 exact ⟨a1,hlt,a2⟩
theorem Akj {Mx My d:Nat} {e f:Int} (hd:e=f+d) (hx:Mx<2^53) (hy:My<2^53) (hbig:10≤d→2^52≤Mx) :
 A0f Mx My d e f (Mx*2^9) (Gy (My*2^9) (min d 63)):=by
 have hA:=B5 d
 have hY:My*2^9<2^62:=by omega
 have comm:Mx*2^9*2^d=Mx*2^d*2^9:=by rw [A8y,A8v (2^9),← A8y]
 have s9:=fun V=>Alb V f
 by_cases hz:(My*2^9)%2^d=0
 ·
  have hr:∃ r,Gy (My*2^9) (min d 63)=r∧My*2^9=r*2^d:=by
   by_cases hd63:d≤63
   ·rw [Nat.min_eq_left hd63]
    exact ⟨_,rfl,by rw [Aix hz]; exact (Nat.div_mul_cancel (Nat.dvd_of_mod_eq_zero hz)).symm⟩
   ·have hp:2^62≤2^d:=A8m (by decide) (by omega)
    have:My*2^9=0:=by rw [A8k (by omega)] at hz; exact hz
    rw [Nat.min_eq_right (by omega),this]
    exact ⟨0,by decide,by omega⟩
  obtain ⟨r,hr,hYr⟩:=hr
  rw [hr]
  have hle:r≤2^62:=by
   have:r*1≤r*2^d:=Nat.mul_le_mul_left r hA
   omega
  have cmp:∀ x y:Nat,x*2^d<y*2^d↔x<y:=fun x y=>Nat.mul_lt_mul_right hA
  refine ⟨?_,fun h=>?_,fun h=>?_,fun h=>?_,hle⟩
  ·rw [← (s9 _).1,← (s9 _).2]
   exact Rd hd (.inl (by rw [A9b (Mx*2^d) My (2^9),A9b (Mx*2^9) r (2^d),comm,hYr]))
  ·have h1:=(cmp r (Mx*2^9)).2 h
   refine ⟨by omega,?_⟩
   rw [← (s9 _).1,← (s9 _).2]
   exact Rd hd (.inl (by first | rw [Nat.sub_mul (Mx*2^d) My (2^9),Nat.sub_mul (Mx*2^9) r (2^d),comm,hYr] | rw [Nat.sub_mul My (Mx*2^d) (2^9),Nat.sub_mul r (Mx*2^9) (2^d),comm,hYr]))
  ·have h1:=(cmp (Mx*2^9) r).2 h
   refine ⟨by omega,?_⟩
   rw [← (s9 _).1,← (s9 _).2]
   exact Rd hd (.inl (by first | rw [Nat.sub_mul (Mx*2^d) My (2^9),Nat.sub_mul (Mx*2^9) r (2^d),comm,hYr] | rw [Nat.sub_mul My (Mx*2^d) (2^9),Nat.sub_mul r (Mx*2^9) (2^d),comm,hYr]))
  ·rw [← h] at hYr
   omega
 ·
  have hd10:=A7b hz
  have hMx:=hbig hd10
  obtain ⟨n1,n2,n3⟩:=Aiy hY hz
  have hrle:Gy (My*2^9) (min d 63)≤2^53:=by
   refine Nat.le_of_not_lt fun h=>?_
   have h1:2^53*2^d≤(Gy (My*2^9) (min d 63)-1)*2^d:=A8j _ (by omega)
   have h2:2^10≤2^d:=A8m (by decide) hd10
   have h3:2^53*2^10≤2^53*2^d:=Nat.mul_le_mul_left _ h2
   omega
  generalize Gy (My*2^9) (min d 63)=r at *
  have hr1:1≤r:=by omega
  have e1:(r-1)*2^d+2^d=r*2^d:=by
   obtain ⟨k,rfl⟩:∃ k,r=k+1:=⟨r-1,by omega⟩
   rw [Nat.add_sub_cancel,A9b,Nat.one_mul]
  have e2:(r+1)*2^d=r*2^d+2^d:=by rw [A9b,Nat.one_mul]
  rw [e2] at n2
  have hXr:r<Mx*2^9:=by omega
  have hXd:(r+1)*2^d≤Mx*2^9*2^d:=A8j _ (by omega)
  rw [e2,comm] at hXd
  obtain ⟨p1,p2,p3⟩:=A0a hd comm n1 n2 n3 (by omega) (by omega) hrle
  exact ⟨p1,fun _=>⟨p2,p3⟩,fun h=>by omega,fun h=>by omega,by omega⟩
theorem Zm (n:Bool) (m:Nat) (e:Int):He n m e false=(Bx n (B1 m e),flagsOf m e):=by
 unfold He
 have:=Di m 2 e
 have e1:m*2^2=4*m+false.toNat:=by simp; omega
 have e2:e-((2:Nat):Int)=e-2:=by omega
 rw [e1,e2] at this
 rw [this.1,this.2]
theorem Aeo (E:Int):B1 0 E=0:=A8u rfl
theorem Xj (E:Int):flagsOf 0 E=0:=A8u rfl
theorem Jk {b:Nat} (h:Ii b=true):Aj b≠4∧Aj b≠3:=by
 unfold Ii at h
 simp only [A8e] at h
 unfold Aj
 rw [A8t (by omega)]
 split
 ·omega
 ·split<;>omega
theorem Aey {b:Nat} (h:-1064≤Av b):2^52≤An b:=by
 unfold Av at h
 unfold An
 split at h
 ·omega
 ·rw [A8t (by assumption)]; omega
theorem Vl (z:Nat) (s:Bool) {V:Nat} (hV:V≠0) (f:Int):Lu z (Ik s V) f=(Bx s (B1 V f),flagsOf V f):=by
 unfold Lu Ik
 cases s
 ·have h1:¬ (V:Int)=0:=by omega
  have h2:¬ (V:Int)<0:=by omega
  simp only [Bool.false_eq_true,if_false,h1,h2,decide_false,Int.natAbs_natCast]
 ·have h1:¬ -(V:Int)=0:=by omega
  have h2:-(V:Int)<0:=by omega
  simp only [if_true,h1,if_false,h2,decide_true,Int.natAbs_neg,Int.natAbs_natCast]
theorem A0c {p q X r:Nat} {e f:Int} (s t:Bool)
 (plus:B1 (X+r) e=B1 (p+q) f∧flagsOf (X+r) e=flagsOf (p+q) f)
 (less:r<X→q<p∧B1 (X-r) e=B1 (p-q) f∧flagsOf (X-r) e=flagsOf (p-q) f)
 (more:X<r→p<q∧B1 (r-X) e=B1 (q-p) f∧flagsOf (r-X) e=flagsOf (q-p) f)
 (same:X=r→p=q) :
 Lu (Bx (s&&t) 0) (Ik s p+Ik t q) f=(if s=t then He s (X+r) e false
  else if r<X then He s (X-r) e false
  else if X<r then He t (r-X) e false
  else (0,0)):=by
 simp only [Zm]
 by_cases hs:s=t
 ·rw [A8u hs,← hs]
  have hsum:Ik s p+Ik s q=Ik s (p+q):=by unfold Ik; cases s<;>simp<;>omega
  rw [hsum,plus.1,plus.2]
  by_cases h0:p+q=0
  ·rw [h0,Aeo,Xj]
   unfold Lu
   have:Ik s 0=0:=by unfold Ik; cases s<;>rfl
   rw [A8u this,A8d]
  ·exact Vl _ _ h0 _
 ·rw [A8t hs]
  by_cases h1:r<X
  ·obtain ⟨c1,c2,c3⟩:=less h1
   rw [A8u h1,c2,c3]
   have hsum:Ik s p+Ik t q=Ik s (p-q):=by
    unfold Ik; cases s<;>cases t<;>simp at hs ⊢<;>omega
   rw [hsum]
   exact Vl _ _ (by omega) _
  ·rw [A8t h1]
   by_cases h2:X<r
   ·obtain ⟨c1,c2,c3⟩:=more h2
    rw [A8u h2,c2,c3]
    have hsum:Ik s p+Ik t q=Ik t (q-p):=by
     unfold Ik; cases s<;>cases t<;>simp at hs ⊢<;>omega
    rw [hsum]
    exact Vl _ _ (by omega) _
   ·rw [A8t h2]
    have c:=same (by omega)
    have hsum:Ik s p+Ik t q=0:=by
     unfold Ik; cases s<;>cases t<;>simp at hs ⊢<;>omega
    have hz:(s&&t)=false:=by cases s<;>cases t<;>simp at hs ⊢
    rw [hsum,hz]
    rfl
theorem Awz {a b:Nat} (ha:Ii a=true) (hb:Ii b=true) :
 Gf a b=Lu (Bx (Bp a&&Bp b) 0) (Fo a (min (Av a) (Av b))+Fo b (min (Av a) (Av b))) (min (Av a) (Av b)):=by
 have k1:=Jk ha
 have k2:=Jk hb
 unfold Gf
 rw [A8t (fun h=>h.elim k1.1 k2.1),A8t k1.2,A8t k2.2]
theorem Akr (b:Nat):Fo b (Av b)=Ik (Bp b) (An b):=by
 unfold Fo; rw [Int.sub_self,Int.toNat_zero,A85,A9g]
theorem Asc {b:Nat} {f:Int} {d:Nat} (h:Av b=f+d):Fo b f=Ik (Bp b) (An b*2^d):=by
 unfold Fo
 have:(Av b-f).toNat=d:=by omega
 rw [this]
theorem Aki {a b:Nat} (ha:Ii a=true) (hb:Ii b=true) {d:Nat} (hd:Av a=Av b+d) :
 Gf a b=(if Bp a=Bp b then He (Bp a) (An a*2^9+Gy (An b*2^9) (min d 63)) (Av a-9) false
  else if Gy (An b*2^9) (min d 63)<An a*2^9 then He (Bp a) (An a*2^9-Gy (An b*2^9) (min d 63)) (Av a-9) false
  else if An a*2^9<Gy (An b*2^9) (min d 63) then He (Bp b) (Gy (An b*2^9) (min d 63)-An a*2^9) (Av a-9) false
  else (0,0)):=by
 have hx:=Fx a
 have hy:=Fx b
 have C:=Akj (Mx:=An a) (My:=An b) hd hx hy (fun h=>Aey (by have:=Cu b; omega))
 rw [Awz ha hb,Int.min_eq_right (by omega),Akr,Asc hd]
 exact A0c _ _ C.plus C.less C.more C.same
theorem Yo {b:Nat} (h:b<2^64):Eg b<2^64:=by unfold Eg; split<;>omega
theorem Amk (m:Nat) (e:Int):flagsOf m e<32:=by
 unfold flagsOf flags
 split
 ·decide
 ·split
  ·decide
  ·split
   ·decide
   ·split<;>decide
theorem X1 {a b:Nat} (ha:a<2^64) (hb:b<2^64):(Gf a b).1<2^64∧(Gf a b).2<32:=by
 unfold Gf
 split
 ·exact ⟨by decide,by decide⟩
 ·split
  ·split
   ·decide
   ·exact ⟨ha,(by decide:0<32)⟩
  ·split
   ·exact ⟨hb,(by decide:0<32)⟩
   ·unfold Lu
    split
    ·refine ⟨?_,(by decide:0<32)⟩
     unfold Bx; split<;>decide
    ·exact ⟨Wm _ _ _,Amk _ _⟩
end Go.Cv
namespace Go.Cv
open Go.Den
def C4 (r c:Nat) (f:Nat→Nat→Int):List Int:=(List.range (r*c)).map fun j=>f (j / c) (j%c)
theorem Cf (r c:Nat) (f:Nat→Nat→Int):(C4 r c f).length=r*c:=by unfold C4; rw [A9d,A9a]
theorem K6 {r c i k:Nat} (hi:i<r) (hk:k<c):i*c+k<r*c:=by
 have:(i+1)*c≤r*c:=A8j c hi
 rw [A9b,Nat.one_mul] at this
 omega
theorem Yh {c i k:Nat} (hk:k<c):(i*c+k) / c=i∧(i*c+k)%c=k:=by
 constructor
 ·rw [A8v,Nat.mul_add_div (by omega),Nat.div_eq_of_lt hk,A9f]
 ·rw [A8v,Nat.mul_add_mod,A8k hk]
theorem Iv {r c:Nat} {f:Nat→Nat→Int} {j:Nat} (h:j<r*c):(C4 r c f)[j]?=some (f (j / c) (j%c)):=by
 unfold C4
 rw [A9o,List.getElem?_range h]
 rfl
theorem Avi {r c i k:Nat} {f:Nat→Nat→Int} (hi:i<r) (hk:k<c):(C4 r c f).getD (i*c+k) 0=f i k:=by
 obtain ⟨d1,d2⟩:=Yh (i:=i) hk
 rw [A8h,Iv (K6 hi hk),d1,d2]
 rfl
theorem Tk {l m:List Int} (h:l.length=m.length) (he:∀ j,j<l.length→l[j]?=m[j]?):l=m:=by
 refine List.ext_getElem? fun j=>?_
 by_cases hj:j<l.length
 ·exact he j hj
 ·rw [A9p (by omega),A9p (by omega)]
theorem F1 {r c:Nat} {f g:Nat→Nat→Int} (h:∀ i k,i<r→k<c→f i k=g i k):C4 r c f=C4 r c g:=by
 refine Tk (by rw [Cf,Cf]) fun j hj=>?_
 rw [Cf] at hj
 have hc:0<c:=by
  rcases Nat.eq_zero_or_pos c with h0 | h0
  ·subst h0; rw [Nat.mul_zero] at hj; omega
  ·exact h0
 rw [Iv hj,Iv hj,h (j / c) (j%c) ((Nat.div_lt_iff_lt_mul hc).2 hj) (Nat.mod_lt _ hc)]
theorem Aq7 {r c:Nat} {l:List Int} (h:l.length=r*c):l=C4 r c fun i k=>l.getD (i*c+k) 0:=by
 refine Tk (by rw [Cf,h]) fun j hj=>?_
 rw [Iv (by omega)]
 have e:j / c*c+j%c=j:=by rw [A8v]; exact Nat.div_add_mod j c
 rw [e,A8h,A8o hj]
 rfl
theorem Xg {r c i k:Nat} {f:Nat→Nat→Int} (hk:k<c) (x:Int) :
 (C4 r c f).set (i*c+k) x=C4 r c fun a b=>if a=i∧b=k then x else f a b:=by
 refine Tk (by rw [List.length_set,Cf,Cf]) fun j hj=>?_
 rw [List.length_set,Cf] at hj
 obtain ⟨d1,d2⟩:=Yh (i:=i) hk
 rw [Iv hj,List.getElem?_set]
 by_cases h:i*c+k=j
 ·subst h
  rw [A8u rfl,A8u (by rw [Cf]; exact hj),d1,d2,A8u ⟨rfl,rfl⟩]
 ·rw [A8t h,Iv hj,A8t]
  rintro ⟨h1,h2⟩
  exact h (by rw [← h1,← h2,A8v]; exact Nat.div_add_mod j c)
theorem O0 (r c:Nat) (f:Nat→Nat→Int):C4 (r+1) c f=C4 r c f++(List.range c).map (f r):=by
 unfold C4
 rw [A9b,Nat.one_mul,List.range_add,List.map_append,List.map_map]
 congr 1
 refine List.map_congr_left fun k hk=>?_
 have hk:=List.mem_range.1 hk
 obtain ⟨d1,d2⟩:=Yh (i:=r) hk
 show f ((r*c+k) / c) ((r*c+k)%c)=f r k
 rw [d1,d2]
theorem Mz (c:Nat) (f:Nat→Nat→Int):C4 0 c f=[]:=by
 unfold C4; rw [Nat.zero_mul]; rfl
theorem Je (k:Nat) (g:Nat→Int):(List.range (k+1)).map g=(List.range k).map g++[g k]:=by
 rw [List.range_succ,List.map_append]; rfl
theorem Vx (r c:Nat):C4 r c (fun _ _=>0)=List.replicate (r*c) 0:=by
 unfold C4
 rw [List.map_const',A9a]
def U0:Nat→List Int→List Int→Nat
 | s,x::xs,y::ys=>U0 (Gf s (Hc x.toNat y.toNat).1).1 xs ys
 | s,_,_=>s
def M5 (x y:List Int):Int:=U0 0 x y
theorem Aat {a b:Nat}:(Hc a b).1<2^64:=by
 unfold Hc
 split
 ·decide
 ·split
  ·split
   ·decide
   ·unfold Bx; split<;>decide
  ·exact Wm _ _ _
theorem Ahk:∀ (x y:List Int) (s:Nat),s<2^64→U0 s x y<2^64
 | x::xs,y::ys,s,h=>Ahk xs ys _ (X1 h Aat).1
 | [],_,_,h=>by unfold U0; exact h
 | _::_,[],_,h=>by unfold U0; exact h
end Go.Cv
namespace Go.Cv
open Go.Den
def Br (n:Int):Bool:=decide (0≤n)&&decide (n≤6)
def Az (r c:Int) (l:List Int):Bool:=(Br r&&Br c)&&decide ((l.length:Int)=r*c)
def N6 (r c:Int) (l:List Int):Int:=if Az r c l=true then 0 else 1
def Aba (r c:Int) (l:List Int) (p q:Int) (m:List Int):Int:=if (Az r c l&&Az p q m)=true then 0 else 1
def Ha (_r c:Int) (l:List Int) (i k:Int):Bool:=Cr (0≤i∧i<10∧0≤k∧k<10∧0≤c∧c<10∧i*c+k<l.length∧l.length<1000)
def Cp (c:Int) (l:List Int) (i k:Int):Int:=l.getD (i*c+k).toNat 0
def V0 (i k:Int):Int:=if i=k then 4607182418800017408 else 0
def Abj (x y i k:Int):Bool:=Cr (0≤x∧x<10∧0≤y∧y<10∧0≤i∧i<10∧0≤k∧k<10)
def Qy (r c x y a b:Int):Bool:=decide (0≤x∧0≤y∧0≤a∧0≤b∧x≤r∧y≤c∧a≤r-x∧b≤c-y)
def Qu (r c:Int) (l:List Int) (p q:Int) (m:List Int) (i k:Int):Bool:=Cr (0≤r∧r<10∧0≤i∧i<20∧(if i<r then Ha r c l i k=true else Ha p q m (i-r) k=true))
def J5 (r c:Int) (l:List Int) (q:Int) (m:List Int) (i k:Int):Int:=if i<r then Cp c l i k else Cp q m (i-r) k
def Rk (r c:Int) (l:List Int) (i:Int):Bool:=Az r c l&&Cr (0≤i∧i<r)
def G9 (r c:Int) (l:List Int) (k:Int):Bool:=Az r c l&&Cr (0≤k∧k<c)
def Ym (r c:Int) (l:List Int) (p q:Int) (m:List Int) (i k:Int):Bool:=(Rk r c l i&&G9 p q m k)&&((Ak l&&Ak m)&&Cr (c=p))
def G7 (c:Int) (l:List Int) (i:Int):List Int:=List.drop (i*c).toNat (List.take ((i+1)*c).toNat l)
def Sn (r c:Int) (l:List Int) (k:Int):List Int:=(List.range r.toNat).map fun j:Nat=>Cp c l (j:Int) k
abbrev MX:=Int × Int × List Int × Int
def N9 (e:Int):MX:=(0,0,[],e)
def C8 (a b:Int):MX:=if (Br a&&Br b)=true then (a,b,C4 a.toNat b.toNat fun _ _=>0,0) else N9 3
def Rz (n:Int):MX:=if Br n=true then (n,n,C4 n.toNat n.toNat fun i k=>V0 i k,0) else N9 3
def Gr (r c:Int) (l:List Int):MX:=if Az r c l=true then (c,r,C4 c.toNat r.toNat fun i k=>Cp c l k i,0) else N9 1
def Jf (r c:Int) (l:List Int) (x y a b:Int):MX :=
 if Az r c l=true then (if Qy r c x y a b=true then (a,b,C4 a.toNat b.toNat fun i k=>Cp c l (x+i) (y+k),0) else N9 3) else N9 1
def Vs (r c:Int) (l:List Int) (p q:Int) (m:List Int):MX :=
 if (Az r c l&&Az p q m)=true then (if c=p then (r,q,C4 r.toNat q.toNat fun i k=>M5 (G7 c l i) (Sn p q m k),0) else N9 3) else N9 1
def Ed (r c:Int) (l:List Int) (p q:Int) (m:List Int):MX :=
 if (Az r c l&&Az p q m)=true then (if c=q∧r+p≤6 then (r+p,c,C4 (r+p).toNat c.toNat fun i k=>J5 r c l q m i k,0) else N9 3) else N9 1
def Z4 (x y:List Int):Bool:=decide (x.length=y.length)&&decide (x.length≤64)
def A7q (l:List Int):Bool:=Cr (l.length≤17592186044416)
theorem Jc {n:Int}:Br n=true↔0≤n∧n≤6:=by unfold Br; simp
theorem Js {r c:Int} {l:List Int}:Az r c l=true↔(0≤r∧r≤6)∧(0≤c∧c≤6)∧(l.length:Int)=r*c:=by
 unfold Az
 rw [A8i,A8i,Jc,Jc,A8e,and_assoc]
theorem Dl {r c:Int} {l:List Int} (h:Az r c l=true):∃ R C:Nat,r=R∧c=C∧R≤6∧C≤6∧l.length=R*C:=by
 obtain ⟨h1,h2,h3⟩:=Js.1 h
 refine ⟨r.toNat,c.toNat,by omega,by omega,by omega,by omega,?_⟩
 have:(((r.toNat*c.toNat:Nat)):Int)=r*c:=by rw [A8s,Int.toNat_of_nonneg h1.1,Int.toNat_of_nonneg h2.1]
 omega
theorem Gb {n:Int} (h:Br n=true):∃ R:Nat,n=R∧R≤6:=by
 have:=Jc.1 h
 exact ⟨n.toNat,by omega,by omega⟩
theorem Agd {n:Nat} (h:n≤6):Br (n:Int)=true:=Jc.2 ⟨by omega,by omega⟩
theorem Dw {r c:Nat} {l:List Int} (hr:r≤6) (hc:c≤6) (hl:l.length=r*c):Az (r:Int) (c:Int) l=true :=
 Js.2 ⟨⟨by omega,by omega⟩,⟨by omega,by omega⟩,by rw [hl,A8s]⟩
theorem Qd (c:Nat) (l:List Int) (i k:Nat):Cp (c:Int) l (i:Int) (k:Int)=l.getD (i*c+k) 0:=by
 unfold Cp
 have:((i:Int)*(c:Int)+(k:Int)).toNat=i*c+k:=by
  rw [← A8s,← Int.natCast_add,A79]
 rw [this]
theorem Jn {r c i k:Nat} {R:Int} {l:List Int} (hr:r≤6) (hc:c≤6) (hl:l.length=r*c) (hi:i<r) (hk:k<c):Ha R (c:Int) l (i:Int) (k:Int)=true:=by
 have:=K6 hi hk
 have h36:=A83 hr hc
 refine Ao.2 ⟨by omega,by omega,by omega,by omega,by omega,by omega,?_,by omega⟩
 rw [← A8s]
 omega
theorem Jx {r c i k:Nat} {f:Nat→Nat→Int} (hi:i<r) (hk:k<c):Cp (c:Int) (C4 r c f) (i:Int) (k:Int)=f i k:=by
 rw [Qd,Avi hi hk]
theorem Yv {r c:Nat} {l:List Int} (h:l.length=r*c):(C4 r c fun i k=>Cp (c:Int) l (i:Int) (k:Int))=l:=by
 conv=>rhs; rw [Aq7 h]
 exact F1 fun i k _ _=>Qd c l i k
theorem I8 {l:List Int} (h:Ak l=true) {j:Nat} (hj:j<l.length):Al (l.getD j 0)=true:=by
 have h:=Ao.1 h
 rw [A8h,A8o hj]
 exact h _ (List.getElem_mem hj)
end Go.Cv
namespace Go.Cv
theorem Apt {b:Nat} (h:b<2^64):Bx (Bp b) (b%2^63)=b:=by
 unfold Bx Bp
 by_cases hb:2^63≤b
 ·simp only [hb,decide_true,if_true]; omega
 ·simp only [hb,decide_false,Bool.false_eq_true,if_false]; omega
end Go.Cv
namespace Go.Cv
def Mj (n:Nat):Nat:=Ieee.Datum.rootFrom n (n.log2 / 2+1) 0
theorem Ax2 (k:Nat):1 <<< k=2^k:=by rw [Nat.shiftLeft_eq,Nat.one_mul]
theorem Yc {n:Nat}:∀ (todo root:Nat),root*root≤n→n<(root+2^todo)*(root+2^todo) →
 Ieee.Datum.rootFrom n todo root*Ieee.Datum.rootFrom n todo root≤n∧n<(Ieee.Datum.rootFrom n todo root+1)*(Ieee.Datum.rootFrom n todo root+1)
 | 0,root,h1,h2=>⟨h1,h2⟩
 | todo+1,root,h1,h2=>by
   unfold Ieee.Datum.rootFrom
   simp only [Ax2]
   have hp:2^(todo+1)=2^todo+2^todo:=by rw [Nat.pow_succ]; omega
   rw [hp] at h2
   by_cases h:(root+2^todo)*(root+2^todo)≤n
   ·rw [A8u h]
    exact Yc todo _ h (by rw [Nat.add_assoc]; exact h2)
   ·rw [A8t h]
    exact Yc todo _ h1 (by omega)
theorem Nm (n:Nat):Mj n*Mj n≤n∧n<(Mj n+1)*(Mj n+1):=by
 refine Yc _ _ (by simp) ?_
 rw [A9h,← A8w]
 rcases Nat.eq_zero_or_pos n with rfl | hn
 ·decide
 ·refine (A9n (by omega)).1 ?_
  omega
theorem Aii {a b:Nat} (h:a*a<b*b):a<b:=by
 rcases A84 a b with h1 | h1
 ·exact h1
 ·have:=A83 h1 h1; omega
theorem Acx {n w:Nat} (h1:w*w≤n) (h2:n<(w+1)*(w+1)):w=Mj n:=by
 obtain ⟨a,b⟩:=Nm n
 have c1:=Aii (A89 h1 b)
 have c2:=Aii (A89 a h2)
 omega
theorem Ag5 {n w:Nat} (h:w*w≤n):w≤Mj n:=by
 have:=Aii (A89 h (Nm n).2)
 omega
def Ey (n:Nat):Nat:=2*Mj n+(if Mj n*Mj n=n then 0 else 1)
theorem Ya (a c:Nat):a*c*(a*c)=a*a*(c*c):=by
 rw [A8y,Nat.mul_left_comm c,← A8y a a]
theorem Aep {n:Nat} (d:Nat) (E:Int) (h:2^53≤Mj n) :
 B1 (Ey (n*(2^d*2^d))) (E-d)=B1 (Ey n) E∧flagsOf (Ey (n*(2^d*2^d))) (E-d)=flagsOf (Ey n) E:=by
 have hA:=B5 d
 obtain ⟨h1,h2⟩:=Nm n
 unfold Ey
 generalize hw:Mj n=w at *
 generalize hc:2^d=c at *
 have hcc:0<c*c:=Nat.mul_pos hA hA
 by_cases h0:w*w=n
 ·have e1:Mj (n*(c*c))=w*c:=by
   refine (Acx ?_ ?_).symm
   ·rw [Ya,h0]; exact A81 _
   ·have:=Ya w c
    rw [h0] at this
    rw [A9b,Nat.mul_add,this]; omega
  rw [e1,Ya,h0,A8u rfl,A8u rfl]
  have:=Di (2*w+0) d E
  rw [hc,show (2*w+0)*c=2*(w*c)+0 by rw [A9f,A9f,A8y]] at this
  exact this
 ·rw [A8t h0]
  obtain ⟨g1,g2⟩:=Nm (n*(c*c))
  have q1:w*c≤Mj (n*(c*c)):=Ag5 (by rw [Ya]; exact A8j _ h1)
  have q2:Mj (n*(c*c))<(w+1)*c:=by
   refine Aii (A89 g1 ?_)
   rw [Ya]
   exact (Nat.mul_lt_mul_right hcc).2 h2
  have q3:Mj (n*(c*c))=w*c→Mj (n*(c*c))*Mj (n*(c*c))≠n*(c*c):=fun h5 h6=>by
   rw [h5,Ya] at h6
   exact h0 (Nat.eq_of_mul_eq_mul_right hcc h6)
  generalize hQ:Mj (n*(c*c))=Q at *
  have p1:(2*w+1-1)*c=2*(w*c):=by rw [Nat.add_sub_cancel,A8y]
  have p2:(2*w+1+1)*c=2*((w+1)*c):=by rw [show 2*w+1+1=2*(w+1) by omega,A8y]
  have od:(2*w+1)%2=1:=by omega
  generalize hV:2*Q+(if Q*Q=n*(c*c) then 0 else 1)=V
  have v1:(2*w+1-1)*2^d<V:=by
   rw [hc,p1,← hV]
   by_cases h5:Q=w*c
   ·rw [A8t (q3 h5)]; omega
   ·split<;>omega
  have v2:V<(2*w+1+1)*2^d:=by
   rw [hc,p2,← hV]
   split<;>omega
  have lV:=Tj od (by omega) v1 v2
  have hs:54≤(2*w+1).log2:=by rw [Nat.le_log2 (by omega)]; omega
  have ee:E-(d:Int)+d=E:=by omega
  have:=S7 (E:=E-d) od v1 v2 (by unfold Bz; rw [lV]; omega) (by unfold Bz; omega)
  rw [ee] at this
  exact this
theorem Xe {n t:Nat} (h:2^(t+t)≤n):2^t≤Mj n:=Ag5 (by rw [← A8w]; exact h)
theorem pow_two (k d:Nat):2^(k+2*d)=2^k*(2^d*2^d):=by rw [A8w,Nat.two_mul,A8w]
theorem Ap4 {m k l:Nat} {E F:Int} (h1:2^106≤m*2^k) (h2:2^106≤m*2^l) (he:2*E+k=2*F+l) :
 B1 (Ey (m*2^k)) E=B1 (Ey (m*2^l)) F∧flagsOf (Ey (m*2^k)) E=flagsOf (Ey (m*2^l)) F:=by
 rcases Nat.le_total k l with h | h
 ·obtain ⟨d,rfl⟩:∃ d,l=k+2*d:=⟨(l-k) / 2,by omega⟩
  have:=Aep (n:=m*2^k) d E (Xe (t:=53) h1)
  rw [A8y,← pow_two,show E-(d:Int)=F by omega] at this
  exact ⟨this.1.symm,this.2.symm⟩
 ·obtain ⟨d,rfl⟩:∃ d,k=l+2*d:=⟨(k-l) / 2,by omega⟩
  have:=Aep (n:=m*2^l) d F (Xe (t:=53) h2)
  rw [A8y,← pow_two,show F-(d:Int)=E by omega] at this
  exact this
def Fv (b:Nat):Nat:=128+(Av b%2).toNat
def Hw (b:Nat):Nat × Nat :=
 if Aj b=4 then (Sq,0)
 else if Aj b=0∨b=Ei then (b,0)
 else if Bp b=true then (Sq,16)
 else (B1 (Ey (An b*2^Fv b)) ((Av b-Fv b) / 2-1),flagsOf (Ey (An b*2^Fv b)) ((Av b-Fv b) / 2-1))
theorem Da {b:Nat} (h3:Aj b≠3) (h4:Aj b≠4):An b=0↔Aj b=0:=by
 have:=L8 b
 have:=Lv b
 unfold An
 unfold Aj at *
 split at h3<;>split<;>(try split)<;>(try split)<;>simp_all<;>omega
theorem Abi {b:Nat} (h:Aj b=4):Hw b=(Sq,0):=A8u h
theorem Ov {b:Nat} (h4:Aj b≠4) (h:Aj b=0∨b=Ei):Hw b=(b,0):=by unfold Hw; rw [A8t h4,A8u h]
theorem Aih {b:Nat} (h4:Aj b≠4) (h:¬ (Aj b=0∨b=Ei)) (hn:Bp b=true):Hw b=(Sq,16):=by unfold Hw; rw [A8t h4,A8t h,A8u hn]
theorem Wi {b:Nat} (h4:Aj b≠4) (h:¬ (Aj b=0∨b=Ei)) (hn:Bp b=false) :
 Hw b=(B1 (Ey (An b*2^Fv b)) ((Av b-Fv b) / 2-1),flagsOf (Ey (An b*2^Fv b)) ((Av b-Fv b) / 2-1)):=by
 unfold Hw; rw [A8t h4,A8t h,A8t (by rw [hn]; decide)]
theorem Ajv:Aj Ei=3:=by decide
theorem Ur:J7 Ei=Ei:=by decide
theorem Ip (r:Nat):Bx false r=r:=rfl
theorem Wr {b:Nat} (hm:An b≠0):2^106≤An b*2^Fv b∧2*((Av b-(Fv b:Int)) / 2-1)+Fv b=Av b-2:=by
 refine ⟨?_,by unfold Fv; omega⟩
 have:2^128≤2^Fv b:=A8m (by decide) (by unfold Fv; omega)
 have h5:=A83 (show 1≤An b by omega) this
 omega
theorem Aji {b:Nat} (hm:An b≠0):(An b).log2≤52:=by
 have:=(A9n hm).2 (show An b<2^53 from Fx b)
 omega
end Go.Cv
namespace Go.Cv
def Cj (b:Nat) (n:Int):Nat × Nat :=
 if Aj b=4 then (Sq,0)
 else if Aj b=3∨Aj b=0 then (b,0)
 else (Bx (Bp b) (B1 (An b) (Av b+n)),flagsOf (An b) (Av b+n))
theorem As3 {V:Nat} {E:Int} (h0:V≠0) (h:E+V.log2+1≤-1075):B1 V E=0∧flagsOf V E=3:=by
 have hl:Bz V E=-1074:=by unfold Bz; omega
 obtain ⟨k,hk⟩:∃ k:Nat,(-1074:Int)-E=((k:Nat):Int):=⟨(-1074-E).toNat,by omega⟩
 have hV:V<2^(V.log2+1):=(A9n h0).1 (by omega)
 have hp:2^(V.log2+1)*2≤2^k:=by rw [← Nat.pow_succ]; exact A8m (by decide) (by omega)
 have e1:V*2^(-((-1074:Int)-E)).toNat=V:=by rw [hk]; simp
 have e2:((-1074:Int)-E).toNat=k:=by rw [hk]; rfl
 have hk2:kept V E=0:=by
  unfold kept J1
  rw [hl,e1,e2]
  unfold Jt
  rw [Nat.div_eq_of_lt (by omega),A8k (by omega),A8t (by omega)]
 have hx:exact V E=false:=by
  unfold exact O2
  rw [hl,e1,e2,A8k (by omega)]
  exact A8c h0
 have hr:B1 V E=0:=by
  unfold B1
  rw [A8t h0,hl,hk2]
  rfl
 refine ⟨hr,?_⟩
 unfold flagsOf
 rw [A8t h0,hr,hx]
 rfl
theorem Aqx {m:Nat} (h:m<2^53):m.log2≤52:=by
 rcases Nat.eq_zero_or_pos m with rfl | h0
 ·decide
 ·have:=(A9n (by omega)).2 h; omega
theorem Aqi (n:Bool) {m:Nat} {e:Int} {more:Bool} (hm:m<2^53) (h0:m≠0∨more=true) (he:e≤-1130) :
 He n m e more=(Bx n 0,3):=by
 have h1:more.toNat≤1:=by cases more<;>decide
 have hV:4*m+more.toNat≠0:=by
  rcases h0 with h | h
  ·omega
  ·rw [h]; simp
 have hl:(4*m+more.toNat).log2≤54:=by
  have:=(A9n hV).2 (show 4*m+more.toNat<2^55 by omega); omega
 have:=As3 hV (E:=e-2) (by omega)
 unfold He
 rw [this.1,this.2]
theorem Aug (n:Bool):He n 0 (-1074) true=(Bx n 0,3):=by
 cases n<;>decide +kernel
theorem Ald {b:Nat} {n:Int} (h4:Aj b≠4) (h:¬ (Aj b=3∨Aj b=0)) (hn:Av b+n≤-1130):Cj b n=(Bx (Bp b) 0,3):=by
 have hm:An b≠0:=fun h5=>h (.inr ((Da (by omega) h4).1 h5))
 have:=As3 hm (E:=Av b+n) (by have:=Aji hm; omega)
 unfold Cj
 rw [A8t h4,A8t h,this.1,this.2]
theorem Jq {b:Nat} {n:Int} (h4:Aj b≠4) (h:¬ (Aj b=3∨Aj b=0)):Cj b n=(Bx (Bp b) (B1 (An b) (Av b+n)),flagsOf (An b) (Av b+n)):=by
 unfold Cj; rw [A8t h4,A8t h]
def E6 (b:Nat):Int:=if Ii b=true∧Aj b≠0 then ((An b).log2:Int)+Av b else 0
def Dy (b:Nat):Nat:=b%2^63
def At1 (a b:Nat):Int:=if Aj a=4∨Aj b=4 then 0 else if Jj a<Jj b then -1 else if Jj b<Jj a then 1 else 0
def A1s (a b:Nat):Bool:=!(decide (Aj a=4∨Aj b=4))
end Go.Cv
namespace Go.Cv
open Go.Den
def Aet (b:Int):Int:=Jj b.toNat
def Yk (a b:Int):Int:=At1 a.toNat b.toNat
def A44 (a b:Int):Bool:=A1s a.toNat b.toNat
def Tg (x:Int):Int:=Dy x.toNat
def Ch (x n:Int):Int:=(Cj x.toNat n).1
def Ax7 (x n:Int):Int:=(Cj x.toNat n).2
def Gt (x n:Int):Bool:=Al x&&Cr (-2300≤n∧n≤2300)
def Bq (x:Int):Int:=E6 x.toNat
def N7:List Int→Nat→Nat
 | [],m=>m
 | x::l,m=>if Aj x.toNat=4 then Sq else N7 l (max m (Dy x.toNat))
def Bg (l:List Int):Int:=N7 l 0
def Ff (l:List Int):Bool:=l.all Dk
def Cs (r c:Int) (l:List Int):Int:=if Az r c l=true then (if Ff l=true then 0 else 4) else 1
def An5 (c:Int) (l:List Int) (n:Nat):Bool:=(List.range n).any fun i:Nat=>decide (A7 (Cp c l (i:Int) (i:Int))=0)
def Xs (r c:Int) (l:List Int) (p q:Int) (m:List Int):Int :=
 if Cs r c l≠0 then Cs r c l else if Cs p q m≠0 then Cs p q m
 else if r≠c∨r≠p then 3 else if An5 c l r.toNat=true then 5 else 0
def Pg (c:Int) (l:List Int) (i:Int):Int→Int→List Int→Int
 | s,_,[]=>s
 | s,j,x::xs=>Pg c l i (Eu s (D6 (Cp c l i j) x)) (j+1) xs
def Rf (c:Int) (l:List Int) (b:Nat→Int) (n:Nat):Nat→List Int
 | 0=>[]
 | k+1=>Hr (Pg c l ((n-1-k:Nat):Int) (b (n-1-k)) ((n-k:Nat):Int) (Rf c l b n k)) (Cp c l ((n-1-k:Nat):Int) ((n-1-k:Nat):Int))::Rf c l b n k
def loL (c:Int) (l:List Int) (b:Nat→Int):Nat→List Int
 | 0=>[]
 | k+1=>loL c l b k++[Hr (Pg c l (k:Int) (b k) 0 (loL c l b k)) (Cp c l (k:Int) (k:Int))]
def upG (c:Int) (l:List Int) (q:Int) (m:List Int) (n w:Nat):List Int:=C4 n w fun i j=>(Rf c l (fun i=>Cp q m (i:Int) (j:Int)) n n).getD i 0
def loG (c:Int) (l:List Int) (q:Int) (m:List Int) (n w:Nat):List Int:=C4 n w fun i j=>(loL c l (fun i=>Cp q m (i:Int) (j:Int)) n).getD i 0
def Vz (r c:Int) (l:List Int):MX:=if Ff l=true then (r,c,l,0) else N9 2
def upX (r c:Int) (l:List Int) (p q:Int) (m:List Int):MX :=
 if Xs r c l p q m≠0 then N9 (Xs r c l p q m) else Vz r q (upG c l q m r.toNat q.toNat)
def loX (r c:Int) (l:List Int) (p q:Int) (m:List Int):MX :=
 if Xs r c l p q m≠0 then N9 (Xs r c l p q m) else Vz r q (loG c l q m r.toNat q.toNat)
def E1 (c:Int) (l:List Int) (n:Nat):List Int:=(List.range n).map fun i:Nat=>Tg (Cp c l (i:Int) (i:Int))
def Xi (d:List Int):Bool:=d.any fun x=>!(decide (Yk (Ch (Bg d) (-40)) x<0))
def Aha (r c:Int) (l:List Int):Bool:=Xi (E1 c l (min r.toNat c.toNat))
def Pk (r c:Int) (l:List Int):Bool × Int:=if Cs r c l≠0 then (false,Cs r c l) else (Aha r c l,0)
def Af6 (r c:Int) (l:List Int) (p q:Int) (m:List Int):Bool:=(Az r c l&&Az p q m)&&((Ak l&&Ak m)&&Cr (r=c∧r=p))
def Mb (n:Nat):List Int:=C4 n n fun i k=>V0 (i:Int) (k:Int)
def D7 (r c:Int) (l:List Int) (p q:Int) (m:List Int):MX :=
 if (Gr r c l).2.2.2≠0 then N9 (Gr r c l).2.2.2 else Vs (Gr r c l).1 (Gr r c l).2.1 (Gr r c l).2.2.1 p q m
end Go.Cv
namespace Go.Cv
open Go.Den
theorem Azj {a b:Nat}:(Sm a b).1<2^64:=by
 have h1:Ei<2^63:=by decide
 have hs:∀ (s:Bool) {r:Nat},r<2^63→Bx s r<2^64:=by
  intro s r h
  unfold Bx
  cases s
  ·rw [A8t (by decide)]; omega
  ·rw [A8u rfl]; omega
 have hN:Sq<2^64:=by decide
 unfold Sm
 by_cases c1:Aj a=4∨Aj b=4
 ·rw [A8u c1]; exact hN
 rw [A8t c1]
 by_cases c2:Aj a=Aj b∧(Aj a=3∨Aj a=0)
 ·rw [A8u c2]; exact hN
 rw [A8t c2]
 by_cases c3:Aj a=3
 ·rw [A8u c3]; exact hs _ h1
 rw [A8t c3]
 by_cases c4:Aj b=3∨Aj a=0
 ·rw [A8u c4]; exact hs _ (by decide)
 rw [A8t c4]
 by_cases c5:Aj b=0
 ·rw [A8u c5]; exact hs _ h1
 rw [A8t c5]
 exact hs _ (Jr _ _)
theorem Amr (a b:Int):Al (Hr a b)=true:=Co Azj
theorem X7 {a b:Int} (ha:Al a=true) (hb:Al b=true):Al (Eu a b)=true:=by
 obtain ⟨x,rfl,hx⟩:=Ca ha
 obtain ⟨y,rfl,hy⟩:=Ca hb
 exact Co (X1 (by rw [A79]; exact hx) (Yo (by rw [A79]; exact hy))).1
theorem Nc {r c:Nat} {f:Nat→Nat→Int} (h:∀ i k,Al (f i k)=true):Ak (C4 r c f)=true:=Ao.2 fun x hx=>by
 obtain ⟨j,_,rfl⟩:=List.mem_map.1 hx
 exact h _ _
theorem Ku (a b:Int):Al (D6 a b)=true:=Co Aat
theorem Mp (c:Int) (l:List Int) (b:Nat→Int) (n:Nat):∀ k,(Rf c l b n k).length=k
 | 0=>rfl
 | k+1=>by rw [Rf,List.length_cons,Mp c l b n k]
theorem Akt (c:Int) (l:List Int) (b:Nat→Int) (n:Nat):∀ k,∀ x∈Rf c l b n k,Al x=true
 | 0,x,h=>by cases h
 | k+1,x,h=>by
   rw [Rf] at h
   rcases List.mem_cons.1 h with rfl | h
   ·exact Amr _ _
   ·exact Akt c l b n k x h
theorem Aia (c:Int) (l:List Int) (b:Nat→Int) (n k:Nat):∀ d,(Rf c l b n (k+d)).drop d=Rf c l b n k
 | 0=>rfl
 | d+1=>by
   rw [← Nat.add_assoc,Rf,List.drop_succ_cons]
   exact Aia c l b n k d
theorem Aa9 {c:Int} {l:List Int} {b:Nat→Int} {n k:Nat} (h:k≤n):(Rf c l b n n).drop (n-k)=Rf c l b n k:=by
 have:=Aia c l b n k (n-k)
 rw [Nat.add_sub_cancel' h] at this
 exact this
theorem Anf {c:Int} {l:List Int} {b:Nat→Int} {n i:Nat} (h:i<n) :
 (Rf c l b n n).getD i 0=Hr (Pg c l (i:Int) (b i) ((i+1:Nat):Int) ((Rf c l b n n).drop (i+1))) (Cp c l (i:Int) (i:Int)):=by
 have e1:=Aa9 (c:=c) (l:=l) (b:=b) (n:=n) (k:=n-i) (by omega)
 have e2:=Aa9 (c:=c) (l:=l) (b:=b) (n:=n) (k:=n-i-1) (by omega)
 rw [show n-(n-i)=i by omega] at e1
 rw [show n-(n-i-1)=i+1 by omega] at e2
 rw [e2]
 have e3:(Rf c l b n n).getD i 0=((Rf c l b n n).drop i).getD 0 0:=by
  rw [A8h,A8h,List.getElem?_drop,A9f]
 rw [e3,e1,show n-i=(n-i-1)+1 by omega,Rf]
 have e4:n-1-(n-i-1)=i:=by omega
 have e5:n-(n-i-1)=i+1:=by omega
 rw [e4,e5]
 rfl
theorem Ag9 {l:List Int} (h:∀ x∈l,Al x=true) (i:Nat):Al (l.getD i 0)=true:=by
 rw [A8h]
 cases hi:l[i]? with
 | none=>exact Co (n:=0) (by decide)
 | some x=>exact h x (List.mem_of_getElem? hi)
theorem Aqz {c:Int} {l:List Int} {i s j:Int} {xs:List Int} {t:Nat} (h:t<xs.length):Pg c l i s j (xs.drop t)=Pg c l i (Eu s (D6 (Cp c l i j) (xs.getD t 0))) (j+1) (xs.drop (t+1)):=by
 rw [List.drop_eq_getElem_cons h,Pg,A8h,A8o h]; rfl
end Go.Cv
namespace Go.Cv
open Go.Den
def At5:Int:=4607182418800017408
def Ie (x:Int):Int:=(Hw x.toNat).1
def Sz (x:Int):Int:=(Hw x.toNat).2
def Qj (k:Int):Int→List Int→Int
 | s,[]=>s
 | s,x::l=>Qj k (Md s (D6 (Ch x k) (Ch x k))) l
def Dr (x:List Int):Int :=
 if Bg x=0∨Dk (Bg x)=false then Bg x else Ch (Ie (Qj (-Bq (Bg x)) 0 x)) (Bq (Bg x))
def Gc (l:List Int):Bool:=l.all fun x=>decide (A7 x=0)
def P7:List Int→Int
 | []=>0
 | x::l=>if A7 x=0 then P7 l else x
def Bn (l:List Int) (k:Int):List Int:=l.map fun x=>Ch x k
def Iw (n:Nat) (f:Nat→Int):List Int:=At5::(List.range (n-1)).map fun j=>f (j+1)
def Qk (x:List Int):Int:=if Em (P7 x)=true then Dr (Bn x (-Bq (Bg x))) else Eh (Dr (Bn x (-Bq (Bg x))))
def G2 (x:List Int):Int:=Ch (Qk x) (Bq (Bg x))
def E5 (x:List Int):Int:=Ch (x.getD 0 0) (-Bq (Bg x))
def Yn (x:List Int):List Int:=Iw x.length fun j=>Hr (Ch (x.getD j 0) (-Bq (Bg x))) (Eu (E5 x) (Qk x))
def Acd (x:List Int):Int:=Hr (Eu (Qk x) (E5 x)) (Qk x)
def Ai7 (x:List Int):List Int × Int × Int × Int :=
 if Gc (x.drop 1)=true then (Iw x.length fun _=>0,0,x.getD 0 0,0)
 else if Dk (G2 x)=true then (Yn x,Acd x,G2 x,0) else ([],0,0,2)
def Bv (x:List Int):List Int × Int × Int × Int :=
 if x.length=0∨64<x.length then ([],0,0,3) else if Ff x=true then Ai7 x else ([],0,0,4)
def B4 (c:Int) (l:List Int) (b i:Int) (n:Nat):List Int:=(List.range n).map fun j:Nat=>Cp c l (i+(j:Int)) b
def M6 (c:Int) (l:List Int) (i:Int) (v:List Int) (t b:Int):Int:=D6 t (M5 v (B4 c l b i v.length))
def Hy (c:Int) (l:List Int) (i k:Int) (v:List Int) (t a b:Int):Int :=
 if k≤b∧i≤a∧a<i+v.length then Eu (Cp c l a b) (D6 (M6 c l i v t b) (v.getD (a-i).toNat 0)) else Cp c l a b
def Gp (r c:Nat) (l:List Int) (i k:Int) (v:List Int) (t:Int):List Int:=C4 r c fun a b=>Hy (c:Int) l i k v t (a:Int) (b:Int)
def Sb (r c i k:Int) (v:List Int):Bool:=decide (0≤i∧(v.length:Int)≤r∧i≤r-v.length∧0≤k∧k≤c)
def Qo (r c:Nat) (l:List Int) (j:Nat) (x:Int):List Int:=C4 r c fun a b=>if b=j∧j≤a then (if a=j then x else 0) else Cp (c:Int) l (a:Int) (b:Int)
def Dm (r c:Nat) (l:List Int) (j:Nat):List Int:=B4 (c:Int) l (j:Int) (j:Int) (r-j)
def Ps (r c:Nat) (l:List Int) (j:Nat):List Int:=Qo r c (Gp r c l (j:Int) (j:Int) (Bv (Dm r c l j)).1 (Bv (Dm r c l j)).2.1) j (Bv (Dm r c l j)).2.2.1
def J2 (r c:Nat):Nat→Nat→List Int→Option (List Int × List (List Int × Int))
 | 0,_,l=>some (l,[])
 | n+1,j,l=>if (Bv (Dm r c l j)).2.2.2=0 then
  (J2 r c n (j+1) (Ps r c l j)).map fun x=>(x.1,((Bv (Dm r c l j)).1,(Bv (Dm r c l j)).2.1)::x.2) else none
def Fy (r c:Nat):Nat:=min c (r-1)
def Lg (n:Nat):Nat→List (List Int × Int)→List Int→List Int
 | _,[],q=>q
 | j,m::ms,q=>Gp n n (Lg n (j+1) ms q) (j:Int) 0 m.1 m.2
def I7 (r c:Nat) (l:List Int):Option (List Int × List (List Int × Int)):=J2 r c (Fy r c) 0 l
def Jy (r c:Nat) (l:List Int):List Int:=match I7 r c l with
 | some x=>Lg r 0 x.2 (Mb r)
 | none=>[]
def H6 (r c:Nat) (l:List Int):List Int:=match I7 r c l with
 | some x=>x.1
 | none=>[]
def Hf (r c:Int) (l:List Int):MX:=if (I7 r.toNat c.toNat l).isSome=true then (r,c,H6 r.toNat c.toNat l,0) else N9 2
def Ace (ms:List (List Int × Int)):List (List DV):=ms.map fun m=>[.ints .arg .u64 m.1,.int .u64 m.2]
def Q3 (r c:Int) (l:List Int):List (List DV):=match I7 r.toNat c.toNat l with
 | some x=>Ace x.2
 | none=>[]
def W7 (m:Int):Int:=Mj (m.toNat*2^64)
def W8 (m:Int):Bool:=decide (Mj (m.toNat*2^64)*Mj (m.toNat*2^64)=m.toNat*2^64)
def Tp (r c:Nat) (l:List Int):Bool:=(I7 r c l).isSome&&(Ff (Jy r c l)&&Ff (H6 r c l))
def Hq (r c:Int) (l:List Int):Int:=if Cs r c l≠0 then Cs r c l else if Tp r.toNat c.toNat l=true then 0 else 2
def qX (r c:Int) (l:List Int):MX:=if Hq r c l≠0 then N9 (Hq r c l) else (r,r,Jy r.toNat c.toNat l,0)
def rX (r c:Int) (l:List Int):MX:=if Hq r c l≠0 then N9 (Hq r c l) else (r,c,H6 r.toNat c.toNat l,0)
def J4 (r c:Int) (l:List Int):MX:=if Hq r c l≠0 then N9 (Hq r c l) else (r,min r c,(Jf r r (Jy r.toNat c.toNat l) 0 0 r (min r c)).2.2.1,0)
def O5 (r c:Int) (l:List Int):MX:=if Hq r c l≠0 then N9 (Hq r c l) else (min r c,c,(Jf r c (H6 r.toNat c.toNat l) 0 0 (min r c) c).2.2.1,0)
def Asl (a b:MX) (p q:Int) (m:List Int):MX :=
 if (D7 a.1 a.2.1 a.2.2.1 p q m).2.2.2≠0 then N9 (D7 a.1 a.2.1 a.2.2.1 p q m).2.2.2
 else upX b.1 b.2.1 b.2.2.1 (D7 a.1 a.2.1 a.2.2.1 p q m).1 (D7 a.1 a.2.1 a.2.2.1 p q m).2.1 (D7 a.1 a.2.1 a.2.2.1 p q m).2.2.1
def Hh (r c:Int) (l:List Int) (p q:Int) (m:List Int):MX :=
 if Cs r c l≠0 then N9 (Cs r c l) else if Cs p q m≠0 then N9 (Cs p q m) else if r<c∨r≠p then N9 3
 else if Hq r c l≠0 then N9 (Hq r c l)
 else if (Pk (O5 r c l).1 (O5 r c l).2.1 (O5 r c l).2.2.1).1=true then N9 5
 else Asl (J4 r c l) (O5 r c l) p q m
end Go.Cv
namespace Go.Cv
open Go.Den
def A3s (x:MX):MX:=Gr x.1 x.2.1 x.2.2.1
def A1r (x:MX) (i k a b:Int):MX:=Jf x.1 x.2.1 x.2.2.1 i k a b
def eqT (p q:Int) (m:List Int):List Int:=(Gr p q m).2.2.1
def eqR (p q:Int) (m:List Int):MX:=rX q p (eqT p q m)
def eqS (p q:Int) (m:List Int):MX:=A3s (A1r (eqR p q m) 0 0 p p)
def hY (p q:Int) (m:List Int) (u v:Int) (h:List Int):MX :=
 if Hq q p (eqT p q m)≠0 then N9 (Hq q p (eqT p q m)) else if (Pk (eqS p q m).1 (eqS p q m).2.1 (eqS p q m).2.2.1).1=true then N9 5
 else loX (eqS p q m).1 (eqS p q m).2.1 (eqS p q m).2.2.1 u v h
def hQ (p q:Int) (m:List Int):MX :=
 if Hq q p (eqT p q m)≠0 then N9 (Hq q p (eqT p q m)) else if (Pk (eqS p q m).1 (eqS p q m).2.1 (eqS p q m).2.2.1).1=true then N9 5
 else qX q p (eqT p q m)
def Au7 (x y:MX):MX:=Hh x.1 x.2.1 x.2.2.1 y.1 y.2.1 y.2.2.1
end Go.Cv
namespace Go.Cv
open Go.Den
def Adn (l m h:List Int):Bool:=(Ak l&&Ak m)&&Ak h
def Ci (x:Int) (l:List Int):List Int:=l.map fun y=>D6 x y
def So (r c:Int) (l:List Int) (p q:Int) (m:List Int) (u v:Int) (h:List Int):Int :=
 if Cs r c l≠0 then Cs r c l else if Cs p q m≠0 then Cs p q m else Cs u v h
def Tb (r c:Int) (l:List Int) (p q:Int) (m:List Int) (u v:Int) (h:List Int) (x:Int):Int :=
 if So r c l p q m u v h≠0 then So r c l p q m u v h else if Dk x=false then 4
 else if p≠r∨q≠1∨v≠c∨6<r+u then 3 else if Ff (Ci x h)=false then 2 else 0
def Az9 (r c:Int) (l:List Int) (u v:Int) (h:List Int) (x:Int):MX:=Ed r c l u v (Ci x h)
def Aio (p q:Int) (m:List Int) (u:Int):MX:=Ed p q m (C8 u 1).1 (C8 u 1).2.1 (C8 u 1).2.2.1
def C3 (r c:Int) (l:List Int) (p q:Int) (m:List Int) (u v:Int) (h:List Int) (x:Int):MX :=
 if Tb r c l p q m u v h x≠0 then N9 (Tb r c l p q m u v h x) else Au7 (Az9 r c l u v h x) (Aio p q m u)
end Go.Cv
namespace Go.Cv
open Go.Den
def Aeg (k b:Int):Bool:=Dk b&&(decide (A7 b=0)||(decide (-k≤Bq b)&&decide (Bq b<k)))
def Ec (x:List Int) (k:Int):Bool:=x.all (Aeg k)
end Go.Cv
namespace Go.Cv
open Go.Den
structure Wh (x:Int) (v:Int):Prop where
 word:Al x=true
 k3:Aj x.toNat≠3
 k4:Aj x.toNat≠4
 val:∃ g:Int,g≤0∧g≤Av x.toNat∧Fo x.toNat g=v*((2^(-g).toNat:Nat):Int)
end Go.Cv
end
