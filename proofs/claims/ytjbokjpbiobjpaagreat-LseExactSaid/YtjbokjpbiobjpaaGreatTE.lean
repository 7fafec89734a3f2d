/- A verified evaluator of the program's form and its use for this seat: S1Env, Rnd, Flt, Words, NearL, IeeL, OrdL, MulL, Limb, DyL, DyV, ExactL, MulW, SumL, MatL, MatW, PowL, RootL, ScaleL, SolW, TriL, HouW, LseW, GgW, RidW. -/
import Derived.Test.YtjbokjpbiobjpaaGreatProg
import Derived.Test.YtjbokjpbiobjpaaGreatTD
set_option linter.unusedVariables false
set_option linter.unusedSimpArgs false
noncomputable section
namespace Go.Proofs.S1
open Go Go.Den Go.Proofs
set_option maxRecDepth 100000
abbrev tB:Nat:=37
abbrev tMR:Nat:=214
abbrev tW:Nat:=173
def tys:List (Nat × TI):=[
  (2,⟨1,8,(.int .i64),[.int .i64 (0:Int)]⟩),
  (3,⟨1,8,(.int .i64),[.int .i64 (0:Int)]⟩),
  (4,⟨1,1,.bool,[.bool false]⟩),
  (5,⟨1,1,(.int .u8),[.int .u8 (0:Int)]⟩),
  (22,⟨1,24,(.slice 37),[.nil]⟩),
  (24,⟨3,40,(.struct [(0,3),(1,3),(2,22)]),[.int .i64 (0:Int),.int .i64 (0:Int),.nil]⟩),
  (25,⟨1,8,(.int .i64),[.int .i64 (0:Int)]⟩),
  (36,⟨1,8,(.int .u64),[.int .u64 (0:Int)]⟩),
  (37,⟨1,8,(.int .u64),[.int .u64 (0:Int)]⟩),
  (38,⟨1,24,(.slice 41),[.nil]⟩),
  (41,⟨1,1,(.int .i8),[.int .i8 (0:Int)]⟩),
  (43,⟨1,24,(.slice 173),[.nil]⟩),
  (45,⟨2,32,(.struct [(0,4),(1,43)]),[.bool false,.nil]⟩),
  (47,⟨3,40,(.struct [(0,45),(2,3)]),[.bool false,.nil,.int .i64 (0:Int)]⟩),
  (57,⟨12,160,(.struct [(0,24),(3,24),(6,24),(9,24)]),[.int .i64 (0:Int),.int .i64 (0:Int),.nil,.int .i64 (0:Int),.int .i64 (0:Int),.nil,.int .i64 (0:Int),.int .i64 (0:Int),.nil,.int .i64 (0:Int),.int .i64 (0:Int),.nil]⟩),
  (60,⟨12,160,(.struct [(0,24),(3,24),(6,24),(9,24)]),[.int .i64 (0:Int),.int .i64 (0:Int),.nil,.int .i64 (0:Int),.int .i64 (0:Int),.nil,.int .i64 (0:Int),.int .i64 (0:Int),.nil,.int .i64 (0:Int),.int .i64 (0:Int),.nil]⟩),
  (71,⟨9,120,(.struct [(0,24),(3,24),(6,24)]),[.int .i64 (0:Int),.int .i64 (0:Int),.nil,.int .i64 (0:Int),.int .i64 (0:Int),.nil,.int .i64 (0:Int),.int .i64 (0:Int),.nil]⟩),
  (74,⟨9,120,(.struct [(0,24),(3,24),(6,24)]),[.int .i64 (0:Int),.int .i64 (0:Int),.nil,.int .i64 (0:Int),.int .i64 (0:Int),.nil,.int .i64 (0:Int),.int .i64 (0:Int),.nil]⟩),
  (80,⟨7,88,(.struct [(0,24),(3,24),(6,25)]),[.int .i64 (0:Int),.int .i64 (0:Int),.nil,.int .i64 (0:Int),.int .i64 (0:Int),.nil,.int .i64 (0:Int)]⟩),
  (88,⟨9,120,(.struct [(0,24),(3,24),(6,24)]),[.int .i64 (0:Int),.int .i64 (0:Int),.nil,.int .i64 (0:Int),.int .i64 (0:Int),.nil,.int .i64 (0:Int),.int .i64 (0:Int),.nil]⟩),
  (91,⟨1,24,(.slice 24),[.nil]⟩),
  (102,⟨1,8,(.int .i64),[.int .i64 (0:Int)]⟩),
  (114,⟨6,80,(.array 2 24),[.int .i64 (0:Int),.int .i64 (0:Int),.nil,.int .i64 (0:Int),.int .i64 (0:Int),.nil]⟩),
  (118,⟨7,88,(.struct [(0,24),(3,24),(6,4)]),[.int .i64 (0:Int),.int .i64 (0:Int),.nil,.int .i64 (0:Int),.int .i64 (0:Int),.nil,.bool false]⟩),
  (121,⟨1,8,.fl,[.fl 0]⟩),
  (131,⟨1,24,(.slice 47),[.nil]⟩),
  (134,⟨1,24,(.slice 135),[.nil]⟩),
  (135,⟨1,24,(.slice 45),[.nil]⟩),
  (145,⟨9,120,(.array 3 24),[.int .i64 (0:Int),.int .i64 (0:Int),.nil,.int .i64 (0:Int),.int .i64 (0:Int),.nil,.int .i64 (0:Int),.int .i64 (0:Int),.nil]⟩),
  (147,⟨15,200,(.struct [(0,24),(3,24),(6,24),(9,24),(12,24)]),[.int .i64 (0:Int),.int .i64 (0:Int),.nil,.int .i64 (0:Int),.int .i64 (0:Int),.nil,.int .i64 (0:Int),.int .i64 (0:Int),.nil,.int .i64 (0:Int),.int .i64 (0:Int),.nil,.int .i64 (0:Int),.int .i64 (0:Int),.nil]⟩),
  (155,⟨3,40,(.struct [(0,3),(1,3),(2,131)]),[.int .i64 (0:Int),.int .i64 (0:Int),.nil]⟩),
  (166,⟨1,1,(.int .u8),[.int .u8 (0:Int)]⟩),
  (173,⟨1,4,(.int .u32),[.int .u32 (0:Int)]⟩),
  (183,⟨12,160,(.array 4 24),[.int .i64 (0:Int),.int .i64 (0:Int),.nil,.int .i64 (0:Int),.int .i64 (0:Int),.nil,.int .i64 (0:Int),.int .i64 (0:Int),.nil,.int .i64 (0:Int),.int .i64 (0:Int),.nil]⟩),
  (188,⟨2,16,(.array 2 3),[.int .i64 (0:Int),.int .i64 (0:Int)]⟩),
  (189,⟨1,24,(.slice 191),[.nil]⟩),
  (191,⟨3,40,(.struct [(0,22),(1,37),(2,37)]),[.nil,.int .u64 (0:Int),.int .u64 (0:Int)]⟩),
  (199,⟨3,24,(.struct [(0,4),(1,3),(2,36)]),[.bool false,.int .i64 (0:Int),.int .u64 (0:Int)]⟩),
  (208,⟨1,24,(.slice 214),[.nil]⟩),
  (214,⟨2,32,(.struct [(0,22),(1,37)]),[.nil,.int .u64 (0:Int)]⟩)]
theorem ty2:Bv Tryz.prog 2 ⟨1,8,(.int .i64),[.int .i64 (0:Int)]⟩:=Bz (z:=.int .i64 (0:Int)) (by kernel_rfl) (fun c w=>by simp [A4,Aj,Value.cells]) rfl (by simp [Value.cells,Value.oneCell']) (by simp only [B4]; exact Tryz.underlying2)
theorem ty3:Bv Tryz.prog 3 ⟨1,8,(.int .i64),[.int .i64 (0:Int)]⟩:=Bz (z:=.int .i64 (0:Int)) (by kernel_rfl) (fun c w=>by simp [A4,Aj,Value.cells]) rfl (by simp [Value.cells,Value.oneCell']) (by simp only [B4]; exact Tryz.underlying3)
theorem ty4:Bv Tryz.prog 4 ⟨1,1,.bool,[.bool false]⟩:=Bz (z:=.bool false) (by kernel_rfl) (fun c w=>by simp [A4,Aj,Value.cells]) rfl (by simp [Value.cells,Value.oneCell']) (by simp only [B4]; exact Tryz.underlying4)
theorem ty5:Bv Tryz.prog 5 ⟨1,1,(.int .u8),[.int .u8 (0:Int)]⟩:=Bz (z:=.int .u8 (0:Int)) (by kernel_rfl) (fun c w=>by simp [A4,Aj,Value.cells]) rfl (by simp [Value.cells,Value.oneCell']) (by simp only [B4]; exact Tryz.underlying5)
theorem ty22:Bv Tryz.prog 22 ⟨1,24,(.slice 37),[.nil]⟩:=Bz (z:=.slice none 0 0) (by kernel_rfl) (fun c w=>by simp [A4,Aj,Value.cells]) rfl (by simp [Value.cells,Value.oneCell']) (by simp only [B4]; exact Tryz.underlying22)
theorem ty24:Bv Tryz.prog 24 ⟨3,40,(.struct [(0,3),(1,3),(2,22)]),[.int .i64 (0:Int),.int .i64 (0:Int),.nil]⟩:=Bz (z:=.agg #[.int .i64 (0:Int),.int .i64 (0:Int),.slice none 0 0]) (by kernel_rfl) (fun c w=>by simp [A4,Aj,Value.cells]) rfl (by simp [Value.cells,Value.oneCell']) (by simp only [B4]; exact ⟨_,Tryz.underlying24,by kernel_rfl⟩)
theorem ty25:Bv Tryz.prog 25 ⟨1,8,(.int .i64),[.int .i64 (0:Int)]⟩:=Bz (z:=.int .i64 (0:Int)) (by kernel_rfl) (fun c w=>by simp [A4,Aj,Value.cells]) rfl (by simp [Value.cells,Value.oneCell']) (by simp only [B4]; exact Tryz.underlying25)
theorem Asg:Bv Tryz.prog 36 ⟨1,8,(.int .u64),[.int .u64 (0:Int)]⟩:=Bz (z:=.int .u64 (0:Int)) (by kernel_rfl) (fun c w=>by simp [A4,Aj,Value.cells]) rfl (by simp [Value.cells,Value.oneCell']) (by simp only [B4]; exact Tryz.underlying36)
theorem ty37:Bv Tryz.prog 37 ⟨1,8,(.int .u64),[.int .u64 (0:Int)]⟩:=Bz (z:=.int .u64 (0:Int)) (by kernel_rfl) (fun c w=>by simp [A4,Aj,Value.cells]) rfl (by simp [Value.cells,Value.oneCell']) (by simp only [B4]; exact Tryz.underlying37)
theorem ty38:Bv Tryz.prog 38 ⟨1,24,(.slice 41),[.nil]⟩:=Bz (z:=.slice none 0 0) (by kernel_rfl) (fun c w=>by simp [A4,Aj,Value.cells]) rfl (by simp [Value.cells,Value.oneCell']) (by simp only [B4]; exact Tryz.underlying38)
theorem ty41:Bv Tryz.prog 41 ⟨1,1,(.int .i8),[.int .i8 (0:Int)]⟩:=Bz (z:=.int .i8 (0:Int)) (by kernel_rfl) (fun c w=>by simp [A4,Aj,Value.cells]) rfl (by simp [Value.cells,Value.oneCell']) (by simp only [B4]; exact Tryz.underlying41)
theorem ty43:Bv Tryz.prog 43 ⟨1,24,(.slice 173),[.nil]⟩:=Bz (z:=.slice none 0 0) (by kernel_rfl) (fun c w=>by simp [A4,Aj,Value.cells]) rfl (by simp [Value.cells,Value.oneCell']) (by simp only [B4]; exact Tryz.underlying43)
theorem ty45:Bv Tryz.prog 45 ⟨2,32,(.struct [(0,4),(1,43)]),[.bool false,.nil]⟩:=Bz (z:=.agg #[.bool false,.slice none 0 0]) (by kernel_rfl) (fun c w=>by simp [A4,Aj,Value.cells]) rfl (by simp [Value.cells,Value.oneCell']) (by simp only [B4]; exact ⟨_,Tryz.underlying45,by kernel_rfl⟩)
theorem ty47:Bv Tryz.prog 47 ⟨3,40,(.struct [(0,45),(2,3)]),[.bool false,.nil,.int .i64 (0:Int)]⟩:=Bz (z:=.agg #[.bool false,.slice none 0 0,.int .i64 (0:Int)]) (by kernel_rfl) (fun c w=>by simp [A4,Aj,Value.cells]) rfl (by simp [Value.cells,Value.oneCell']) (by simp only [B4]; exact ⟨_,Tryz.underlying47,by kernel_rfl⟩)
theorem ty57:Bv Tryz.prog 57 ⟨12,160,(.struct [(0,24),(3,24),(6,24),(9,24)]),[.int .i64 (0:Int),.int .i64 (0:Int),.nil,.int .i64 (0:Int),.int .i64 (0:Int),.nil,.int .i64 (0:Int),.int .i64 (0:Int),.nil,.int .i64 (0:Int),.int .i64 (0:Int),.nil]⟩:=Bz (z:=.agg #[.int .i64 (0:Int),.int .i64 (0:Int),.slice none 0 0,.int .i64 (0:Int),.int .i64 (0:Int),.slice none 0 0,.int .i64 (0:Int),.int .i64 (0:Int),.slice none 0 0,.int .i64 (0:Int),.int .i64 (0:Int),.slice none 0 0]) (by kernel_rfl) (fun c w=>by simp [A4,Aj,Value.cells]) rfl (by simp [Value.cells,Value.oneCell']) (by simp only [B4]; exact ⟨_,Tryz.underlying57,by kernel_rfl⟩)
theorem ty60:Bv Tryz.prog 60 ⟨12,160,(.struct [(0,24),(3,24),(6,24),(9,24)]),[.int .i64 (0:Int),.int .i64 (0:Int),.nil,.int .i64 (0:Int),.int .i64 (0:Int),.nil,.int .i64 (0:Int),.int .i64 (0:Int),.nil,.int .i64 (0:Int),.int .i64 (0:Int),.nil]⟩:=Bz (z:=.agg #[.int .i64 (0:Int),.int .i64 (0:Int),.slice none 0 0,.int .i64 (0:Int),.int .i64 (0:Int),.slice none 0 0,.int .i64 (0:Int),.int .i64 (0:Int),.slice none 0 0,.int .i64 (0:Int),.int .i64 (0:Int),.slice none 0 0]) (by kernel_rfl) (fun c w=>by simp [A4,Aj,Value.cells]) rfl (by simp [Value.cells,Value.oneCell']) (by simp only [B4]; exact ⟨_,Tryz.underlying60,by kernel_rfl⟩)
theorem ty71:Bv Tryz.prog 71 ⟨9,120,(.struct [(0,24),(3,24),(6,24)]),[.int .i64 (0:Int),.int .i64 (0:Int),.nil,.int .i64 (0:Int),.int .i64 (0:Int),.nil,.int .i64 (0:Int),.int .i64 (0:Int),.nil]⟩:=Bz (z:=.agg #[.int .i64 (0:Int),.int .i64 (0:Int),.slice none 0 0,.int .i64 (0:Int),.int .i64 (0:Int),.slice none 0 0,.int .i64 (0:Int),.int .i64 (0:Int),.slice none 0 0]) (by kernel_rfl) (fun c w=>by simp [A4,Aj,Value.cells]) rfl (by simp [Value.cells,Value.oneCell']) (by simp only [B4]; exact ⟨_,Tryz.underlying71,by kernel_rfl⟩)
theorem ty74:Bv Tryz.prog 74 ⟨9,120,(.struct [(0,24),(3,24),(6,24)]),[.int .i64 (0:Int),.int .i64 (0:Int),.nil,.int .i64 (0:Int),.int .i64 (0:Int),.nil,.int .i64 (0:Int),.int .i64 (0:Int),.nil]⟩:=Bz (z:=.agg #[.int .i64 (0:Int),.int .i64 (0:Int),.slice none 0 0,.int .i64 (0:Int),.int .i64 (0:Int),.slice none 0 0,.int .i64 (0:Int),.int .i64 (0:Int),.slice none 0 0]) (by kernel_rfl) (fun c w=>by simp [A4,Aj,Value.cells]) rfl (by simp [Value.cells,Value.oneCell']) (by simp only [B4]; exact ⟨_,Tryz.underlying74,by kernel_rfl⟩)
theorem ty80:Bv Tryz.prog 80 ⟨7,88,(.struct [(0,24),(3,24),(6,25)]),[.int .i64 (0:Int),.int .i64 (0:Int),.nil,.int .i64 (0:Int),.int .i64 (0:Int),.nil,.int .i64 (0:Int)]⟩:=Bz (z:=.agg #[.int .i64 (0:Int),.int .i64 (0:Int),.slice none 0 0,.int .i64 (0:Int),.int .i64 (0:Int),.slice none 0 0,.int .i64 (0:Int)]) (by kernel_rfl) (fun c w=>by simp [A4,Aj,Value.cells]) rfl (by simp [Value.cells,Value.oneCell']) (by simp only [B4]; exact ⟨_,Tryz.underlying80,by kernel_rfl⟩)
theorem ty88:Bv Tryz.prog 88 ⟨9,120,(.struct [(0,24),(3,24),(6,24)]),[.int .i64 (0:Int),.int .i64 (0:Int),.nil,.int .i64 (0:Int),.int .i64 (0:Int),.nil,.int .i64 (0:Int),.int .i64 (0:Int),.nil]⟩:=Bz (z:=.agg #[.int .i64 (0:Int),.int .i64 (0:Int),.slice none 0 0,.int .i64 (0:Int),.int .i64 (0:Int),.slice none 0 0,.int .i64 (0:Int),.int .i64 (0:Int),.slice none 0 0]) (by kernel_rfl) (fun c w=>by simp [A4,Aj,Value.cells]) rfl (by simp [Value.cells,Value.oneCell']) (by simp only [B4]; exact ⟨_,Tryz.underlying88,by kernel_rfl⟩)
theorem ty91:Bv Tryz.prog 91 ⟨1,24,(.slice 24),[.nil]⟩:=Bz (z:=.slice none 0 0) (by kernel_rfl) (fun c w=>by simp [A4,Aj,Value.cells]) rfl (by simp [Value.cells,Value.oneCell']) (by simp only [B4]; exact Tryz.underlying91)
theorem As0:Bv Tryz.prog 102 ⟨1,8,(.int .i64),[.int .i64 (0:Int)]⟩:=Bz (z:=.int .i64 (0:Int)) (by kernel_rfl) (fun c w=>by simp [A4,Aj,Value.cells]) rfl (by simp [Value.cells,Value.oneCell']) (by simp only [B4]; exact Tryz.underlying102)
theorem Asz:Bv Tryz.prog 114 ⟨6,80,(.array 2 24),[.int .i64 (0:Int),.int .i64 (0:Int),.nil,.int .i64 (0:Int),.int .i64 (0:Int),.nil]⟩:=Bz (z:=.agg #[.int .i64 (0:Int),.int .i64 (0:Int),.slice none 0 0,.int .i64 (0:Int),.int .i64 (0:Int),.slice none 0 0]) (by kernel_rfl) (fun c w=>by simp [A4,Aj,Value.cells]) rfl (by simp [Value.cells,Value.oneCell']) (by simp only [B4]; exact Tryz.underlying114)
theorem Asy:Bv Tryz.prog 118 ⟨7,88,(.struct [(0,24),(3,24),(6,4)]),[.int .i64 (0:Int),.int .i64 (0:Int),.nil,.int .i64 (0:Int),.int .i64 (0:Int),.nil,.bool false]⟩:=Bz (z:=.agg #[.int .i64 (0:Int),.int .i64 (0:Int),.slice none 0 0,.int .i64 (0:Int),.int .i64 (0:Int),.slice none 0 0,.bool false]) (by kernel_rfl) (fun c w=>by simp [A4,Aj,Value.cells]) rfl (by simp [Value.cells,Value.oneCell']) (by simp only [B4]; exact ⟨_,Tryz.underlying118,by kernel_rfl⟩)
theorem Asx:Bv Tryz.prog 121 ⟨1,8,.fl,[.fl 0]⟩:=Bz (z:=.float .f64 0) (by kernel_rfl) (fun c w=>by simp [A4,Aj,Value.cells,Oe]) rfl (by simp [Value.cells,Value.oneCell']) (by simp only [B4]; exact Tryz.underlying121)
theorem Asw:Bv Tryz.prog 131 ⟨1,24,(.slice 47),[.nil]⟩:=Bz (z:=.slice none 0 0) (by kernel_rfl) (fun c w=>by simp [A4,Aj,Value.cells]) rfl (by simp [Value.cells,Value.oneCell']) (by simp only [B4]; exact Tryz.underlying131)
theorem Asv:Bv Tryz.prog 134 ⟨1,24,(.slice 135),[.nil]⟩:=Bz (z:=.slice none 0 0) (by kernel_rfl) (fun c w=>by simp [A4,Aj,Value.cells]) rfl (by simp [Value.cells,Value.oneCell']) (by simp only [B4]; exact Tryz.underlying134)
theorem Asu:Bv Tryz.prog 135 ⟨1,24,(.slice 45),[.nil]⟩:=Bz (z:=.slice none 0 0) (by kernel_rfl) (fun c w=>by simp [A4,Aj,Value.cells]) rfl (by simp [Value.cells,Value.oneCell']) (by simp only [B4]; exact Tryz.underlying135)
theorem Ast:Bv Tryz.prog 145 ⟨9,120,(.array 3 24),[.int .i64 (0:Int),.int .i64 (0:Int),.nil,.int .i64 (0:Int),.int .i64 (0:Int),.nil,.int .i64 (0:Int),.int .i64 (0:Int),.nil]⟩:=Bz (z:=.agg #[.int .i64 (0:Int),.int .i64 (0:Int),.slice none 0 0,.int .i64 (0:Int),.int .i64 (0:Int),.slice none 0 0,.int .i64 (0:Int),.int .i64 (0:Int),.slice none 0 0]) (by kernel_rfl) (fun c w=>by simp [A4,Aj,Value.cells]) rfl (by simp [Value.cells,Value.oneCell']) (by simp only [B4]; exact Tryz.underlying145)
theorem Ass:Bv Tryz.prog 147 ⟨15,200,(.struct [(0,24),(3,24),(6,24),(9,24),(12,24)]),[.int .i64 (0:Int),.int .i64 (0:Int),.nil,.int .i64 (0:Int),.int .i64 (0:Int),.nil,.int .i64 (0:Int),.int .i64 (0:Int),.nil,.int .i64 (0:Int),.int .i64 (0:Int),.nil,.int .i64 (0:Int),.int .i64 (0:Int),.nil]⟩:=Bz (z:=.agg #[.int .i64 (0:Int),.int .i64 (0:Int),.slice none 0 0,.int .i64 (0:Int),.int .i64 (0:Int),.slice none 0 0,.int .i64 (0:Int),.int .i64 (0:Int),.slice none 0 0,.int .i64 (0:Int),.int .i64 (0:Int),.slice none 0 0,.int .i64 (0:Int),.int .i64 (0:Int),.slice none 0 0]) (by kernel_rfl) (fun c w=>by simp [A4,Aj,Value.cells]) rfl (by simp [Value.cells,Value.oneCell']) (by simp only [B4]; exact ⟨_,Tryz.underlying147,by kernel_rfl⟩)
theorem Asr:Bv Tryz.prog 155 ⟨3,40,(.struct [(0,3),(1,3),(2,131)]),[.int .i64 (0:Int),.int .i64 (0:Int),.nil]⟩:=Bz (z:=.agg #[.int .i64 (0:Int),.int .i64 (0:Int),.slice none 0 0]) (by kernel_rfl) (fun c w=>by simp [A4,Aj,Value.cells]) rfl (by simp [Value.cells,Value.oneCell']) (by simp only [B4]; exact ⟨_,Tryz.underlying155,by kernel_rfl⟩)
theorem Asq:Bv Tryz.prog 166 ⟨1,1,(.int .u8),[.int .u8 (0:Int)]⟩:=Bz (z:=.int .u8 (0:Int)) (by kernel_rfl) (fun c w=>by simp [A4,Aj,Value.cells]) rfl (by simp [Value.cells,Value.oneCell']) (by simp only [B4]; exact Tryz.underlying166)
theorem Asp:Bv Tryz.prog 173 ⟨1,4,(.int .u32),[.int .u32 (0:Int)]⟩:=Bz (z:=.int .u32 (0:Int)) (by kernel_rfl) (fun c w=>by simp [A4,Aj,Value.cells]) rfl (by simp [Value.cells,Value.oneCell']) (by simp only [B4]; exact Tryz.underlying173)
theorem Aso:Bv Tryz.prog 183 ⟨12,160,(.array 4 24),[.int .i64 (0:Int),.int .i64 (0:Int),.nil,.int .i64 (0:Int),.int .i64 (0:Int),.nil,.int .i64 (0:Int),.int .i64 (0:Int),.nil,.int .i64 (0:Int),.int .i64 (0:Int),.nil]⟩:=Bz (z:=.agg #[.int .i64 (0:Int),.int .i64 (0:Int),.slice none 0 0,.int .i64 (0:Int),.int .i64 (0:Int),.slice none 0 0,.int .i64 (0:Int),.int .i64 (0:Int),.slice none 0 0,.int .i64 (0:Int),.int .i64 (0:Int),.slice none 0 0]) (by kernel_rfl) (fun c w=>by simp [A4,Aj,Value.cells]) rfl (by simp [Value.cells,Value.oneCell']) (by simp only [B4]; exact Tryz.underlying183)
theorem Asn:Bv Tryz.prog 188 ⟨2,16,(.array 2 3),[.int .i64 (0:Int),.int .i64 (0:Int)]⟩:=Bz (z:=.agg #[.int .i64 (0:Int),.int .i64 (0:Int)]) (by kernel_rfl) (fun c w=>by simp [A4,Aj,Value.cells]) rfl (by simp [Value.cells,Value.oneCell']) (by simp only [B4]; exact Tryz.underlying188)
theorem Asm:Bv Tryz.prog 189 ⟨1,24,(.slice 191),[.nil]⟩:=Bz (z:=.slice none 0 0) (by kernel_rfl) (fun c w=>by simp [A4,Aj,Value.cells]) rfl (by simp [Value.cells,Value.oneCell']) (by simp only [B4]; exact Tryz.underlying189)
theorem Asl:Bv Tryz.prog 191 ⟨3,40,(.struct [(0,22),(1,37),(2,37)]),[.nil,.int .u64 (0:Int),.int .u64 (0:Int)]⟩:=Bz (z:=.agg #[.slice none 0 0,.int .u64 (0:Int),.int .u64 (0:Int)]) (by kernel_rfl) (fun c w=>by simp [A4,Aj,Value.cells]) rfl (by simp [Value.cells,Value.oneCell']) (by simp only [B4]; exact ⟨_,Tryz.underlying191,by kernel_rfl⟩)
theorem Asj:Bv Tryz.prog 199 ⟨3,24,(.struct [(0,4),(1,3),(2,36)]),[.bool false,.int .i64 (0:Int),.int .u64 (0:Int)]⟩:=Bz (z:=.agg #[.bool false,.int .i64 (0:Int),.int .u64 (0:Int)]) (by kernel_rfl) (fun c w=>by simp [A4,Aj,Value.cells]) rfl (by simp [Value.cells,Value.oneCell']) (by simp only [B4]; exact ⟨_,Tryz.underlying199,by kernel_rfl⟩)
theorem Asi:Bv Tryz.prog 208 ⟨1,24,(.slice 214),[.nil]⟩:=Bz (z:=.slice none 0 0) (by kernel_rfl) (fun c w=>by simp [A4,Aj,Value.cells]) rfl (by simp [Value.cells,Value.oneCell']) (by simp only [B4]; exact Tryz.underlying208)
theorem Ash:Bv Tryz.prog 214 ⟨2,32,(.struct [(0,22),(1,37)]),[.nil,.int .u64 (0:Int)]⟩:=Bz (z:=.agg #[.slice none 0 0,.int .u64 (0:Int)]) (by kernel_rfl) (fun c w=>by simp [A4,Aj,Value.cells]) rfl (by simp [Value.cells,Value.oneCell']) (by simp only [B4]; exact ⟨_,Tryz.underlying214,by kernel_rfl⟩)
theorem Aqn:P3 Tryz.prog tys:=.cons ty2 <| .cons ty3 <| .cons ty4 <| .cons ty5 <| .cons ty22 <| .cons ty24 <| .cons ty25 <| .cons Asg <| .cons ty37 <| .cons ty38 <| .cons ty41 <| .cons ty43 <| .cons ty45 <| .cons ty47 <| .cons ty57 <| .cons ty60 <| .cons ty71 <| .cons ty74 <| .cons ty80 <| .cons ty88 <| .cons ty91 <| .cons As0 <| .cons Asz <| .cons Asy <| .cons Asx <| .cons Asw <| .cons Asv <| .cons Asu <| .cons Ast <| .cons Ass <| .cons Asr <| .cons Asq <| .cons Asp <| .cons Aso <| .cons Asn <| .cons Asm <| .cons Asl <| .cons Asj <| .cons Asi <| .cons Ash <| .nil
def exts:List (Nat × Ext):=[(169,.bits),(210,.frombits),(263,.sqrt),(266,.sub64)]
def Acr:List (Nat × Ext)→Nat→Option Ext
  | [],_=>none
  | (m,e)::l,n=>bif Nat.beq m n then some e else Acr l n
theorem Al2 (args:Array Value) (w:World):(callFunc 169 args).run Tryz.prog w=((Qz .bits args).run Tryz.prog w).andThen fun v w'=>.ok (.value v) w':=run_callFunc_extern (e:=Extern.MathFloatBits.float64bits) Tryz.func169 (by kernel_rfl) (by kernel_rfl) (by kernel_rfl) (by kernel_rfl) args w
theorem Al1 (args:Array Value) (w:World):(callFunc 210 args).run Tryz.prog w=((Qz .frombits args).run Tryz.prog w).andThen fun v w'=>.ok (.value v) w':=run_callFunc_extern (e:=Extern.MathFloatBits.float64frombits) Tryz.func210 (by kernel_rfl) (by kernel_rfl) (by kernel_rfl) (by kernel_rfl) args w
theorem Al0 (args:Array Value) (w:World):(callFunc 263 args).run Tryz.prog w=((Qz .sqrt args).run Tryz.prog w).andThen fun v w'=>.ok (.value v) w':=run_callFunc_extern (e:=Extern.MathSqrt.sqrt) Tryz.func263 (by kernel_rfl) (by kernel_rfl) (by kernel_rfl) (by kernel_rfl) args w
theorem Alz (args:Array Value) (w:World):(callFunc 266 args).run Tryz.prog w=((Qz .sub64 args).run Tryz.prog w).andThen fun v w'=>.ok (.value v) w':=run_callFunc_extern (e:=Vj) Tryz.func266 (by kernel_rfl) (by kernel_rfl) (by kernel_rfl) (by kernel_rfl) args w
def Arx:List Nat:=[199,188]
theorem Auj:Aah Tryz.prog 199 ⟨3,24,(.struct [(0,4),(1,3),(2,36)]),[.bool false,.int .i64 (0:Int),.int .u64 (0:Int)]⟩ where
  guard:=by kernel_rfl
  eq:=by
    intro w c x y xs ys hx hy hlx hly
    obtain ⟨a0,x1,rfl,hx1⟩:=Vn hx
    obtain ⟨a1,x2,rfl,hx2⟩:=Ic hx1
    obtain ⟨a2,x3,rfl,hx3⟩:=Ic hx2
    obtain rfl:=Pj hx3
    obtain ⟨b0,y1,rfl,hy1⟩:=Vn hy
    obtain ⟨b1,y2,rfl,hy2⟩:=Ic hy1
    obtain ⟨b2,y3,rfl,hy3⟩:=Ic hy2
    obtain rfl:=Pj hy3
    obtain ⟨xs⟩:=xs
    obtain ⟨ys⟩:=ys
    simp only [A4.Ce,A4.Fu,Aj] at hlx hly
    obtain ⟨_,_,rfl,rfl,_,_,rfl,rfl,_,_,rfl,rfl,rfl⟩:=hlx
    obtain ⟨_,_,rfl,rfl,_,_,rfl,rfl,_,_,rfl,rfl,rfl⟩:=hly
    have hu:Tryz.prog.underlying 199=some (.struct (Tryz.prog.fieldsOf 199)):=by kernel_rfl
    have hp:Tryz.prog.stoodInHeld 199=false:=by kernel_rfl
    unfold Op.equal Op.maxDepth
    rw [run_equalIn_struct w 9999 199 _ _ hu hp]
    have hfs:Tryz.prog.fieldsOf 199=(match Tryz.prog.underlying 199 with | some (.struct fs)=>fs | _=>#[]):=rfl
    rw [hfs,Tryz.underlying199]
    simp [Op.eqFields,Ku w ty3 rfl,Ku w ty4 rfl,Ku w Asg rfl,run_equalIn_int w _ _ _ _ _ _ Tryz.underlying3,run_equalIn_bool w _ _ _ _ Tryz.underlying4,run_equalIn_int w _ _ _ _ _ _ Tryz.underlying36,Yg,Wr]
    by_cases h0:a0=b0<;>by_cases h1:a1=b1<;>by_cases h2:a2=b2<;>simp [h0,h1,h2]
theorem Auk:Aah Tryz.prog 188 ⟨2,16,(.array 2 3),[.int .i64 (0:Int),.int .i64 (0:Int)]⟩ where
  guard:=by kernel_rfl
  eq:=by
    intro w c x y xs ys hx hy hlx hly
    obtain ⟨a0,x1,rfl,hx1⟩:=Ic hx
    obtain ⟨a1,x2,rfl,hx2⟩:=Ic hx1
    obtain rfl:=Pj hx2
    obtain ⟨b0,y1,rfl,hy1⟩:=Ic hy
    obtain ⟨b1,y2,rfl,hy2⟩:=Ic hy1
    obtain rfl:=Pj hy2
    obtain ⟨xs⟩:=xs
    obtain ⟨ys⟩:=ys
    simp only [A4.Ce,A4.Fu,Aj] at hlx hly
    obtain ⟨_,_,rfl,rfl,_,_,rfl,rfl,rfl⟩:=hlx
    obtain ⟨_,_,rfl,rfl,_,_,rfl,rfl,rfl⟩:=hly
    obtain ⟨i,_,hi,_⟩:=ty3.info
    have hc:Tryz.prog.cellsOf 3=1:=by kernel_rfl
    unfold Op.equal Op.maxDepth
    rw [run_equalIn_array w 9999 _ _ Tryz.underlying188 hi,hc]
    simp [Op.eqItems,List.range,List.range.loop,Ku w ty3 rfl,run_equalIn_int w _ _ _ _ _ _ Tryz.underlying3,Yg,Wr]
    by_cases h0:a0=b0<;>by_cases h1:a1=b1<;>simp [h0,h1]
def Bc (Bb:Nat→Option Entry) (adopt:Nat→Bool) (hint:Nat→Option A8) (live:Nat→Option (List Nat)):Env:={ ty:=Aje tys,Bb:=Bb,ext:=Acr exts,eqs:=fun t=>K0 t Arx,adopt:=adopt,live:=live,hint:=hint }
theorem A1 {l:List (Nat × Entry)} (h:A0 Tryz.prog l) (adopt:Nat→Bool) (hint:Nat→Option A8) (live:Nat→Option (List Nat)):Io Tryz.prog (Bc (Ba l) adopt hint live) where
  ty:=fun t ti ht=>Aqn.get ht
  Bb:=fun g e hg=>(h.get hg).meets
  call:=fun g e hg=>(h.get hg).call
  ext:=by
    intro g x hx args w
    simp only [Bc,exts,Acr] at hx
    cases hb:Nat.beq 169 g with
    | true =>
      rw [hb] at hx
      cases hx
      obtain rfl:=Avb hb
      exact Al2 args w
    | false =>
    rw [hb,Aux] at hx
    clear hb
    cases hb:Nat.beq 210 g with
    | true =>
      rw [hb] at hx
      cases hx
      obtain rfl:=Avb hb
      exact Al1 args w
    | false =>
    rw [hb,Aux] at hx
    clear hb
    cases hb:Nat.beq 263 g with
    | true =>
      rw [hb] at hx
      cases hx
      obtain rfl:=Avb hb
      exact Al0 args w
    | false =>
    rw [hb,Aux] at hx
    clear hb
    cases hb:Nat.beq 266 g with
    | true =>
      rw [hb] at hx
      cases hx
      obtain rfl:=Avb hb
      exact Alz args w
    | false =>
    rw [hb,Aux] at hx
    clear hb
    cases hx
  eqs:=by
    intro t ti ht hti
    simp only [Bc,Arx,K0] at ht hti
    cases hb:Nat.beq t 199 with
    | true =>
      obtain rfl:=Avb hb
      cases hti
      exact Auj
    | false =>
    rw [hb,Aux] at ht
    clear hb
    cases hb:Nat.beq t 188 with
    | true =>
      obtain rfl:=Avb hb
      cases hti
      exact Auk
    | false =>
    rw [hb,Aux] at ht
    clear hb
    cases ht
  mixed:=by kernel_rfl
def Aqd:List (Nat × Ext):=[(169,.bitsN),(210,.frombits),(263,.sqrt),(266,.sub64)]
def Aqe:List (Nat × List CK)→Nat→List CK
  | [],_=>[]
  | (m,e)::l,n=>bif Nat.beq m n then e else Aqe l n
def Aez (Bb:Nat→Option Entry) (adopt:Nat→Bool) (hint:Nat→Option A8) (live:Nat→Option (List Nat)) (adv:Nat→List CK):Env:={ ty:=Aje tys,Bb:=Bb,ext:=Acr Aqd,eqs:=fun t=>K0 t Arx,adopt:=adopt,live:=live,hint:=hint,adv:=adv }
theorem Ao7 {l:List (Nat × Entry)} (h:A0 Tryz.prog l) (adopt:Nat→Bool) (hint:Nat→Option A8) (live:Nat→Option (List Nat)) (adv:Nat→List CK):Io Tryz.prog (Aez (Ba l) adopt hint live adv) :=
  have k:=A1 h adopt hint live
  ⟨k.ty,k.Bb,k.call,(by
    intro g x hx args w
    simp only [Aez,Aqd,Acr] at hx
    cases hb:Nat.beq 169 g with
    | true =>
      rw [hb] at hx
      cases hx
      obtain rfl:=Avb hb
      exact Al2 args w
    | false =>
    rw [hb,Aux] at hx
    clear hb
    cases hb:Nat.beq 210 g with
    | true =>
      rw [hb] at hx
      cases hx
      obtain rfl:=Avb hb
      exact Al1 args w
    | false =>
    rw [hb,Aux] at hx
    clear hb
    cases hb:Nat.beq 263 g with
    | true =>
      rw [hb] at hx
      cases hx
      obtain rfl:=Avb hb
      exact Al0 args w
    | false =>
    rw [hb,Aux] at hx
    clear hb
    cases hb:Nat.beq 266 g with
    | true =>
      rw [hb] at hx
      cases hx
      obtain rfl:=Avb hb
      exact Alz args w
    | false =>
    rw [hb,Aux] at hx
    clear hb
    cases hx),k.eqs,k.mixed,k.spoil⟩
end Go.Proofs.S1
namespace Go.Rnd
def Me (V k:Nat):Nat:=V / 2^k+(if 2^k<2*(V%2^k)∨(2*(V%2^k)=2^k∧V / 2^k%2=1) then 1 else 0)
def I8 (V:Nat) (s:Int):Nat:=Me (V*2^(-s).toNat) s.toNat
def Lc (V:Nat) (s:Int):Bool:=decide (V*2^(-s).toNat%2^s.toNat=0)
def Cb (M:Nat) (E:Int):Int:=max (E+M.log2-52) (-1074)
def kept (M:Nat) (E:Int):Nat:=I8 M (Cb M E-E)
def Gp:Nat:=2047*2^52
def B7 (M:Nat) (E:Int):Nat:=if M=0 then 0 else min ((Cb M E+1074).toNat*2^52+kept M E) Gp
def exact (M:Nat) (E:Int):Bool:=Lc M (Cb M E-E)
def flags (r:Nat) (ex:Bool):Nat:=if r=Gp then 5 else if ex then 0 else if 2^52≤r then 1 else 3
def flagsOf (M:Nat) (E:Int):Nat:=if M=0 then 0 else flags (B7 M E) (exact M E)
theorem B8 (k:Nat):0<2^k:=Nat.pow_pos (by decide)
theorem Mt (V:Nat):Me V 0=V:=by
  unfold Me; simp [Nat.mod_one]
theorem Rt (V a k:Nat):Me (V*2^a) (a+k)=Me V k:=by
  unfold Me
  have hA:=B8 a
  have e:2^(a+k)=2^a*2^k:=Nat.pow_add 2 a k
  have hd:V*2^a / 2^(a+k)=V / 2^k:=by
    rw [e,Nat.mul_comm V,Nat.mul_div_mul_left _ _ hA]
  have hm:V*2^a%2^(a+k)=2^a*(V%2^k):=by
    rw [e,Nat.mul_comm V,Nat.mul_mod_mul_left]
  rw [hd,hm,e]
  have h1:(2^a*2^k<2*(2^a*(V%2^k)))↔(2^k<2*(V%2^k)):=by
    rw [Nat.mul_left_comm 2]
    exact Nat.mul_lt_mul_left hA
  have h2:(2*(2^a*(V%2^k))=2^a*2^k)↔(2*(V%2^k)=2^k):=by
    rw [Nat.mul_left_comm 2]
    exact Nat.mul_right_inj (by omega)
  simp only [h1,h2]
theorem mod_mul (V a k:Nat):(V*2^a%2^(a+k)=0)↔(V%2^k=0):=by
  have hA:=B8 a
  rw [Nat.pow_add,Nat.mul_comm V,Nat.mul_mod_mul_left]
  constructor
  · intro h
    rcases Nat.mul_eq_zero.1 h with h | h
    · omega
    · exact h
  · intro h; rw [h]; rfl
theorem T5 (V k:Nat) (s:Int):I8 (V*2^k) (s+k)=I8 V s∧Lc (V*2^k) (s+k)=Lc V s:=by
  unfold I8 Lc
  by_cases h0:0≤s
  · have e1:(-(s+k)).toNat=0:=by omega
    have e2:(-s).toNat=0:=by omega
    have e3:(s+k).toNat=k+s.toNat:=by omega
    rw [e1,e2,e3,Nat.pow_zero,Nat.mul_one,Nat.mul_one]
    exact ⟨Rt V k _,by simp only [mod_mul]⟩
  · by_cases h1:0≤s+k
    · have e1:(-(s+k)).toNat=0:=by omega
      have e2:s.toNat=0:=by omega
      have e3:k=(s+k).toNat+(-s).toNat:=by omega
      rw [e1,e2,Nat.pow_zero,Nat.mul_one]
      have e4:V*2^k=V*2^(-s).toNat*2^(s+k).toNat:=by
        rw [Nat.mul_assoc,← Nat.pow_add,Nat.add_comm (-s).toNat,← e3]
      rw [e4]
      refine ⟨?_,?_⟩
      · have:=Rt (V*2^(-s).toNat) (s+k).toNat 0
        rw [Nat.add_zero] at this; exact this
      · have:=mod_mul (V*2^(-s).toNat) (s+k).toNat 0
        rw [Nat.add_zero,Nat.pow_zero] at this
        simp only [this]
    · have e1:(s+k).toNat=0:=by omega
      have e2:s.toNat=0:=by omega
      have e3:(-s).toNat=k+(-(s+k)).toNat:=by omega
      rw [e1,e2,e3,Nat.pow_add,Nat.mul_assoc]
      exact ⟨rfl,rfl⟩
theorem O0 (M k:Nat) (hM:M≠0):(M*2^k).log2=M.log2+k:=by
  have hk:=B8 k
  have hne:M*2^k≠0:=by
    intro h
    rcases Nat.mul_eq_zero.1 h with h | h<;>omega
  have h1:=Nat.log2_self_le hM
  have h2:=Nat.lt_log2_self (n:=M)
  have a:M.log2+k≤(M*2^k).log2:=by
    rw [Nat.le_log2 hne,Nat.pow_add]
    exact Au5 _ h1
  have b:(M*2^k).log2<M.log2+k+1:=by
    rw [Nat.log2_lt hne,Nat.add_right_comm,Nat.pow_add]
    exact (Nat.mul_lt_mul_right hk).2 h2
  omega
theorem U2 {n a:Nat} (h1:2^a≤n) (h2:n<2^(a+1)):n.log2=a:=by
  have:=B8 a
  have hn:n≠0:=by omega
  have b1:=(Nat.le_log2 hn).2 h1
  have b2:=(Nat.log2_lt hn).2 h2
  omega
theorem Aen (M k:Nat) (E:Int) (hM:M≠0):Cb (M*2^k) (E-k)=Cb M E:=by
  unfold Cb; rw [O0 M k hM]; congr 1; omega
theorem Jj {M k:Nat} (hM:M≠0):M*2^k≠0:=by
  have:=B8 k
  intro h
  rcases Nat.mul_eq_zero.1 h with h | h<;>omega
theorem Df (M k:Nat) (E:Int):B7 (M*2^k) (E-k)=B7 M E∧flagsOf (M*2^k) (E-k)=flagsOf M E:=by
  by_cases hM:M=0
  · subst hM; simp [B7,flagsOf]
  · have hl:=Aen M k E hM
    have e:Cb M E-(E-k)=Cb M E-E+k:=by omega
    have h1:B7 (M*2^k) (E-k)=B7 M E:=by
      unfold B7 kept
      rw [if_neg (Jj hM),if_neg hM,hl,e,(T5 M k _).1]
    refine ⟨h1,?_⟩
    unfold flagsOf
    rw [if_neg (Jj hM),if_neg hM,h1]
    unfold exact
    rw [hl,e,(T5 M k _).2]
theorem Aj5 {V s d k:Nat} (hs:s%2=1) (h1:(s-1)*2^d<V) (h2:V<(s+1)*2^d) (hk:2≤k) :
    Me V (d+k)=Me s k∧V%2^(d+k)≠0∧s%2^k≠0:=by
  have hA:=B8 d
  obtain ⟨j,rfl⟩:∃ j,k=j+2:=⟨k-2,by omega⟩
  have hB:2^(j+2)=4*2^j:=by rw [Nat.pow_add]; omega
  have hBp:=B8 (j+2)
  have hC:=B8 j
  have hsd:=Nat.div_add_mod s (2^(j+2))
  have hr2:s%2^(j+2)%2=1:=by
    rw [hB,show 4*2^j=2*(2*2^j) by omega,Nat.mod_mul_right_mod]; exact hs
  have hrlt:=Nat.mod_lt s hBp
  generalize hq:s / 2^(j+2)=q at *
  generalize hr:s%2^(j+2)=r at *
  have hAB:2^(d+(j+2))=2^d*2^(j+2):=Nat.pow_add 2 d (j+2)
  generalize hBB:2^(j+2)=b at *
  generalize hAA:2^d=a at *
  have e1:(s-1)*a=q*(a*b)+(r-1)*a:=by
    have:s-1=b*q+(r-1):=by omega
    rw [this,Nat.add_mul,Nat.mul_comm b q,Nat.mul_assoc,Nat.mul_comm b a]
  have e2:(s+1)*a=q*(a*b)+(r+1)*a:=by
    have:s+1=b*q+(r+1):=by omega
    rw [this,Nat.add_mul,Nat.mul_comm b q,Nat.mul_assoc,Nat.mul_comm b a]
  have e3:(r+1)*a≤b*a:=Au5 a (by omega)
  rw [Nat.mul_comm b a] at e3
  rw [e1] at h1
  rw [e2] at h2
  have hdiv:V / (a*b)=q:=Nat.div_eq_of_lt_le (by omega) (by rw [Nat.add_mul]; omega)
  have hmod:V%(a*b)=V-q*(a*b):=by
    have:=Nat.div_add_mod V (a*b)
    rw [hdiv,Nat.mul_comm (a*b) q] at this; omega
  have hb2:b=2*(2*2^j):=by omega
  generalize hc:2^j=c at *
  have hR1:(r-1)*a<V-q*(a*b):=by omega
  have hR2:V-q*(a*b)<(r+1)*a:=by omega
  generalize hR:V-q*(a*b)=R at *
  have hab:a*b=2*(2*c*a):=by rw [hb2,Nat.mul_comm a,Nat.mul_assoc]
  have key:(a*b<2*R∨(2*R=a*b∧q%2=1))↔(b<2*r∨(2*r=b∧q%2=1)):=by
    rw [hab,hb2]
    rcases Nat.lt_or_ge r (2*c) with hlt | hge
    · have:(r+1)*a≤2*c*a:=Au5 a (by omega)
      constructor<;>(intro h; omega)
    · have hgt:2*c+1≤r:=by omega
      have:2*c*a≤(r-1)*a:=Au5 a (by omega)
      constructor
      · intro _; left; omega
      · intro _; left; omega
  refine ⟨?_,?_,?_⟩
  · unfold Me
    rw [hAB,hdiv,hmod,hBB,hq,hr]
    simp only [key]
  · rw [hAB,hmod]
    have:=Nat.zero_le ((r-1)*a)
    omega
  · omega
theorem Ol {V s d:Nat} {E:Int} (hs:s%2=1) (h1:(s-1)*2^d<V) (h2:V<(s+1)*2^d) (hl:Cb V E=Cb s (E+d)) (hk:E+d+2≤Cb s (E+d)) :
    B7 V E=B7 s (E+d)∧flagsOf V E=flagsOf s (E+d):=by
  have hV:V≠0:=by omega
  have hs0:s≠0:=by omega
  generalize hL:Cb s (E+d)=L at *
  obtain ⟨k,hk2⟩:∃ k:Nat,L-(E+d)=k+2:=⟨(L-(E+d)-2).toNat,by omega⟩
  obtain ⟨a1,a2,a3⟩:=Aj5 (k:=k+2) hs h1 h2 (by omega)
  have e1:(L-E).toNat=d+(k+2):=by omega
  have e2:(-(L-E)).toNat=0:=by omega
  have e3:(L-(E+d)).toNat=k+2:=by omega
  have e4:(-(L-(E+d))).toNat=0:=by omega
  have hr:B7 V E=B7 s (E+d):=by
    unfold B7 kept I8
    rw [if_neg hV,if_neg hs0,hl,hL,e1,e2,e3,e4]
    simp only [Nat.pow_zero,Nat.mul_one]
    rw [a1]
  refine ⟨hr,?_⟩
  unfold flagsOf exact Lc
  rw [if_neg hV,if_neg hs0,hr,hl,hL,e1,e2,e3,e4]
  simp only [Nat.pow_zero,Nat.mul_one,a2,a3,decide_false]
theorem Oz {V s d:Nat} (hs:s%2=1) (hs3:3≤s) (h1:(s-1)*2^d<V) (h2:V<(s+1)*2^d):V.log2=s.log2+d:=by
  have hs0:s≠0:=by omega
  have a1:=Nat.log2_self_le hs0
  have a2:=Nat.lt_log2_self (n:=s)
  have hl:1≤s.log2:=by rw [Nat.le_log2 hs0]; omega
  obtain ⟨t,ht⟩:∃ t,s.log2=t+1:=⟨s.log2-1,by omega⟩
  rw [ht] at a1 a2 ⊢
  have ev1:2^(t+1)=2*2^t:=by rw [Nat.pow_succ]; omega
  have ev2:2^(t+1+1)=2*(2*2^t):=by rw [Nat.pow_succ,ev1]; omega
  refine U2 ?_ ?_
  · rw [Nat.pow_add]
    have:2^(t+1)*2^d≤(s-1)*2^d:=Au5 _ (by omega)
    omega
  · have e:t+1+d+1=(t+1+1)+d:=by omega
    rw [e,Nat.pow_add]
    have:(s+1)*2^d≤2^(t+1+1)*2^d:=Au5 _ (by omega)
    omega
end Go.Rnd
namespace Go.Rnd
def Cs (b:Nat):Bool:=decide (2^63≤b)
def Em (b:Nat):Nat:=b / 2^52%2048
def Dt (b:Nat):Nat:=b%2^52
def Ao (b:Nat):Nat:=if Em b=2047 then (if Dt b=0 then 3 else 4) else if 0<Em b then 2 else if 0<Dt b then 1 else 0
def Hk (b:Nat):Bool:=decide (Em b<2047)
def G9 (b:Nat):Nat:=if 2^63≤b then b-2^63 else b+2^63
def Ar (b:Nat):Nat:=if Em b=0 then Dt b else Dt b+2^52
def Aw (b:Nat):Int:=if Em b=0 then -1074 else (Em b:Int)-1075
def B0 (neg:Bool) (r:Nat):Nat:=if neg then 2^63+r else r
def Ie (neg:Bool) (m:Nat):Int:=if neg then -(m:Int) else m
def F5 (b:Nat) (e:Int):Int:=Ie (Cs b) (Ar b*2^(Aw b-e).toNat)
def Xg:Nat:=0x7ff8000000000000
def Kb (z:Nat) (S:Int) (e:Int):Nat × Nat :=
  if S=0 then (z,0) else (B0 (decide (S<0)) (B7 S.natAbs e),flagsOf S.natAbs e)
def H9 (a b:Nat):Nat × Nat :=
  if Ao a=4∨Ao b=4 then (Xg,0)
  else if Ao a=3 then (if Ao b=3∧a≠b then (Xg,16) else (a,0))
  else if Ao b=3 then (b,0)
  else Kb (B0 (Cs a&&Cs b) 0) (F5 a (min (Aw a) (Aw b))+F5 b (min (Aw a) (Aw b))) (min (Aw a) (Aw b))
def Ajp (a b:Nat):Nat × Nat:=H9 a (G9 b)
def Fx (neg:Bool) (m:Nat) (e:Int) (more:Bool):Nat × Nat :=
  (B0 neg (B7 (4*m+more.toNat) (e-2)),flagsOf (4*m+more.toNat) (e-2))
def Dv (x:Int):Bool:=Cs x.toNat
def Kc (x:Int):Int:=Em x.toNat
def Cj (x:Int):Int:=Dt x.toNat
def A3 (x:Int):Int:=Ao x.toNat
def Cy (x:Int):Bool:=Hk x.toNat
def Ds (x:Int):Int:=G9 x.toNat
def Bh (x:Int):Int:=Ar x.toNat
def Az (x:Int):Int:=Aw x.toNat
def Eh (neg:Bool) (m e:Int) (more:Bool):Int:=(Fx neg m.toNat e more).1
def Eg (neg:Bool) (m e:Int) (more:Bool):Int:=(Fx neg m.toNat e more).2
def Kp (a b:Int):Int:=(H9 a.toNat b.toNat).1
def Ui (a b:Int):Int:=(H9 a.toNat b.toNat).2
def Dr (a b:Int):Int:=(Ajp a.toNat b.toNat).1
def At6 (a b:Int):Int:=(Ajp a.toNat b.toNat).2
theorem Iu (b:Nat):Em b<2048:=Nat.mod_lt _ (by decide)
theorem M6 (b:Nat):Dt b<4503599627370496:=Nat.mod_lt _ (by decide)
theorem Eo (b:Nat):Ar b<9007199254740992:=by
  have:=M6 b
  unfold Ar; split<;>omega
theorem Dc (b:Nat):-1074≤Aw b∧Aw b≤972:=by
  have:=Iu b
  unfold Aw; split<;>omega
theorem Pm {m:Nat} {e:Int} (h1:2^52≤m) (h2:m<2^53) (he:-1074≤e):B7 m e=min ((e+1074).toNat*2^52+m) Gp:=by
  have hl:m.log2=52:=U2 h1 h2
  have hm:m≠0:=by omega
  have hle:Cb m e=e:=by unfold Cb; rw [hl]; omega
  unfold B7 kept
  rw [if_neg hm,hle,Int.sub_self]
  unfold I8
  simp [Mt]
theorem Vo {m:Nat} (h2:m<2^52):B7 m (-1074)=m:=by
  by_cases hm:m=0
  · subst hm; rfl
  · have hl:m.log2<52:=(Nat.log2_lt hm).2 h2
    have hle:Cb m (-1074)=-1074:=by unfold Cb; omega
    unfold B7 kept
    rw [if_neg hm,hle,Int.sub_self]
    unfold I8 Gp
    simp [Mt]
    omega
theorem Y9 (m:Nat) (e:Int):B7 m e≤Gp:=by
  unfold B7
  split
  · exact Nat.zero_le _
  · exact Nat.min_le_right _ _
theorem Ju:Gp=9218868437227405312:=rfl
theorem Po (m:Nat) (e:Int):B7 m e<2^63:=by
  have:=Y9 m e
  rw [Ju] at this
  omega
theorem Ri (n:Bool) (m:Nat) (e:Int):B0 n (B7 m e)<2^64:=by
  have:=Po m e
  unfold B0; split<;>omega
theorem V7 {r:Nat} (h:r<2^63):G9 r=2^63+r:=by
  unfold G9; rw [if_neg (by omega)]; omega
end Go.Rnd
namespace Go.Rnd
open Go.Den
def Jt (m e:Int):Bool:=Cu (0≤m∧m≤9007199254740992∧-1074≤e∧e+m / 9007199254740992≤100000)
def Nh (m e:Int):Nat:=if 9007199254740992≤m then 1 else if m<4503599627370496 then 2+(e+1074).toNat else 0
def Ry (n:Bool) (m e:Int):Int:=B0 n (B7 m.toNat e)
def D0 (m e:Int) (r:Bool):Bool :=
  Cu (0≤m∧m<18446744073709551616∧e≤50000∧(-1137≤e∨(m<4611686018427387904∧-1140≤e))∧(r=true→4503599627370496≤m∨e≤-1074))
def E6 (n D:Nat):Nat:=if n%2^D=0 then n / 2^D else 2*(n / 2^D / 2)+1
def Ep (m d:Int):Int:=E6 m.toNat (min d.toNat 63)
def Cx (l:List Int):Bool:=Cu (l.length<4611686018427387904∧∀ x∈l,Ai x=true)
def Oa (x:Int):Bool:=Cu (0≤x)
theorem Ot (n:Nat):Oa (n:Int)=true:=Aq.2 (Int.natCast_nonneg n)
theorem V3 {x:Int} (h:Oa x=true):∃ n:Nat,x=n:=⟨x.toNat,by have:=Aq.1 h; omega⟩
end Go.Rnd
namespace Go.Rnd
theorem At9 (a c:Nat):(a+1)*c+c=a*c+(c+c):=by rw [Nat.add_mul,Nat.one_mul,Nat.add_assoc]
theorem As1:2^52+2^52=2^53:=by decide
theorem At8 (a:Nat):(a+1)*2^52+2^52=a*2^52+2^53:=(At9 a (2^52)).trans (congrArg (fun x=>a*2^52+x) As1)
theorem Aqo:2^52*2^1=2^53:=by decide
theorem Anz {E:Int}:B7 (2^53) E=B7 (2^52) (E+1):=by
  have:=(Df (2^52) 1 (E+1)).1
  have e1:E+1-((1:Nat):Int)=E:=by omega
  rw [e1,Aqo] at this
  exact this
theorem Aj2 {E:Int} (hE:-1074≤E):B7 (2^53) E=min ((E+1074).toNat*2^52+2^53) Gp:=by
  have e3:(E+1+1074).toNat=(E+1074).toNat+1:=by omega
  rw [Anz,Pm (by decide) (by decide) (by omega),e3]
  exact congrArg (fun x=>min x Gp) (At8 _)
theorem Ahe {q:Nat} {E:Int} (h1:q≤2^53) (hE:-1074≤E) (h2:2^52≤q∨E=-1074):B7 q E=min ((E+1074).toNat*2^52+q) Gp:=by
  by_cases ha:q=2^53
  · rw [ha]; exact Aj2 hE
  · by_cases hb:2^52≤q
    · exact Pm hb (by omega) hE
    · obtain rfl:E=-1074:=h2.resolve_left hb
      rw [Vo (by omega)]
      unfold Gp
      simp
      omega
theorem Ahk {M D s:Nat} (hs:s≤1):Me (4*M+s) (D+2)=M / 2^D+(if 0<D∧(2^(D-1)<M%2^D∨(M%2^D=2^(D-1)∧(s=1∨M / 2^D%2=1))) then 1 else 0) ∧
    ((4*M+s)%2^(D+2)=0↔M%2^D=0∧s=0):=by
  have hp:2^(D+2)=2^D*4:=by rw [Nat.pow_add]
  have hA:=B8 D
  have hdm:=Nat.div_add_mod M (2^D)
  have hlt:=Nat.mod_lt M hA
  have hdiv:(4*M+s) / (2^D*4)=M / 2^D:=by
    rw [Nat.mul_comm (2^D) 4,← Nat.div_div_eq_div_mul]
    congr 1; omega
  have hmod:(4*M+s)%(2^D*4)=4*(M%2^D)+s:=by
    have h:=Nat.div_add_mod (4*M+s) (2^D*4)
    rw [hdiv] at h
    have e:2^D*4*(M / 2^D)=4*(2^D*(M / 2^D)):=by rw [Nat.mul_comm (2^D) 4,Nat.mul_assoc]
    rw [e] at h
    omega
  unfold Me
  rw [hp,hdiv,hmod]
  generalize M%2^D=r at *
  generalize M / 2^D=q at *
  refine ⟨?_,by omega⟩
  congr 1
  have key:(2^D*4<2*(4*r+s)∨2*(4*r+s)=2^D*4∧q%2=1)↔(0<D∧(2^(D-1)<r∨(r=2^(D-1)∧(s=1∨q%2=1)))):=by
    cases D with
    | zero=>simp only [Nat.pow_zero] at hlt ⊢; omega
    | succ d =>
      rw [Nat.pow_succ] at hlt ⊢
      simp only [Nat.add_sub_cancel]
      generalize 2^d=c at *
      omega
  simp only [key]
structure Drop (M:Nat) (e:Int) (D:Nat):Prop where
  le:D≤63
  stop:D<63→M / 2^D<2^53∧-1074≤e+D
  least:∀ d,d<D→2^53≤M / 2^d∨e+d < -1074
def qOf (M D s:Nat):Nat:=M / 2^D+(if 0<D∧(2^(D-1)<M%2^D∨(M%2^D=2^(D-1)∧(s=1∨M / 2^D%2=1))) then 1 else 0)
theorem Aj8 {M D s:Nat} (h:M / 2^D<2^53):qOf M D s≤2^53:=by
  unfold qOf; split<;>omega
theorem Aj9 {M D s:Nat}:M / 2^D≤qOf M D s:=by unfold qOf; omega
theorem Ar0 {M D:Nat} {c:Nat} (h:M / 2^D<c):M<c*2^D:=(Nat.div_lt_iff_lt_mul (B8 D)).1 h
theorem Alg {M D:Nat} {c:Nat} (h:c≤M / 2^D):c*2^D≤M:=(Nat.le_div_iff_mul_le (B8 D)).1 h
theorem Wg {V:Nat} {E L:Int} (h:(E+V.log2-52=L∧-1074≤L)∨(E+V.log2-52≤L∧L=-1074)):Cb V E=L:=by unfold Cb; omega
theorem Ah6 {M s:Nat} (hs:s≤1) (hM:M≠0):(4*M+s).log2=M.log2+2:=by
  have h1:=Nat.log2_self_le hM
  have h2:=Nat.lt_log2_self (n:=M)
  refine U2 ?_ ?_
  · rw [Nat.pow_add]; omega
  · have e:2^(M.log2+2+1)=2^(M.log2+1)*4:=by rw [show M.log2+2+1=M.log2+1+2 by omega,Nat.pow_add]
    omega
theorem Ahx {M D s:Nat} {e:Int} (hD:Drop M e D) (hs:s≤1) (hV:4*M+s≠0) (hM:M<2^64) (he:-1137≤e∨(M<2^62∧-1140≤e)) (hr:s=1→2^52≤M∨e≤-1074) :
    B7 (4*M+s) (e-2)=B7 (if e+D < -1074 then 0 else qOf M D s) (max (e+D) (-1074)) ∧
    flagsOf (4*M+s) (e-2)=flags (B7 (4*M+s) (e-2)) (decide (M%2^D=0∧s=0)) ∧
    (if e+D < -1074 then 0 else qOf M D s)≤2^53:=by
  have hA:=B8 D
  by_cases hlow:e+D < -1074
  ·
    have hD63:D=63:=by
      rcases Nat.lt_or_ge D 63 with h | h
      · have:=(hD.stop h).2; omega
      · have:=hD.le; omega
    subst hD63
    have hM62:M<2^62:=by rcases he with h | h; omega; exact h.1
    have he2:-1140≤e:=by rcases he with h | h; omega; exact h.2
    have hV64:4*M+s<2^64:=by omega
    have hlog:(4*M+s).log2<64:=(Nat.log2_lt hV).2 hV64
    have hl:Cb (4*M+s) (e-2)=-1074:=Wg (.inr ⟨by omega,rfl⟩)
    obtain ⟨k,hk⟩:∃ k:Nat,(-1074-(e-2)).toNat=66+k:=⟨(-1074-(e-2)).toNat-66,by omega⟩
    have e2:(-(-1074-(e-2))).toNat=0:=by omega
    have hp:2^66≤2^(66+k):=Au8 (by decide) (by omega)
    have hsm:4*M+s<2^(66+k):=by omega
    have hz:I8 (4*M+s) (-1074-(e-2))=0:=by
      unfold I8 Me
      rw [e2,hk,Nat.pow_zero,Nat.mul_one,Nat.div_eq_of_lt hsm,Au6 hsm,if_neg (by omega)]
    have hru:B7 (4*M+s) (e-2)=0:=by
      unfold B7 kept
      rw [if_neg hV,hl,hz]
      simp
    refine ⟨?_,?_,?_⟩
    · rw [hru,if_pos hlow]; rfl
    · unfold flagsOf exact Lc
      rw [if_neg hV,hl,e2,hk,Nat.pow_zero,Nat.mul_one,Au6 hsm]
      congr 1
      have h63:M%2^63=M:=Au6 (by omega)
      rw [h63,Au9]
      simp only [Au0]
      omega
    · rw [if_pos hlow]; exact Nat.zero_le _
  · have hmax:max (e+D) (-1074)=e+D:=by omega
    have hq:M / 2^D<2^53:=by
      rcases Nat.lt_or_ge D 63 with h | h
      · exact (hD.stop h).1
      · have:D=63:=by have:=hD.le; omega
        subst this
        exact Nat.lt_of_le_of_lt (Nat.div_le_of_le_mul (show M≤2^63*2 by omega)) (by decide)
    obtain ⟨c1,c2⟩:=Ahk (M:=M) (D:=D) hs
    rw [if_neg hlow,hmax]
    refine ⟨?_,?_,Aj8 hq⟩
    all_goals
      by_cases hD0:D=0∧s=0
      · obtain ⟨rfl,rfl⟩:=hD0
        have hM0:M≠0:=by omega
        obtain ⟨s1,s2⟩:=Df M 2 e
        have e1:M*2^2=4*M+0:=by omega
        have e2:e-((2:Nat):Int)=e-2:=by omega
        rw [e1,e2] at s1 s2
        have hq0:qOf M 0 0=M:=by unfold qOf; simp
        have hle:Cb M e≤e:=by
          have:M.log2<53:=(Nat.log2_lt hM0).2 (by simpa using hq)
          unfold Cb; simp only [Int.natCast_zero,Int.add_zero] at hlow; omega
        first
        | (rw [s1,hq0]; simp; done)
        | (rw [s2,s1]
           unfold flagsOf exact Lc
           have z:(Cb M e-e).toNat=0:=by omega
           rw [if_neg hM0,z]
           simp [Nat.mod_one])
      ·
        have hl:Cb (4*M+s) (e-2)=e+D:=by
          by_cases hM0:M=0
          · subst hM0
            have hs1:s=1:=by omega
            subst hs1
            have hle:e+D=-1074:=by
              rcases Nat.eq_zero_or_pos D with rfl | hpos
              · have:=hr rfl; omega
              · have h:=hD.least (D-1) (by omega)
                simp only [Nat.zero_div] at h
                omega
            refine Wg (.inr ⟨?_,hle⟩)
            have:(4*0+1:Nat).log2=0:=by decide
            rw [this]; omega
          · have hlog:=Ah6 hs hM0
            have hub:M.log2<53+D:=by
              rw [Nat.log2_lt hM0,Nat.pow_add]; exact Ar0 hq
            have hcase:52+D≤M.log2∨e+D=-1074:=by
              rcases Nat.eq_zero_or_pos D with rfl | hpos
              · have hs1:s=1:=by omega
                rcases hr hs1 with h | h
                · left; rw [Nat.le_log2 hM0]; simpa using h
                · right; simp only [Int.natCast_zero,Int.add_zero] at hlow ⊢; omega
              · rcases hD.least (D-1) (by omega) with h | h
                · left
                  rw [Nat.le_log2 hM0]
                  have:=Alg h
                  have e1:2^(52+D)=2^53*2^(D-1):=by rw [← Nat.pow_add]; congr 1; omega
                  rw [e1]; exact this
                · right; omega
            refine Wg ?_
            rw [hlog]
            rcases hcase with h | h
            · left; omega
            · right; omega
        have e1:(e+D-(e-2)).toNat=D+2:=by omega
        have e2:(-(e+(D:Int)-(e-2))).toNat=0:=by omega
        have hkept:kept (4*M+s) (e-2)=qOf M D s:=by
          unfold kept I8
          rw [hl,e1,e2,Nat.pow_zero,Nat.mul_one,c1]; rfl
        first
        | (have hbig:2^52≤qOf M D s∨e+D=-1074:=by
             rcases Nat.eq_zero_or_pos D with rfl | hpos
             · have hs1:s=1:=by omega
               rcases hr hs1 with h | h
               · left; exact Nat.le_trans (by simpa using h) Aj9
               · right; simp only [Int.natCast_zero,Int.add_zero] at hlow ⊢; omega
             · rcases hD.least (D-1) (by omega) with h | h
               · left
                 refine Nat.le_trans ?_ Aj9
                 rw [Nat.le_div_iff_mul_le hA]
                 have:=Alg h
                 have e1:2^52*2^D=2^53*2^(D-1):=by rw [← Nat.pow_add,← Nat.pow_add]; congr 1; omega
                 rw [e1]; exact this
               · right; omega
           rw [Ahe (Aj8 hq) (by omega) hbig]
           unfold B7
           rw [if_neg hV,hl,hkept]; done)
        | (unfold flagsOf exact Lc
           rw [if_neg hV,hl,e1,e2,Nat.pow_zero,Nat.mul_one]
           congr 1
           rw [Au9]
           simp only [Au0]
           exact c2)
theorem Ta (n:Bool) {r:Nat} (h:r<2^63):Em (B0 n r)=r / 2^52:=by
  unfold Em B0; cases n
  · simp only [Bool.false_eq_true,if_false]; omega
  · simp only [if_true]; omega
theorem Qx (n:Bool) (r:Nat):Dt (B0 n r)=r%2^52:=by
  unfold Dt B0; cases n
  · rfl
  · simp only [if_true]; omega
theorem Aib (n:Bool) {r:Nat} (h:r≤Gp):Ao (B0 n r)=if r=Gp then 3 else if 2^52≤r then 2 else if 0<r then 1 else 0:=by
  rw [Ju] at *
  unfold Ao
  rw [Ta n (by omega),Qx]
  by_cases h1:r=9218868437227405312
  · subst h1; simp
  · rw [if_neg h1,if_neg (by omega)]
    by_cases h2:2^52≤r
    · rw [if_pos h2,if_pos (by omega)]
    · rw [if_neg h2,if_neg (by omega)]
      by_cases h3:0<r
      · rw [if_pos h3,if_pos (by omega)]
      · rw [if_neg h3,if_neg (by omega)]
end Go.Rnd
namespace Go.Rnd
open Ieee
theorem Nm (b:Nat):(Em b=2047∧Dt b=0∧Ao b=3)∨(Em b=2047∧Dt b≠0∧Ao b=4)∨(Em b<2047∧Ao b≠3∧Ao b≠4):=by
  have:=Iu b
  unfold Ao
  by_cases h1:Em b=2047
  · by_cases h2:Dt b=0<;>simp [h1,h2]
  · refine .inr (.inr ⟨by omega,?_⟩)
    rw [if_neg h1]
    split
    · decide
    · split<;>decide
theorem Uu (b:Nat):b%2^63=Em b*2^52+Dt b:=by unfold Em Dt; omega
theorem W2 {a b:Nat} (h4:¬ (Ao a=4∨Ao b=4)) (h:Ao a≠3) (h':Ao b≠3) :
    H9 a b=Kb (B0 (Cs a&&Cs b) 0) (F5 a (min (Aw a) (Aw b))+F5 b (min (Aw a) (Aw b))) (min (Aw a) (Aw b)):=by
  unfold H9; rw [if_neg h4,if_neg h,if_neg h']
theorem Abn {b:Nat} (h:b<2^64):Cs (G9 b)=!(Cs b)∧Em (G9 b)=Em b∧Dt (G9 b)=Dt b:=by
  unfold Cs Em Dt G9
  by_cases hb:2^63≤b
  · rw [if_pos hb]
    refine ⟨?_,by omega,by omega⟩
    have:¬ 2^63≤b-2^63:=by omega
    simp [hb,this]
  · rw [if_neg hb]
    refine ⟨?_,by omega,by omega⟩
    have:2^63≤b+2^63:=by omega
    simp [hb,this]
end Go.Rnd
namespace Go.Rnd
open Ieee
theorem S8 {V W k:Nat} (h:V≤W):Me V k≤Me W k:=by
  unfold Me
  have hA:=B8 k
  have hq:V / 2^k≤W / 2^k:=Nat.div_le_div_right h
  rcases Nat.lt_or_ge (V / 2^k) (W / 2^k) with h1 | h1
  · split<;>split<;>omega
  · have he:V / 2^k=W / 2^k:=by omega
    have v:=Nat.div_add_mod V (2^k)
    have w:=Nat.div_add_mod W (2^k)
    rw [he] at v ⊢
    have hr:V%2^k≤W%2^k:=by omega
    by_cases hc:2^k<2*(V%2^k)∨2*(V%2^k)=2^k∧W / 2^k%2=1
    · have hc':2^k<2*(W%2^k)∨2*(W%2^k)=2^k∧W / 2^k%2=1:=by
        rcases hc with hc | ⟨hc,hd⟩
        · exact .inl (by omega)
        · rcases Nat.lt_or_ge (2^k) (2*(W%2^k)) with h2 | h2
          · exact .inl h2
          · exact .inr ⟨by omega,hd⟩
      rw [if_pos hc,if_pos hc']
      exact Nat.le_refl _
    · rw [if_neg hc]
      exact Nat.le_add_right _ _
theorem An2 {V c k:Nat} (h:V≤c*2^k):Me V k≤c:=by
  have h1:=S8 (k:=k) h
  have:Me (c*2^k) k=c:=by
    have:=Rt c k 0
    rw [Nat.add_zero,Mt] at this
    exact this
  omega
theorem Aov {V c k:Nat} (h:c*2^k≤V):c≤Me V k:=by
  have h1:=S8 (k:=k) h
  have:Me (c*2^k) k=c:=by
    have:=Rt c k 0
    rw [Nat.add_zero,Mt] at this
    exact this
  omega
theorem Ady {V W:Nat} {s:Int} (h:V≤W):I8 V s≤I8 W s:=S8 (Au5 _ h)
theorem Aeo {V W:Nat} {E:Int} (hV:V≠0) (h:V≤W):Cb V E≤Cb W E:=by
  have:V.log2≤W.log2:=(Nat.le_log2 (by omega)).2 (Nat.le_trans (Nat.log2_self_le hV) h)
  unfold Cb; omega
theorem Aoy {V:Nat} {E:Int}:kept V E≤2^53:=by
  have hV:V<2^(V.log2+1):=Nat.lt_log2_self
  unfold kept I8
  refine An2 ?_
  have hl:E+V.log2-52≤Cb V E:=by unfold Cb; omega
  rw [← Nat.pow_add]
  have h1:V*2^(-(Cb V E-E)).toNat≤2^(V.log2+1)*2^(-(Cb V E-E)).toNat:=Au5 _ (Nat.le_of_lt hV)
  rw [← Nat.pow_add] at h1
  exact Nat.le_trans h1 (Au8 (by decide) (by omega))
theorem Agc {V:Nat} {E:Int} (hV:V≠0) (hl:Cb V E=E+V.log2-52):2^52≤kept V E:=by
  have h1:2^V.log2≤V:=Nat.log2_self_le hV
  unfold kept I8
  refine Aov ?_
  rw [← Nat.pow_add]
  have h2:2^V.log2*2^(-(Cb V E-E)).toNat≤V*2^(-(Cb V E-E)).toNat:=Au5 _ h1
  rw [← Nat.pow_add] at h2
  exact Nat.le_trans (Au8 (by decide) (by omega)) h2
theorem Pn {V W:Nat} {E:Int} (h:V≤W):B7 V E≤B7 W E:=by
  unfold B7
  by_cases hV:V=0
  · rw [if_pos hV]; exact Nat.zero_le _
  · have hW:W≠0:=by omega
    rw [if_neg hV,if_neg hW]
    have hl:=Aeo (E:=E) hV h
    have key:(Cb V E+1074).toNat*2^52+kept V E≤(Cb W E+1074).toNat*2^52+kept W E:=by
      rcases Int.lt_or_eq_of_le hl with h1 | h1
      · have hb:-1074≤Cb V E:=by unfold Cb; omega
        have hn:Cb W E=E+W.log2-52:=by unfold Cb at h1 hb ⊢; omega
        have k1:=Aoy (V:=V) (E:=E)
        have k2:=Agc hW hn
        have h2:(Cb V E+1074).toNat+1≤(Cb W E+1074).toNat:=by omega
        have h3:((Cb V E+1074).toNat+1)*2^52≤(Cb W E+1074).toNat*2^52:=Au5 _ h2
        rw [Nat.add_mul (Cb V E+1074).toNat 1 (2^52),Nat.one_mul] at h3
        omega
      · unfold kept
        rw [h1]
        exact Nat.add_le_add_left (Ady h) _
    omega
theorem Pl {b:Nat} (h4:Ao b≠4):B7 (Ar b) (Aw b)=b%2^63:=by
  have hf:Dt b<2^52:=M6 b
  have hr:=Uu b
  rw [hr]
  unfold Ar Aw
  by_cases h0:Em b=0
  · rw [if_pos h0,if_pos h0,Vo hf,h0,Nat.zero_mul,Nat.zero_add]
  · rw [if_neg h0,if_neg h0,Pm (by omega) (by omega) (by omega),Ju]
    have e:((Em b:Int)-1075+1074).toNat=Em b-1:=by omega
    rw [e]
    have h5:(Em b-1)*2^52+(Dt b+2^52)=Em b*2^52+Dt b:=by omega
    rw [h5]
    rcases Nm b with ⟨h1,h2,_⟩ | ⟨_,_,h⟩ | ⟨h1,_,_⟩
    · rw [h1,h2]; decide
    · exact absurd h h4
    · omega
def Ob (b:Nat):Int:=Ie (Cs b) (b%2^63)
def J1 (b:Nat) (f:Int):Nat:=Ar b*2^(Aw b-f).toNat
theorem Ow {b:Nat} {f:Int} (h4:Ao b≠4) (hf:f≤Aw b):B7 (J1 b f) f=b%2^63:=by
  rw [← Pl h4]
  have h:=(Df (Ar b) (Aw b-f).toNat (Aw b)).1
  have e:Aw b-((Aw b-f).toNat:Int)=f:=by omega
  rw [e] at h
  exact h
theorem Akv {a b:Nat} (h:a%2^63=b%2^63) (f:Int):J1 a f=J1 b f:=by
  have h1:Em a=Em b:=by unfold Em; omega
  have h2:Dt a=Dt b:=by unfold Dt; omega
  unfold J1 Ar Aw
  rw [h1,h2]
theorem Arl {a b:Nat} {f:Int} (ha:Ao a≠4) (hb:Ao b≠4) (hfa:f≤Aw a) (hfb:f≤Aw b):J1 a f<J1 b f↔a%2^63<b%2^63:=by
  constructor
  · intro h
    have h1:=Pn (E:=f) (Nat.le_of_lt h)
    rw [Ow ha hfa,Ow hb hfb] at h1
    rcases Nat.lt_or_eq_of_le h1 with h2 | h2
    · exact h2
    · have:=Akv h2 f; omega
  · intro h
    rcases Nat.lt_or_ge (J1 a f) (J1 b f) with h1 | h1
    · exact h1
    · have h1:=Pn (E:=f) h1
      rw [Ow ha hfa,Ow hb hfb] at h1
      omega
theorem Aku (b:Nat) (f:Int):J1 b f=0↔b%2^63=0:=by
  have hp:=B8 (Aw b-f).toNat
  unfold J1
  rw [Nat.mul_eq_zero,Uu]
  have h1:¬ (2^(Aw b-f).toNat=0):=by omega
  have h2:Ar b=0↔Em b*2^52+Dt b=0:=by unfold Ar; split<;>omega
  rw [h2]
  exact ⟨fun h=>h.resolve_right h1,.inl⟩
theorem Aow {b:Nat} (h:Ao b=3):b%2^63=Gp:=by
  rw [Uu]
  rcases Nm b with ⟨h1,h2,_⟩ | ⟨_,_,h4⟩ | ⟨_,h4,_⟩
  · rw [h1,h2]; rfl
  · omega
  · omega
theorem Aox {b:Nat} (h3:Ao b≠3) (h4:Ao b≠4):b%2^63<Gp:=by
  have hf:Dt b<2^52:=M6 b
  rw [Uu,Ju]
  rcases Nm b with ⟨_,_,h⟩ | ⟨_,_,h⟩ | ⟨h1,_,_⟩
  · exact absurd h h3
  · exact absurd h h4
  · omega
def Adw (S:Int) (f:Int):Int:=if S<0 then -(B7 S.natAbs f:Int) else B7 S.natAbs f
theorem Adv (S:Int) (k:Nat) (f:Int):Adw (S*((2^k:Nat):Int)) (f-k)=Adw S f:=by
  have hp:=B8 k
  have h0:S*((2^k:Nat):Int)<0↔S<0:=by
    constructor
    · intro h
      rcases Int.lt_or_le S 0 with h1 | h1
      · exact h1
      · have:=Int.mul_nonneg h1 (Int.natCast_nonneg (2^k)); omega
    · intro h
      exact Int.mul_neg_of_neg_of_pos h (by omega)
  unfold Adw
  rw [Int.natAbs_mul,Int.natAbs_natCast,(Df S.natAbs k f).1]
  by_cases h:S<0
  · rw [if_pos h,if_pos (h0.2 h)]
  · rw [if_neg h,if_neg (fun k=>h (h0.1 k))]
theorem Ab7 (s:Bool) {r:Nat} (h:r<2^63):Ob (B0 s r)=Ie s r:=by
  unfold Ob B0 Cs
  cases s
  · have h1:¬ 2^63≤r:=by omega
    have h2:r%2^63=r:=Au6 h
    simp only [Bool.false_eq_true,if_false,Auy h1,h2]
  · have h1:2^63≤2^63+r:=by omega
    have h2:(2^63+r)%2^63=r:=by omega
    simp only [if_true,Auu h1,h2]
theorem Aic (s:Bool) (S f:Int):Ob (Kb (B0 s 0) S f).1=Adw S f:=by
  unfold Kb Adw
  by_cases h:S=0
  · subst h
    have e:B7 (Int.natAbs 0) f=0:=if_pos rfl
    rw [if_pos rfl,e,Ab7 s (by decide)]
    cases s<;>rfl
  · rw [if_neg h]
    show Ob (B0 _ _)=_
    rw [Ab7 _ (Po _ _)]
    unfold Ie
    by_cases h1:S<0
    · rw [if_pos h1,Auu h1,if_pos rfl]
    · rw [if_neg h1,Auy h1,if_neg (by decide)]
theorem Xi {b:Nat} {f g:Int} {k:Nat} (hk:g=f-k) (hf:f≤Aw b):F5 b g=F5 b f*((2^k:Nat):Int):=by
  unfold F5
  have e:(Aw b-g).toNat=(Aw b-f).toNat+k:=by omega
  rw [e,Nat.pow_add,← Nat.mul_assoc]
  generalize Ar b*2^(Aw b-f).toNat=m
  generalize 2^k=p
  unfold Ie
  cases Cs b
  · exact Ave m p
  · show -((m*p:Nat):Int)=-(m:Int)*(p:Int)
    rw [Ave,Int.neg_mul]
theorem Aps {a c:Nat} (a3:Ao a≠3) (a4:Ao a≠4) (c3:Ao c≠3) (c4:Ao c≠4) {g:Int} (hg:g≤min (Aw a) (Aw c)) :
    Ob (H9 a c).1=Adw (F5 a g+F5 c g) g:=by
  rw [W2 (fun h=>h.elim a4 c4) a3 c3,Aic]
  obtain ⟨k,hk⟩:∃ k:Nat,g=min (Aw a) (Aw c)-k:=⟨(min (Aw a) (Aw c)-g).toNat,by omega⟩
  rw [Xi (b:=a) hk (Int.min_le_left _ _),Xi (b:=c) hk (Int.min_le_right _ _),← Int.add_mul,hk,Adv]
end Go.Rnd
namespace Go.Rnd
def Kg (a b:Nat):Nat × Nat :=
  if Ao a=4∨Ao b=4 then (Xg,0)
  else if Ao a=3∨Ao b=3 then (if Ao a=0∨Ao b=0 then (Xg,16) else (B0 (Cs a !=Cs b) Gp,0))
  else (B0 (Cs a !=Cs b) (B7 (Ar a*Ar b) (Aw a+Aw b)),flagsOf (Ar a*Ar b) (Aw a+Aw b))
def Fv (X Y K:Nat):Nat:=2*(X*2^K / Y)+(if X*2^K%Y=0 then 0 else 1)
def Xf (a b:Nat):Nat × Nat :=
  if Ao a=4∨Ao b=4 then (Xg,0)
  else if Ao a=Ao b∧(Ao a=3∨Ao a=0) then (Xg,16)
  else if Ao a=3 then (B0 (Cs a !=Cs b) Gp,0)
  else if Ao b=3∨Ao a=0 then (B0 (Cs a !=Cs b) 0,0)
  else if Ao b=0 then (B0 (Cs a !=Cs b) Gp,8)
  else (B0 (Cs a !=Cs b) (B7 (Fv (Ar a) (Ar b) 120) (Aw a-Aw b-121)),flagsOf (Fv (Ar a) (Ar b) 120) (Aw a-Aw b-121))
theorem X2 (a b:Nat):Kg a b=Kg b a:=by
  have e:(Cs a !=Cs b)=(Cs b !=Cs a):=by cases Cs a<;>cases Cs b<;>rfl
  unfold Kg
  rw [e,Nat.mul_comm (Ar a),Int.add_comm (Aw a)]
  simp only [or_comm]
theorem Ad7 {V k:Nat} {E:Int} (hm:1≤V / 2^k) (hc:2^53≤V / 2^k∨E+k+1≤-1074) :
    B7 (4*(V / 2^k)+(if V%2^k=0 then 0 else 1)) (E+k-2)=B7 V E∧flagsOf (4*(V / 2^k)+(if V%2^k=0 then 0 else 1)) (E+k-2)=flagsOf V E:=by
  have hA:=B8 k
  have h1:=Nat.div_add_mod V (2^k)
  have h2:=Nat.mod_lt V hA
  generalize hq:V / 2^k=q at *
  generalize hr:V%2^k=r at *
  by_cases h0:r=0
  · rw [if_pos h0]
    obtain ⟨a1,a2⟩:=Df q k (E+k)
    obtain ⟨b1,b2⟩:=Df q 2 (E+k)
    have e1:E+(k:Int)-k=E:=by omega
    have e2:V=q*2^k:=by rw [Nat.mul_comm]; omega
    have e3:q*2^2=4*q+0:=by omega
    have e4:E+(k:Int)-((2:Nat):Int)=E+k-2:=by omega
    rw [e1,← e2] at a1 a2
    rw [e3,e4] at b1 b2
    rw [a1,a2,b1,b2]
    exact ⟨rfl,rfl⟩
  · rw [if_neg h0]
    obtain ⟨d,rfl⟩:∃ d,k=d+1:=by
      cases k with
      | zero=>simp only [Nat.pow_zero] at h2; omega
      | succ d=>exact ⟨d,rfl⟩
    have hD:2^(d+1)=2*2^d:=by rw [Nat.pow_succ]; omega
    rw [hD] at h1 h2
    generalize hc2:2^d=c at *
    have p1:(2*q+1-1)*c=2*c*q:=by rw [Nat.add_sub_cancel,Nat.mul_comm,Nat.mul_left_comm,Nat.mul_assoc]
    have p2:(2*q+1+1)*c=2*c*q+2*c:=by
      rw [show 2*q+1+1=2*(q+1) by omega,Nat.mul_assoc,Nat.add_mul,Nat.mul_add,Nat.mul_comm q c,Nat.mul_assoc]; omega
    have lt1:(2*q+1-1)*2^d<V:=by rw [hc2,p1]; omega
    have lt2:V<(2*q+1+1)*2^d:=by rw [hc2,p2]; omega
    have od:(2*q+1)%2=1:=by omega
    have lV:=Oz od (by omega) lt1 lt2
    have l4:(4*q+1).log2=(2*q+1).log2+1:=Oz (d:=1) od (by omega) (by omega) (by omega)
    have hs:(2*q+1).log2≥54∨E+d+2≤-1074:=by
      rcases hc with h | h
      · left; rw [ge_iff_le,Nat.le_log2 (by omega)]; omega
      · right; omega
    have hk:E+d+2≤Cb (2*q+1) (E+d):=by unfold Cb; omega
    obtain ⟨a1,a2⟩:=Ol (E:=E) od lt1 lt2 (by unfold Cb; rw [lV]; omega) hk
    have ee:E+((d+1:Nat):Int)-2+((1:Nat):Int)=E+d:=by omega
    obtain ⟨b1,b2⟩:=Ol (V:=4*q+1) (d:=1) (E:=E+((d+1:Nat):Int)-2) od (by omega) (by omega) (by unfold Cb; rw [l4]; omega) (by rw [ee]; unfold Cb; omega)
    rw [ee] at b1 b2
    rw [a1,a2,b1,b2]
    exact ⟨rfl,rfl⟩
theorem R6 (n:Bool) {V k:Nat} {E e:Int} {s:Bool} (he:e=E+k) (hs:s=decide (V%2^k≠0)) (hm:1≤V / 2^k) (hc:2^53≤V / 2^k∨E+k+1≤-1074) :
    Fx n (V / 2^k) e s=(B0 n (B7 V E),flagsOf V E):=by
  obtain ⟨a,b⟩:=Ad7 hm hc
  have e1:s.toNat=if V%2^k=0 then 0 else 1:=by
    rw [hs]
    by_cases h:V%2^k=0
    · rw [Auy (by omega),if_pos h]; rfl
    · rw [Auu h,if_neg h]; rfl
  unfold Fx
  rw [he,e1,a,b]
theorem Vk {X Y K:Nat} (d:Nat) (E:Int) (hY:0<Y) (h:2^53≤X*2^K / Y) :
    B7 (Fv X Y (K+d)) (E-d)=B7 (Fv X Y K) E∧flagsOf (Fv X Y (K+d)) (E-d)=flagsOf (Fv X Y K) E:=by
  have hA:=B8 d
  unfold Fv
  have e:X*2^(K+d)=X*2^K*2^d:=by rw [Nat.pow_add,Nat.mul_assoc]
  rw [e]
  generalize X*2^K=Z at *
  have h1:=Nat.div_add_mod Z Y
  have h2:=Nat.mod_lt Z hY
  by_cases h0:Z%Y=0
  · obtain ⟨q,rfl⟩:=Nat.dvd_of_mod_eq_zero h0
    have e1:Y*q*2^d=Y*(q*2^d):=Nat.mul_assoc _ _ _
    rw [e1,Nat.mul_mod_right,Nat.mul_mod_right,Nat.mul_div_cancel_left _ hY,Nat.mul_div_cancel_left _ hY,if_pos rfl]
    have:=Df (2*q+0) d E
    rw [show (2*q+0)*2^d=2*(q*2^d)+0 by rw [Nat.add_zero,Nat.add_zero,Nat.mul_assoc]] at this
    exact this
  · have h3:=Nat.div_add_mod (Z*2^d) Y
    have h4:=Nat.mod_lt (Z*2^d) hY
    rw [if_neg h0]
    generalize hq:Z / Y=q at *
    generalize hr:Z%Y=r at *
    generalize hc:2^d=c at *
    have hz:Z*c=Y*(q*c)+r*c:=by rw [← h1,Nat.add_mul,Nat.mul_assoc]
    have hrc:r*c<Y*c:=(Nat.mul_lt_mul_right hA).2 h2
    have hrc0:0<r*c:=Nat.mul_pos (by omega) hA
    have q1:q*c≤Z*c / Y:=by rw [Nat.le_div_iff_mul_le hY,Nat.mul_comm (q*c)]; omega
    have q2:Z*c / Y<(q+1)*c:=by
      rw [Nat.div_lt_iff_lt_mul hY,Nat.add_mul,Nat.add_mul,Nat.one_mul,Nat.mul_comm (q*c),Nat.mul_comm c Y]; omega
    have q3:Z*c / Y=q*c→Z*c%Y≠0:=fun h5 h6=>by rw [h5,h6] at h3; omega
    generalize hQ:Z*c / Y=Q at *
    have p1:(2*q+1-1)*c=2*(q*c):=by rw [Nat.add_sub_cancel,Nat.mul_assoc]
    have p2:(2*q+1+1)*c=2*((q+1)*c):=by rw [show 2*q+1+1=2*(q+1) by omega,Nat.mul_assoc]
    have od:(2*q+1)%2=1:=by omega
    generalize hV:2*Q+(if Z*c%Y=0 then 0 else 1)=V
    have v1:(2*q+1-1)*2^d<V:=by
      rw [hc,p1,← hV]
      by_cases h5:Q=q*c
      · rw [if_neg (q3 h5)]; omega
      · split<;>omega
    have v2:V<(2*q+1+1)*2^d:=by
      rw [hc,p2,← hV]
      split<;>omega
    have lV:=Oz od (by omega) v1 v2
    have hs:54≤(2*q+1).log2:=by rw [Nat.le_log2 (by omega)]; omega
    have ee:E-(d:Int)+d=E:=by omega
    have:=Ol (E:=E-d) od v1 v2 (by unfold Cb; rw [lV]; omega) (by unfold Cb; omega)
    rw [ee] at this
    exact this
theorem Adj {X Y K L:Nat} {E F:Int} (hY:0<Y) (h1:2^53≤X*2^K / Y) (h2:2^53≤X*2^L / Y) (he:E+K=F+L) :
    B7 (Fv X Y K) E=B7 (Fv X Y L) F∧flagsOf (Fv X Y K) E=flagsOf (Fv X Y L) F:=by
  rcases Nat.le_total K L with h | h
  · obtain ⟨d,rfl⟩:=Nat.exists_eq_add_of_le h
    have:=Vk d E hY h1
    rw [show E-(d:Int)=F by omega] at this
    exact ⟨this.1.symm,this.2.symm⟩
  · obtain ⟨d,rfl⟩:=Nat.exists_eq_add_of_le h
    have:=Vk d F hY h2
    rw [show F-(d:Int)=E by omega] at this
    exact this
theorem Adk (X Y a K:Nat):Fv (X*2^a) Y K=Fv X Y (K+a):=by
  unfold Fv
  have:X*2^a*2^K=X*2^(K+a):=by rw [Nat.mul_assoc,← Nat.pow_add,Nat.add_comm a K]
  rw [this]
theorem Aau (X Y b K:Nat):Fv X (Y*2^b) (K+b)=Fv X Y K:=by
  have hp:=B8 b
  unfold Fv
  have:X*2^(K+b)=X*2^K*2^b:=by rw [Nat.pow_add,Nat.mul_assoc]
  rw [this,Nat.mul_div_mul_right _ _ hp,Nat.mul_mod_mul_right]
  have:(X*2^K%Y*2^b=0)↔(X*2^K%Y=0):=by
    constructor
    · intro h
      rcases Nat.mul_eq_zero.1 h with h | h
      · exact h
      · omega
    · intro h; rw [h,Nat.zero_mul]
  simp only [this]
theorem Aq7 {X Y K t:Nat} (hX:0<X) (hY0:0<Y) (hY:Y<2^t) (hK:53+t≤K):2^53≤X*2^K / Y:=by
  rw [Nat.le_div_iff_mul_le hY0]
  have h1:2^53*Y≤2^53*2^t:=Nat.mul_le_mul_left _ (by omega)
  have h2:2^(53+t)≤2^K:=Au8 (by decide) hK
  have h3:1*2^K≤X*2^K:=Au5 _ (by omega)
  rw [Nat.pow_add] at h2
  omega
theorem Ahy (n:Bool) {X Y K:Nat} {e E:Int} {s:Bool} (hs:s=decide (X*2^K%Y≠0)) (he:E=e-1) (hq:2^53≤X*2^K / Y) :
    Fx n (X*2^K / Y) e s=(B0 n (B7 (Fv X Y K) E),flagsOf (Fv X Y K) E):=by
  have e1:Fv X Y K / 2^1=X*2^K / Y:=by
    unfold Fv
    split<;>omega
  have e2:decide (Fv X Y K%2^1≠0)=decide (X*2^K%Y≠0):=by
    unfold Fv
    by_cases h:X*2^K%Y=0
    · rw [if_pos h,Auy (by omega),Auy (by omega)]
    · rw [if_neg h,Auu (by omega),Auu h]
  have:=R6 n (V:=Fv X Y K) (k:=1) (E:=E) (e:=e) (s:=s) (by omega) (by rw [e2]; exact hs) (by omega) (.inl (by omega))
  rw [e1] at this
  exact this
end Go.Rnd
namespace Go.Rnd
open Go.Den
def By:List Int→Nat
  | []=>0
  | x::l=>x.toNat+4294967296*By l
def digits:Nat→Nat→List Int
  | 0,_=>[]
  | k+1,v=>((v%4294967296:Nat):Int)::digits k (v / 4294967296)
def C1 (n:Nat):Nat:=if n=0 then 0 else n.log2 / 32+1
def N7 (n:Nat):List Int:=digits (C1 n) n
def Ag (v:Int):List Int:=N7 v.natAbs
def Ax (v:Int):Bool:=decide (v<0)
def wv (n:Bool) (l:List Int):Int:=Ie n (By l)
def Se (l:List Int):Prop:=∀ x∈l,0≤x∧x<4294967296
def Fo (l:List Int):Bool:=Cu (l.length<1073741824∧Se l)
def Jh (n:Bool) (l:List Int):Bool:=Cu (l.length<268435456∧l=N7 (By l)∧(n=true→l≠[]))
def W4 (n:Bool) (l:List Int):Bool:=Cu (l.length<134217728∧l=N7 (By l)∧(n=true→l≠[]))
def Are (k:Int):Bool:=Cu (-1000000≤k∧k≤1000000)
def Age (k:Int):Bool:=Cu (-9223372036854775808≤k∧k≤9223372036854775807)
def F9 (l:List Int) (i:Int):Int:=if 0≤i then l.getD i.toNat 0 else 0
def Hn (a b:List Int):List Int:=digits (max a.length b.length+1) (By a+By b)
def Gj (a b:List Int):List Int:=digits a.length (By a-By b)
def leL (a b:List Int):Bool:=Cu (By a≤By b)
def Tt (a b:Nat):Int:=if a<b then -1 else if b<a then 1 else 0
def Js (v:Int) (j:Nat):Int:=Ie (Ax v) (v.natAbs / 2^j)
def G5 (v k:Int):Int:=if 0≤k then v*((2^k.toNat:Nat):Int) else Js v (-k).toNat
def Zs (v:Int):Int:=if v=0 then 0 else (v.natAbs.log2:Int)+1
def Ahp (v:Int):Bool:=decide (v%2=1)
def T4 (v w:Int):Bool:=decide (v=w)
theorem two32:2^32=4294967296:=by decide
theorem Kl (k:Nat):2^(32*(k+1))=4294967296*2^(32*k):=by
  rw [Nat.mul_add,Nat.mul_one,Nat.pow_add,Nat.mul_comm,two32]
theorem Du:∀ (k v:Nat),(digits k v).length=k
  | 0,_=>rfl
  | k+1,v=>by rw [digits,List.length_cons,Du k]
theorem Lb:∀ (k v:Nat),Se (digits k v)
  | 0,_=>fun x h=>by cases h
  | k+1,v=>fun x h=>by
    rw [digits,List.mem_cons] at h
    rcases h with rfl | h
    · omega
    · exact Lb k _ x h
theorem Ib:∀ (k v:Nat),By (digits k v)=v%2^(32*k)
  | 0,v=>by rw [digits,By,Nat.mul_zero,Nat.pow_zero,Nat.mod_one]
  | k+1,v=>by
    rw [digits,By,Ib k,Auv,Kl,Nat.mod_mul]
theorem Iq:∀ {l:List Int},Se l→By l<2^(32*l.length)
  | [],_=>by decide
  | x::l,h=>by
    have h1:=h x (List.mem_cons_self ..)
    have h2:=Iq (l:=l) (fun y hy=>h y (List.mem_cons_of_mem _ hy))
    rw [By,List.length_cons,Kl]
    omega
theorem O5:∀ {l:List Int},Se l→digits l.length (By l)=l
  | [],_=>rfl
  | x::l,h=>by
    have h1:=h x (List.mem_cons_self ..)
    have h2:=O5 (l:=l) (fun y hy=>h y (List.mem_cons_of_mem _ hy))
    rw [By,List.length_cons,digits]
    have e1:(x.toNat+4294967296*By l)%4294967296=x.toNat:=by omega
    have e2:(x.toNat+4294967296*By l) / 4294967296=By l:=by omega
    rw [e1,e2,h2]
    congr 1
    omega
theorem Iy (n:Nat):n<2^(32*C1 n):=by
  unfold C1
  by_cases h:n=0
  · rw [if_pos h,h]; decide
  · rw [if_neg h]
    exact Nat.lt_of_lt_of_le Nat.lt_log2_self (Au8 (by decide) (by omega))
theorem K1 {n k:Nat} (h:n<2^(32*k)):C1 n≤k:=by
  unfold C1
  by_cases h0:n=0
  · rw [if_pos h0]; exact Nat.zero_le _
  · rw [if_neg h0]
    have:=(Nat.log2_lt h0).2 h
    omega
theorem Aos {n k:Nat} (h:2^(32*k)≤n):k+1≤C1 n:=by
  have hp:=B8 (32*k)
  unfold C1
  rw [if_neg (by omega)]
  have:=(Nat.le_log2 (by omega)).2 h
  omega
theorem Hj {n m:Nat} (h:n≤m):C1 n≤C1 m:=K1 (Nat.lt_of_le_of_lt h (Iy m))
theorem Qk (n:Nat):By (N7 n)=n:=by
  unfold N7
  rw [Ib,Au6 (Iy n)]
theorem Gl (n:Nat):(N7 n).length=C1 n:=Du _ _
theorem Ab2 (n:Nat):Se (N7 n):=Lb _ _
theorem Wv:∀ (k v i:Nat),i<k→(digits k v).getD i 0=((v / 2^(32*i)%4294967296:Nat):Int)
  | k+1,v,0,_=>by rw [digits,List.getD_cons_zero,Nat.mul_zero,Nat.pow_zero,Nat.div_one]
  | k+1,v,i+1,h=>by
    rw [digits,List.getD_cons_succ,Wv k _ i (by omega),Kl,Nat.div_div_eq_div_mul]
theorem L5 {l:List Int} (h:Se l) (i:Nat):l.getD i 0=((By l / 2^(32*i)%4294967296:Nat):Int):=by
  by_cases hi:i<l.length
  · have:=Wv l.length (By l) i hi
    rw [O5 h] at this
    exact this
  · have h1:=Iq h
    have h2:2^(32*l.length)≤2^(32*i):=Au8 (by decide) (by omega)
    rw [Nat.div_eq_of_lt (by omega),Au3,List.getElem?_eq_none (by omega)]
    rfl
theorem Gm {l:List Int} (h:Se l) (i:Nat):F9 l (i:Int)=((By l / 2^(32*i)%4294967296:Nat):Int):=by
  unfold F9
  rw [if_pos (by omega),Auv,L5 h]
theorem Il:∀ (k v:Nat),digits (k+1) v=digits k v++[((v / 2^(32*k)%4294967296:Nat):Int)]
  | 0,v=>by rw [digits,digits,digits,Nat.mul_zero,Nat.pow_zero,Nat.div_one]; rfl
  | k+1,v=>by
    rw [digits,Il k,Kl,← Nat.div_div_eq_div_mul]
    rfl
theorem Uc:∀ (j k v:Nat),j≤k→(digits k v).take j=digits j v
  | 0,_,_,_=>by rw [List.take_zero,digits]
  | j+1,k+1,v,h=>by rw [digits,List.take_succ_cons,Uc j k _ (by omega),digits]
theorem Aek {l:List Int} (h:Se l):l.take (C1 (By l))=N7 (By l):=by
  have h1:=Uc (C1 (By l)) l.length (By l) (K1 (Iq h))
  rw [O5 h] at h1
  exact h1
theorem Iz {n:Nat} (h:n≠0):0<C1 n:=by unfold C1; rw [if_neg h]; omega
theorem Fz (v:Int):wv (Ax v) (Ag v)=v:=by
  unfold wv Ax Ag Ie
  rw [Qk]
  by_cases h:v<0
  · rw [Auu h,if_pos rfl]; omega
  · rw [Auy h,if_neg (by decide)]; omega
theorem Iv {l:List Int} (h:l.length<1073741824) (hi:Se l):Fo l=true:=Aq.2 ⟨h,hi⟩
theorem Iw {l:List Int} (h:Fo l=true):l.length<1073741824∧Se l:=Aq.1 h
theorem Wx (v:Int):Ag v=N7 (By (Ag v))∧(Ax v=true→Ag v≠[]):=by
  unfold Ag
  rw [Qk]
  refine ⟨rfl,fun h e=>?_⟩
  have h1:v<0:=of_decide_eq_true h
  have h2:=Gl v.natAbs
  rw [e] at h2
  have:=Iz (n:=v.natAbs) (by omega)
  rw [← h2] at this
  exact absurd this (by decide)
theorem Jg {v:Int} (h:C1 v.natAbs<268435456):Jh (Ax v) (Ag v)=true :=
  Aq.2 ⟨by unfold Ag; rw [Gl]; exact h,Wx v⟩
theorem Ad5 {v:Int} (h:C1 v.natAbs<134217728):W4 (Ax v) (Ag v)=true :=
  Aq.2 ⟨by unfold Ag; rw [Gl]; exact h,Wx v⟩
theorem Tw {n:Bool} {l:List Int} (h1:l=N7 (By l)) (h2:n=true→l≠[]):n=Ax (wv n l)∧l=Ag (wv n l):=by
  have e:(wv n l).natAbs=By l:=by unfold wv Ie; split<;>omega
  refine ⟨?_,by unfold Ag; rw [e]; exact h1⟩
  unfold Ax wv Ie
  cases n
  · simp
  · have h3:=h2 rfl
    have h4:By l≠0:=fun h=>by
      rw [h] at h1
      exact h3 h1
    simp; omega
theorem Hi {n:Bool} {l:List Int} (h:Jh n l=true):∃ v,n=Ax v∧l=Ag v∧C1 v.natAbs<268435456:=by
  obtain ⟨h0,h1,h2⟩:=Aq.1 h
  obtain ⟨e1,e2⟩:=Tw h1 h2
  refine ⟨_,e1,e2,?_⟩
  have:=congrArg List.length e2
  unfold Ag at this
  rw [Gl] at this
  omega
theorem Ux {n:Bool} {l:List Int} (h:W4 n l=true):∃ v,n=Ax v∧l=Ag v∧C1 v.natAbs<134217728:=by
  obtain ⟨h0,h1,h2⟩:=Aq.1 h
  obtain ⟨e1,e2⟩:=Tw h1 h2
  refine ⟨_,e1,e2,?_⟩
  have:=congrArg List.length e2
  unfold Ag at this
  rw [Gl] at this
  omega
theorem Mw {v:Int} (h:C1 v.natAbs<1073741824):Fo (Ag v)=true :=
  Iv (by unfold Ag; rw [Gl]; exact h) (Ab2 _)
theorem Dm (v:Int):By (Ag v)=v.natAbs:=Qk _
theorem B2 (v:Int):(Ag v).length=C1 v.natAbs:=Gl _
theorem Aqi (n:Bool) (l:List Int):wv (!n) l=- wv n l:=by
  unfold wv Ie
  cases n<;>simp
theorem Xx {a b:List Int} (ha:Se a) (hb:Se b):By (Hn a b)=By a+By b:=by
  unfold Hn
  rw [Ib,Au6]
  have h1:=Iq ha
  have h2:=Iq hb
  have h3:2^(32*a.length)≤2^(32*max a.length b.length):=Au8 (by decide) (by omega)
  have h4:2^(32*b.length)≤2^(32*max a.length b.length):=Au8 (by decide) (by omega)
  rw [Kl]
  omega
theorem Ng (a b:List Int):(Hn a b).length=max a.length b.length+1:=Du _ _
theorem Vw (a b:List Int):Se (Hn a b):=Lb _ _
theorem Aec {a:List Int} (b:List Int) (ha:Se a):By (Gj a b)=By a-By b:=by
  unfold Gj
  rw [Ib,Au6]
  have h1:=Iq ha
  omega
theorem Qc (a b:List Int):(Gj a b).length=a.length:=Du _ _
theorem X4 (a b:List Int):Se (Gj a b):=Lb _ _
theorem Kt (v:Int) (j:Nat):(Js v j).natAbs=v.natAbs / 2^j:=by
  unfold Js
  generalize v.natAbs / 2^j=m
  unfold Ie; split<;>omega
theorem Rm {v:Int} (h:v<0) (m:Nat):Ie (Ax v) m=-(m:Int):=by
  unfold Ie Ax; rw [Auu h,if_pos rfl]
theorem Rl {v:Int} (h:¬ v<0) (m:Nat):Ie (Ax v) m=(m:Int):=by
  unfold Ie Ax; rw [Auy h,if_neg (by decide)]
theorem Y8 (v:Int) (i j:Nat):Js (Js v i) j=Js v (i+j):=by
  have e:v.natAbs / 2^(i+j)=v.natAbs / 2^i / 2^j:=by rw [Nat.pow_add,Nat.div_div_eq_div_mul]
  have h1:=Kt v i
  by_cases hv:v<0
  · have h2:Js v i=-((v.natAbs / 2^i:Nat):Int):=Rm hv _
    rw [show Js v (i+j)=-((v.natAbs / 2^(i+j):Nat):Int) from Rm hv _,e]
    by_cases h0:v.natAbs / 2^i=0
    · rw [h2,h0]
      show Js 0 j=_
      rw [Nat.zero_div]
      show Ie (Ax 0) (0 / 2^j)=_
      rw [Nat.zero_div]; rfl
    · have h3:Js v i<0:=by omega
      rw [show Js (Js v i) j=-(((Js v i).natAbs / 2^j:Nat):Int) from Rm h3 _,h1]
  · have h2:Js v i=((v.natAbs / 2^i:Nat):Int):=Rl hv _
    have h3:¬ Js v i<0:=by omega
    rw [show Js (Js v i) j=(((Js v i).natAbs / 2^j:Nat):Int) from Rl h3 _,h1,show Js v (i+j)=((v.natAbs / 2^(i+j):Nat):Int) from Rl hv _,e]
theorem Aa5 (v:Int):Js v 0=v:=by
  unfold Js Ie Ax
  rw [Nat.pow_zero,Nat.div_one]
  by_cases h:v<0
  · rw [Auu h,if_pos rfl]; omega
  · rw [Auy h,if_neg (by decide)]; omega
theorem Rj (j:Nat):Js 0 j=0:=by
  unfold Js
  rw [show (Int.natAbs 0)=0 from rfl,Nat.zero_div]
  rfl
theorem Agu {l:List Int} (h:Se l):By (l.drop 1)=By l / 4294967296:=by
  cases l with
  | nil=>rfl
  | cons x l =>
    have:=h x (List.mem_cons_self ..)
    show By l=_
    rw [By]; omega
theorem Acb {l:List Int} (h:Se l):Se (l.drop 1):=fun x hx=>h x (List.mem_of_mem_drop hx)
theorem Aca {l:List Int} (h:Se l):Se ([(0:Int)]++l):=fun x hx=>by
  rcases List.mem_cons.1 hx with rfl | hx
  · omega
  · exact h x hx
theorem Alc (n:Nat):C1 (2*n)≤C1 n+1:=by
  refine K1 ?_
  have h:=Iy n
  rw [Kl]
  omega
theorem Aor (n:Nat):C1 (n*4294967296)≤C1 n+1:=by
  refine K1 ?_
  have h:=Iy n
  rw [Kl]
  omega
theorem Abw {n m:Nat} (h:2^m≤n):(n / 2^m).log2+m=n.log2:=by
  have hp:=B8 m
  have h0:n≠0:=by omega
  have hm:m≤n.log2:=(Nat.le_log2 h0).2 h
  have e:(n / 2^m).log2=n.log2-m:=by
    refine U2 ?_ ?_
    · rw [Nat.le_div_iff_mul_le hp,← Nat.pow_add]
      exact Nat.le_trans (Au8 (by decide) (by omega)) (Nat.log2_self_le h0)
    · rw [Nat.div_lt_iff_lt_mul hp,← Nat.pow_add]
      exact Nat.lt_of_lt_of_le Nat.lt_log2_self (Au8 (by decide) (by omega))
  omega
end Go.Rnd
namespace Go.Rnd
open Go.Den
def Re (n:Nat):Nat:=if h:n=0∨n%2=1 then 0 else Re (n / 2)+1
termination_by n
decreasing_by omega
def mD (v:Int):Int:=Js v (Re v.natAbs)
def eD (v e:Int):Int:=if v=0 then 0 else e+Re v.natAbs
def Db (v e w f:Int):Int:=if v=0 then f else if w=0 then e else min e f
def Ar7 (v e w f:Int):Int:=G5 v (e-Db v e w f)+G5 w (f-Db v e w f)
def Aae (v e w f:Int):Int:=mD (Ar7 v e w f)
def Amv (v e w f:Int):Int:=eD (Ar7 v e w f) (Db v e w f)
def Ag0 (v e:Int):Int:=if v=0 then 0 else Zs v+e
def Tf (e:Int):Bool:=Cu (-2000000≤e∧e≤2000000)
def Tg (e:Int):Bool:=Cu (-400000≤e∧e≤400000)
def Abj (v e f:Int):Bool:=Cu (v=0∨(-1000000≤e-f∧e-f≤1000000))&&Cu (-400000≤e∧e≤400000∧-1000000≤f∧f≤1000000)
theorem Adc {n:Nat} (h:n=0∨n%2=1):Re n=0:=by rw [Re,dif_pos h]
theorem Afl {n:Nat} (h0:n≠0) (h:n%2=0):Re n=Re (n / 2)+1:=by rw [Re,dif_neg (by omega)]
theorem Yz {n:Nat} (h:n≠0):∀ k,Re (n*2^k)=k+Re n
  | 0=>by rw [Nat.pow_zero,Nat.mul_one,Nat.zero_add]
  | k+1=>by
    have hp:=B8 k
    have h1:n*2^k≠0:=by
      intro e
      rcases Nat.mul_eq_zero.1 e with e | e<;>omega
    have e:n*2^(k+1)=n*2^k*2:=by rw [Nat.pow_succ,Nat.mul_assoc]
    rw [e,Afl (by omega) (by omega),Nat.mul_div_cancel _ (by decide),Yz h k]
    omega
theorem Afk (n:Nat) (h:n≠0):∃ m,n=m*2^Re n∧m%2=1:=by
  induction n using Nat.strongRecOn with
  | _ n ih =>
    by_cases h2:n%2=1
    · refine ⟨n,?_,h2⟩
      rw [Adc (.inr h2),Nat.pow_zero,Nat.mul_one]
    · obtain ⟨m,h3,h4⟩:=ih (n / 2) (by omega) (by omega)
      refine ⟨m,?_,h4⟩
      rw [Afl h (by omega),Nat.pow_succ,← Nat.mul_assoc,← h3]
      omega
theorem Apx {n:Nat} (h:n≠0):Re n≤n.log2:=by
  obtain ⟨m,h1,h2⟩:=Afk n h
  refine (Nat.le_log2 h).2 ?_
  have:1*2^Re n≤m*2^Re n:=Au5 _ (by omega)
  omega
theorem X5 {n:Nat}:n.log2<32*C1 n+1:=by
  unfold C1
  by_cases h:n=0
  · rw [h]; decide
  · rw [if_neg h]; omega
theorem Akx {v:Int} {k:Nat} (h:v.natAbs%2^k=0):mD (Js v k)=mD v:=by
  unfold mD
  by_cases h0:v=0
  · rw [h0,Rj]
  · have hp:=B8 k
    have hv:=Nat.div_add_mod v.natAbs (2^k)
    rw [h,Nat.add_zero,Nat.mul_comm] at hv
    have hq:v.natAbs / 2^k≠0:=by
      intro e; rw [e] at hv; omega
    have:=Yz hq k
    rw [hv] at this
    rw [Kt,Y8,this]
theorem Al4 {v e:Int} {k:Nat} (h:v.natAbs%2^k=0) (h0:v≠0):eD (Js v k) (e+k)=eD v e:=by
  unfold eD
  have hp:=B8 k
  have hv:=Nat.div_add_mod v.natAbs (2^k)
  rw [h,Nat.add_zero,Nat.mul_comm] at hv
  have hq:v.natAbs / 2^k≠0:=by
    intro e; rw [e] at hv; omega
  have ht:=Yz hq k
  rw [hv] at ht
  have ha:=Kt v k
  rw [if_neg h0,if_neg (by omega),ha,ht]
  omega
theorem Arm {v:Int} (h:v%2=1):mD v=v:=by
  unfold mD
  rw [Adc (.inr (by omega)),Aa5]
theorem Ary {v:Int} (h:v%2=1) (e:Int):eD v e=e:=by
  unfold eD
  rw [Adc (.inr (by omega)),if_neg (by omega)]
  omega
theorem Af7 (v:Int):v=mD v*((2^Re v.natAbs:Nat):Int):=by
  by_cases h:v=0
  · rw [h]
    show (0:Int)=Js 0 _*_
    rw [Rj,Int.zero_mul]
  · obtain ⟨m,h1,h2⟩:=Afk v.natAbs (by omega)
    have hp:=B8 (Re v.natAbs)
    have hq:v.natAbs / 2^Re v.natAbs=m:=Nat.div_eq_of_eq_mul_left hp h1
    unfold mD Js
    rw [hq]
    by_cases hv:v<0
    · rw [Rm hv,Int.neg_mul,← Ave,← h1]; omega
    · rw [Rl hv,← Ave,← h1]; omega
theorem U1 {v:Int}:mD v=0↔v=0:=by
  constructor
  · intro h
    have:=Af7 v
    rw [h,Int.zero_mul] at this
    exact this
  · intro h
    rw [h]
    exact Rj _
theorem K9 (v:Int):(mD v).natAbs≤v.natAbs:=by
  unfold mD
  rw [Kt]
  exact Nat.div_le_self _ _
end Go.Rnd
namespace Go.Rnd
open Go.Den
theorem Aul {v e g:Int} (h:g≤e) (h0:v≠0):g≤eD v e:=by
  unfold eD
  rw [if_neg h0]
  omega
def Ah (l:List Int):Bool:=Cu (∀ x∈l,Ai x=true)
def A7 (x:Int):Int:=Ie (Cs x.toNat) (Ar x.toNat)
def P8 (n:Bool) (b:Int):Int:=if n then Ds b else b
end Go.Rnd
namespace Go.Rnd
open Go.Den
theorem Ac7 (s:Bool) {q:Nat} {L:Int} (hq:q<2^53) (hL:-1074≤L) (h:2^52≤q∨L=-1074) (hr:(L+1074).toNat*2^52+q<Gp) :
    Ar (B0 s ((L+1074).toNat*2^52+q))=q∧Aw (B0 s ((L+1074).toNat*2^52+q))=L:=by
  rw [Ju] at hr
  obtain ⟨t,ht⟩:∃ t:Nat,L=t-1074:=⟨(L+1074).toNat,by omega⟩
  have et:(L+1074).toNat=t:=by omega
  rw [et] at hr ⊢
  have hp:=Ta s (r:=t*2^52+q) (by omega)
  have hf:=Qx s (t*2^52+q)
  unfold Ar Aw
  by_cases h52:2^52≤q
  · have e1:Em (B0 s (t*2^52+q))=t+1:=by rw [hp]; omega
    rw [e1,hf,if_neg (by omega),if_neg (by omega)]
    omega
  · have t0:t=0:=by omega
    subst t0
    have e1:Em (B0 s (0*2^52+q))=0:=by rw [hp]; omega
    rw [e1,hf,if_pos rfl,if_pos rfl]
    omega
theorem Aew (s:Bool) {V:Nat} {E:Int} (h0:V≠0) (hE:Cb V E≤E) (hi:B7 V E<Gp) :
    flagsOf V E=0∧∃ k:Nat,Ar (B0 s (B7 V E))=V*2^k∧Aw (B0 s (B7 V E))=E-k:=by
  have hl2:V.log2=V.log2:=rfl
  have ek:kept V E=V*2^(E-Cb V E).toNat:=by
    unfold kept I8
    have e1:(Cb V E-E).toNat=0:=by omega
    have e2:(-(Cb V E-E)).toNat=(E-Cb V E).toNat:=by omega
    rw [e1,e2,Mt]
  have eex:exact V E=true:=by
    unfold exact Lc
    have e1:(Cb V E-E).toNat=0:=by omega
    rw [e1,Nat.pow_zero,Nat.mod_one]; rfl
  constructor
  · unfold flagsOf flags
    rw [if_neg h0,if_neg (by omega),eex]; rfl
  · have hr:B7 V E=(Cb V E+1074).toNat*2^52+kept V E:=by
      unfold B7 at hi ⊢
      rw [if_neg h0] at hi ⊢
      omega
    have hk:kept V E<2^53:=by
      rw [ek,← Nat.log2_lt (Jj h0),O0 V _ h0]
      unfold Cb at hE ⊢
      omega
    have hb:2^52≤kept V E∨Cb V E=-1074:=by
      by_cases h:Cb V E=-1074
      · exact .inr h
      · left
        refine Agc h0 ?_
        unfold Cb at h ⊢
        omega
    rw [hr] at hi
    obtain ⟨p1,p2⟩:=Ac7 s hk (by unfold Cb; omega) hb hi
    refine ⟨(E-Cb V E).toNat,?_,?_⟩
    · rw [hr,p1,ek]
    · rw [hr,p2]; omega
theorem Ab6 {V:Nat} {E:Int} (h:V<2^53) (hE:-1074≤E):Cb V E≤E:=by
  by_cases h0:V=0
  · subst h0; unfold Cb; rw [Nat.log2_zero]; omega
  · have:=(Nat.log2_lt h0).2 h
    unfold Cb; omega
end Go.Rnd
namespace Go.Rnd
open Go.Den
def Ei (x:Int):Int:=if x=0 then 0 else (x.toNat.log2:Int)+1
def Qb (x y:Int):Int:=((x.toNat*y.toNat / 18446744073709551616:Nat):Int)
def Lz (x y:Int):Int:=((x.toNat*y.toNat%18446744073709551616:Nat):Int)
def Akm (a b:Int):Bool:=decide (A3 a=4)||decide (A3 b=4)
def B1 (b:Nat):Nat:=52-(Ar b).log2
def Cl (b:Int):Int:=((Ar b.toNat*2^B1 b.toNat:Nat):Int)
def Gg (b:Int):Int:=Aw b.toNat-B1 b.toNat
def Ky (b:Int):Bool:=Cu (Ar b.toNat≠0)
def Na (m e:Int):Bool:=Cu (1152921504606846976≤m∧m<4611686018427387904∧-6000≤e∧e≤6000)
def Ek (a b:Int):Int:=(Kg a.toNat b.toNat).1
def Aud (a b:Int):Int:=(Kg a.toNat b.toNat).2
def Ev (a b:Int):Int:=(Xf a.toNat b.toNat).1
def Aum (a b:Int):Int:=(Xf a.toNat b.toNat).2
def Agd (x:Int):Bool:=Cu (0≤x∧x<4294967296)
def singleL (l:List Int) (x:Int):List Int:=digits (l.length+1) (By l*x.toNat)
def Zd (n:Bool) (l:List Int):Bool:=Cu (l.length<33554432∧l=N7 (By l)∧(n=true→l≠[]))
end Go.Rnd
namespace Go.Rnd
theorem Yt (a b:Nat):H9 a b=H9 b a:=by
  unfold H9
  by_cases ha:Ao a=4
  · simp only [ha,true_or,or_true,if_true]
  · by_cases hb:Ao b=4
    · simp only [hb,true_or,or_true,if_true]
    · simp only [ha,hb,or_self,if_false]
      by_cases ha3:Ao a=3
      · by_cases hb3:Ao b=3
        · simp only [ha3,hb3,if_true,true_and]
          by_cases e:a=b
          · subst e; rfl
          · rw [if_pos e,if_pos (fun h=>e h.symm)]
        · simp only [ha3,hb3,if_true,if_false,false_and]
      · by_cases hb3:Ao b=3
        · simp only [ha3,hb3,if_true,if_false,false_and]
        · simp only [ha3,hb3,if_false]
          rw [Bool.and_comm,Int.min_comm,Int.add_comm]
theorem Abb {Y D:Nat} (h:Y%2^D=0):E6 Y D=Y / 2^D:=by unfold E6; rw [if_pos h]
theorem Adx {Y D:Nat} (h:Y%2^D≠0):E6 Y D%2=1:=by unfold E6; rw [if_neg h]; omega
theorem Abc {Y d:Nat} (hY:Y<2^62) (h:Y%2^d≠0):(E6 Y (min d 63)-1)*2^d<Y∧Y<(E6 Y (min d 63)+1)*2^d∧E6 Y (min d 63)%2=1:=by
  have hA:=B8 d
  by_cases hd:d≤63
  · rw [Nat.min_eq_left hd]
    refine ⟨?_,?_,Adx h⟩
    all_goals
      unfold E6
      rw [if_neg h]
      have h1:=Nat.div_add_mod Y (2^d)
      have h2:=Nat.mod_lt Y hA
      generalize Y / 2^d=q at *
      generalize Y%2^d=r at *
      generalize 2^d=c at *
      rw [Nat.mul_comm] at h1
    · have h3:(2*(q / 2)+1-1)*c≤q*c:=Au5 c (by omega)
      omega
    · have h3:(q+1)*c≤(2*(q / 2)+1+1)*c:=Au5 c (by omega)
      rw [Nat.add_mul,Nat.one_mul] at h3
      omega
  · rw [Nat.min_eq_right (by omega)]
    have h63:Y%2^63=Y:=Au6 (by omega)
    have hd0:Y / 2^63=0:=Nat.div_eq_of_lt (by omega)
    have hY0:Y≠0:=by intro e; rw [e] at h; simp at h
    have hr:E6 Y 63=1:=by unfold E6; rw [h63,if_neg hY0,hd0]
    have hp:2^62≤2^d:=Au8 (by decide) (by omega)
    rw [hr]
    refine ⟨by simp; omega,by omega,rfl⟩
theorem pow9 {d M:Nat} (h:(M*2^9)%2^d≠0):10≤d:=by
  refine Nat.lt_of_not_le fun hle=>h ?_
  obtain ⟨k,hk⟩:∃ k,9=d+k:=⟨9-d,by omega⟩
  rw [hk,Nat.pow_add,Nat.mul_comm (2^d),← Nat.mul_assoc,Nat.mul_mod_left]
theorem M9 {V m d:Nat} {e f:Int} (hd:e=f+d) (h:V=m*2^d∨(m%2=1∧(m-1)*2^d<V∧V<(m+1)*2^d∧2^60≤m)) :
    B7 m (e-9)=B7 V (f-9)∧flagsOf m (e-9)=flagsOf V (f-9):=by
  rcases h with rfl | ⟨h1,h2,h3,h4⟩
  · have:=Df m d (e-9)
    have e1:e-9-(d:Int)=f-9:=by omega
    rw [e1] at this
    exact ⟨this.1.symm,this.2.symm⟩
  · have hm0:m≠0:=by omega
    have hlog:=Oz h1 (by omega) h2 h3
    have hl60:60≤m.log2:=(Nat.le_log2 hm0).2 h4
    have e1:f-9+(d:Int)=e-9:=by omega
    have hle:Cb V (f-9)=Cb m (f-9+d):=by unfold Cb; rw [hlog]; congr 1; omega
    have hk:f-9+d+2≤Cb m (f-9+d):=by unfold Cb; omega
    obtain ⟨a1,a2⟩:=Ol h1 h2 h3 hle hk
    rw [e1] at a1 a2
    exact ⟨a1.symm,a2.symm⟩
theorem Adp (V:Nat) (f:Int):B7 (V*2^9) (f-9)=B7 V f∧flagsOf (V*2^9) (f-9)=flagsOf V f:=Df V 9 f
structure Apv (Mx My d:Nat) (e f:Int) (X r:Nat):Prop where
  plus:B7 (X+r) (e-9)=B7 (Mx*2^d+My) f∧flagsOf (X+r) (e-9)=flagsOf (Mx*2^d+My) f
  less:r<X→My<Mx*2^d∧B7 (X-r) (e-9)=B7 (Mx*2^d-My) f∧flagsOf (X-r) (e-9)=flagsOf (Mx*2^d-My) f
  more:X<r→Mx*2^d<My∧B7 (r-X) (e-9)=B7 (My-Mx*2^d) f∧flagsOf (r-X) (e-9)=flagsOf (My-Mx*2^d) f
  same:X=r→Mx*2^d=My
  small:r≤2^62
theorem Apr {X My r d p:Nat} {e f:Int} (hd:e=f+d) (comm:X*2^d=p*2^9) (n1:(r-1)*2^d<My*2^9) (n2:My*2^9<r*2^d+2^d) (n3:r%2=1) (hX2:X%2=0) (hX:2^61≤X) (hr:r≤2^53) :
    (B7 (X+r) (e-9)=B7 (p+My) f∧flagsOf (X+r) (e-9)=flagsOf (p+My) f)∧My<p∧B7 (X-r) (e-9)=B7 (p-My) f∧flagsOf (X-r) (e-9)=flagsOf (p-My) f:=by
  have e1:(r-1)*2^d+2^d=r*2^d:=by
    obtain ⟨k,rfl⟩:∃ k,r=k+1:=⟨r-1,by omega⟩
    rw [Nat.add_sub_cancel,Nat.add_mul,Nat.one_mul]
  have e2:(r+1)*2^d=r*2^d+2^d:=by rw [Nat.add_mul,Nat.one_mul]
  have hXd:(r+1)*2^d≤X*2^d:=Au5 _ (by omega)
  have hlt:My<p:=by rw [e2,comm] at hXd; omega
  have a1:B7 (X+r) (e-9)=B7 ((p+My)*2^9) (f-9)∧flagsOf (X+r) (e-9)=flagsOf ((p+My)*2^9) (f-9):=by
    refine M9 hd (.inr ⟨by omega,?_,?_,by omega⟩)
    · have h1:X+r-1=X+(r-1):=by omega
      rw [h1,Nat.add_mul X (r-1) (2^d),Nat.add_mul p My (2^9),comm]
      exact Nat.add_lt_add_left n1 _
    · have h1:X+r+1=X+(r+1):=by omega
      rw [h1,Nat.add_mul X (r+1) (2^d),Nat.add_mul p My (2^9),comm,e2]
      exact Nat.add_lt_add_left n2 _
  have a2:B7 (X-r) (e-9)=B7 ((p-My)*2^9) (f-9)∧flagsOf (X-r) (e-9)=flagsOf ((p-My)*2^9) (f-9):=by
    rw [e2,comm] at hXd
    refine M9 hd (.inr ⟨by omega,?_,?_,by omega⟩)
    · have h1:X-r-1=X-(r+1):=by omega
      rw [h1,Nat.sub_mul X (r+1) (2^d),Nat.sub_mul p My (2^9),comm,e2]
      omega
    · have h1:X-r+1=X-(r-1):=by omega
      rw [h1,Nat.sub_mul X (r-1) (2^d),Nat.sub_mul p My (2^9),comm]
      omega
  rw [(Adp _ f).1,(Adp _ f).2] at a1 a2
  exact ⟨a1,hlt,a2⟩
theorem Ac1 {Mx My d:Nat} {e f:Int} (hd:e=f+d) (hx:Mx<2^53) (hy:My<2^53) (hbig:10≤d→2^52≤Mx) :
    Apv Mx My d e f (Mx*2^9) (E6 (My*2^9) (min d 63)):=by
  have hA:=B8 d
  have hY:My*2^9<2^62:=by omega
  have comm:Mx*2^9*2^d=Mx*2^d*2^9:=by rw [Nat.mul_assoc,Nat.mul_comm (2^9),← Nat.mul_assoc]
  have s9:=fun V=>Adp V f
  by_cases hz:(My*2^9)%2^d=0
  ·
    have hr:∃ r,E6 (My*2^9) (min d 63)=r∧My*2^9=r*2^d:=by
      by_cases hd63:d≤63
      · rw [Nat.min_eq_left hd63]
        exact ⟨_,rfl,by rw [Abb hz]; exact (Nat.div_mul_cancel (Nat.dvd_of_mod_eq_zero hz)).symm⟩
      · have hp:2^62≤2^d:=Au8 (by decide) (by omega)
        have:My*2^9=0:=by rw [Au6 (by omega)] at hz; exact hz
        rw [Nat.min_eq_right (by omega),this]
        exact ⟨0,by decide,by omega⟩
    obtain ⟨r,hr,hYr⟩:=hr
    rw [hr]
    have hle:r≤2^62:=by
      have:r*1≤r*2^d:=Nat.mul_le_mul_left r hA
      omega
    have cmp:∀ x y:Nat,x*2^d<y*2^d↔x<y:=fun x y=>Nat.mul_lt_mul_right hA
    refine ⟨?_,fun h=>?_,fun h=>?_,fun h=>?_,hle⟩
    · rw [← (s9 _).1,← (s9 _).2]
      exact M9 hd (.inl (by rw [Nat.add_mul (Mx*2^d) My (2^9),Nat.add_mul (Mx*2^9) r (2^d),comm,hYr]))
    · have h1:=(cmp r (Mx*2^9)).2 h
      refine ⟨by omega,?_⟩
      rw [← (s9 _).1,← (s9 _).2]
      exact M9 hd (.inl (by first | rw [Nat.sub_mul (Mx*2^d) My (2^9),Nat.sub_mul (Mx*2^9) r (2^d),comm,hYr] | rw [Nat.sub_mul My (Mx*2^d) (2^9),Nat.sub_mul r (Mx*2^9) (2^d),comm,hYr]))
    · have h1:=(cmp (Mx*2^9) r).2 h
      refine ⟨by omega,?_⟩
      rw [← (s9 _).1,← (s9 _).2]
      exact M9 hd (.inl (by first | rw [Nat.sub_mul (Mx*2^d) My (2^9),Nat.sub_mul (Mx*2^9) r (2^d),comm,hYr] | rw [Nat.sub_mul My (Mx*2^d) (2^9),Nat.sub_mul r (Mx*2^9) (2^d),comm,hYr]))
    · rw [← h] at hYr
      omega
  ·
    have hd10:=pow9 hz
    have hMx:=hbig hd10
    obtain ⟨n1,n2,n3⟩:=Abc hY hz
    have hrle:E6 (My*2^9) (min d 63)≤2^53:=by
      refine Nat.le_of_not_lt fun h=>?_
      have h1:2^53*2^d≤(E6 (My*2^9) (min d 63)-1)*2^d:=Au5 _ (by omega)
      have h2:2^10≤2^d:=Au8 (by decide) hd10
      have h3:2^53*2^10≤2^53*2^d:=Nat.mul_le_mul_left _ h2
      omega
    generalize E6 (My*2^9) (min d 63)=r at *
    have hr1:1≤r:=by omega
    have e1:(r-1)*2^d+2^d=r*2^d:=by
      obtain ⟨k,rfl⟩:∃ k,r=k+1:=⟨r-1,by omega⟩
      rw [Nat.add_sub_cancel,Nat.add_mul,Nat.one_mul]
    have e2:(r+1)*2^d=r*2^d+2^d:=by rw [Nat.add_mul,Nat.one_mul]
    rw [e2] at n2
    have hXr:r<Mx*2^9:=by omega
    have hXd:(r+1)*2^d≤Mx*2^9*2^d:=Au5 _ (by omega)
    rw [e2,comm] at hXd
    obtain ⟨p1,p2,p3⟩:=Apr hd comm n1 n2 n3 (by omega) (by omega) hrle
    exact ⟨p1,fun _=>⟨p2,p3⟩,fun h=>by omega,fun h=>by omega,by omega⟩
theorem T7 (n:Bool) (m:Nat) (e:Int):Fx n m e false=(B0 n (B7 m e),flagsOf m e):=by
  unfold Fx
  have:=Df m 2 e
  have e1:m*2^2=4*m+false.toNat:=by simp; omega
  have e2:e-((2:Nat):Int)=e-2:=by omega
  rw [e1,e2] at this
  rw [this.1,this.2]
theorem Pk (E:Int):B7 0 E=0:=if_pos rfl
theorem Nq (E:Int):flagsOf 0 E=0:=if_pos rfl
theorem Hb {b:Nat} (h:Hk b=true):Ao b≠4∧Ao b≠3:=by
  unfold Hk at h
  simp only [Au0] at h
  unfold Ao
  rw [if_neg (by omega)]
  split
  · omega
  · split<;>omega
theorem X0 {b:Nat} (h:-1064≤Aw b):2^52≤Ar b:=by
  unfold Aw at h
  unfold Ar
  split at h
  · omega
  · rw [if_neg (by assumption)]; omega
theorem Nf (z:Nat) (s:Bool) {V:Nat} (hV:V≠0) (f:Int):Kb z (Ie s V) f=(B0 s (B7 V f),flagsOf V f):=by
  unfold Kb Ie
  cases s
  · have h1:¬ (V:Int)=0:=by omega
    have h2:¬ (V:Int)<0:=by omega
    simp only [Bool.false_eq_true,if_false,h1,h2,decide_false,Int.natAbs_natCast]
  · have h1:¬ -(V:Int)=0:=by omega
    have h2:-(V:Int)<0:=by omega
    simp only [if_true,h1,if_false,h2,decide_true,Int.natAbs_neg,Int.natAbs_natCast]
theorem Apt {p q X r:Nat} {e f:Int} (s t:Bool)
    (plus:B7 (X+r) e=B7 (p+q) f∧flagsOf (X+r) e=flagsOf (p+q) f)
    (less:r<X→q<p∧B7 (X-r) e=B7 (p-q) f∧flagsOf (X-r) e=flagsOf (p-q) f)
    (more:X<r→p<q∧B7 (r-X) e=B7 (q-p) f∧flagsOf (r-X) e=flagsOf (q-p) f)
    (same:X=r→p=q) :
    Kb (B0 (s&&t) 0) (Ie s p+Ie t q) f=(if s=t then Fx s (X+r) e false
      else if r<X then Fx s (X-r) e false
      else if X<r then Fx t (r-X) e false
      else (0,0)):=by
  simp only [T7]
  by_cases hs:s=t
  · rw [if_pos hs,← hs]
    have hsum:Ie s p+Ie s q=Ie s (p+q):=by unfold Ie; cases s<;>simp<;>omega
    rw [hsum,plus.1,plus.2]
    by_cases h0:p+q=0
    · rw [h0,Pk,Nq]
      unfold Kb
      have:Ie s 0=0:=by unfold Ie; cases s<;>rfl
      rw [if_pos this,Auz]
    · exact Nf _ _ h0 _
  · rw [if_neg hs]
    by_cases h1:r<X
    · obtain ⟨c1,c2,c3⟩:=less h1
      rw [if_pos h1,c2,c3]
      have hsum:Ie s p+Ie t q=Ie s (p-q):=by
        unfold Ie; cases s<;>cases t<;>simp at hs ⊢<;>omega
      rw [hsum]
      exact Nf _ _ (by omega) _
    · rw [if_neg h1]
      by_cases h2:X<r
      · obtain ⟨c1,c2,c3⟩:=more h2
        rw [if_pos h2,c2,c3]
        have hsum:Ie s p+Ie t q=Ie t (q-p):=by
          unfold Ie; cases s<;>cases t<;>simp at hs ⊢<;>omega
        rw [hsum]
        exact Nf _ _ (by omega) _
      · rw [if_neg h2]
        have c:=same (by omega)
        have hsum:Ie s p+Ie t q=0:=by
          unfold Ie; cases s<;>cases t<;>simp at hs ⊢<;>omega
        have hz:(s&&t)=false:=by cases s<;>cases t<;>simp at hs ⊢
        rw [hsum,hz]
        rfl
theorem Amu {a b:Nat} (ha:Hk a=true) (hb:Hk b=true) :
    H9 a b=Kb (B0 (Cs a&&Cs b) 0) (F5 a (min (Aw a) (Aw b))+F5 b (min (Aw a) (Aw b))) (min (Aw a) (Aw b)):=by
  have k1:=Hb ha
  have k2:=Hb hb
  unfold H9
  rw [if_neg (fun h=>h.elim k1.1 k2.1),if_neg k1.2,if_neg k2.2]
theorem Ada (b:Nat):F5 b (Aw b)=Ie (Cs b) (Ar b):=by
  unfold F5; rw [Int.sub_self,Int.toNat_zero,Nat.pow_zero,Nat.mul_one]
theorem Ai6 {b:Nat} {f:Int} {d:Nat} (h:Aw b=f+d):F5 b f=Ie (Cs b) (Ar b*2^d):=by
  unfold F5
  have:(Aw b-f).toNat=d:=by omega
  rw [this]
theorem Ac0 {a b:Nat} (ha:Hk a=true) (hb:Hk b=true) {d:Nat} (hd:Aw a=Aw b+d) :
    H9 a b=(if Cs a=Cs b then Fx (Cs a) (Ar a*2^9+E6 (Ar b*2^9) (min d 63)) (Aw a-9) false
      else if E6 (Ar b*2^9) (min d 63)<Ar a*2^9 then Fx (Cs a) (Ar a*2^9-E6 (Ar b*2^9) (min d 63)) (Aw a-9) false
      else if Ar a*2^9<E6 (Ar b*2^9) (min d 63) then Fx (Cs b) (E6 (Ar b*2^9) (min d 63)-Ar a*2^9) (Aw a-9) false
      else (0,0)):=by
  have hx:=Eo a
  have hy:=Eo b
  have C:=Ac1 (Mx:=Ar a) (My:=Ar b) hd hx hy (fun h=>X0 (by have:=Dc b; omega))
  rw [Amu ha hb,Int.min_eq_right (by omega),Ada,Ai6 hd]
  exact Apt _ _ C.plus C.less C.more C.same
theorem Tj {b:Nat} (h:b<2^64):G9 b<2^64:=by unfold G9; split<;>omega
theorem Aes (m:Nat) (e:Int):flagsOf m e<32:=by
  unfold flagsOf flags
  split
  · decide
  · split
    · decide
    · split
      · decide
      · split<;>decide
theorem Vb {a b:Nat} (ha:a<2^64) (hb:b<2^64):(H9 a b).1<2^64∧(H9 a b).2<32:=by
  unfold H9
  split
  · exact ⟨by decide,by decide⟩
  · split
    · split
      · decide
      · exact ⟨ha,(by decide:0<32)⟩
    · split
      · exact ⟨hb,(by decide:0<32)⟩
      · unfold Kb
        split
        · refine ⟨?_,(by decide:0<32)⟩
          unfold B0; split<;>decide
        · exact ⟨Ri _ _ _,Aes _ _⟩
end Go.Rnd
namespace Go.Rnd
open Go.Den
def Bf (r c:Nat) (f:Nat→Nat→Int):List Int:=(List.range (r*c)).map fun j=>f (j / c) (j%c)
theorem Bn (r c:Nat) (f:Nat→Nat→Int):(Bf r c f).length=r*c:=by unfold Bf; rw [List.length_map,List.length_range]
theorem Hg {r c i k:Nat} (hi:i<r) (hk:k<c):i*c+k<r*c:=by
  have:(i+1)*c≤r*c:=Au5 c hi
  rw [Nat.add_mul,Nat.one_mul] at this
  omega
theorem Tc {c i k:Nat} (hk:k<c):(i*c+k) / c=i∧(i*c+k)%c=k:=by
  constructor
  · rw [Nat.mul_comm,Nat.mul_add_div (by omega),Nat.div_eq_of_lt hk,Nat.add_zero]
  · rw [Nat.mul_comm,Nat.mul_add_mod,Au6 hk]
theorem Gt {r c:Nat} {f:Nat→Nat→Int} {j:Nat} (h:j<r*c):(Bf r c f)[j]?=some (f (j / c) (j%c)):=by
  unfold Bf
  rw [List.getElem?_map,List.getElem?_range h]
  rfl
theorem Ace {r c i k:Nat} {f:Nat→Nat→Int} (hi:i<r) (hk:k<c):(Bf r c f).getD (i*c+k) 0=f i k:=by
  obtain ⟨d1,d2⟩:=Tc (i:=i) hk
  rw [Au3,Gt (Hg hi hk),d1,d2]
  rfl
theorem Sa {l m:List Int} (h:l.length=m.length) (he:∀ j,j<l.length→l[j]?=m[j]?):l=m:=by
  refine List.ext_getElem? fun j=>?_
  by_cases hj:j<l.length
  · exact he j hj
  · rw [List.getElem?_eq_none (by omega),List.getElem?_eq_none (by omega)]
theorem C2 {r c:Nat} {f g:Nat→Nat→Int} (h:∀ i k,i<r→k<c→f i k=g i k):Bf r c f=Bf r c g:=by
  refine Sa (by rw [Bn,Bn]) fun j hj=>?_
  rw [Bn] at hj
  have hc:0<c:=by
    rcases Nat.eq_zero_or_pos c with h0 | h0
    · subst h0; rw [Nat.mul_zero] at hj; omega
    · exact h0
  rw [Gt hj,Gt hj,h (j / c) (j%c) ((Nat.div_lt_iff_lt_mul hc).2 hj) (Nat.mod_lt _ hc)]
theorem Aif {r c:Nat} {l:List Int} (h:l.length=r*c):l=Bf r c fun i k=>l.getD (i*c+k) 0:=by
  refine Sa (by rw [Bn,h]) fun j hj=>?_
  rw [Gt (by omega)]
  have e:j / c*c+j%c=j:=by rw [Nat.mul_comm]; exact Nat.div_add_mod j c
  rw [e,Au3,Ava hj]
  rfl
theorem Sf {r c i k:Nat} {f:Nat→Nat→Int} (hk:k<c) (x:Int) :
    (Bf r c f).set (i*c+k) x=Bf r c fun a b=>if a=i∧b=k then x else f a b:=by
  refine Sa (by rw [List.length_set,Bn,Bn]) fun j hj=>?_
  rw [List.length_set,Bn] at hj
  obtain ⟨d1,d2⟩:=Tc (i:=i) hk
  rw [Gt hj,List.getElem?_set]
  by_cases h:i*c+k=j
  · subst h
    rw [if_pos rfl,if_pos (by rw [Bn]; exact hj),d1,d2,if_pos ⟨rfl,rfl⟩]
  · rw [if_neg h,Gt hj,if_neg]
    rintro ⟨h1,h2⟩
    exact h (by rw [← h1,← h2,Nat.mul_comm]; exact Nat.div_add_mod j c)
theorem Jn (r c:Nat) (f:Nat→Nat→Int):Bf (r+1) c f=Bf r c f++(List.range c).map (f r):=by
  unfold Bf
  rw [Nat.add_mul,Nat.one_mul,List.range_add,List.map_append,List.map_map]
  congr 1
  refine List.map_congr_left fun k hk=>?_
  have hk:=List.mem_range.1 hk
  obtain ⟨d1,d2⟩:=Tc (i:=r) hk
  show f ((r*c+k) / c) ((r*c+k)%c)=f r k
  rw [d1,d2]
theorem Jm (c:Nat) (f:Nat→Nat→Int):Bf 0 c f=[]:=by
  unfold Bf; rw [Nat.zero_mul]; rfl
theorem Hy (k:Nat) (g:Nat→Int):(List.range (k+1)).map g=(List.range k).map g++[g k]:=by
  rw [List.range_succ,List.map_append]; rfl
theorem Aeq (r c:Nat):Bf r c (fun _ _=>0)=List.replicate (r*c) 0:=by
  unfold Bf
  rw [List.map_const',List.length_range]
def Oc:Nat→List Int→List Int→Nat
  | s,x::xs,y::ys=>Oc (H9 s (Kg x.toNat y.toNat).1).1 xs ys
  | s,_,_=>s
def Lw (x y:List Int):Int:=Oc 0 x y
theorem Uz {a b:Nat}:(Kg a b).1<2^64:=by
  unfold Kg
  split
  · decide
  · split
    · split
      · decide
      · unfold B0; split<;>decide
    · exact Ri _ _ _
theorem Z2:∀ (x y:List Int) (s:Nat),s<2^64→Oc s x y<2^64
  | x::xs,y::ys,s,h=>Z2 xs ys _ (Vb h Uz).1
  | [],_,_,h=>by unfold Oc; exact h
  | _::_,[],_,h=>by unfold Oc; exact h
theorem Yj:∀ (x y:List Int) (s:Nat),Oc s x y=Oc s y x
  | x::xs,y::ys,s=>by
    show Oc _ xs ys=Oc _ ys xs
    rw [X2,Yj xs ys]
  | [],[],_=>rfl
  | [],_::_,_=>rfl
  | _::_,[],_=>rfl
theorem Ain (x y:List Int):Lw x y=Lw y x:=congrArg (fun n:Nat=>(n:Int)) (Yj x y 0)
end Go.Rnd
namespace Go.Rnd
open Go.Den
def Bg (n:Int):Bool:=decide (0≤n)&&decide (n≤6)
def Av (r c:Int) (l:List Int):Bool:=(Bg r&&Bg c)&&decide ((l.length:Int)=r*c)
def Jp (r c:Int) (l:List Int):Int:=if Av r c l=true then 0 else 1
def Su (r c:Int) (l:List Int) (p q:Int) (m:List Int):Int:=if (Av r c l&&Av p q m)=true then 0 else 1
def Dq (_r c:Int) (l:List Int) (i k:Int):Bool:=Cu (0≤i∧i<10∧0≤k∧k<10∧0≤c∧c<10∧i*c+k<l.length∧l.length<1000)
def D4 (c:Int) (l:List Int) (i k:Int):Int:=l.getD (i*c+k).toNat 0
def Ca (i k:Int):Int:=if i=k then 4607182418800017408 else 0
def S4 (x y i k:Int):Bool:=Cu (0≤x∧x<10∧0≤y∧y<10∧0≤i∧i<10∧0≤k∧k<10)
def Li (r c x y a b:Int):Bool:=decide (0≤x∧0≤y∧0≤a∧0≤b∧x≤r∧y≤c∧a≤r-x∧b≤c-y)
def Lf (r c:Int) (l:List Int) (p q:Int) (m:List Int) (i k:Int):Bool:=Cu (0≤r∧r<10∧0≤i∧i<20∧(if i<r then Dq r c l i k=true else Dq p q m (i-r) k=true))
def Hp (r c:Int) (l:List Int) (q:Int) (m:List Int) (i k:Int):Int:=if i<r then D4 c l i k else D4 q m (i-r) k
def Vr (r c:Int) (l:List Int) (i:Int):Bool:=Av r c l&&Cu (0≤i∧i<r)
def Lp (r c:Int) (l:List Int) (k:Int):Bool:=Av r c l&&Cu (0≤k∧k<c)
def Qs (r c:Int) (l:List Int) (p q:Int) (m:List Int) (i k:Int):Bool:=(Vr r c l i&&Lp p q m k)&&((Ah l&&Ah m)&&Cu (c=p))
def It (c:Int) (l:List Int) (i:Int):List Int:=List.drop (i*c).toNat (List.take ((i+1)*c).toNat l)
def Mk (r c:Int) (l:List Int) (k:Int):List Int:=(List.range r.toNat).map fun j:Nat=>D4 c l (j:Int) k
abbrev MX:=Int × Int × List Int × Int
def I7 (e:Int):MX:=(0,0,[],e)
def Lm (n:Int):MX:=if Bg n=true then (n,n,Bf n.toNat n.toNat fun i k=>Ca i k,0) else I7 3
def Ck (r c:Int) (l:List Int):MX:=if Av r c l=true then (c,r,Bf c.toNat r.toNat fun i k=>D4 c l k i,0) else I7 1
def Ey (r c:Int) (l:List Int) (x y a b:Int):MX :=
  if Av r c l=true then (if Li r c x y a b=true then (a,b,Bf a.toNat b.toNat fun i k=>D4 c l (x+i) (y+k),0) else I7 3) else I7 1
def En (r c:Int) (l:List Int) (p q:Int) (m:List Int):MX :=
  if (Av r c l&&Av p q m)=true then (if c=p then (r,q,Bf r.toNat q.toNat fun i k=>Lw (It c l i) (Mk p q m k),0) else I7 3) else I7 1
def Ir (r c:Int) (l:List Int) (p q:Int) (m:List Int):MX :=
  if (Av r c l&&Av p q m)=true then (if r=p∧c=q then (r,c,Bf r.toNat c.toNat fun i k=>Dr (D4 c l i k) (D4 q m i k),0) else I7 3) else I7 1
def B6 (r c:Int) (l:List Int) (p q:Int) (m:List Int):MX :=
  if (Av r c l&&Av p q m)=true then (if c=q∧r+p≤6 then (r+p,c,Bf (r+p).toNat c.toNat fun i k=>Hp r c l q m i k,0) else I7 3) else I7 1
def To (x y:List Int):Bool:=decide (x.length=y.length)&&decide (x.length≤64)
def Ap6 (l:List Int):Bool:=Cu (l.length≤17592186044416)
theorem G6 {n:Int}:Bg n=true↔0≤n∧n≤6:=by unfold Bg; simp
theorem Hf {r c:Int} {l:List Int}:Av r c l=true↔(0≤r∧r≤6)∧(0≤c∧c≤6)∧(l.length:Int)=r*c:=by
  unfold Av
  rw [Au4,Au4,G6,G6,Au0,and_assoc]
theorem Dd {r c:Int} {l:List Int} (h:Av r c l=true):∃ R C:Nat,r=R∧c=C∧R≤6∧C≤6∧l.length=R*C:=by
  obtain ⟨h1,h2,h3⟩:=Hf.1 h
  refine ⟨r.toNat,c.toNat,by omega,by omega,by omega,by omega,?_⟩
  have:(((r.toNat*c.toNat:Nat)):Int)=r*c:=by rw [Ave,Int.toNat_of_nonneg h1.1,Int.toNat_of_nonneg h2.1]
  omega
theorem Eu {n:Int} (h:Bg n=true):∃ R:Nat,n=R∧R≤6:=by
  have:=G6.1 h
  exact ⟨n.toNat,by omega,by omega⟩
theorem Afp {n:Nat} (h:n≤6):Bg (n:Int)=true:=G6.2 ⟨by omega,by omega⟩
theorem Mr {r c:Nat} {l:List Int} (hr:r≤6) (hc:c≤6) (hl:l.length=r*c):Av (r:Int) (c:Int) l=true :=
  Hf.2 ⟨⟨by omega,by omega⟩,⟨by omega,by omega⟩,by rw [hl,Ave]⟩
theorem K3 (c:Nat) (l:List Int) (i k:Nat):D4 (c:Int) l (i:Int) (k:Int)=l.getD (i*c+k) 0:=by
  unfold D4
  have:((i:Int)*(c:Int)+(k:Int)).toNat=i*c+k:=by
    rw [← Ave,← Int.natCast_add,Auv]
  rw [this]
theorem Ft {r c i k:Nat} {R:Int} {l:List Int} (hr:r≤6) (hc:c≤6) (hl:l.length=r*c) (hi:i<r) (hk:k<c):Dq R (c:Int) l (i:Int) (k:Int)=true:=by
  have:=Hg hi hk
  have h36:=Nat.mul_le_mul hr hc
  refine Aq.2 ⟨by omega,by omega,by omega,by omega,by omega,by omega,?_,by omega⟩
  rw [← Ave]
  omega
theorem Py {r c i k:Nat} {f:Nat→Nat→Int} (hi:i<r) (hk:k<c):D4 (c:Int) (Bf r c f) (i:Int) (k:Int)=f i k:=by
  rw [K3,Ace hi hk]
theorem La {r c:Nat} {l:List Int} (h:l.length=r*c):(Bf r c fun i k=>D4 (c:Int) l (i:Int) (k:Int))=l:=by
  conv=>rhs; rw [Aif h]
  exact C2 fun i k _ _=>K3 c l i k
theorem N2 {l:List Int} (h:Ah l=true) {j:Nat} (hj:j<l.length):Ai (l.getD j 0)=true:=by
  have h:=Aq.1 h
  rw [Au3,Ava hj]
  exact h _ (List.getElem_mem hj)
end Go.Rnd
namespace Go.Rnd
theorem Xr {b:Nat} (h:b<2^64):B0 (Cs b) (b%2^63)=b:=by
  unfold B0 Cs
  by_cases hb:2^63≤b
  · simp only [hb,decide_true,if_true]; omega
  · simp only [hb,decide_false,Bool.false_eq_true,if_false]; omega
theorem Wp {b:Nat} (h:b<2^64) (h4:Ao b≠4):B0 (Cs b) (B7 (Ar b) (Aw b))=b:=by
  rw [Pl h4,Xr h]
theorem Ye {b:Nat} (h3:Ao b≠3) (h4:Ao b≠4):flagsOf (Ar b) (Aw b)=0:=by
  by_cases h0:Ar b=0
  · rw [h0]; exact Nq _
  · have h1:=Eo b
    have h2:=Dc b
    have h5:=Aox h3 h4
    exact (Aew false h0 (Ab6 (by omega) h2.1) (by rw [Pl h4]; exact h5)).1
theorem mul_pow {a p:Nat} (a3:Ao a≠3) (a4:Ao a≠4) (p3:Ao p≠3) (p4:Ao p≠4) (hp:Ar p=2^52) (hn:Cs p=false) :
    Kg a p=(B0 (Cs a) (B7 (Ar a) (Aw a+Aw p+52)),flagsOf (Ar a) (Aw a+Aw p+52)):=by
  obtain ⟨s1,s2⟩:=Df (Ar a) 52 (Aw a+Aw p+52)
  have e:Aw a+Aw p+52-((52:Nat):Int)=Aw a+Aw p:=by omega
  rw [e] at s1 s2
  have e2:(Cs a !=false)=Cs a:=by cases Cs a<;>rfl
  unfold Kg
  rw [if_neg (by omega),if_neg (by omega),hp,hn,s1,s2,e2]
theorem Ag4 (M:Nat):Fv M (2^52) 120=M*2^69:=by
  unfold Fv
  have e:M*2^120=M*2^68*2^52:=by rw [Nat.mul_assoc,← Nat.pow_add]
  rw [e,Nat.mul_div_cancel _ (B8 52),Nat.mul_mod_left,if_pos rfl,Nat.add_zero,Nat.mul_left_comm]
theorem div_pow {a p:Nat} (a0:Ao a≠0) (a3:Ao a≠3) (a4:Ao a≠4) (p0:Ao p≠0) (p3:Ao p≠3) (p4:Ao p≠4) (hp:Ar p=2^52) (hn:Cs p=false) :
    Xf a p=(B0 (Cs a) (B7 (Ar a) (Aw a-Aw p-52)),flagsOf (Ar a) (Aw a-Aw p-52)):=by
  obtain ⟨s1,s2⟩:=Df (Ar a) 69 (Aw a-Aw p-52)
  have e:Aw a-Aw p-52-((69:Nat):Int)=Aw a-Aw p-121:=by omega
  rw [e] at s1 s2
  have e2:(Cs a !=false)=Cs a:=by cases Cs a<;>rfl
  unfold Xf
  rw [if_neg (by omega),if_neg (by omega),if_neg a3,if_neg (by omega),if_neg p0,hp,hn,Ag4,s1,s2,e2]
theorem Abi:Ar 4607182418800017408=2^52∧Aw 4607182418800017408=-52∧Ao 4607182418800017408=2∧Cs 4607182418800017408=false:=by decide +kernel
theorem mul_one {a:Nat} (h:a<2^64) (a3:Ao a≠3) (a4:Ao a≠4):Kg a 4607182418800017408=(a,0):=by
  obtain ⟨o1,o2,o3,o4⟩:=Abi
  have e:Aw a+-52+52=Aw a:=by omega
  rw [mul_pow a3 a4 (by omega) (by omega) o1 o4,o2,e,Wp h a4,Ye a3 a4]
theorem div_one {a:Nat} (h:a<2^64) (a0:Ao a≠0) (a3:Ao a≠3) (a4:Ao a≠4):Xf a 4607182418800017408=(a,0):=by
  obtain ⟨o1,o2,o3,o4⟩:=Abi
  have e:Aw a - -52-52=Aw a:=by omega
  rw [div_pow a0 a3 a4 (by omega) (by omega) (by omega) o1 o4,o2,e,Wp h a4,Ye a3 a4]
end Go.Rnd
namespace Go.Rnd
def Ra (n:Nat):Nat:=Ieee.Datum.rootFrom n (n.log2 / 2+1) 0
theorem Anu (k:Nat):1 <<< k=2^k:=by rw [Nat.shiftLeft_eq,Nat.one_mul]
theorem S6 {n:Nat}:∀ (todo root:Nat),root*root≤n→n<(root+2^todo)*(root+2^todo) →
    Ieee.Datum.rootFrom n todo root*Ieee.Datum.rootFrom n todo root≤n∧n<(Ieee.Datum.rootFrom n todo root+1)*(Ieee.Datum.rootFrom n todo root+1)
  | 0,root,h1,h2=>⟨h1,h2⟩
  | todo+1,root,h1,h2=>by
    unfold Ieee.Datum.rootFrom
    simp only [Anu]
    have hp:2^(todo+1)=2^todo+2^todo:=by rw [Nat.pow_succ]; omega
    rw [hp] at h2
    by_cases h:(root+2^todo)*(root+2^todo)≤n
    · rw [if_pos h]
      exact S6 todo _ h (by rw [Nat.add_assoc]; exact h2)
    · rw [if_neg h]
      exact S6 todo _ h1 (by omega)
theorem O2 (n:Nat):Ra n*Ra n≤n∧n<(Ra n+1)*(Ra n+1):=by
  refine S6 _ _ (by simp) ?_
  rw [Nat.zero_add,← Nat.pow_add]
  rcases Nat.eq_zero_or_pos n with rfl | hn
  · decide
  · refine (Nat.log2_lt (by omega)).1 ?_
    omega
theorem Aa2 {a b:Nat} (h:a*a<b*b):a<b:=by
  rcases Nat.lt_or_ge a b with h1 | h1
  · exact h1
  · have:=Nat.mul_le_mul h1 h1; omega
theorem Wj {n w:Nat} (h1:w*w≤n) (h2:n<(w+1)*(w+1)):w=Ra n:=by
  obtain ⟨a,b⟩:=O2 n
  have c1:=Aa2 (Nat.lt_of_le_of_lt h1 b)
  have c2:=Aa2 (Nat.lt_of_le_of_lt a h2)
  omega
theorem Alh {n w:Nat} (h:w*w≤n):w≤Ra n:=by
  have:=Aa2 (Nat.lt_of_le_of_lt h (O2 n).2)
  omega
def F8 (n:Nat):Nat:=2*Ra n+(if Ra n*Ra n=n then 0 else 1)
theorem S3 (a c:Nat):a*c*(a*c)=a*a*(c*c):=by
  rw [Nat.mul_assoc,Nat.mul_left_comm c,← Nat.mul_assoc a a]
theorem Xt {n:Nat} (d:Nat) (E:Int) (h:2^53≤Ra n) :
    B7 (F8 (n*(2^d*2^d))) (E-d)=B7 (F8 n) E∧flagsOf (F8 (n*(2^d*2^d))) (E-d)=flagsOf (F8 n) E:=by
  have hA:=B8 d
  obtain ⟨h1,h2⟩:=O2 n
  unfold F8
  generalize hw:Ra n=w at *
  generalize hc:2^d=c at *
  have hcc:0<c*c:=Nat.mul_pos hA hA
  by_cases h0:w*w=n
  · have e1:Ra (n*(c*c))=w*c:=by
      refine (Wj ?_ ?_).symm
      · rw [S3,h0]; exact Nat.le_refl _
      · have:=S3 w c
        rw [h0] at this
        rw [Nat.add_mul,Nat.mul_add,this]; omega
    rw [e1,S3,h0,if_pos rfl,if_pos rfl]
    have:=Df (2*w+0) d E
    rw [hc,show (2*w+0)*c=2*(w*c)+0 by rw [Nat.add_zero,Nat.add_zero,Nat.mul_assoc]] at this
    exact this
  · rw [if_neg h0]
    obtain ⟨g1,g2⟩:=O2 (n*(c*c))
    have q1:w*c≤Ra (n*(c*c)):=Alh (by rw [S3]; exact Au5 _ h1)
    have q2:Ra (n*(c*c))<(w+1)*c:=by
      refine Aa2 (Nat.lt_of_le_of_lt g1 ?_)
      rw [S3]
      exact (Nat.mul_lt_mul_right hcc).2 h2
    have q3:Ra (n*(c*c))=w*c→Ra (n*(c*c))*Ra (n*(c*c))≠n*(c*c):=fun h5 h6=>by
      rw [h5,S3] at h6
      exact h0 (Nat.eq_of_mul_eq_mul_right hcc h6)
    generalize hQ:Ra (n*(c*c))=Q at *
    have p1:(2*w+1-1)*c=2*(w*c):=by rw [Nat.add_sub_cancel,Nat.mul_assoc]
    have p2:(2*w+1+1)*c=2*((w+1)*c):=by rw [show 2*w+1+1=2*(w+1) by omega,Nat.mul_assoc]
    have od:(2*w+1)%2=1:=by omega
    generalize hV:2*Q+(if Q*Q=n*(c*c) then 0 else 1)=V
    have v1:(2*w+1-1)*2^d<V:=by
      rw [hc,p1,← hV]
      by_cases h5:Q=w*c
      · rw [if_neg (q3 h5)]; omega
      · split<;>omega
    have v2:V<(2*w+1+1)*2^d:=by
      rw [hc,p2,← hV]
      split<;>omega
    have lV:=Oz od (by omega) v1 v2
    have hs:54≤(2*w+1).log2:=by rw [Nat.le_log2 (by omega)]; omega
    have ee:E-(d:Int)+d=E:=by omega
    have:=Ol (E:=E-d) od v1 v2 (by unfold Cb; rw [lV]; omega) (by unfold Cb; omega)
    rw [ee] at this
    exact this
theorem Zu {n t:Nat} (h:2^(t+t)≤n):2^t≤Ra n:=Alh (by rw [← Nat.pow_add]; exact h)
theorem pow_two (k d:Nat):2^(k+2*d)=2^k*(2^d*2^d):=by rw [Nat.pow_add,Nat.two_mul,Nat.pow_add]
theorem Ahh {m k l:Nat} {E F:Int} (h1:2^106≤m*2^k) (h2:2^106≤m*2^l) (he:2*E+k=2*F+l) :
    B7 (F8 (m*2^k)) E=B7 (F8 (m*2^l)) F∧flagsOf (F8 (m*2^k)) E=flagsOf (F8 (m*2^l)) F:=by
  rcases Nat.le_total k l with h | h
  · obtain ⟨d,rfl⟩:∃ d,l=k+2*d:=⟨(l-k) / 2,by omega⟩
    have:=Xt (n:=m*2^k) d E (Zu (t:=53) h1)
    rw [Nat.mul_assoc,← pow_two,show E-(d:Int)=F by omega] at this
    exact ⟨this.1.symm,this.2.symm⟩
  · obtain ⟨d,rfl⟩:∃ d,k=l+2*d:=⟨(k-l) / 2,by omega⟩
    have:=Xt (n:=m*2^l) d F (Zu (t:=53) h2)
    rw [Nat.mul_assoc,← pow_two,show F-(d:Int)=E by omega] at this
    exact this
def Kk (b:Nat):Nat:=128+(Aw b%2).toNat
def N5 (b:Nat):Nat × Nat :=
  if Ao b=4 then (Xg,0)
  else if Ao b=0∨b=Gp then (b,0)
  else if Cs b=true then (Xg,16)
  else (B7 (F8 (Ar b*2^Kk b)) ((Aw b-Kk b) / 2-1),flagsOf (F8 (Ar b*2^Kk b)) ((Aw b-Kk b) / 2-1))
theorem Jf {b:Nat} (h3:Ao b≠3) (h4:Ao b≠4):Ar b=0↔Ao b=0:=by
  have:=M6 b
  have:=Iu b
  unfold Ar
  unfold Ao at *
  split at h3<;>split<;>(try split)<;>(try split)<;>simp_all<;>omega
theorem Aa0 {b:Nat} (h:Ao b=4):N5 b=(Xg,0):=if_pos h
theorem S2 {b:Nat} (h4:Ao b≠4) (h:Ao b=0∨b=Gp):N5 b=(b,0):=by unfold N5; rw [if_neg h4,if_pos h]
theorem Aaz {b:Nat} (h4:Ao b≠4) (h:¬ (Ao b=0∨b=Gp)) (hn:Cs b=true):N5 b=(Xg,16):=by unfold N5; rw [if_neg h4,if_neg h,if_pos hn]
theorem Ajt {b:Nat} (h4:Ao b≠4) (h:¬ (Ao b=0∨b=Gp)) (hn:Cs b=false) :
    N5 b=(B7 (F8 (Ar b*2^Kk b)) ((Aw b-Kk b) / 2-1),flagsOf (F8 (Ar b*2^Kk b)) ((Aw b-Kk b) / 2-1)):=by
  unfold N5; rw [if_neg h4,if_neg h,if_neg (by rw [hn]; decide)]
theorem Ajw (r:Nat):B0 false r=r:=rfl
theorem Aj4 {b:Nat} (hm:Ar b≠0):2^106≤Ar b*2^Kk b∧2*((Aw b-(Kk b:Int)) / 2-1)+Kk b=Aw b-2:=by
  refine ⟨?_,by unfold Kk; omega⟩
  have:2^128≤2^Kk b:=Au8 (by decide) (by unfold Kk; omega)
  have h5:=Nat.mul_le_mul (show 1≤Ar b by omega) this
  omega
theorem Ak2 {b:Nat} (hm:Ar b≠0):(Ar b).log2≤52:=by
  have:=(Nat.log2_lt hm).2 (show Ar b<2^53 from Eo b)
  omega
end Go.Rnd
namespace Go.Rnd
def H6 (b:Nat) (n:Int):Nat × Nat :=
  if Ao b=4 then (Xg,0)
  else if Ao b=3∨Ao b=0 then (b,0)
  else (B0 (Cs b) (B7 (Ar b) (Aw b+n)),flagsOf (Ar b) (Aw b+n))
theorem Ajo {V:Nat} {E:Int} (h0:V≠0) (h:E+V.log2+1≤-1075):B7 V E=0∧flagsOf V E=3:=by
  have hl:Cb V E=-1074:=by unfold Cb; omega
  obtain ⟨k,hk⟩:∃ k:Nat,(-1074:Int)-E=((k:Nat):Int):=⟨(-1074-E).toNat,by omega⟩
  have hV:V<2^(V.log2+1):=(Nat.log2_lt h0).1 (by omega)
  have hp:2^(V.log2+1)*2≤2^k:=by rw [← Nat.pow_succ]; exact Au8 (by decide) (by omega)
  have e1:V*2^(-((-1074:Int)-E)).toNat=V:=by rw [hk]; simp
  have e2:((-1074:Int)-E).toNat=k:=by rw [hk]; rfl
  have hk2:kept V E=0:=by
    unfold kept I8
    rw [hl,e1,e2]
    unfold Me
    rw [Nat.div_eq_of_lt (by omega),Au6 (by omega),if_neg (by omega)]
  have hx:exact V E=false:=by
    unfold exact Lc
    rw [hl,e1,e2,Au6 (by omega)]
    exact Auy h0
  have hr:B7 V E=0:=by
    unfold B7
    rw [if_neg h0,hl,hk2]
    rfl
  refine ⟨hr,?_⟩
  unfold flagsOf
  rw [if_neg h0,hr,hx]
  rfl
theorem Aht (n:Bool) {m:Nat} {e:Int} {more:Bool} (hm:m<2^53) (h0:m≠0∨more=true) (he:e≤-1130) :
    Fx n m e more=(B0 n 0,3):=by
  have h1:more.toNat≤1:=by cases more<;>decide
  have hV:4*m+more.toNat≠0:=by
    rcases h0 with h | h
    · omega
    · rw [h]; simp
  have hl:(4*m+more.toNat).log2≤54:=by
    have:=(Nat.log2_lt hV).2 (show 4*m+more.toNat<2^55 by omega); omega
  have:=Ajo hV (E:=e-2) (by omega)
  unfold Fx
  rw [this.1,this.2]
theorem Akk (n:Bool):Fx n 0 (-1074) true=(B0 n 0,3):=by
  cases n<;>decide +kernel
theorem Adq {b:Nat} {n:Int} (h4:Ao b≠4) (h:¬ (Ao b=3∨Ao b=0)) (hn:Aw b+n≤-1130):H6 b n=(B0 (Cs b) 0,3):=by
  have hm:Ar b≠0:=fun h5=>h (.inr ((Jf (by omega) h4).1 h5))
  have:=Ajo hm (E:=Aw b+n) (by have:=Ak2 hm; omega)
  unfold H6
  rw [if_neg h4,if_neg h,this.1,this.2]
theorem Ahc {b:Nat} {n:Int} (h4:Ao b≠4) (h:¬ (Ao b=3∨Ao b=0)):H6 b n=(B0 (Cs b) (B7 (Ar b) (Aw b+n)),flagsOf (Ar b) (Aw b+n)):=by
  unfold H6; rw [if_neg h4,if_neg h]
def Aev (b:Nat):Int:=if Hk b=true∧Ao b≠0 then ((Ar b).log2:Int)+Aw b else 0
def Aiy (b:Nat):Nat:=b%2^63
def Ara (a b:Nat):Int:=if Ao a=4∨Ao b=4 then 0 else if Ob a<Ob b then -1 else if Ob b<Ob a then 1 else 0
def Arb (a b:Nat):Bool:=!(decide (Ao a=4∨Ao b=4))
end Go.Rnd
namespace Go.Rnd
open Go.Den
def Xv (b:Int):Int:=Ob b.toNat
def Ad3 (a b:Int):Int:=Ara a.toNat b.toNat
def Aua (a b:Int):Bool:=Arb a.toNat b.toNat
def Abt (x:Int):Int:=Aiy x.toNat
def Ch (x n:Int):Int:=(H6 x.toNat n).1
def Anx (x n:Int):Int:=(H6 x.toNat n).2
def E0 (x n:Int):Bool:=Ai x&&Cu (-2300≤n∧n≤2300)
def Bs (x:Int):Int:=Aev x.toNat
def Z8:List Int→Nat→Nat
  | [],m=>m
  | x::l,m=>if Ao x.toNat=4 then Xg else Z8 l (max m (Aiy x.toNat))
def Bp (l:List Int):Int:=Z8 l 0
def Dz (l:List Int):Bool:=l.all Cy
def Bt (r c:Int) (l:List Int):Int:=if Av r c l=true then (if Dz l=true then 0 else 4) else 1
def Af3 (c:Int) (l:List Int) (n:Nat):Bool:=(List.range n).any fun i:Nat=>decide (A3 (D4 c l (i:Int) (i:Int))=0)
def Nv (r c:Int) (l:List Int) (p q:Int) (m:List Int):Int :=
  if Bt r c l≠0 then Bt r c l else if Bt p q m≠0 then Bt p q m
  else if r≠c∨r≠p then 3 else if Af3 c l r.toNat=true then 5 else 0
def Lk (c:Int) (l:List Int) (i:Int):Int→Int→List Int→Int
  | s,_,[]=>s
  | s,j,x::xs=>Lk c l i (Dr s (Ek (D4 c l i j) x)) (j+1) xs
def Yy (c:Int) (l:List Int) (b:Nat→Int) (n:Nat):Nat→List Int
  | 0=>[]
  | k+1=>Ev (Lk c l ((n-1-k:Nat):Int) (b (n-1-k)) ((n-k:Nat):Int) (Yy c l b n k)) (D4 c l ((n-1-k:Nat):Int) ((n-1-k:Nat):Int))::Yy c l b n k
def U5 (c:Int) (l:List Int) (b:Nat→Int):Nat→List Int
  | 0=>[]
  | k+1=>U5 c l b k++[Ev (Lk c l (k:Int) (b k) 0 (U5 c l b k)) (D4 c l (k:Int) (k:Int))]
def upG (c:Int) (l:List Int) (q:Int) (m:List Int) (n w:Nat):List Int:=Bf n w fun i j=>(Yy c l (fun i=>D4 q m (i:Int) (j:Int)) n n).getD i 0
def Xa (c:Int) (l:List Int) (q:Int) (m:List Int) (n w:Nat):List Int:=Bf n w fun i j=>(U5 c l (fun i=>D4 q m (i:Int) (j:Int)) n).getD i 0
def Jo (r c:Int) (l:List Int):MX:=if Dz l=true then (r,c,l,0) else I7 2
def upX (r c:Int) (l:List Int) (p q:Int) (m:List Int):MX :=
  if Nv r c l p q m≠0 then I7 (Nv r c l p q m) else Jo r q (upG c l q m r.toNat q.toNat)
def U3 (r c:Int) (l:List Int) (p q:Int) (m:List Int):MX :=
  if Nv r c l p q m≠0 then I7 (Nv r c l p q m) else Jo r q (Xa c l q m r.toNat q.toNat)
def Ud (c:Int) (l:List Int) (n:Nat):List Int:=(List.range n).map fun i:Nat=>Abt (D4 c l (i:Int) (i:Int))
def Aqc (d:List Int):Bool:=d.any fun x=>!(decide (Ad3 (Ch (Bp d) (-40)) x<0))
def Alr (r c:Int) (l:List Int):Bool:=Aqc (Ud c l (min r.toNat c.toNat))
def J5 (r c:Int) (l:List Int):Bool × Int:=if Bt r c l≠0 then (false,Bt r c l) else (Alr r c l,0)
def Oi (r c:Int) (l:List Int) (p q:Int) (m:List Int):Bool:=(Av r c l&&Av p q m)&&((Ah l&&Ah m)&&Cu (r=c∧r=p))
def D5 (n:Nat):List Int:=Bf n n fun i k=>Ca (i:Int) (k:Int)
def Dl (r c:Int) (l:List Int) (p q:Int) (m:List Int):MX :=
  if (Ck r c l).2.2.2≠0 then I7 (Ck r c l).2.2.2 else En (Ck r c l).1 (Ck r c l).2.1 (Ck r c l).2.2.1 p q m
end Go.Rnd
namespace Go.Rnd
open Go.Den
theorem Ao9 {a b:Nat}:(Xf a b).1<2^64:=by
  have h1:Gp<2^63:=by decide
  have hs:∀ (s:Bool) {r:Nat},r<2^63→B0 s r<2^64:=by
    intro s r h
    unfold B0
    cases s
    · rw [if_neg (by decide)]; omega
    · rw [if_pos rfl]; omega
  have hN:Xg<2^64:=by decide
  unfold Xf
  by_cases c1:Ao a=4∨Ao b=4
  · rw [if_pos c1]; exact hN
  rw [if_neg c1]
  by_cases c2:Ao a=Ao b∧(Ao a=3∨Ao a=0)
  · rw [if_pos c2]; exact hN
  rw [if_neg c2]
  by_cases c3:Ao a=3
  · rw [if_pos c3]; exact hs _ h1
  rw [if_neg c3]
  by_cases c4:Ao b=3∨Ao a=0
  · rw [if_pos c4]; exact hs _ (by decide)
  rw [if_neg c4]
  by_cases c5:Ao b=0
  · rw [if_pos c5]; exact hs _ h1
  rw [if_neg c5]
  exact hs _ (Po _ _)
theorem Z3 (a b:Int):Ai (Ev a b)=true:=B5 Ao9
theorem Nd {a b:Int} (ha:Ai a=true) (hb:Ai b=true):Ai (Dr a b)=true:=by
  obtain ⟨x,rfl,hx⟩:=Bu ha
  obtain ⟨y,rfl,hy⟩:=Bu hb
  exact B5 (Vb (by rw [Auv]; exact hx) (Tj (by rw [Auv]; exact hy))).1
theorem F4 {r c:Nat} {f:Nat→Nat→Int} (h:∀ i k,Ai (f i k)=true):Ah (Bf r c f)=true:=Aq.2 fun x hx=>by
  obtain ⟨j,_,rfl⟩:=List.mem_map.1 hx
  exact h _ _
theorem Mg (a b:Int):Ai (Ek a b)=true:=B5 Uz
theorem Ql (c:Int) (l:List Int) (b:Nat→Int) (n:Nat):∀ k,(Yy c l b n k).length=k
  | 0=>rfl
  | k+1=>by rw [Yy,List.length_cons,Ql c l b n k]
theorem Adb (c:Int) (l:List Int) (b:Nat→Int) (n:Nat):∀ k,∀ x∈Yy c l b n k,Ai x=true
  | 0,x,h=>by cases h
  | k+1,x,h=>by
    rw [Yy] at h
    rcases List.mem_cons.1 h with rfl | h
    · exact Z3 _ _
    · exact Adb c l b n k x h
theorem Aao (c:Int) (l:List Int) (b:Nat→Int) (n k:Nat):∀ d,(Yy c l b n (k+d)).drop d=Yy c l b n k
  | 0=>rfl
  | d+1=>by
    rw [← Nat.add_assoc,Yy,List.drop_succ_cons]
    exact Aao c l b n k d
theorem Aan {c:Int} {l:List Int} {b:Nat→Int} {n k:Nat} (h:k≤n):(Yy c l b n n).drop (n-k)=Yy c l b n k:=by
  have:=Aao c l b n k (n-k)
  rw [Nat.add_sub_cancel' h] at this
  exact this
theorem Ane {c:Int} {l:List Int} {b:Nat→Int} {n i:Nat} (h:i<n) :
    (Yy c l b n n).getD i 0=Ev (Lk c l (i:Int) (b i) ((i+1:Nat):Int) ((Yy c l b n n).drop (i+1))) (D4 c l (i:Int) (i:Int)):=by
  have e1:=Aan (c:=c) (l:=l) (b:=b) (n:=n) (k:=n-i) (by omega)
  have e2:=Aan (c:=c) (l:=l) (b:=b) (n:=n) (k:=n-i-1) (by omega)
  rw [show n-(n-i)=i by omega] at e1
  rw [show n-(n-i-1)=i+1 by omega] at e2
  rw [e2]
  have e3:(Yy c l b n n).getD i 0=((Yy c l b n n).drop i).getD 0 0:=by
    rw [Au3,Au3,List.getElem?_drop,Nat.add_zero]
  rw [e3,e1,show n-i=(n-i-1)+1 by omega,Yy]
  have e4:n-1-(n-i-1)=i:=by omega
  have e5:n-(n-i-1)=i+1:=by omega
  rw [e4,e5]
  rfl
theorem Sg {l:List Int} (h:∀ x∈l,Ai x=true) (i:Nat):Ai (l.getD i 0)=true:=by
  rw [Au3]
  cases hi:l[i]? with
  | none=>exact B5 (n:=0) (by decide)
  | some x=>exact h x (List.mem_of_getElem? hi)
theorem X8 {c:Int} {l:List Int} {i s j:Int} {xs:List Int} {t:Nat} (h:t<xs.length):Lk c l i s j (xs.drop t)=Lk c l i (Dr s (Ek (D4 c l i j) (xs.getD t 0))) (j+1) (xs.drop (t+1)):=by
  rw [List.drop_eq_getElem_cons h,Lk,Au3,Ava h]; rfl
theorem Ha (c:Int) (l:List Int) (b:Nat→Int):∀ k,(U5 c l b k).length=k
  | 0=>rfl
  | k+1=>by rw [U5,List.length_append,Ha c l b k]; rfl
theorem Aei (c:Int) (l:List Int) (b:Nat→Int):∀ k,∀ x∈U5 c l b k,Ai x=true
  | 0,x,h=>by cases h
  | k+1,x,h=>by
    rw [U5] at h
    rcases List.mem_append.1 h with h | h
    · exact Aei c l b k x h
    · rw [List.mem_singleton.1 h]; exact Z3 _ _
theorem Abz {c:Int} {l:List Int} {b:Nat→Int} {k:Nat}:∀ d,(U5 c l b (k+d)).take k=U5 c l b k
  | 0=>by rw [Nat.add_zero]; exact List.take_of_length_le (by rw [Ha]; omega)
  | d+1=>by
    rw [← Nat.add_assoc,U5,List.take_append_of_le_length (by rw [Ha]; omega)]
    exact Abz d
theorem Ab0 {c:Int} {l:List Int} {b:Nat→Int} {n k:Nat} (h:k≤n):(U5 c l b n).take k=U5 c l b k:=by
  have:=Abz (c:=c) (l:=l) (b:=b) (k:=k) (n-k)
  rw [Nat.add_sub_cancel' h] at this
  exact this
theorem Aoq {c:Int} {l:List Int} {b:Nat→Int} {n i:Nat} (h:i<n) :
    (U5 c l b n).getD i 0=Ev (Lk c l (i:Int) (b i) 0 ((U5 c l b n).take i)) (D4 c l (i:Int) (i:Int)):=by
  have e1:=Ab0 (c:=c) (l:=l) (b:=b) (n:=n) (k:=i+1) (by omega)
  have e2:=Ab0 (c:=c) (l:=l) (b:=b) (n:=n) (k:=i) (by omega)
  have e3:(U5 c l b n).getD i 0=((U5 c l b n).take (i+1)).getD i 0:=by
    rw [Au3,Au3,List.getElem?_take_of_lt (by omega)]
  rw [e3,e1,e2,U5,Au3,List.getElem?_append_right (by rw [Ha]; omega),Ha,Nat.sub_self]
  rfl
end Go.Rnd
namespace Go.Rnd
open Go.Den
def Ard:Int:=4607182418800017408
def Hq (x:Int):Int:=(N5 x.toNat).1
def Oj (x:Int):Int:=(N5 x.toNat).2
def Adn (k:Int):Int→List Int→Int
  | s,[]=>s
  | s,x::l=>Adn k (Kp s (Ek (Ch x k) (Ch x k))) l
def Er (x:List Int):Int :=
  if Bp x=0∨Cy (Bp x)=false then Bp x else Ch (Hq (Adn (-Bs (Bp x)) 0 x)) (Bs (Bp x))
def Jz (l:List Int):Bool:=l.all fun x=>decide (A3 x=0)
def Qd:List Int→Int
  | []=>0
  | x::l=>if A3 x=0 then Qd l else x
def Bj (l:List Int) (k:Int):List Int:=l.map fun x=>Ch x k
def Jc (n:Nat) (f:Nat→Int):List Int:=Ard::(List.range (n-1)).map fun j=>f (j+1)
def muI (x:List Int):Int:=if Dv (Qd x)=true then Er (Bj x (-Bs (Bp x))) else Ds (Er (Bj x (-Bs (Bp x))))
def Hz (x:List Int):Int:=Ch (muI x) (Bs (Bp x))
def Alu (x:List Int):Int:=Ch (x.getD 0 0) (-Bs (Bp x))
def Abk (x:List Int):List Int:=Jc x.length fun j=>Ev (Ch (x.getD j 0) (-Bs (Bp x))) (Dr (Alu x) (muI x))
def Aea (x:List Int):Int:=Ev (Dr (muI x) (Alu x)) (muI x)
def Aoc (x:List Int):List Int × Int × Int × Int :=
  if Jz (x.drop 1)=true then (Jc x.length fun _=>0,0,x.getD 0 0,0)
  else if Cy (Hz x)=true then (Abk x,Aea x,Hz x,0) else ([],0,0,2)
def Cg (x:List Int):List Int × Int × Int × Int :=
  if x.length=0∨64<x.length then ([],0,0,3) else if Dz x=true then Aoc x else ([],0,0,4)
def Dy (c:Int) (l:List Int) (b i:Int) (n:Nat):List Int:=(List.range n).map fun j:Nat=>D4 c l (i+(j:Int)) b
def Aaa (c:Int) (l:List Int) (i:Int) (v:List Int) (t b:Int):Int:=Ek t (Lw v (Dy c l b i v.length))
def O8 (c:Int) (l:List Int) (i k:Int) (v:List Int) (t a b:Int):Int :=
  if k≤b∧i≤a∧a<i+v.length then Dr (D4 c l a b) (Ek (Aaa c l i v t b) (v.getD (a-i).toNat 0)) else D4 c l a b
def Ga (r c:Nat) (l:List Int) (i k:Int) (v:List Int) (t:Int):List Int:=Bf r c fun a b=>O8 (c:Int) l i k v t (a:Int) (b:Int)
def Mm (r c i k:Int) (v:List Int):Bool:=decide (0≤i∧(v.length:Int)≤r∧i≤r-v.length∧0≤k∧k≤c)
def Tu (r c:Nat) (l:List Int) (j:Nat) (x:Int):List Int:=Bf r c fun a b=>if b=j∧j≤a then (if a=j then x else 0) else D4 (c:Int) l (a:Int) (b:Int)
def Ge (r c:Nat) (l:List Int) (j:Nat):List Int:=Dy (c:Int) l (j:Int) (j:Int) (r-j)
def W8 (r c:Nat) (l:List Int) (j:Nat):List Int:=Tu r c (Ga r c l (j:Int) (j:Int) (Cg (Ge r c l j)).1 (Cg (Ge r c l j)).2.1) j (Cg (Ge r c l j)).2.2.1
def N9 (r c:Nat):Nat→Nat→List Int→Option (List Int × List (List Int × Int))
  | 0,_,l=>some (l,[])
  | n+1,j,l=>if (Cg (Ge r c l j)).2.2.2=0 then
      (N9 r c n (j+1) (W8 r c l j)).map fun x=>(x.1,((Cg (Ge r c l j)).1,(Cg (Ge r c l j)).2.1)::x.2) else none
def Ja (r c:Nat):Nat:=min c (r-1)
def Ko (n:Nat):Nat→List (List Int × Int)→List Int→List Int
  | _,[],q=>q
  | j,m::ms,q=>Ga n n (Ko n (j+1) ms q) (j:Int) 0 m.1 m.2
def I9 (r c:Nat) (l:List Int):Option (List Int × List (List Int × Int)):=N9 r c (Ja r c) 0 l
def Qy (r c:Nat) (l:List Int):List Int:=match I9 r c l with
  | some x=>Ko r 0 x.2 (D5 r)
  | none=>[]
def Ns (r c:Nat) (l:List Int):List Int:=match I9 r c l with
  | some x=>x.1
  | none=>[]
def Fj (r c:Int) (l:List Int):MX:=if (I9 r.toNat c.toNat l).isSome=true then (r,c,Ns r.toNat c.toNat l,0) else I7 2
def V6 (ms:List (List Int × Int)):List (List DV):=ms.map fun m=>[.ints .arg .u64 m.1,.int .u64 m.2]
def Jk (r c:Int) (l:List Int):List (List DV):=match I9 r.toNat c.toNat l with
  | some x=>V6 x.2
  | none=>[]
def R8 (m:Int):Int:=Ra (m.toNat*2^64)
def R9 (m:Int):Bool:=decide (Ra (m.toNat*2^64)*Ra (m.toNat*2^64)=m.toNat*2^64)
def Qi (r c:Nat) (l:List Int):Bool:=(I9 r c l).isSome&&(Dz (Qy r c l)&&Dz (Ns r c l))
def E1 (r c:Int) (l:List Int):Int:=if Bt r c l≠0 then Bt r c l else if Qi r.toNat c.toNat l=true then 0 else 2
def qX (r c:Int) (l:List Int):MX:=if E1 r c l≠0 then I7 (E1 r c l) else (r,r,Qy r.toNat c.toNat l,0)
def rX (r c:Int) (l:List Int):MX:=if E1 r c l≠0 then I7 (E1 r c l) else (r,c,Ns r.toNat c.toNat l,0)
def Hv (r c:Int) (l:List Int):MX:=if E1 r c l≠0 then I7 (E1 r c l) else (r,min r c,(Ey r r (Qy r.toNat c.toNat l) 0 0 r (min r c)).2.2.1,0)
def Mo (r c:Int) (l:List Int):MX:=if E1 r c l≠0 then I7 (E1 r c l) else (min r c,c,(Ey r c (Ns r.toNat c.toNat l) 0 0 (min r c) c).2.2.1,0)
def Am9 (a b:MX) (p q:Int) (m:List Int):MX :=
  if (Dl a.1 a.2.1 a.2.2.1 p q m).2.2.2≠0 then I7 (Dl a.1 a.2.1 a.2.2.1 p q m).2.2.2
  else upX b.1 b.2.1 b.2.2.1 (Dl a.1 a.2.1 a.2.2.1 p q m).1 (Dl a.1 a.2.1 a.2.2.1 p q m).2.1 (Dl a.1 a.2.1 a.2.2.1 p q m).2.2.1
def I1 (r c:Int) (l:List Int) (p q:Int) (m:List Int):MX :=
  if Bt r c l≠0 then I7 (Bt r c l) else if Bt p q m≠0 then I7 (Bt p q m) else if r<c∨r≠p then I7 3
  else if E1 r c l≠0 then I7 (E1 r c l)
  else if (J5 (Mo r c l).1 (Mo r c l).2.1 (Mo r c l).2.2.1).1=true then I7 5
  else Am9 (Hv r c l) (Mo r c l) p q m
end Go.Rnd
namespace Go.Rnd
open Go.Den
def mulM (x y:MX):MX:=En x.1 x.2.1 x.2.2.1 y.1 y.2.1 y.2.2.1
def As2 (x:MX):MX:=Ck x.1 x.2.1 x.2.2.1
def Gi (x:MX) (i k a b:Int):MX:=Ey x.1 x.2.1 x.2.2.1 i k a b
def Lv (r c:Int) (l:List Int) (e:Int):MX:=if e≠0 then I7 e else if Bt r c l≠0 then I7 2 else (r,c,l,0)
def Acl (x:MX):MX:=Lv x.1 x.2.1 x.2.2.1 x.2.2.2
def Le (r c:Int) (l:List Int) (p q:Int) (m:List Int) (a b:Int) (g:List Int) (u v:Int) (h:List Int):Int :=
  if Bt r c l≠0 then Bt r c l else if Bt p q m≠0 then Bt p q m else if Bt a b g≠0 then Bt a b g else if Bt u v h≠0 then Bt u v h
  else if q≠c∨a≠r∨u≠p∨b≠1∨v≠1∨c<p∨r+p<c then 3 else 0
def So (l m g h:List Int):Bool:=(Ah l&&Ah m)&&(Ah g&&Ah h)
def eqT (p q:Int) (m:List Int):List Int:=(Ck p q m).2.2.1
def eqR (p q:Int) (m:List Int):MX:=rX q p (eqT p q m)
def Pz (p q:Int) (m:List Int):MX:=As2 (Gi (eqR p q m) 0 0 p p)
def hY (p q:Int) (m:List Int) (u v:Int) (h:List Int):MX :=
  if E1 q p (eqT p q m)≠0 then I7 (E1 q p (eqT p q m)) else if (J5 (Pz p q m).1 (Pz p q m).2.1 (Pz p q m).2.2.1).1=true then I7 5
  else U3 (Pz p q m).1 (Pz p q m).2.1 (Pz p q m).2.2.1 u v h
def hQ (p q:Int) (m:List Int):MX :=
  if E1 q p (eqT p q m)≠0 then I7 (E1 q p (eqT p q m)) else if (J5 (Pz p q m).1 (Pz p q m).2.1 (Pz p q m).2.2.1).1=true then I7 5
  else qX q p (eqT p q m)
def Aro (r c:Int) (l:List Int) (p q:Int) (m:List Int):MX:=Acl (mulM (r,c,l,0) (hQ p q m))
def Aee (w y:MX) (r p:Int):MX:=mulM (Gi w 0 0 r p) y
def Aoi (a b:Int) (g:List Int) (d:MX):MX:=Acl (Ir a b g d.1 d.2.1 d.2.2.1)
def Tm (x y:MX):MX:=I1 x.1 x.2.1 x.2.2.1 y.1 y.2.1 y.2.2.1
def Sz (x y:MX):MX:=B6 x.1 x.2.1 x.2.2.1 y.1 y.2.1 y.2.2.1
def Abu (q y z:MX):MX:=if z.2.2.2≠0 then I7 z.2.2.2 else if (Sz y z).2.2.2≠0 then I7 (Sz y z).2.2.2 else Acl (mulM q (Sz y z))
def Aky (q y w f:MX) (r c p:Int):MX:=if f.2.2.2≠0 then I7 f.2.2.2 else Abu q y (Tm (Gi w 0 p r (c-p)) f)
def Af8 (q y w:MX) (r c p a b:Int) (g:List Int):MX:=if w.2.2.2≠0 then I7 w.2.2.2 else Aky q y w (Aoi a b g (Aee w y r p)) r c p
def Cd (r c:Int) (l:List Int) (p q:Int) (m:List Int) (a b:Int) (g:List Int) (u v:Int) (h:List Int):MX :=
  if Le r c l p q m a b g u v h≠0 then I7 (Le r c l p q m a b g u v h)
  else if (hY p q m u v h).2.2.2≠0 then I7 (hY p q m u v h).2.2.2
  else Af8 (hQ p q m) (hY p q m u v h) (Aro r c l p q m) r c p a b g
end Go.Rnd
namespace Go.Rnd
open Go.Den
def upM (x y:MX):MX:=upX x.1 x.2.1 x.2.2.1 y.1 y.2.1 y.2.2.1
def loM (x y:MX):MX:=U3 x.1 x.2.1 x.2.2.1 y.1 y.2.1 y.2.2.1
def Adi (x y:MX):MX:=Ir x.1 x.2.1 x.2.2.1 y.1 y.2.1 y.2.2.1
def Aun (x:MX):Int:=Bt x.1 x.2.1 x.2.2.1
def Ut (x:Int):Int:=mD (A7 x)*mD (A7 x)
def sqK (x:Int):Int:=eD (A7 x) (Az x)+eD (A7 x) (Az x)
def Um (x:Int):Int:=Aae 0 0 (mD (Ut x)) (eD (Ut x) (sqK x))
def sqE (x:Int):Int:=Amv 0 0 (mD (Ut x)) (eD (Ut x) (sqK x))
end Go.Rnd
namespace Go.Rnd
open Go.Den
def Aas (k b:Int):Bool:=Cy b&&(decide (A3 b=0)||(decide (-k≤Bs b)&&decide (Bs b<k)))
def Ct (x:List Int) (k:Int):Bool:=x.all (Aas k)
end Go.Rnd
end
