/- A verified evaluator of the program's form and its use for this seat: S1Env, Rnd, Flt, Words, NearL, IeeL, OrdL, MulL, Limb, DyL, DyV, ExactL, MulW, SumL, MatL, MatW, PowL, RootL, ScaleL, SolW, TriL, HouW, LseW, GgW, RidW. -/
import Derived.Test.YtjbokjpbiobjpaaGreatProg
import Derived.Test.YtjbokjpbiobjpaaGreatTD
set_option linter.unusedVariables false
set_option linter.unusedSimpArgs false
noncomputable section
namespace Go.Proofs.S1
open Go Go.Den Go.Proofs
set_option maxRecDepth 100000
abbrev tB:Nat:=37
abbrev tMR:Nat:=214
abbrev tW:Nat:=173
def tys:List (Nat × TI):=[
  (2,⟨1,8,(.int .i64),[.int .i64 (0:Int)]⟩),
  (3,⟨1,8,(.int .i64),[.int .i64 (0:Int)]⟩),
  (4,⟨1,1,.bool,[.bool false]⟩),
  (5,⟨1,1,(.int .u8),[.int .u8 (0:Int)]⟩),
  (22,⟨1,24,(.slice 37),[.nil]⟩),
  (24,⟨3,40,(.struct [(0,3),(1,3),(2,22)]),[.int .i64 (0:Int),.int .i64 (0:Int),.nil]⟩),
  (25,⟨1,8,(.int .i64),[.int .i64 (0:Int)]⟩),
  (36,⟨1,8,(.int .u64),[.int .u64 (0:Int)]⟩),
  (37,⟨1,8,(.int .u64),[.int .u64 (0:Int)]⟩),
  (38,⟨1,24,(.slice 41),[.nil]⟩),
  (41,⟨1,1,(.int .i8),[.int .i8 (0:Int)]⟩),
  (43,⟨1,24,(.slice 173),[.nil]⟩),
  (45,⟨2,32,(.struct [(0,4),(1,43)]),[.bool false,.nil]⟩),
  (47,⟨3,40,(.struct [(0,45),(2,3)]),[.bool false,.nil,.int .i64 (0:Int)]⟩),
  (57,⟨12,160,(.struct [(0,24),(3,24),(6,24),(9,24)]),[.int .i64 (0:Int),.int .i64 (0:Int),.nil,.int .i64 (0:Int),.int .i64 (0:Int),.nil,.int .i64 (0:Int),.int .i64 (0:Int),.nil,.int .i64 (0:Int),.int .i64 (0:Int),.nil]⟩),
  (60,⟨12,160,(.struct [(0,24),(3,24),(6,24),(9,24)]),[.int .i64 (0:Int),.int .i64 (0:Int),.nil,.int .i64 (0:Int),.int .i64 (0:Int),.nil,.int .i64 (0:Int),.int .i64 (0:Int),.nil,.int .i64 (0:Int),.int .i64 (0:Int),.nil]⟩),
  (71,⟨9,120,(.struct [(0,24),(3,24),(6,24)]),[.int .i64 (0:Int),.int .i64 (0:Int),.nil,.int .i64 (0:Int),.int .i64 (0:Int),.nil,.int .i64 (0:Int),.int .i64 (0:Int),.nil]⟩),
  (74,⟨9,120,(.struct [(0,24),(3,24),(6,24)]),[.int .i64 (0:Int),.int .i64 (0:Int),.nil,.int .i64 (0:Int),.int .i64 (0:Int),.nil,.int .i64 (0:Int),.int .i64 (0:Int),.nil]⟩),
  (80,⟨7,88,(.struct [(0,24),(3,24),(6,25)]),[.int .i64 (0:Int),.int .i64 (0:Int),.nil,.int .i64 (0:Int),.int .i64 (0:Int),.nil,.int .i64 (0:Int)]⟩),
  (88,⟨9,120,(.struct [(0,24),(3,24),(6,24)]),[.int .i64 (0:Int),.int .i64 (0:Int),.nil,.int .i64 (0:Int),.int .i64 (0:Int),.nil,.int .i64 (0:Int),.int .i64 (0:Int),.nil]⟩),
  (91,⟨1,24,(.slice 24),[.nil]⟩),
  (102,⟨1,8,(.int .i64),[.int .i64 (0:Int)]⟩),
  (114,⟨6,80,(.array 2 24),[.int .i64 (0:Int),.int .i64 (0:Int),.nil,.int .i64 (0:Int),.int .i64 (0:Int),.nil]⟩),
  (118,⟨7,88,(.struct [(0,24),(3,24),(6,4)]),[.int .i64 (0:Int),.int .i64 (0:Int),.nil,.int .i64 (0:Int),.int .i64 (0:Int),.nil,.bool false]⟩),
  (121,⟨1,8,.fl,[.fl 0]⟩),
  (131,⟨1,24,(.slice 47),[.nil]⟩),
  (134,⟨1,24,(.slice 135),[.nil]⟩),
  (135,⟨1,24,(.slice 45),[.nil]⟩),
  (145,⟨9,120,(.array 3 24),[.int .i64 (0:Int),.int .i64 (0:Int),.nil,.int .i64 (0:Int),.int .i64 (0:Int),.nil,.int .i64 (0:Int),.int .i64 (0:Int),.nil]⟩),
  (147,⟨15,200,(.struct [(0,24),(3,24),(6,24),(9,24),(12,24)]),[.int .i64 (0:Int),.int .i64 (0:Int),.nil,.int .i64 (0:Int),.int .i64 (0:Int),.nil,.int .i64 (0:Int),.int .i64 (0:Int),.nil,.int .i64 (0:Int),.int .i64 (0:Int),.nil,.int .i64 (0:Int),.int .i64 (0:Int),.nil]⟩),
  (155,⟨3,40,(.struct [(0,3),(1,3),(2,131)]),[.int .i64 (0:Int),.int .i64 (0:Int),.nil]⟩),
  (166,⟨1,1,(.int .u8),[.int .u8 (0:Int)]⟩),
  (173,⟨1,4,(.int .u32),[.int .u32 (0:Int)]⟩),
  (183,⟨12,160,(.array 4 24),[.int .i64 (0:Int),.int .i64 (0:Int),.nil,.int .i64 (0:Int),.int .i64 (0:Int),.nil,.int .i64 (0:Int),.int .i64 (0:Int),.nil,.int .i64 (0:Int),.int .i64 (0:Int),.nil]⟩),
  (188,⟨2,16,(.array 2 3),[.int .i64 (0:Int),.int .i64 (0:Int)]⟩),
  (189,⟨1,24,(.slice 191),[.nil]⟩),
  (191,⟨3,40,(.struct [(0,22),(1,37),(2,37)]),[.nil,.int .u64 (0:Int),.int .u64 (0:Int)]⟩),
  (199,⟨3,24,(.struct [(0,4),(1,3),(2,36)]),[.bool false,.int .i64 (0:Int),.int .u64 (0:Int)]⟩),
  (208,⟨1,24,(.slice 214),[.nil]⟩),
  (214,⟨2,32,(.struct [(0,22),(1,37)]),[.nil,.int .u64 (0:Int)]⟩)]
theorem ty2:Bw Tryz.prog 2 ⟨1,8,(.int .i64),[.int .i64 (0:Int)]⟩:=Bz (z:=.int .i64 (0:Int)) (by kernel_rfl) (fun c w=>by simp [A3,Aj,Value.cells]) rfl (by simp [Value.cells,Value.oneCell']) (by simp only [B4]; exact Tryz.underlying2)
theorem ty3:Bw Tryz.prog 3 ⟨1,8,(.int .i64),[.int .i64 (0:Int)]⟩:=Bz (z:=.int .i64 (0:Int)) (by kernel_rfl) (fun c w=>by simp [A3,Aj,Value.cells]) rfl (by simp [Value.cells,Value.oneCell']) (by simp only [B4]; exact Tryz.underlying3)
theorem ty4:Bw Tryz.prog 4 ⟨1,1,.bool,[.bool false]⟩:=Bz (z:=.bool false) (by kernel_rfl) (fun c w=>by simp [A3,Aj,Value.cells]) rfl (by simp [Value.cells,Value.oneCell']) (by simp only [B4]; exact Tryz.underlying4)
theorem ty5:Bw Tryz.prog 5 ⟨1,1,(.int .u8),[.int .u8 (0:Int)]⟩:=Bz (z:=.int .u8 (0:Int)) (by kernel_rfl) (fun c w=>by simp [A3,Aj,Value.cells]) rfl (by simp [Value.cells,Value.oneCell']) (by simp only [B4]; exact Tryz.underlying5)
theorem ty22:Bw Tryz.prog 22 ⟨1,24,(.slice 37),[.nil]⟩:=Bz (z:=.slice none 0 0) (by kernel_rfl) (fun c w=>by simp [A3,Aj,Value.cells]) rfl (by simp [Value.cells,Value.oneCell']) (by simp only [B4]; exact Tryz.underlying22)
theorem ty24:Bw Tryz.prog 24 ⟨3,40,(.struct [(0,3),(1,3),(2,22)]),[.int .i64 (0:Int),.int .i64 (0:Int),.nil]⟩:=Bz (z:=.agg #[.int .i64 (0:Int),.int .i64 (0:Int),.slice none 0 0]) (by kernel_rfl) (fun c w=>by simp [A3,Aj,Value.cells]) rfl (by simp [Value.cells,Value.oneCell']) (by simp only [B4]; exact ⟨_,Tryz.underlying24,by kernel_rfl⟩)
theorem ty25:Bw Tryz.prog 25 ⟨1,8,(.int .i64),[.int .i64 (0:Int)]⟩:=Bz (z:=.int .i64 (0:Int)) (by kernel_rfl) (fun c w=>by simp [A3,Aj,Value.cells]) rfl (by simp [Value.cells,Value.oneCell']) (by simp only [B4]; exact Tryz.underlying25)
theorem Asb:Bw Tryz.prog 36 ⟨1,8,(.int .u64),[.int .u64 (0:Int)]⟩:=Bz (z:=.int .u64 (0:Int)) (by kernel_rfl) (fun c w=>by simp [A3,Aj,Value.cells]) rfl (by simp [Value.cells,Value.oneCell']) (by simp only [B4]; exact Tryz.underlying36)
theorem ty37:Bw Tryz.prog 37 ⟨1,8,(.int .u64),[.int .u64 (0:Int)]⟩:=Bz (z:=.int .u64 (0:Int)) (by kernel_rfl) (fun c w=>by simp [A3,Aj,Value.cells]) rfl (by simp [Value.cells,Value.oneCell']) (by simp only [B4]; exact Tryz.underlying37)
theorem ty38:Bw Tryz.prog 38 ⟨1,24,(.slice 41),[.nil]⟩:=Bz (z:=.slice none 0 0) (by kernel_rfl) (fun c w=>by simp [A3,Aj,Value.cells]) rfl (by simp [Value.cells,Value.oneCell']) (by simp only [B4]; exact Tryz.underlying38)
theorem ty41:Bw Tryz.prog 41 ⟨1,1,(.int .i8),[.int .i8 (0:Int)]⟩:=Bz (z:=.int .i8 (0:Int)) (by kernel_rfl) (fun c w=>by simp [A3,Aj,Value.cells]) rfl (by simp [Value.cells,Value.oneCell']) (by simp only [B4]; exact Tryz.underlying41)
theorem ty43:Bw Tryz.prog 43 ⟨1,24,(.slice 173),[.nil]⟩:=Bz (z:=.slice none 0 0) (by kernel_rfl) (fun c w=>by simp [A3,Aj,Value.cells]) rfl (by simp [Value.cells,Value.oneCell']) (by simp only [B4]; exact Tryz.underlying43)
theorem ty45:Bw Tryz.prog 45 ⟨2,32,(.struct [(0,4),(1,43)]),[.bool false,.nil]⟩:=Bz (z:=.agg #[.bool false,.slice none 0 0]) (by kernel_rfl) (fun c w=>by simp [A3,Aj,Value.cells]) rfl (by simp [Value.cells,Value.oneCell']) (by simp only [B4]; exact ⟨_,Tryz.underlying45,by kernel_rfl⟩)
theorem ty47:Bw Tryz.prog 47 ⟨3,40,(.struct [(0,45),(2,3)]),[.bool false,.nil,.int .i64 (0:Int)]⟩:=Bz (z:=.agg #[.bool false,.slice none 0 0,.int .i64 (0:Int)]) (by kernel_rfl) (fun c w=>by simp [A3,Aj,Value.cells]) rfl (by simp [Value.cells,Value.oneCell']) (by simp only [B4]; exact ⟨_,Tryz.underlying47,by kernel_rfl⟩)
theorem ty57:Bw Tryz.prog 57 ⟨12,160,(.struct [(0,24),(3,24),(6,24),(9,24)]),[.int .i64 (0:Int),.int .i64 (0:Int),.nil,.int .i64 (0:Int),.int .i64 (0:Int),.nil,.int .i64 (0:Int),.int .i64 (0:Int),.nil,.int .i64 (0:Int),.int .i64 (0:Int),.nil]⟩:=Bz (z:=.agg #[.int .i64 (0:Int),.int .i64 (0:Int),.slice none 0 0,.int .i64 (0:Int),.int .i64 (0:Int),.slice none 0 0,.int .i64 (0:Int),.int .i64 (0:Int),.slice none 0 0,.int .i64 (0:Int),.int .i64 (0:Int),.slice none 0 0]) (by kernel_rfl) (fun c w=>by simp [A3,Aj,Value.cells]) rfl (by simp [Value.cells,Value.oneCell']) (by simp only [B4]; exact ⟨_,Tryz.underlying57,by kernel_rfl⟩)
theorem ty60:Bw Tryz.prog 60 ⟨12,160,(.struct [(0,24),(3,24),(6,24),(9,24)]),[.int .i64 (0:Int),.int .i64 (0:Int),.nil,.int .i64 (0:Int),.int .i64 (0:Int),.nil,.int .i64 (0:Int),.int .i64 (0:Int),.nil,.int .i64 (0:Int),.int .i64 (0:Int),.nil]⟩:=Bz (z:=.agg #[.int .i64 (0:Int),.int .i64 (0:Int),.slice none 0 0,.int .i64 (0:Int),.int .i64 (0:Int),.slice none 0 0,.int .i64 (0:Int),.int .i64 (0:Int),.slice none 0 0,.int .i64 (0:Int),.int .i64 (0:Int),.slice none 0 0]) (by kernel_rfl) (fun c w=>by simp [A3,Aj,Value.cells]) rfl (by simp [Value.cells,Value.oneCell']) (by simp only [B4]; exact ⟨_,Tryz.underlying60,by kernel_rfl⟩)
theorem ty71:Bw Tryz.prog 71 ⟨9,120,(.struct [(0,24),(3,24),(6,24)]),[.int .i64 (0:Int),.int .i64 (0:Int),.nil,.int .i64 (0:Int),.int .i64 (0:Int),.nil,.int .i64 (0:Int),.int .i64 (0:Int),.nil]⟩:=Bz (z:=.agg #[.int .i64 (0:Int),.int .i64 (0:Int),.slice none 0 0,.int .i64 (0:Int),.int .i64 (0:Int),.slice none 0 0,.int .i64 (0:Int),.int .i64 (0:Int),.slice none 0 0]) (by kernel_rfl) (fun c w=>by simp [A3,Aj,Value.cells]) rfl (by simp [Value.cells,Value.oneCell']) (by simp only [B4]; exact ⟨_,Tryz.underlying71,by kernel_rfl⟩)
theorem ty74:Bw Tryz.prog 74 ⟨9,120,(.struct [(0,24),(3,24),(6,24)]),[.int .i64 (0:Int),.int .i64 (0:Int),.nil,.int .i64 (0:Int),.int .i64 (0:Int),.nil,.int .i64 (0:Int),.int .i64 (0:Int),.nil]⟩:=Bz (z:=.agg #[.int .i64 (0:Int),.int .i64 (0:Int),.slice none 0 0,.int .i64 (0:Int),.int .i64 (0:Int),.slice none 0 0,.int .i64 (0:Int),.int .i64 (0:Int),.slice none 0 0]) (by kernel_rfl) (fun c w=>by simp [A3,Aj,Value.cells]) rfl (by simp [Value.cells,Value.oneCell']) (by simp only [B4]; exact ⟨_,Tryz.underlying74,by kernel_rfl⟩)
theorem ty80:Bw Tryz.prog 80 ⟨7,88,(.struct [(0,24),(3,24),(6,25)]),[.int .i64 (0:Int),.int .i64 (0:Int),.nil,.int .i64 (0:Int),.int .i64 (0:Int),.nil,.int .i64 (0:Int)]⟩:=Bz (z:=.agg #[.int .i64 (0:Int),.int .i64 (0:Int),.slice none 0 0,.int .i64 (0:Int),.int .i64 (0:Int),.slice none 0 0,.int .i64 (0:Int)]) (by kernel_rfl) (fun c w=>by simp [A3,Aj,Value.cells]) rfl (by simp [Value.cells,Value.oneCell']) (by simp only [B4]; exact ⟨_,Tryz.underlying80,by kernel_rfl⟩)
theorem ty88:Bw Tryz.prog 88 ⟨9,120,(.struct [(0,24),(3,24),(6,24)]),[.int .i64 (0:Int),.int .i64 (0:Int),.nil,.int .i64 (0:Int),.int .i64 (0:Int),.nil,.int .i64 (0:Int),.int .i64 (0:Int),.nil]⟩:=Bz (z:=.agg #[.int .i64 (0:Int),.int .i64 (0:Int),.slice none 0 0,.int .i64 (0:Int),.int .i64 (0:Int),.slice none 0 0,.int .i64 (0:Int),.int .i64 (0:Int),.slice none 0 0]) (by kernel_rfl) (fun c w=>by simp [A3,Aj,Value.cells]) rfl (by simp [Value.cells,Value.oneCell']) (by simp only [B4]; exact ⟨_,Tryz.underlying88,by kernel_rfl⟩)
theorem ty91:Bw Tryz.prog 91 ⟨1,24,(.slice 24),[.nil]⟩:=Bz (z:=.slice none 0 0) (by kernel_rfl) (fun c w=>by simp [A3,Aj,Value.cells]) rfl (by simp [Value.cells,Value.oneCell']) (by simp only [B4]; exact Tryz.underlying91)
theorem Asv:Bw Tryz.prog 102 ⟨1,8,(.int .i64),[.int .i64 (0:Int)]⟩:=Bz (z:=.int .i64 (0:Int)) (by kernel_rfl) (fun c w=>by simp [A3,Aj,Value.cells]) rfl (by simp [Value.cells,Value.oneCell']) (by simp only [B4]; exact Tryz.underlying102)
theorem Asu:Bw Tryz.prog 114 ⟨6,80,(.array 2 24),[.int .i64 (0:Int),.int .i64 (0:Int),.nil,.int .i64 (0:Int),.int .i64 (0:Int),.nil]⟩:=Bz (z:=.agg #[.int .i64 (0:Int),.int .i64 (0:Int),.slice none 0 0,.int .i64 (0:Int),.int .i64 (0:Int),.slice none 0 0]) (by kernel_rfl) (fun c w=>by simp [A3,Aj,Value.cells]) rfl (by simp [Value.cells,Value.oneCell']) (by simp only [B4]; exact Tryz.underlying114)
theorem Ast:Bw Tryz.prog 118 ⟨7,88,(.struct [(0,24),(3,24),(6,4)]),[.int .i64 (0:Int),.int .i64 (0:Int),.nil,.int .i64 (0:Int),.int .i64 (0:Int),.nil,.bool false]⟩:=Bz (z:=.agg #[.int .i64 (0:Int),.int .i64 (0:Int),.slice none 0 0,.int .i64 (0:Int),.int .i64 (0:Int),.slice none 0 0,.bool false]) (by kernel_rfl) (fun c w=>by simp [A3,Aj,Value.cells]) rfl (by simp [Value.cells,Value.oneCell']) (by simp only [B4]; exact ⟨_,Tryz.underlying118,by kernel_rfl⟩)
theorem Ass:Bw Tryz.prog 121 ⟨1,8,.fl,[.fl 0]⟩:=Bz (z:=.float .f64 0) (by kernel_rfl) (fun c w=>by simp [A3,Aj,Value.cells,N3]) rfl (by simp [Value.cells,Value.oneCell']) (by simp only [B4]; exact Tryz.underlying121)
theorem Asr:Bw Tryz.prog 131 ⟨1,24,(.slice 47),[.nil]⟩:=Bz (z:=.slice none 0 0) (by kernel_rfl) (fun c w=>by simp [A3,Aj,Value.cells]) rfl (by simp [Value.cells,Value.oneCell']) (by simp only [B4]; exact Tryz.underlying131)
theorem Asq:Bw Tryz.prog 134 ⟨1,24,(.slice 135),[.nil]⟩:=Bz (z:=.slice none 0 0) (by kernel_rfl) (fun c w=>by simp [A3,Aj,Value.cells]) rfl (by simp [Value.cells,Value.oneCell']) (by simp only [B4]; exact Tryz.underlying134)
theorem Asp:Bw Tryz.prog 135 ⟨1,24,(.slice 45),[.nil]⟩:=Bz (z:=.slice none 0 0) (by kernel_rfl) (fun c w=>by simp [A3,Aj,Value.cells]) rfl (by simp [Value.cells,Value.oneCell']) (by simp only [B4]; exact Tryz.underlying135)
theorem Aso:Bw Tryz.prog 145 ⟨9,120,(.array 3 24),[.int .i64 (0:Int),.int .i64 (0:Int),.nil,.int .i64 (0:Int),.int .i64 (0:Int),.nil,.int .i64 (0:Int),.int .i64 (0:Int),.nil]⟩:=Bz (z:=.agg #[.int .i64 (0:Int),.int .i64 (0:Int),.slice none 0 0,.int .i64 (0:Int),.int .i64 (0:Int),.slice none 0 0,.int .i64 (0:Int),.int .i64 (0:Int),.slice none 0 0]) (by kernel_rfl) (fun c w=>by simp [A3,Aj,Value.cells]) rfl (by simp [Value.cells,Value.oneCell']) (by simp only [B4]; exact Tryz.underlying145)
theorem Asn:Bw Tryz.prog 147 ⟨15,200,(.struct [(0,24),(3,24),(6,24),(9,24),(12,24)]),[.int .i64 (0:Int),.int .i64 (0:Int),.nil,.int .i64 (0:Int),.int .i64 (0:Int),.nil,.int .i64 (0:Int),.int .i64 (0:Int),.nil,.int .i64 (0:Int),.int .i64 (0:Int),.nil,.int .i64 (0:Int),.int .i64 (0:Int),.nil]⟩:=Bz (z:=.agg #[.int .i64 (0:Int),.int .i64 (0:Int),.slice none 0 0,.int .i64 (0:Int),.int .i64 (0:Int),.slice none 0 0,.int .i64 (0:Int),.int .i64 (0:Int),.slice none 0 0,.int .i64 (0:Int),.int .i64 (0:Int),.slice none 0 0,.int .i64 (0:Int),.int .i64 (0:Int),.slice none 0 0]) (by kernel_rfl) (fun c w=>by simp [A3,Aj,Value.cells]) rfl (by simp [Value.cells,Value.oneCell']) (by simp only [B4]; exact ⟨_,Tryz.underlying147,by kernel_rfl⟩)
theorem Asm:Bw Tryz.prog 155 ⟨3,40,(.struct [(0,3),(1,3),(2,131)]),[.int .i64 (0:Int),.int .i64 (0:Int),.nil]⟩:=Bz (z:=.agg #[.int .i64 (0:Int),.int .i64 (0:Int),.slice none 0 0]) (by kernel_rfl) (fun c w=>by simp [A3,Aj,Value.cells]) rfl (by simp [Value.cells,Value.oneCell']) (by simp only [B4]; exact ⟨_,Tryz.underlying155,by kernel_rfl⟩)
theorem Asl:Bw Tryz.prog 166 ⟨1,1,(.int .u8),[.int .u8 (0:Int)]⟩:=Bz (z:=.int .u8 (0:Int)) (by kernel_rfl) (fun c w=>by simp [A3,Aj,Value.cells]) rfl (by simp [Value.cells,Value.oneCell']) (by simp only [B4]; exact Tryz.underlying166)
theorem Asj:Bw Tryz.prog 173 ⟨1,4,(.int .u32),[.int .u32 (0:Int)]⟩:=Bz (z:=.int .u32 (0:Int)) (by kernel_rfl) (fun c w=>by simp [A3,Aj,Value.cells]) rfl (by simp [Value.cells,Value.oneCell']) (by simp only [B4]; exact Tryz.underlying173)
theorem Asi:Bw Tryz.prog 183 ⟨12,160,(.array 4 24),[.int .i64 (0:Int),.int .i64 (0:Int),.nil,.int .i64 (0:Int),.int .i64 (0:Int),.nil,.int .i64 (0:Int),.int .i64 (0:Int),.nil,.int .i64 (0:Int),.int .i64 (0:Int),.nil]⟩:=Bz (z:=.agg #[.int .i64 (0:Int),.int .i64 (0:Int),.slice none 0 0,.int .i64 (0:Int),.int .i64 (0:Int),.slice none 0 0,.int .i64 (0:Int),.int .i64 (0:Int),.slice none 0 0,.int .i64 (0:Int),.int .i64 (0:Int),.slice none 0 0]) (by kernel_rfl) (fun c w=>by simp [A3,Aj,Value.cells]) rfl (by simp [Value.cells,Value.oneCell']) (by simp only [B4]; exact Tryz.underlying183)
theorem Ash:Bw Tryz.prog 188 ⟨2,16,(.array 2 3),[.int .i64 (0:Int),.int .i64 (0:Int)]⟩:=Bz (z:=.agg #[.int .i64 (0:Int),.int .i64 (0:Int)]) (by kernel_rfl) (fun c w=>by simp [A3,Aj,Value.cells]) rfl (by simp [Value.cells,Value.oneCell']) (by simp only [B4]; exact Tryz.underlying188)
theorem Asg:Bw Tryz.prog 189 ⟨1,24,(.slice 191),[.nil]⟩:=Bz (z:=.slice none 0 0) (by kernel_rfl) (fun c w=>by simp [A3,Aj,Value.cells]) rfl (by simp [Value.cells,Value.oneCell']) (by simp only [B4]; exact Tryz.underlying189)
theorem Asf:Bw Tryz.prog 191 ⟨3,40,(.struct [(0,22),(1,37),(2,37)]),[.nil,.int .u64 (0:Int),.int .u64 (0:Int)]⟩:=Bz (z:=.agg #[.slice none 0 0,.int .u64 (0:Int),.int .u64 (0:Int)]) (by kernel_rfl) (fun c w=>by simp [A3,Aj,Value.cells]) rfl (by simp [Value.cells,Value.oneCell']) (by simp only [B4]; exact ⟨_,Tryz.underlying191,by kernel_rfl⟩)
theorem Ase:Bw Tryz.prog 199 ⟨3,24,(.struct [(0,4),(1,3),(2,36)]),[.bool false,.int .i64 (0:Int),.int .u64 (0:Int)]⟩:=Bz (z:=.agg #[.bool false,.int .i64 (0:Int),.int .u64 (0:Int)]) (by kernel_rfl) (fun c w=>by simp [A3,Aj,Value.cells]) rfl (by simp [Value.cells,Value.oneCell']) (by simp only [B4]; exact ⟨_,Tryz.underlying199,by kernel_rfl⟩)
theorem Asd:Bw Tryz.prog 208 ⟨1,24,(.slice 214),[.nil]⟩:=Bz (z:=.slice none 0 0) (by kernel_rfl) (fun c w=>by simp [A3,Aj,Value.cells]) rfl (by simp [Value.cells,Value.oneCell']) (by simp only [B4]; exact Tryz.underlying208)
theorem Asc:Bw Tryz.prog 214 ⟨2,32,(.struct [(0,22),(1,37)]),[.nil,.int .u64 (0:Int)]⟩:=Bz (z:=.agg #[.slice none 0 0,.int .u64 (0:Int)]) (by kernel_rfl) (fun c w=>by simp [A3,Aj,Value.cells]) rfl (by simp [Value.cells,Value.oneCell']) (by simp only [B4]; exact ⟨_,Tryz.underlying214,by kernel_rfl⟩)
theorem Ap2:Pv Tryz.prog tys:=.cons ty2 <| .cons ty3 <| .cons ty4 <| .cons ty5 <| .cons ty22 <| .cons ty24 <| .cons ty25 <| .cons Asb <| .cons ty37 <| .cons ty38 <| .cons ty41 <| .cons ty43 <| .cons ty45 <| .cons ty47 <| .cons ty57 <| .cons ty60 <| .cons ty71 <| .cons ty74 <| .cons ty80 <| .cons ty88 <| .cons ty91 <| .cons Asv <| .cons Asu <| .cons Ast <| .cons Ass <| .cons Asr <| .cons Asq <| .cons Asp <| .cons Aso <| .cons Asn <| .cons Asm <| .cons Asl <| .cons Asj <| .cons Asi <| .cons Ash <| .cons Asg <| .cons Asf <| .cons Ase <| .cons Asd <| .cons Asc <| .nil
def exts:List (Nat × Ext):=[(169,.bits),(210,.frombits),(263,.sqrt),(266,.sub64)]
def Acn:List (Nat × Ext)→Nat→Option Ext
  | [],_=>none
  | (m,e)::l,n=>bif Nat.beq m n then some e else Acn l n
theorem Ali (args:Array Value) (w:World):(callFunc 169 args).run Tryz.prog w=((Qs .bits args).run Tryz.prog w).andThen fun v w'=>.ok (.value v) w':=run_callFunc_extern (e:=Extern.MathFloatBits.float64bits) Tryz.func169 (by kernel_rfl) (by kernel_rfl) (by kernel_rfl) (by kernel_rfl) args w
theorem Alh (args:Array Value) (w:World):(callFunc 210 args).run Tryz.prog w=((Qs .frombits args).run Tryz.prog w).andThen fun v w'=>.ok (.value v) w':=run_callFunc_extern (e:=Extern.MathFloatBits.float64frombits) Tryz.func210 (by kernel_rfl) (by kernel_rfl) (by kernel_rfl) (by kernel_rfl) args w
theorem Alg (args:Array Value) (w:World):(callFunc 263 args).run Tryz.prog w=((Qs .sqrt args).run Tryz.prog w).andThen fun v w'=>.ok (.value v) w':=run_callFunc_extern (e:=Extern.MathSqrt.sqrt) Tryz.func263 (by kernel_rfl) (by kernel_rfl) (by kernel_rfl) (by kernel_rfl) args w
theorem Alf (args:Array Value) (w:World):(callFunc 266 args).run Tryz.prog w=((Qs .sub64 args).run Tryz.prog w).andThen fun v w'=>.ok (.value v) w':=run_callFunc_extern (e:=U7) Tryz.func266 (by kernel_rfl) (by kernel_rfl) (by kernel_rfl) (by kernel_rfl) args w
def Aro:List Nat:=[199,188]
theorem At9:Aak Tryz.prog 199 ⟨3,24,(.struct [(0,4),(1,3),(2,36)]),[.bool false,.int .i64 (0:Int),.int .u64 (0:Int)]⟩ where
  guard:=by kernel_rfl
  eq:=by
    intro w c x y xs ys hx hy hlx hly
    obtain ⟨a0,x1,rfl,hx1⟩:=Vb hx
    obtain ⟨a1,x2,rfl,hx2⟩:=Hy hx1
    obtain ⟨a2,x3,rfl,hx3⟩:=Hy hx2
    obtain rfl:=O9 hx3
    obtain ⟨b0,y1,rfl,hy1⟩:=Vb hy
    obtain ⟨b1,y2,rfl,hy2⟩:=Hy hy1
    obtain ⟨b2,y3,rfl,hy3⟩:=Hy hy2
    obtain rfl:=O9 hy3
    obtain ⟨xs⟩:=xs
    obtain ⟨ys⟩:=ys
    simp only [A3.Ce,A3.Fm,Aj] at hlx hly
    obtain ⟨_,_,rfl,rfl,_,_,rfl,rfl,_,_,rfl,rfl,rfl⟩:=hlx
    obtain ⟨_,_,rfl,rfl,_,_,rfl,rfl,_,_,rfl,rfl,rfl⟩:=hly
    have hu:Tryz.prog.underlying 199=some (.struct (Tryz.prog.fieldsOf 199)):=by kernel_rfl
    have hp:Tryz.prog.stoodInHeld 199=false:=by kernel_rfl
    unfold Op.equal Op.maxDepth
    rw [run_equalIn_struct w 9999 199 _ _ hu hp]
    have hfs:Tryz.prog.fieldsOf 199=(match Tryz.prog.underlying 199 with | some (.struct fs)=>fs | _=>#[]):=rfl
    rw [hfs,Tryz.underlying199]
    simp [Op.eqFields,Kh w ty3 rfl,Kh w ty4 rfl,Kh w Asb rfl,run_equalIn_int w _ _ _ _ _ _ Tryz.underlying3,run_equalIn_bool w _ _ _ _ Tryz.underlying4,run_equalIn_int w _ _ _ _ _ _ Tryz.underlying36,Ya,Wh]
    by_cases h0:a0=b0<;>by_cases h1:a1=b1<;>by_cases h2:a2=b2<;>simp [h0,h1,h2]
theorem Aua:Aak Tryz.prog 188 ⟨2,16,(.array 2 3),[.int .i64 (0:Int),.int .i64 (0:Int)]⟩ where
  guard:=by kernel_rfl
  eq:=by
    intro w c x y xs ys hx hy hlx hly
    obtain ⟨a0,x1,rfl,hx1⟩:=Hy hx
    obtain ⟨a1,x2,rfl,hx2⟩:=Hy hx1
    obtain rfl:=O9 hx2
    obtain ⟨b0,y1,rfl,hy1⟩:=Hy hy
    obtain ⟨b1,y2,rfl,hy2⟩:=Hy hy1
    obtain rfl:=O9 hy2
    obtain ⟨xs⟩:=xs
    obtain ⟨ys⟩:=ys
    simp only [A3.Ce,A3.Fm,Aj] at hlx hly
    obtain ⟨_,_,rfl,rfl,_,_,rfl,rfl,rfl⟩:=hlx
    obtain ⟨_,_,rfl,rfl,_,_,rfl,rfl,rfl⟩:=hly
    obtain ⟨i,_,hi,_⟩:=ty3.info
    have hc:Tryz.prog.cellsOf 3=1:=by kernel_rfl
    unfold Op.equal Op.maxDepth
    rw [run_equalIn_array w 9999 _ _ Tryz.underlying188 hi,hc]
    simp [Op.eqItems,List.range,List.range.loop,Kh w ty3 rfl,run_equalIn_int w _ _ _ _ _ _ Tryz.underlying3,Ya,Wh]
    by_cases h0:a0=b0<;>by_cases h1:a1=b1<;>simp [h0,h1]
def Be (Bb:Nat→Option Entry) (adopt:Nat→Bool) (hint:Nat→Option A9) (live:Nat→Option (List Nat)):Env:={ ty:=Ais tys,Bb:=Bb,ext:=Acn exts,eqs:=fun t=>Km t Aro,adopt:=adopt,live:=live,hint:=hint }
theorem A0 {l:List (Nat × Entry)} (h:Az Tryz.prog l) (adopt:Nat→Bool) (hint:Nat→Option A9) (live:Nat→Option (List Nat)):H7 Tryz.prog (Be (Ba l) adopt hint live) where
  ty:=fun t ti ht=>Ap2.get ht
  Bb:=fun g e hg=>(h.get hg).meets
  call:=fun g e hg=>(h.get hg).call
  ext:=by
    intro g x hx args w
    simp only [Be,exts,Acn] at hx
    cases hb:Nat.beq 169 g with
    | true =>
      rw [hb] at hx
      cases hx
      obtain rfl:=Au2 hb
      exact Ali args w
    | false =>
    rw [hb,Auo] at hx
    clear hb
    cases hb:Nat.beq 210 g with
    | true =>
      rw [hb] at hx
      cases hx
      obtain rfl:=Au2 hb
      exact Alh args w
    | false =>
    rw [hb,Auo] at hx
    clear hb
    cases hb:Nat.beq 263 g with
    | true =>
      rw [hb] at hx
      cases hx
      obtain rfl:=Au2 hb
      exact Alg args w
    | false =>
    rw [hb,Auo] at hx
    clear hb
    cases hb:Nat.beq 266 g with
    | true =>
      rw [hb] at hx
      cases hx
      obtain rfl:=Au2 hb
      exact Alf args w
    | false =>
    rw [hb,Auo] at hx
    clear hb
    cases hx
  eqs:=by
    intro t ti ht hti
    simp only [Be,Aro,Km] at ht hti
    cases hb:Nat.beq t 199 with
    | true =>
      obtain rfl:=Au2 hb
      cases hti
      exact At9
    | false =>
    rw [hb,Auo] at ht
    clear hb
    cases hb:Nat.beq t 188 with
    | true =>
      obtain rfl:=Au2 hb
      cases hti
      exact Aua
    | false =>
    rw [hb,Auo] at ht
    clear hb
    cases ht
  mixed:=by kernel_rfl
def Apr:List (Nat × Ext):=[(169,.bitsN),(210,.frombits),(263,.sqrt),(266,.sub64)]
def Aps:List (Nat × List CK)→Nat→List CK
  | [],_=>[]
  | (m,e)::l,n=>bif Nat.beq m n then e else Aps l n
def Aep (Bb:Nat→Option Entry) (adopt:Nat→Bool) (hint:Nat→Option A9) (live:Nat→Option (List Nat)) (adv:Nat→List CK):Env:={ ty:=Ais tys,Bb:=Bb,ext:=Acn Apr,eqs:=fun t=>Km t Aro,adopt:=adopt,live:=live,hint:=hint,adv:=adv }
theorem Aoq {l:List (Nat × Entry)} (h:Az Tryz.prog l) (adopt:Nat→Bool) (hint:Nat→Option A9) (live:Nat→Option (List Nat)) (adv:Nat→List CK):H7 Tryz.prog (Aep (Ba l) adopt hint live adv) :=
  have k:=A0 h adopt hint live
  ⟨k.ty,k.Bb,k.call,(by
    intro g x hx args w
    simp only [Aep,Apr,Acn] at hx
    cases hb:Nat.beq 169 g with
    | true =>
      rw [hb] at hx
      cases hx
      obtain rfl:=Au2 hb
      exact Ali args w
    | false =>
    rw [hb,Auo] at hx
    clear hb
    cases hb:Nat.beq 210 g with
    | true =>
      rw [hb] at hx
      cases hx
      obtain rfl:=Au2 hb
      exact Alh args w
    | false =>
    rw [hb,Auo] at hx
    clear hb
    cases hb:Nat.beq 263 g with
    | true =>
      rw [hb] at hx
      cases hx
      obtain rfl:=Au2 hb
      exact Alg args w
    | false =>
    rw [hb,Auo] at hx
    clear hb
    cases hb:Nat.beq 266 g with
    | true =>
      rw [hb] at hx
      cases hx
      obtain rfl:=Au2 hb
      exact Alf args w
    | false =>
    rw [hb,Auo] at hx
    clear hb
    cases hx),k.eqs,k.mixed,k.spoil⟩
end Go.Proofs.S1
namespace Go.Rnd
def L5 (V k:Nat):Nat:=V / 2^k+(if 2^k<2*(V%2^k)∨(2*(V%2^k)=2^k∧V / 2^k%2=1) then 1 else 0)
def Iy (V:Nat) (s:Int):Nat:=L5 (V*2^(-s).toNat) s.toNat
def K1 (V:Nat) (s:Int):Bool:=decide (V*2^(-s).toNat%2^s.toNat=0)
def Cc (M:Nat) (E:Int):Int:=max (E+M.log2-52) (-1074)
def kept (M:Nat) (E:Int):Nat:=Iy M (Cc M E-E)
def Gg:Nat:=2047*2^52
def B8 (M:Nat) (E:Int):Nat:=if M=0 then 0 else min ((Cc M E+1074).toNat*2^52+kept M E) Gg
def exact (M:Nat) (E:Int):Bool:=K1 M (Cc M E-E)
def flags (r:Nat) (ex:Bool):Nat:=if r=Gg then 5 else if ex then 0 else if 2^52≤r then 1 else 3
def flagsOf (M:Nat) (E:Int):Nat:=if M=0 then 0 else flags (B8 M E) (exact M E)
theorem B9 (k:Nat):0<2^k:=Nat.pow_pos (by decide)
theorem Mg (V:Nat):L5 V 0=V:=by
  unfold L5; simp [Nat.mod_one]
theorem Rk (V a k:Nat):L5 (V*2^a) (a+k)=L5 V k:=by
  unfold L5
  have hA:=B9 a
  have e:2^(a+k)=2^a*2^k:=Nat.pow_add 2 a k
  have hd:V*2^a / 2^(a+k)=V / 2^k:=by
    rw [e,Nat.mul_comm V,Nat.mul_div_mul_left _ _ hA]
  have hm:V*2^a%2^(a+k)=2^a*(V%2^k):=by
    rw [e,Nat.mul_comm V,Nat.mul_mod_mul_left]
  rw [hd,hm,e]
  have h1:(2^a*2^k<2*(2^a*(V%2^k)))↔(2^k<2*(V%2^k)):=by
    rw [Nat.mul_left_comm 2]
    exact Nat.mul_lt_mul_left hA
  have h2:(2*(2^a*(V%2^k))=2^a*2^k)↔(2*(V%2^k)=2^k):=by
    rw [Nat.mul_left_comm 2]
    exact Nat.mul_right_inj (by omega)
  simp only [h1,h2]
theorem mod_mul (V a k:Nat):(V*2^a%2^(a+k)=0)↔(V%2^k=0):=by
  have hA:=B9 a
  rw [Nat.pow_add,Nat.mul_comm V,Nat.mul_mod_mul_left]
  constructor
  · intro h
    rcases Nat.mul_eq_zero.1 h with h | h
    · omega
    · exact h
  · intro h; rw [h]; rfl
theorem Tp (V k:Nat) (s:Int):Iy (V*2^k) (s+k)=Iy V s∧K1 (V*2^k) (s+k)=K1 V s:=by
  unfold Iy K1
  by_cases h0:0≤s
  · have e1:(-(s+k)).toNat=0:=by omega
    have e2:(-s).toNat=0:=by omega
    have e3:(s+k).toNat=k+s.toNat:=by omega
    rw [e1,e2,e3,Nat.pow_zero,Nat.mul_one,Nat.mul_one]
    exact ⟨Rk V k _,by simp only [mod_mul]⟩
  · by_cases h1:0≤s+k
    · have e1:(-(s+k)).toNat=0:=by omega
      have e2:s.toNat=0:=by omega
      have e3:k=(s+k).toNat+(-s).toNat:=by omega
      rw [e1,e2,Nat.pow_zero,Nat.mul_one]
      have e4:V*2^k=V*2^(-s).toNat*2^(s+k).toNat:=by
        rw [Nat.mul_assoc,← Nat.pow_add,Nat.add_comm (-s).toNat,← e3]
      rw [e4]
      refine ⟨?_,?_⟩
      · have:=Rk (V*2^(-s).toNat) (s+k).toNat 0
        rw [Nat.add_zero] at this; exact this
      · have:=mod_mul (V*2^(-s).toNat) (s+k).toNat 0
        rw [Nat.add_zero,Nat.pow_zero] at this
        simp only [this]
    · have e1:(s+k).toNat=0:=by omega
      have e2:s.toNat=0:=by omega
      have e3:(-s).toNat=k+(-(s+k)).toNat:=by omega
      rw [e1,e2,e3,Nat.pow_add,Nat.mul_assoc]
      exact ⟨rfl,rfl⟩
theorem Oo (M k:Nat) (hM:M≠0):(M*2^k).log2=M.log2+k:=by
  have hk:=B9 k
  have hne:M*2^k≠0:=by
    intro h
    rcases Nat.mul_eq_zero.1 h with h | h<;>omega
  have h1:=Nat.log2_self_le hM
  have h2:=Nat.lt_log2_self (n:=M)
  have a:M.log2+k≤(M*2^k).log2:=by
    rw [Nat.le_log2 hne,Nat.pow_add]
    exact Auw _ h1
  have b:(M*2^k).log2<M.log2+k+1:=by
    rw [Nat.log2_lt hne,Nat.add_right_comm,Nat.pow_add]
    exact (Nat.mul_lt_mul_right hk).2 h2
  omega
theorem Uo {n a:Nat} (h1:2^a≤n) (h2:n<2^(a+1)):n.log2=a:=by
  have:=B9 a
  have hn:n≠0:=by omega
  have b1:=(Nat.le_log2 hn).2 h1
  have b2:=(Nat.log2_lt hn).2 h2
  omega
theorem Aeg (M k:Nat) (E:Int) (hM:M≠0):Cc (M*2^k) (E-k)=Cc M E:=by
  unfold Cc; rw [Oo M k hM]; congr 1; omega
theorem Ja {M k:Nat} (hM:M≠0):M*2^k≠0:=by
  have:=B9 k
  intro h
  rcases Nat.mul_eq_zero.1 h with h | h<;>omega
theorem Dl (M k:Nat) (E:Int):B8 (M*2^k) (E-k)=B8 M E∧flagsOf (M*2^k) (E-k)=flagsOf M E:=by
  by_cases hM:M=0
  · subst hM; simp [B8,flagsOf]
  · have hl:=Aeg M k E hM
    have e:Cc M E-(E-k)=Cc M E-E+k:=by omega
    have h1:B8 (M*2^k) (E-k)=B8 M E:=by
      unfold B8 kept
      rw [if_neg (Ja hM),if_neg hM,hl,e,(Tp M k _).1]
    refine ⟨h1,?_⟩
    unfold flagsOf
    rw [if_neg (Ja hM),if_neg hM,h1]
    unfold exact
    rw [hl,e,(Tp M k _).2]
theorem Aji {V s d k:Nat} (hs:s%2=1) (h1:(s-1)*2^d<V) (h2:V<(s+1)*2^d) (hk:2≤k) :
    L5 V (d+k)=L5 s k∧V%2^(d+k)≠0∧s%2^k≠0:=by
  have hA:=B9 d
  obtain ⟨j,rfl⟩:∃ j,k=j+2:=⟨k-2,by omega⟩
  have hB:2^(j+2)=4*2^j:=by rw [Nat.pow_add]; omega
  have hBp:=B9 (j+2)
  have hC:=B9 j
  have hsd:=Nat.div_add_mod s (2^(j+2))
  have hr2:s%2^(j+2)%2=1:=by
    rw [hB,show 4*2^j=2*(2*2^j) by omega,Nat.mod_mul_right_mod]; exact hs
  have hrlt:=Nat.mod_lt s hBp
  generalize hq:s / 2^(j+2)=q at *
  generalize hr:s%2^(j+2)=r at *
  have hAB:2^(d+(j+2))=2^d*2^(j+2):=Nat.pow_add 2 d (j+2)
  generalize hBB:2^(j+2)=b at *
  generalize hAA:2^d=a at *
  have e1:(s-1)*a=q*(a*b)+(r-1)*a:=by
    have:s-1=b*q+(r-1):=by omega
    rw [this,Nat.add_mul,Nat.mul_comm b q,Nat.mul_assoc,Nat.mul_comm b a]
  have e2:(s+1)*a=q*(a*b)+(r+1)*a:=by
    have:s+1=b*q+(r+1):=by omega
    rw [this,Nat.add_mul,Nat.mul_comm b q,Nat.mul_assoc,Nat.mul_comm b a]
  have e3:(r+1)*a≤b*a:=Auw a (by omega)
  rw [Nat.mul_comm b a] at e3
  rw [e1] at h1
  rw [e2] at h2
  have hdiv:V / (a*b)=q:=Nat.div_eq_of_lt_le (by omega) (by rw [Nat.add_mul]; omega)
  have hmod:V%(a*b)=V-q*(a*b):=by
    have:=Nat.div_add_mod V (a*b)
    rw [hdiv,Nat.mul_comm (a*b) q] at this; omega
  have hb2:b=2*(2*2^j):=by omega
  generalize hc:2^j=c at *
  have hR1:(r-1)*a<V-q*(a*b):=by omega
  have hR2:V-q*(a*b)<(r+1)*a:=by omega
  generalize hR:V-q*(a*b)=R at *
  have hab:a*b=2*(2*c*a):=by rw [hb2,Nat.mul_comm a,Nat.mul_assoc]
  have key:(a*b<2*R∨(2*R=a*b∧q%2=1))↔(b<2*r∨(2*r=b∧q%2=1)):=by
    rw [hab,hb2]
    rcases Nat.lt_or_ge r (2*c) with hlt | hge
    · have:(r+1)*a≤2*c*a:=Auw a (by omega)
      constructor<;>(intro h; omega)
    · have hgt:2*c+1≤r:=by omega
      have:2*c*a≤(r-1)*a:=Auw a (by omega)
      constructor
      · intro _; left; omega
      · intro _; left; omega
  refine ⟨?_,?_,?_⟩
  · unfold L5
    rw [hAB,hdiv,hmod,hBB,hq,hr]
    simp only [key]
  · rw [hAB,hmod]
    have:=Nat.zero_le ((r-1)*a)
    omega
  · omega
theorem Oa {V s d:Nat} {E:Int} (hs:s%2=1) (h1:(s-1)*2^d<V) (h2:V<(s+1)*2^d) (hl:Cc V E=Cc s (E+d)) (hk:E+d+2≤Cc s (E+d)) :
    B8 V E=B8 s (E+d)∧flagsOf V E=flagsOf s (E+d):=by
  have hV:V≠0:=by omega
  have hs0:s≠0:=by omega
  generalize hL:Cc s (E+d)=L at *
  obtain ⟨k,hk2⟩:∃ k:Nat,L-(E+d)=k+2:=⟨(L-(E+d)-2).toNat,by omega⟩
  obtain ⟨a1,a2,a3⟩:=Aji (k:=k+2) hs h1 h2 (by omega)
  have e1:(L-E).toNat=d+(k+2):=by omega
  have e2:(-(L-E)).toNat=0:=by omega
  have e3:(L-(E+d)).toNat=k+2:=by omega
  have e4:(-(L-(E+d))).toNat=0:=by omega
  have hr:B8 V E=B8 s (E+d):=by
    unfold B8 kept Iy
    rw [if_neg hV,if_neg hs0,hl,hL,e1,e2,e3,e4]
    simp only [Nat.pow_zero,Nat.mul_one]
    rw [a1]
  refine ⟨hr,?_⟩
  unfold flagsOf exact K1
  rw [if_neg hV,if_neg hs0,hr,hl,hL,e1,e2,e3,e4]
  simp only [Nat.pow_zero,Nat.mul_one,a2,a3,decide_false]
theorem On {V s d:Nat} (hs:s%2=1) (hs3:3≤s) (h1:(s-1)*2^d<V) (h2:V<(s+1)*2^d):V.log2=s.log2+d:=by
  have hs0:s≠0:=by omega
  have a1:=Nat.log2_self_le hs0
  have a2:=Nat.lt_log2_self (n:=s)
  have hl:1≤s.log2:=by rw [Nat.le_log2 hs0]; omega
  obtain ⟨t,ht⟩:∃ t,s.log2=t+1:=⟨s.log2-1,by omega⟩
  rw [ht] at a1 a2 ⊢
  have ev1:2^(t+1)=2*2^t:=by rw [Nat.pow_succ]; omega
  have ev2:2^(t+1+1)=2*(2*2^t):=by rw [Nat.pow_succ,ev1]; omega
  refine Uo ?_ ?_
  · rw [Nat.pow_add]
    have:2^(t+1)*2^d≤(s-1)*2^d:=Auw _ (by omega)
    omega
  · have e:t+1+d+1=(t+1+1)+d:=by omega
    rw [e,Nat.pow_add]
    have:(s+1)*2^d≤2^(t+1+1)*2^d:=Auw _ (by omega)
    omega
end Go.Rnd
namespace Go.Rnd
def Cs (b:Nat):Bool:=decide (2^63≤b)
def Em (b:Nat):Nat:=b / 2^52%2048
def Dt (b:Nat):Nat:=b%2^52
def Ao (b:Nat):Nat:=if Em b=2047 then (if Dt b=0 then 3 else 4) else if 0<Em b then 2 else if 0<Dt b then 1 else 0
def Ir (b:Nat):Bool:=decide (Em b<2047)
def Qn (b:Nat):Nat:=if 2^63≤b then b-2^63 else b+2^63
def Aq (b:Nat):Nat:=if Em b=0 then Dt b else Dt b+2^52
def Ax (b:Nat):Int:=if Em b=0 then -1074 else (Em b:Int)-1075
def B1 (neg:Bool) (r:Nat):Nat:=if neg then 2^63+r else r
def H8 (neg:Bool) (m:Nat):Int:=if neg then -(m:Int) else m
def Gp (b:Nat) (e:Int):Int:=H8 (Cs b) (Aq b*2^(Ax b-e).toNat)
def W9:Nat:=0x7ff8000000000000
def J1 (z:Nat) (S:Int) (e:Int):Nat × Nat :=
  if S=0 then (z,0) else (B1 (decide (S<0)) (B8 S.natAbs e),flagsOf S.natAbs e)
def H9 (a b:Nat):Nat × Nat :=
  if Ao a=4∨Ao b=4 then (W9,0)
  else if Ao a=3 then (if Ao b=3∧a≠b then (W9,16) else (a,0))
  else if Ao b=3 then (b,0)
  else J1 (B1 (Cs a&&Cs b) 0) (Gp a (min (Ax a) (Ax b))+Gp b (min (Ax a) (Ax b))) (min (Ax a) (Ax b))
def Aqi (a b:Nat):Nat × Nat:=H9 a (Qn b)
def Fq (neg:Bool) (m:Nat) (e:Int) (more:Bool):Nat × Nat :=
  (B1 neg (B8 (4*m+more.toNat) (e-2)),flagsOf (4*m+more.toNat) (e-2))
def Dp (x:Int):Bool:=Cs x.toNat
def J2 (x:Int):Int:=Em x.toNat
def Ci (x:Int):Int:=Dt x.toNat
def A1 (x:Int):Int:=Ao x.toNat
def Cv (x:Int):Bool:=Ir x.toNat
def Dm (x:Int):Int:=Qn x.toNat
def Bh (x:Int):Int:=Aq x.toNat
def Aw (x:Int):Int:=Ax x.toNat
def Eb (neg:Bool) (m e:Int) (more:Bool):Int:=(Fq neg m.toNat e more).1
def Ea (neg:Bool) (m e:Int) (more:Bool):Int:=(Fq neg m.toNat e more).2
def Kc (a b:Int):Int:=(H9 a.toNat b.toNat).1
def T4 (a b:Int):Int:=(H9 a.toNat b.toNat).2
def Dk (a b:Int):Int:=(Aqi a.toNat b.toNat).1
def Atv (a b:Int):Int:=(Aqi a.toNat b.toNat).2
theorem Ij (b:Nat):Em b<2048:=Nat.mod_lt _ (by decide)
theorem Mp (b:Nat):Dt b<4503599627370496:=Nat.mod_lt _ (by decide)
theorem Ei (b:Nat):Aq b<9007199254740992:=by
  have:=Mp b
  unfold Aq; split<;>omega
theorem Di (b:Nat):-1074≤Ax b∧Ax b≤972:=by
  have:=Ij b
  unfold Ax; split<;>omega
theorem Pc {m:Nat} {e:Int} (h1:2^52≤m) (h2:m<2^53) (he:-1074≤e):B8 m e=min ((e+1074).toNat*2^52+m) Gg:=by
  have hl:m.log2=52:=Uo h1 h2
  have hm:m≠0:=by omega
  have hle:Cc m e=e:=by unfold Cc; rw [hl]; omega
  unfold B8 kept
  rw [if_neg hm,hle,Int.sub_self]
  unfold Iy
  simp [Mg]
theorem Vc {m:Nat} (h2:m<2^52):B8 m (-1074)=m:=by
  by_cases hm:m=0
  · subst hm; rfl
  · have hl:m.log2<52:=(Nat.log2_lt hm).2 h2
    have hle:Cc m (-1074)=-1074:=by unfold Cc; omega
    unfold B8 kept
    rw [if_neg hm,hle,Int.sub_self]
    unfold Iy Gg
    simp [Mg]
    omega
theorem Y3 (m:Nat) (e:Int):B8 m e≤Gg:=by
  unfold B8
  split
  · exact Nat.zero_le _
  · exact Nat.min_le_right _ _
theorem Jk:Gg=9218868437227405312:=rfl
theorem Pd (m:Nat) (e:Int):B8 m e<2^63:=by
  have:=Y3 m e
  rw [Jk] at this
  omega
theorem Q9 (n:Bool) (m:Nat) (e:Int):B1 n (B8 m e)<2^64:=by
  have:=Pd m e
  unfold B1; split<;>omega
theorem Vx {r:Nat} (h:r<2^63):Qn r=2^63+r:=by
  unfold Qn; rw [if_neg (by omega)]; omega
end Go.Rnd
namespace Go.Rnd
open Go.Den
def Jj (m e:Int):Bool:=Cr (0≤m∧m≤9007199254740992∧-1074≤e∧e+m / 9007199254740992≤100000)
def M4 (m e:Int):Nat:=if 9007199254740992≤m then 1 else if m<4503599627370496 then 2+(e+1074).toNat else 0
def Rn (n:Bool) (m e:Int):Int:=B1 n (B8 m.toNat e)
def Ds (m e:Int) (r:Bool):Bool :=
  Cr (0≤m∧m<18446744073709551616∧e≤50000∧(-1137≤e∨(m<4611686018427387904∧-1140≤e))∧(r=true→4503599627370496≤m∨e≤-1074))
def E1 (n D:Nat):Nat:=if n%2^D=0 then n / 2^D else 2*(n / 2^D / 2)+1
def Ej (m d:Int):Int:=E1 m.toNat (min d.toNat 63)
def Cw (l:List Int):Bool:=Cr (l.length<4611686018427387904∧∀ x∈l,Ai x=true)
def Nx (x:Int):Bool:=Cr (0≤x)
theorem Oh (n:Nat):Nx (n:Int)=true:=Ap.2 (Int.natCast_nonneg n)
theorem Vt {x:Int} (h:Nx x=true):∃ n:Nat,x=n:=⟨x.toNat,by have:=Ap.1 h; omega⟩
end Go.Rnd
namespace Go.Rnd
theorem Aty (a c:Nat):(a+1)*c+c=a*c+(c+c):=by rw [Nat.add_mul,Nat.one_mul,Nat.add_assoc]
theorem Asw:2^52+2^52=2^53:=by decide
theorem Atx (a:Nat):(a+1)*2^52+2^52=a*2^52+2^53:=(Aty a (2^52)).trans (congrArg (fun x=>a*2^52+x) Asw)
theorem Ap3:2^52*2^1=2^53:=by decide
theorem Anb {E:Int}:B8 (2^53) E=B8 (2^52) (E+1):=by
  have:=(Dl (2^52) 1 (E+1)).1
  have e1:E+1-((1:Nat):Int)=E:=by omega
  rw [e1,Ap3] at this
  exact this
theorem Aje {E:Int} (hE:-1074≤E):B8 (2^53) E=min ((E+1074).toNat*2^52+2^53) Gg:=by
  have e3:(E+1+1074).toNat=(E+1074).toNat+1:=by omega
  rw [Anb,Pc (by decide) (by decide) (by omega),e3]
  exact congrArg (fun x=>min x Gg) (Atx _)
theorem Agr {q:Nat} {E:Int} (h1:q≤2^53) (hE:-1074≤E) (h2:2^52≤q∨E=-1074):B8 q E=min ((E+1074).toNat*2^52+q) Gg:=by
  by_cases ha:q=2^53
  · rw [ha]; exact Aje hE
  · by_cases hb:2^52≤q
    · exact Pc hb (by omega) hE
    · obtain rfl:E=-1074:=h2.resolve_left hb
      rw [Vc (by omega)]
      unfold Gg
      simp
      omega
theorem Agx {M D s:Nat} (hs:s≤1):L5 (4*M+s) (D+2)=M / 2^D+(if 0<D∧(2^(D-1)<M%2^D∨(M%2^D=2^(D-1)∧(s=1∨M / 2^D%2=1))) then 1 else 0) ∧
    ((4*M+s)%2^(D+2)=0↔M%2^D=0∧s=0):=by
  have hp:2^(D+2)=2^D*4:=by rw [Nat.pow_add]
  have hA:=B9 D
  have hdm:=Nat.div_add_mod M (2^D)
  have hlt:=Nat.mod_lt M hA
  have hdiv:(4*M+s) / (2^D*4)=M / 2^D:=by
    rw [Nat.mul_comm (2^D) 4,← Nat.div_div_eq_div_mul]
    congr 1; omega
  have hmod:(4*M+s)%(2^D*4)=4*(M%2^D)+s:=by
    have h:=Nat.div_add_mod (4*M+s) (2^D*4)
    rw [hdiv] at h
    have e:2^D*4*(M / 2^D)=4*(2^D*(M / 2^D)):=by rw [Nat.mul_comm (2^D) 4,Nat.mul_assoc]
    rw [e] at h
    omega
  unfold L5
  rw [hp,hdiv,hmod]
  generalize M%2^D=r at *
  generalize M / 2^D=q at *
  refine ⟨?_,by omega⟩
  congr 1
  have key:(2^D*4<2*(4*r+s)∨2*(4*r+s)=2^D*4∧q%2=1)↔(0<D∧(2^(D-1)<r∨(r=2^(D-1)∧(s=1∨q%2=1)))):=by
    cases D with
    | zero=>simp only [Nat.pow_zero] at hlt ⊢; omega
    | succ d =>
      rw [Nat.pow_succ] at hlt ⊢
      simp only [Nat.add_sub_cancel]
      generalize 2^d=c at *
      omega
  simp only [key]
structure Drop (M:Nat) (e:Int) (D:Nat):Prop where
  le:D≤63
  stop:D<63→M / 2^D<2^53∧-1074≤e+D
  least:∀ d,d<D→2^53≤M / 2^d∨e+d < -1074
def qOf (M D s:Nat):Nat:=M / 2^D+(if 0<D∧(2^(D-1)<M%2^D∨(M%2^D=2^(D-1)∧(s=1∨M / 2^D%2=1))) then 1 else 0)
theorem Ajl {M D s:Nat} (h:M / 2^D<2^53):qOf M D s≤2^53:=by
  unfold qOf; split<;>omega
theorem Ajm {M D s:Nat}:M / 2^D≤qOf M D s:=by unfold qOf; omega
theorem Arr {M D:Nat} {c:Nat} (h:M / 2^D<c):M<c*2^D:=(Nat.div_lt_iff_lt_mul (B9 D)).1 h
theorem Akt {M D:Nat} {c:Nat} (h:c≤M / 2^D):c*2^D≤M:=(Nat.le_div_iff_mul_le (B9 D)).1 h
theorem V5 {V:Nat} {E L:Int} (h:(E+V.log2-52=L∧-1074≤L)∨(E+V.log2-52≤L∧L=-1074)):Cc V E=L:=by unfold Cc; omega
theorem Ahj {M s:Nat} (hs:s≤1) (hM:M≠0):(4*M+s).log2=M.log2+2:=by
  have h1:=Nat.log2_self_le hM
  have h2:=Nat.lt_log2_self (n:=M)
  refine Uo ?_ ?_
  · rw [Nat.pow_add]; omega
  · have e:2^(M.log2+2+1)=2^(M.log2+1)*4:=by rw [show M.log2+2+1=M.log2+1+2 by omega,Nat.pow_add]
    omega
theorem Aha {M D s:Nat} {e:Int} (hD:Drop M e D) (hs:s≤1) (hV:4*M+s≠0) (hM:M<2^64) (he:-1137≤e∨(M<2^62∧-1140≤e)) (hr:s=1→2^52≤M∨e≤-1074) :
    B8 (4*M+s) (e-2)=B8 (if e+D < -1074 then 0 else qOf M D s) (max (e+D) (-1074)) ∧
    flagsOf (4*M+s) (e-2)=flags (B8 (4*M+s) (e-2)) (decide (M%2^D=0∧s=0)) ∧
    (if e+D < -1074 then 0 else qOf M D s)≤2^53:=by
  have hA:=B9 D
  by_cases hlow:e+D < -1074
  ·
    have hD63:D=63:=by
      rcases Nat.lt_or_ge D 63 with h | h
      · have:=(hD.stop h).2; omega
      · have:=hD.le; omega
    subst hD63
    have hM62:M<2^62:=by rcases he with h | h; omega; exact h.1
    have he2:-1140≤e:=by rcases he with h | h; omega; exact h.2
    have hV64:4*M+s<2^64:=by omega
    have hlog:(4*M+s).log2<64:=(Nat.log2_lt hV).2 hV64
    have hl:Cc (4*M+s) (e-2)=-1074:=V5 (.inr ⟨by omega,rfl⟩)
    obtain ⟨k,hk⟩:∃ k:Nat,(-1074-(e-2)).toNat=66+k:=⟨(-1074-(e-2)).toNat-66,by omega⟩
    have e2:(-(-1074-(e-2))).toNat=0:=by omega
    have hp:2^66≤2^(66+k):=Auz (by decide) (by omega)
    have hsm:4*M+s<2^(66+k):=by omega
    have hz:Iy (4*M+s) (-1074-(e-2))=0:=by
      unfold Iy L5
      rw [e2,hk,Nat.pow_zero,Nat.mul_one,Nat.div_eq_of_lt hsm,Aux hsm,if_neg (by omega)]
    have hru:B8 (4*M+s) (e-2)=0:=by
      unfold B8 kept
      rw [if_neg hV,hl,hz]
      simp
    refine ⟨?_,?_,?_⟩
    · rw [hru,if_pos hlow]; rfl
    · unfold flagsOf exact K1
      rw [if_neg hV,hl,e2,hk,Nat.pow_zero,Nat.mul_one,Aux hsm]
      congr 1
      have h63:M%2^63=M:=Aux (by omega)
      rw [h63,Au0]
      simp only [Aur]
      omega
    · rw [if_pos hlow]; exact Nat.zero_le _
  · have hmax:max (e+D) (-1074)=e+D:=by omega
    have hq:M / 2^D<2^53:=by
      rcases Nat.lt_or_ge D 63 with h | h
      · exact (hD.stop h).1
      · have:D=63:=by have:=hD.le; omega
        subst this
        exact Nat.lt_of_le_of_lt (Nat.div_le_of_le_mul (show M≤2^63*2 by omega)) (by decide)
    obtain ⟨c1,c2⟩:=Agx (M:=M) (D:=D) hs
    rw [if_neg hlow,hmax]
    refine ⟨?_,?_,Ajl hq⟩
    all_goals
      by_cases hD0:D=0∧s=0
      · obtain ⟨rfl,rfl⟩:=hD0
        have hM0:M≠0:=by omega
        obtain ⟨s1,s2⟩:=Dl M 2 e
        have e1:M*2^2=4*M+0:=by omega
        have e2:e-((2:Nat):Int)=e-2:=by omega
        rw [e1,e2] at s1 s2
        have hq0:qOf M 0 0=M:=by unfold qOf; simp
        have hle:Cc M e≤e:=by
          have:M.log2<53:=(Nat.log2_lt hM0).2 (by simpa using hq)
          unfold Cc; simp only [Int.natCast_zero,Int.add_zero] at hlow; omega
        first
        | (rw [s1,hq0]; simp; done)
        | (rw [s2,s1]
           unfold flagsOf exact K1
           have z:(Cc M e-e).toNat=0:=by omega
           rw [if_neg hM0,z]
           simp [Nat.mod_one])
      ·
        have hl:Cc (4*M+s) (e-2)=e+D:=by
          by_cases hM0:M=0
          · subst hM0
            have hs1:s=1:=by omega
            subst hs1
            have hle:e+D=-1074:=by
              rcases Nat.eq_zero_or_pos D with rfl | hpos
              · have:=hr rfl; omega
              · have h:=hD.least (D-1) (by omega)
                simp only [Nat.zero_div] at h
                omega
            refine V5 (.inr ⟨?_,hle⟩)
            have:(4*0+1:Nat).log2=0:=by decide
            rw [this]; omega
          · have hlog:=Ahj hs hM0
            have hub:M.log2<53+D:=by
              rw [Nat.log2_lt hM0,Nat.pow_add]; exact Arr hq
            have hcase:52+D≤M.log2∨e+D=-1074:=by
              rcases Nat.eq_zero_or_pos D with rfl | hpos
              · have hs1:s=1:=by omega
                rcases hr hs1 with h | h
                · left; rw [Nat.le_log2 hM0]; simpa using h
                · right; simp only [Int.natCast_zero,Int.add_zero] at hlow ⊢; omega
              · rcases hD.least (D-1) (by omega) with h | h
                · left
                  rw [Nat.le_log2 hM0]
                  have:=Akt h
                  have e1:2^(52+D)=2^53*2^(D-1):=by rw [← Nat.pow_add]; congr 1; omega
                  rw [e1]; exact this
                · right; omega
            refine V5 ?_
            rw [hlog]
            rcases hcase with h | h
            · left; omega
            · right; omega
        have e1:(e+D-(e-2)).toNat=D+2:=by omega
        have e2:(-(e+(D:Int)-(e-2))).toNat=0:=by omega
        have hkept:kept (4*M+s) (e-2)=qOf M D s:=by
          unfold kept Iy
          rw [hl,e1,e2,Nat.pow_zero,Nat.mul_one,c1]; rfl
        first
        | (have hbig:2^52≤qOf M D s∨e+D=-1074:=by
             rcases Nat.eq_zero_or_pos D with rfl | hpos
             · have hs1:s=1:=by omega
               rcases hr hs1 with h | h
               · left; exact Nat.le_trans (by simpa using h) Ajm
               · right; simp only [Int.natCast_zero,Int.add_zero] at hlow ⊢; omega
             · rcases hD.least (D-1) (by omega) with h | h
               · left
                 refine Nat.le_trans ?_ Ajm
                 rw [Nat.le_div_iff_mul_le hA]
                 have:=Akt h
                 have e1:2^52*2^D=2^53*2^(D-1):=by rw [← Nat.pow_add,← Nat.pow_add]; congr 1; omega
                 rw [e1]; exact this
               · right; omega
           rw [Agr (Ajl hq) (by omega) hbig]
           unfold B8
           rw [if_neg hV,hl,hkept]; done)
        | (unfold flagsOf exact K1
           rw [if_neg hV,hl,e1,e2,Nat.pow_zero,Nat.mul_one]
           congr 1
           rw [Au0]
           simp only [Aur]
           exact c2)
theorem Sw (n:Bool) {r:Nat} (h:r<2^63):Em (B1 n r)=r / 2^52:=by
  unfold Em B1; cases n
  · simp only [Bool.false_eq_true,if_false]; omega
  · simp only [if_true]; omega
theorem Qr (n:Bool) (r:Nat):Dt (B1 n r)=r%2^52:=by
  unfold Dt B1; cases n
  · rfl
  · simp only [if_true]; omega
theorem Ahn (n:Bool) {r:Nat} (h:r≤Gg):Ao (B1 n r)=if r=Gg then 3 else if 2^52≤r then 2 else if 0<r then 1 else 0:=by
  rw [Jk] at *
  unfold Ao
  rw [Sw n (by omega),Qr]
  by_cases h1:r=9218868437227405312
  · subst h1; simp
  · rw [if_neg h1,if_neg (by omega)]
    by_cases h2:2^52≤r
    · rw [if_pos h2,if_pos (by omega)]
    · rw [if_neg h2,if_neg (by omega)]
      by_cases h3:0<r
      · rw [if_pos h3,if_pos (by omega)]
      · rw [if_neg h3,if_neg (by omega)]
end Go.Rnd
namespace Go.Rnd
open Ieee
theorem M8 (b:Nat):(Em b=2047∧Dt b=0∧Ao b=3)∨(Em b=2047∧Dt b≠0∧Ao b=4)∨(Em b<2047∧Ao b≠3∧Ao b≠4):=by
  have:=Ij b
  unfold Ao
  by_cases h1:Em b=2047
  · by_cases h2:Dt b=0<;>simp [h1,h2]
  · refine .inr (.inr ⟨by omega,?_⟩)
    rw [if_neg h1]
    split
    · decide
    · split<;>decide
theorem Ug (b:Nat):b%2^63=Em b*2^52+Dt b:=by unfold Em Dt; omega
theorem Wt {a b:Nat} (h4:¬ (Ao a=4∨Ao b=4)) (h:Ao a≠3) (h':Ao b≠3) :
    H9 a b=J1 (B1 (Cs a&&Cs b) 0) (Gp a (min (Ax a) (Ax b))+Gp b (min (Ax a) (Ax b))) (min (Ax a) (Ax b)):=by
  unfold H9; rw [if_neg h4,if_neg h,if_neg h']
end Go.Rnd
namespace Go.Rnd
open Ieee
theorem Su {V W k:Nat} (h:V≤W):L5 V k≤L5 W k:=by
  unfold L5
  have hA:=B9 k
  have hq:V / 2^k≤W / 2^k:=Nat.div_le_div_right h
  rcases Nat.lt_or_ge (V / 2^k) (W / 2^k) with h1 | h1
  · split<;>split<;>omega
  · have he:V / 2^k=W / 2^k:=by omega
    have v:=Nat.div_add_mod V (2^k)
    have w:=Nat.div_add_mod W (2^k)
    rw [he] at v ⊢
    have hr:V%2^k≤W%2^k:=by omega
    by_cases hc:2^k<2*(V%2^k)∨2*(V%2^k)=2^k∧W / 2^k%2=1
    · have hc':2^k<2*(W%2^k)∨2*(W%2^k)=2^k∧W / 2^k%2=1:=by
        rcases hc with hc | ⟨hc,hd⟩
        · exact .inl (by omega)
        · rcases Nat.lt_or_ge (2^k) (2*(W%2^k)) with h2 | h2
          · exact .inl h2
          · exact .inr ⟨by omega,hd⟩
      rw [if_pos hc,if_pos hc']
      exact Nat.le_refl _
    · rw [if_neg hc]
      exact Nat.le_add_right _ _
theorem Anf {V c k:Nat} (h:V≤c*2^k):L5 V k≤c:=by
  have h1:=Su (k:=k) h
  have:L5 (c*2^k) k=c:=by
    have:=Rk c k 0
    rw [Nat.add_zero,Mg] at this
    exact this
  omega
theorem An8 {V c k:Nat} (h:c*2^k≤V):c≤L5 V k:=by
  have h1:=Su (k:=k) h
  have:L5 (c*2^k) k=c:=by
    have:=Rk c k 0
    rw [Nat.add_zero,Mg] at this
    exact this
  omega
theorem Adt {V W:Nat} {s:Int} (h:V≤W):Iy V s≤Iy W s:=Su (Auw _ h)
theorem Aeh {V W:Nat} {E:Int} (hV:V≠0) (h:V≤W):Cc V E≤Cc W E:=by
  have:V.log2≤W.log2:=(Nat.le_log2 (by omega)).2 (Nat.le_trans (Nat.log2_self_le hV) h)
  unfold Cc; omega
theorem Aob {V:Nat} {E:Int}:kept V E≤2^53:=by
  have hV:V<2^(V.log2+1):=Nat.lt_log2_self
  unfold kept Iy
  refine Anf ?_
  have hl:E+V.log2-52≤Cc V E:=by unfold Cc; omega
  rw [← Nat.pow_add]
  have h1:V*2^(-(Cc V E-E)).toNat≤2^(V.log2+1)*2^(-(Cc V E-E)).toNat:=Auw _ (Nat.le_of_lt hV)
  rw [← Nat.pow_add] at h1
  exact Nat.le_trans h1 (Auz (by decide) (by omega))
theorem Afx {V:Nat} {E:Int} (hV:V≠0) (hl:Cc V E=E+V.log2-52):2^52≤kept V E:=by
  have h1:2^V.log2≤V:=Nat.log2_self_le hV
  unfold kept Iy
  refine An8 ?_
  rw [← Nat.pow_add]
  have h2:2^V.log2*2^(-(Cc V E-E)).toNat≤V*2^(-(Cc V E-E)).toNat:=Auw _ h1
  rw [← Nat.pow_add] at h2
  exact Nat.le_trans (Auz (by decide) (by omega)) h2
theorem Sq {V W:Nat} {E:Int} (h:V≤W):B8 V E≤B8 W E:=by
  unfold B8
  by_cases hV:V=0
  · rw [if_pos hV]; exact Nat.zero_le _
  · have hW:W≠0:=by omega
    rw [if_neg hV,if_neg hW]
    have hl:=Aeh (E:=E) hV h
    have key:(Cc V E+1074).toNat*2^52+kept V E≤(Cc W E+1074).toNat*2^52+kept W E:=by
      rcases Int.lt_or_eq_of_le hl with h1 | h1
      · have hb:-1074≤Cc V E:=by unfold Cc; omega
        have hn:Cc W E=E+W.log2-52:=by unfold Cc at h1 hb ⊢; omega
        have k1:=Aob (V:=V) (E:=E)
        have k2:=Afx hW hn
        have h2:(Cc V E+1074).toNat+1≤(Cc W E+1074).toNat:=by omega
        have h3:((Cc V E+1074).toNat+1)*2^52≤(Cc W E+1074).toNat*2^52:=Auw _ h2
        rw [Nat.add_mul (Cc V E+1074).toNat 1 (2^52),Nat.one_mul] at h3
        omega
      · unfold kept
        rw [h1]
        exact Nat.add_le_add_left (Adt h) _
    omega
theorem Pb {b:Nat} (h4:Ao b≠4):B8 (Aq b) (Ax b)=b%2^63:=by
  have hf:Dt b<2^52:=Mp b
  have hr:=Ug b
  rw [hr]
  unfold Aq Ax
  by_cases h0:Em b=0
  · rw [if_pos h0,if_pos h0,Vc hf,h0,Nat.zero_mul,Nat.zero_add]
  · rw [if_neg h0,if_neg h0,Pc (by omega) (by omega) (by omega),Jk]
    have e:((Em b:Int)-1075+1074).toNat=Em b-1:=by omega
    rw [e]
    have h5:(Em b-1)*2^52+(Dt b+2^52)=Em b*2^52+Dt b:=by omega
    rw [h5]
    rcases M8 b with ⟨h1,h2,_⟩ | ⟨_,_,h⟩ | ⟨h1,_,_⟩
    · rw [h1,h2]; decide
    · exact absurd h h4
    · omega
def Ny (b:Nat):Int:=H8 (Cs b) (b%2^63)
def K6 (b:Nat) (f:Int):Nat:=Aq b*2^(Ax b-f).toNat
theorem Ok {b:Nat} {f:Int} (h4:Ao b≠4) (hf:f≤Ax b):B8 (K6 b f) f=b%2^63:=by
  rw [← Pb h4]
  have h:=(Dl (Aq b) (Ax b-f).toNat (Ax b)).1
  have e:Ax b-((Ax b-f).toNat:Int)=f:=by omega
  rw [e] at h
  exact h
theorem Aj8 {a b:Nat} (h:a%2^63=b%2^63) (f:Int):K6 a f=K6 b f:=by
  have h1:Em a=Em b:=by unfold Em; omega
  have h2:Dt a=Dt b:=by unfold Dt; omega
  unfold K6 Aq Ax
  rw [h1,h2]
theorem Aq4 {a b:Nat} {f:Int} (ha:Ao a≠4) (hb:Ao b≠4) (hfa:f≤Ax a) (hfb:f≤Ax b):K6 a f<K6 b f↔a%2^63<b%2^63:=by
  constructor
  · intro h
    have h1:=Sq (E:=f) (Nat.le_of_lt h)
    rw [Ok ha hfa,Ok hb hfb] at h1
    rcases Nat.lt_or_eq_of_le h1 with h2 | h2
    · exact h2
    · have:=Aj8 h2 f; omega
  · intro h
    rcases Nat.lt_or_ge (K6 a f) (K6 b f) with h1 | h1
    · exact h1
    · have h1:=Sq (E:=f) h1
      rw [Ok ha hfa,Ok hb hfb] at h1
      omega
theorem Aj7 (b:Nat) (f:Int):K6 b f=0↔b%2^63=0:=by
  have hp:=B9 (Ax b-f).toNat
  unfold K6
  rw [Nat.mul_eq_zero,Ug]
  have h1:¬ (2^(Ax b-f).toNat=0):=by omega
  have h2:Aq b=0↔Em b*2^52+Dt b=0:=by unfold Aq; split<;>omega
  rw [h2]
  exact ⟨fun h=>h.resolve_right h1,.inl⟩
theorem An9 {b:Nat} (h:Ao b=3):b%2^63=Gg:=by
  rw [Ug]
  rcases M8 b with ⟨h1,h2,_⟩ | ⟨_,_,h4⟩ | ⟨_,h4,_⟩
  · rw [h1,h2]; rfl
  · omega
  · omega
theorem Aoa {b:Nat} (h3:Ao b≠3) (h4:Ao b≠4):b%2^63<Gg:=by
  have hf:Dt b<2^52:=Mp b
  rw [Ug,Jk]
  rcases M8 b with ⟨_,_,h⟩ | ⟨_,_,h⟩ | ⟨h1,_,_⟩
  · exact absurd h h3
  · exact absurd h h4
  · omega
def Adr (S:Int) (f:Int):Int:=if S<0 then -(B8 S.natAbs f:Int) else B8 S.natAbs f
theorem Adq (S:Int) (k:Nat) (f:Int):Adr (S*((2^k:Nat):Int)) (f-k)=Adr S f:=by
  have hp:=B9 k
  have h0:S*((2^k:Nat):Int)<0↔S<0:=by
    constructor
    · intro h
      rcases Int.lt_or_le S 0 with h1 | h1
      · exact h1
      · have:=Int.mul_nonneg h1 (Int.natCast_nonneg (2^k)); omega
    · intro h
      exact Int.mul_neg_of_neg_of_pos h (by omega)
  unfold Adr
  rw [Int.natAbs_mul,Int.natAbs_natCast,(Dl S.natAbs k f).1]
  by_cases h:S<0
  · rw [if_pos h,if_pos (h0.2 h)]
  · rw [if_neg h,if_neg (fun k=>h (h0.1 k))]
theorem Ab7 (s:Bool) {r:Nat} (h:r<2^63):Ny (B1 s r)=H8 s r:=by
  unfold Ny B1 Cs
  cases s
  · have h1:¬ 2^63≤r:=by omega
    have h2:r%2^63=r:=Aux h
    simp only [Bool.false_eq_true,if_false,Aup h1,h2]
  · have h1:2^63≤2^63+r:=by omega
    have h2:(2^63+r)%2^63=r:=by omega
    simp only [if_true,Aul h1,h2]
theorem Aho (s:Bool) (S f:Int):Ny (J1 (B1 s 0) S f).1=Adr S f:=by
  unfold J1 Adr
  by_cases h:S=0
  · subst h
    have e:B8 (Int.natAbs 0) f=0:=if_pos rfl
    rw [if_pos rfl,e,Ab7 s (by decide)]
    cases s<;>rfl
  · rw [if_neg h]
    show Ny (B1 _ _)=_
    rw [Ab7 _ (Pd _ _)]
    unfold H8
    by_cases h1:S<0
    · rw [if_pos h1,Aul h1,if_pos rfl]
    · rw [if_neg h1,Aup h1,if_neg (by decide)]
theorem Xb {b:Nat} {f g:Int} {k:Nat} (hk:g=f-k) (hf:f≤Ax b):Gp b g=Gp b f*((2^k:Nat):Int):=by
  unfold Gp
  have e:(Ax b-g).toNat=(Ax b-f).toNat+k:=by omega
  rw [e,Nat.pow_add,← Nat.mul_assoc]
  generalize Aq b*2^(Ax b-f).toNat=m
  generalize 2^k=p
  unfold H8
  cases Cs b
  · exact Au5 m p
  · show -((m*p:Nat):Int)=-(m:Int)*(p:Int)
    rw [Au5,Int.neg_mul]
theorem Apa {a c:Nat} (a3:Ao a≠3) (a4:Ao a≠4) (c3:Ao c≠3) (c4:Ao c≠4) {g:Int} (hg:g≤min (Ax a) (Ax c)) :
    Ny (H9 a c).1=Adr (Gp a g+Gp c g) g:=by
  rw [Wt (fun h=>h.elim a4 c4) a3 c3,Aho]
  obtain ⟨k,hk⟩:∃ k:Nat,g=min (Ax a) (Ax c)-k:=⟨(min (Ax a) (Ax c)-g).toNat,by omega⟩
  rw [Xb (b:=a) hk (Int.min_le_left _ _),Xb (b:=c) hk (Int.min_le_right _ _),← Int.add_mul,hk,Adq]
end Go.Rnd
namespace Go.Rnd
def Lj (a b:Nat):Nat × Nat :=
  if Ao a=4∨Ao b=4 then (W9,0)
  else if Ao a=3∨Ao b=3 then (if Ao a=0∨Ao b=0 then (W9,16) else (B1 (Cs a !=Cs b) Gg,0))
  else (B1 (Cs a !=Cs b) (B8 (Aq a*Aq b) (Ax a+Ax b)),flagsOf (Aq a*Aq b) (Ax a+Ax b))
def Fp (X Y K:Nat):Nat:=2*(X*2^K / Y)+(if X*2^K%Y=0 then 0 else 1)
def W8 (a b:Nat):Nat × Nat :=
  if Ao a=4∨Ao b=4 then (W9,0)
  else if Ao a=Ao b∧(Ao a=3∨Ao a=0) then (W9,16)
  else if Ao a=3 then (B1 (Cs a !=Cs b) Gg,0)
  else if Ao b=3∨Ao a=0 then (B1 (Cs a !=Cs b) 0,0)
  else if Ao b=0 then (B1 (Cs a !=Cs b) Gg,8)
  else (B1 (Cs a !=Cs b) (B8 (Fp (Aq a) (Aq b) 120) (Ax a-Ax b-121)),flagsOf (Fp (Aq a) (Aq b) 120) (Ax a-Ax b-121))
theorem Ahc (a b:Nat):Lj a b=Lj b a:=by
  have e:(Cs a !=Cs b)=(Cs b !=Cs a):=by cases Cs a<;>cases Cs b<;>rfl
  unfold Lj
  rw [e,Nat.mul_comm (Aq a),Int.add_comm (Ax a)]
  simp only [or_comm]
theorem Ad2 {V k:Nat} {E:Int} (hm:1≤V / 2^k) (hc:2^53≤V / 2^k∨E+k+1≤-1074) :
    B8 (4*(V / 2^k)+(if V%2^k=0 then 0 else 1)) (E+k-2)=B8 V E∧flagsOf (4*(V / 2^k)+(if V%2^k=0 then 0 else 1)) (E+k-2)=flagsOf V E:=by
  have hA:=B9 k
  have h1:=Nat.div_add_mod V (2^k)
  have h2:=Nat.mod_lt V hA
  generalize hq:V / 2^k=q at *
  generalize hr:V%2^k=r at *
  by_cases h0:r=0
  · rw [if_pos h0]
    obtain ⟨a1,a2⟩:=Dl q k (E+k)
    obtain ⟨b1,b2⟩:=Dl q 2 (E+k)
    have e1:E+(k:Int)-k=E:=by omega
    have e2:V=q*2^k:=by rw [Nat.mul_comm]; omega
    have e3:q*2^2=4*q+0:=by omega
    have e4:E+(k:Int)-((2:Nat):Int)=E+k-2:=by omega
    rw [e1,← e2] at a1 a2
    rw [e3,e4] at b1 b2
    rw [a1,a2,b1,b2]
    exact ⟨rfl,rfl⟩
  · rw [if_neg h0]
    obtain ⟨d,rfl⟩:∃ d,k=d+1:=by
      cases k with
      | zero=>simp only [Nat.pow_zero] at h2; omega
      | succ d=>exact ⟨d,rfl⟩
    have hD:2^(d+1)=2*2^d:=by rw [Nat.pow_succ]; omega
    rw [hD] at h1 h2
    generalize hc2:2^d=c at *
    have p1:(2*q+1-1)*c=2*c*q:=by rw [Nat.add_sub_cancel,Nat.mul_comm,Nat.mul_left_comm,Nat.mul_assoc]
    have p2:(2*q+1+1)*c=2*c*q+2*c:=by
      rw [show 2*q+1+1=2*(q+1) by omega,Nat.mul_assoc,Nat.add_mul,Nat.mul_add,Nat.mul_comm q c,Nat.mul_assoc]; omega
    have lt1:(2*q+1-1)*2^d<V:=by rw [hc2,p1]; omega
    have lt2:V<(2*q+1+1)*2^d:=by rw [hc2,p2]; omega
    have od:(2*q+1)%2=1:=by omega
    have lV:=On od (by omega) lt1 lt2
    have l4:(4*q+1).log2=(2*q+1).log2+1:=On (d:=1) od (by omega) (by omega) (by omega)
    have hs:(2*q+1).log2≥54∨E+d+2≤-1074:=by
      rcases hc with h | h
      · left; rw [ge_iff_le,Nat.le_log2 (by omega)]; omega
      · right; omega
    have hk:E+d+2≤Cc (2*q+1) (E+d):=by unfold Cc; omega
    obtain ⟨a1,a2⟩:=Oa (E:=E) od lt1 lt2 (by unfold Cc; rw [lV]; omega) hk
    have ee:E+((d+1:Nat):Int)-2+((1:Nat):Int)=E+d:=by omega
    obtain ⟨b1,b2⟩:=Oa (V:=4*q+1) (d:=1) (E:=E+((d+1:Nat):Int)-2) od (by omega) (by omega) (by unfold Cc; rw [l4]; omega) (by rw [ee]; unfold Cc; omega)
    rw [ee] at b1 b2
    rw [a1,a2,b1,b2]
    exact ⟨rfl,rfl⟩
theorem Rv (n:Bool) {V k:Nat} {E e:Int} {s:Bool} (he:e=E+k) (hs:s=decide (V%2^k≠0)) (hm:1≤V / 2^k) (hc:2^53≤V / 2^k∨E+k+1≤-1074) :
    Fq n (V / 2^k) e s=(B1 n (B8 V E),flagsOf V E):=by
  obtain ⟨a,b⟩:=Ad2 hm hc
  have e1:s.toNat=if V%2^k=0 then 0 else 1:=by
    rw [hs]
    by_cases h:V%2^k=0
    · rw [Aup (by omega),if_pos h]; rfl
    · rw [Aul h,if_neg h]; rfl
  unfold Fq
  rw [he,e1,a,b]
theorem U8 {X Y K:Nat} (d:Nat) (E:Int) (hY:0<Y) (h:2^53≤X*2^K / Y) :
    B8 (Fp X Y (K+d)) (E-d)=B8 (Fp X Y K) E∧flagsOf (Fp X Y (K+d)) (E-d)=flagsOf (Fp X Y K) E:=by
  have hA:=B9 d
  unfold Fp
  have e:X*2^(K+d)=X*2^K*2^d:=by rw [Nat.pow_add,Nat.mul_assoc]
  rw [e]
  generalize X*2^K=Z at *
  have h1:=Nat.div_add_mod Z Y
  have h2:=Nat.mod_lt Z hY
  by_cases h0:Z%Y=0
  · obtain ⟨q,rfl⟩:=Nat.dvd_of_mod_eq_zero h0
    have e1:Y*q*2^d=Y*(q*2^d):=Nat.mul_assoc _ _ _
    rw [e1,Nat.mul_mod_right,Nat.mul_mod_right,Nat.mul_div_cancel_left _ hY,Nat.mul_div_cancel_left _ hY,if_pos rfl]
    have:=Dl (2*q+0) d E
    rw [show (2*q+0)*2^d=2*(q*2^d)+0 by rw [Nat.add_zero,Nat.add_zero,Nat.mul_assoc]] at this
    exact this
  · have h3:=Nat.div_add_mod (Z*2^d) Y
    have h4:=Nat.mod_lt (Z*2^d) hY
    rw [if_neg h0]
    generalize hq:Z / Y=q at *
    generalize hr:Z%Y=r at *
    generalize hc:2^d=c at *
    have hz:Z*c=Y*(q*c)+r*c:=by rw [← h1,Nat.add_mul,Nat.mul_assoc]
    have hrc:r*c<Y*c:=(Nat.mul_lt_mul_right hA).2 h2
    have hrc0:0<r*c:=Nat.mul_pos (by omega) hA
    have q1:q*c≤Z*c / Y:=by rw [Nat.le_div_iff_mul_le hY,Nat.mul_comm (q*c)]; omega
    have q2:Z*c / Y<(q+1)*c:=by
      rw [Nat.div_lt_iff_lt_mul hY,Nat.add_mul,Nat.add_mul,Nat.one_mul,Nat.mul_comm (q*c),Nat.mul_comm c Y]; omega
    have q3:Z*c / Y=q*c→Z*c%Y≠0:=fun h5 h6=>by rw [h5,h6] at h3; omega
    generalize hQ:Z*c / Y=Q at *
    have p1:(2*q+1-1)*c=2*(q*c):=by rw [Nat.add_sub_cancel,Nat.mul_assoc]
    have p2:(2*q+1+1)*c=2*((q+1)*c):=by rw [show 2*q+1+1=2*(q+1) by omega,Nat.mul_assoc]
    have od:(2*q+1)%2=1:=by omega
    generalize hV:2*Q+(if Z*c%Y=0 then 0 else 1)=V
    have v1:(2*q+1-1)*2^d<V:=by
      rw [hc,p1,← hV]
      by_cases h5:Q=q*c
      · rw [if_neg (q3 h5)]; omega
      · split<;>omega
    have v2:V<(2*q+1+1)*2^d:=by
      rw [hc,p2,← hV]
      split<;>omega
    have lV:=On od (by omega) v1 v2
    have hs:54≤(2*q+1).log2:=by rw [Nat.le_log2 (by omega)]; omega
    have ee:E-(d:Int)+d=E:=by omega
    have:=Oa (E:=E-d) od v1 v2 (by unfold Cc; rw [lV]; omega) (by unfold Cc; omega)
    rw [ee] at this
    exact this
theorem Adf {X Y K L:Nat} {E F:Int} (hY:0<Y) (h1:2^53≤X*2^K / Y) (h2:2^53≤X*2^L / Y) (he:E+K=F+L) :
    B8 (Fp X Y K) E=B8 (Fp X Y L) F∧flagsOf (Fp X Y K) E=flagsOf (Fp X Y L) F:=by
  rcases Nat.le_total K L with h | h
  · obtain ⟨d,rfl⟩:=Nat.exists_eq_add_of_le h
    have:=U8 d E hY h1
    rw [show E-(d:Int)=F by omega] at this
    exact ⟨this.1.symm,this.2.symm⟩
  · obtain ⟨d,rfl⟩:=Nat.exists_eq_add_of_le h
    have:=U8 d F hY h2
    rw [show F-(d:Int)=E by omega] at this
    exact this
theorem Adg (X Y a K:Nat):Fp (X*2^a) Y K=Fp X Y (K+a):=by
  unfold Fp
  have:X*2^a*2^K=X*2^(K+a):=by rw [Nat.mul_assoc,← Nat.pow_add,Nat.add_comm a K]
  rw [this]
theorem Aax (X Y b K:Nat):Fp X (Y*2^b) (K+b)=Fp X Y K:=by
  have hp:=B9 b
  unfold Fp
  have:X*2^(K+b)=X*2^K*2^b:=by rw [Nat.pow_add,Nat.mul_assoc]
  rw [this,Nat.mul_div_mul_right _ _ hp,Nat.mul_mod_mul_right]
  have:(X*2^K%Y*2^b=0)↔(X*2^K%Y=0):=by
    constructor
    · intro h
      rcases Nat.mul_eq_zero.1 h with h | h
      · exact h
      · omega
    · intro h; rw [h,Nat.zero_mul]
  simp only [this]
theorem Aqs {X Y K t:Nat} (hX:0<X) (hY0:0<Y) (hY:Y<2^t) (hK:53+t≤K):2^53≤X*2^K / Y:=by
  rw [Nat.le_div_iff_mul_le hY0]
  have h1:2^53*Y≤2^53*2^t:=Nat.mul_le_mul_left _ (by omega)
  have h2:2^(53+t)≤2^K:=Auz (by decide) hK
  have h3:1*2^K≤X*2^K:=Auw _ (by omega)
  rw [Nat.pow_add] at h2
  omega
theorem Ahb (n:Bool) {X Y K:Nat} {e E:Int} {s:Bool} (hs:s=decide (X*2^K%Y≠0)) (he:E=e-1) (hq:2^53≤X*2^K / Y) :
    Fq n (X*2^K / Y) e s=(B1 n (B8 (Fp X Y K) E),flagsOf (Fp X Y K) E):=by
  have e1:Fp X Y K / 2^1=X*2^K / Y:=by
    unfold Fp
    split<;>omega
  have e2:decide (Fp X Y K%2^1≠0)=decide (X*2^K%Y≠0):=by
    unfold Fp
    by_cases h:X*2^K%Y=0
    · rw [if_pos h,Aup (by omega),Aup (by omega)]
    · rw [if_neg h,Aul (by omega),Aul h]
  have:=Rv n (V:=Fp X Y K) (k:=1) (E:=E) (e:=e) (s:=s) (by omega) (by rw [e2]; exact hs) (by omega) (.inl (by omega))
  rw [e1] at this
  exact this
end Go.Rnd
namespace Go.Rnd
open Go.Den
def By:List Int→Nat
  | []=>0
  | x::l=>x.toNat+4294967296*By l
def digits:Nat→Nat→List Int
  | 0,_=>[]
  | k+1,v=>((v%4294967296:Nat):Int)::digits k (v / 4294967296)
def C0 (n:Nat):Nat:=if n=0 then 0 else n.log2 / 32+1
def Nt (n:Nat):List Int:=digits (C0 n) n
def Ae (v:Int):List Int:=Nt v.natAbs
def Av (v:Int):Bool:=decide (v<0)
def wv (n:Bool) (l:List Int):Int:=H8 n (By l)
def R4 (l:List Int):Prop:=∀ x∈l,0≤x∧x<4294967296
def Fh (l:List Int):Bool:=Cr (l.length<1073741824∧R4 l)
def Ib (n:Bool) (l:List Int):Bool:=Cr (l.length<268435456∧l=Nt (By l)∧(n=true→l≠[]))
def Wy (n:Bool) (l:List Int):Bool:=Cr (l.length<134217728∧l=Nt (By l)∧(n=true→l≠[]))
def Aqz (k:Int):Bool:=Cr (-1000000≤k∧k≤1000000)
def Afz (k:Int):Bool:=Cr (-9223372036854775808≤k∧k≤9223372036854775807)
def F3 (l:List Int) (i:Int):Int:=if 0≤i then l.getD i.toNat 0 else 0
def He (a b:List Int):List Int:=digits (max a.length b.length+1) (By a+By b)
def Ga (a b:List Int):List Int:=digits a.length (By a-By b)
def leL (a b:List Int):Bool:=Cr (By a≤By b)
def Tc (a b:Nat):Int:=if a<b then -1 else if b<a then 1 else 0
def Ji (v:Int) (j:Nat):Int:=H8 (Av v) (v.natAbs / 2^j)
def G2 (v k:Int):Int:=if 0≤k then v*((2^k.toNat:Nat):Int) else Ji v (-k).toNat
def Zt (v:Int):Int:=if v=0 then 0 else (v.natAbs.log2:Int)+1
def Ag1 (v:Int):Bool:=decide (v%2=1)
def Rh (v w:Int):Bool:=decide (v=w)
theorem two32:2^32=4294967296:=by decide
theorem J9 (k:Nat):2^(32*(k+1))=4294967296*2^(32*k):=by
  rw [Nat.mul_add,Nat.mul_one,Nat.pow_add,Nat.mul_comm,two32]
theorem Dn:∀ (k v:Nat),(digits k v).length=k
  | 0,_=>rfl
  | k+1,v=>by rw [digits,List.length_cons,Dn k]
theorem K0:∀ (k v:Nat),R4 (digits k v)
  | 0,_=>fun x h=>by cases h
  | k+1,v=>fun x h=>by
    rw [digits,List.mem_cons] at h
    rcases h with rfl | h
    · omega
    · exact K0 k _ x h
theorem Hx:∀ (k v:Nat),By (digits k v)=v%2^(32*k)
  | 0,v=>by rw [digits,By,Nat.mul_zero,Nat.pow_zero,Nat.mod_one]
  | k+1,v=>by
    rw [digits,By,Hx k,Aum,J9,Nat.mod_mul]
theorem Ie:∀ {l:List Int},R4 l→By l<2^(32*l.length)
  | [],_=>by decide
  | x::l,h=>by
    have h1:=h x (List.mem_cons_self ..)
    have h2:=Ie (l:=l) (fun y hy=>h y (List.mem_cons_of_mem _ hy))
    rw [By,List.length_cons,J9]
    omega
theorem Ox:∀ {l:List Int},R4 l→digits l.length (By l)=l
  | [],_=>rfl
  | x::l,h=>by
    have h1:=h x (List.mem_cons_self ..)
    have h2:=Ox (l:=l) (fun y hy=>h y (List.mem_cons_of_mem _ hy))
    rw [By,List.length_cons,digits]
    have e1:(x.toNat+4294967296*By l)%4294967296=x.toNat:=by omega
    have e2:(x.toNat+4294967296*By l) / 4294967296=By l:=by omega
    rw [e1,e2,h2]
    congr 1
    omega
theorem Io (n:Nat):n<2^(32*C0 n):=by
  unfold C0
  by_cases h:n=0
  · rw [if_pos h,h]; decide
  · rw [if_neg h]
    exact Nat.lt_of_lt_of_le Nat.lt_log2_self (Auz (by decide) (by omega))
theorem Ko {n k:Nat} (h:n<2^(32*k)):C0 n≤k:=by
  unfold C0
  by_cases h0:n=0
  · rw [if_pos h0]; exact Nat.zero_le _
  · rw [if_neg h0]
    have:=(Nat.log2_lt h0).2 h
    omega
theorem An5 {n k:Nat} (h:2^(32*k)≤n):k+1≤C0 n:=by
  have hp:=B9 (32*k)
  unfold C0
  rw [if_neg (by omega)]
  have:=(Nat.le_log2 (by omega)).2 h
  omega
theorem Jc {n m:Nat} (h:n≤m):C0 n≤C0 m:=Ko (Nat.lt_of_le_of_lt h (Io m))
theorem Qe (n:Nat):By (Nt n)=n:=by
  unfold Nt
  rw [Hx,Aux (Io n)]
theorem Gc (n:Nat):(Nt n).length=C0 n:=Dn _ _
theorem Ab3 (n:Nat):R4 (Nt n):=K0 _ _
theorem Wm:∀ (k v i:Nat),i<k→(digits k v).getD i 0=((v / 2^(32*i)%4294967296:Nat):Int)
  | k+1,v,0,_=>by rw [digits,List.getD_cons_zero,Nat.mul_zero,Nat.pow_zero,Nat.div_one]
  | k+1,v,i+1,h=>by
    rw [digits,List.getD_cons_succ,Wm k _ i (by omega),J9,Nat.div_div_eq_div_mul]
theorem Lt {l:List Int} (h:R4 l) (i:Nat):l.getD i 0=((By l / 2^(32*i)%4294967296:Nat):Int):=by
  by_cases hi:i<l.length
  · have:=Wm l.length (By l) i hi
    rw [Ox h] at this
    exact this
  · have h1:=Ie h
    have h2:2^(32*l.length)≤2^(32*i):=Auz (by decide) (by omega)
    rw [Nat.div_eq_of_lt (by omega),Auu,List.getElem?_eq_none (by omega)]
    rfl
theorem Gd {l:List Int} (h:R4 l) (i:Nat):F3 l (i:Int)=((By l / 2^(32*i)%4294967296:Nat):Int):=by
  unfold F3
  rw [if_pos (by omega),Aum,Lt h]
theorem H6:∀ (k v:Nat),digits (k+1) v=digits k v++[((v / 2^(32*k)%4294967296:Nat):Int)]
  | 0,v=>by rw [digits,digits,digits,Nat.mul_zero,Nat.pow_zero,Nat.div_one]; rfl
  | k+1,v=>by
    rw [digits,H6 k,J9,← Nat.div_div_eq_div_mul]
    rfl
theorem Ty:∀ (j k v:Nat),j≤k→(digits k v).take j=digits j v
  | 0,_,_,_=>by rw [List.take_zero,digits]
  | j+1,k+1,v,h=>by rw [digits,List.take_succ_cons,Ty j k _ (by omega),digits]
theorem Aee {l:List Int} (h:R4 l):l.take (C0 (By l))=Nt (By l):=by
  have h1:=Ty (C0 (By l)) l.length (By l) (Ko (Ie h))
  rw [Ox h] at h1
  exact h1
theorem Ip {n:Nat} (h:n≠0):0<C0 n:=by unfold C0; rw [if_neg h]; omega
theorem Fo (v:Int):wv (Av v) (Ae v)=v:=by
  unfold wv Av Ae H8
  rw [Qe]
  by_cases h:v<0
  · rw [Aul h,if_pos rfl]; omega
  · rw [Aup h,if_neg (by decide)]; omega
theorem Ik {l:List Int} (h:l.length<1073741824) (hi:R4 l):Fh l=true:=Ap.2 ⟨h,hi⟩
theorem Il {l:List Int} (h:Fh l=true):l.length<1073741824∧R4 l:=Ap.1 h
theorem Wo (v:Int):Ae v=Nt (By (Ae v))∧(Av v=true→Ae v≠[]):=by
  unfold Ae
  rw [Qe]
  refine ⟨rfl,fun h e=>?_⟩
  have h1:v<0:=of_decide_eq_true h
  have h2:=Gc v.natAbs
  rw [e] at h2
  have:=Ip (n:=v.natAbs) (by omega)
  rw [← h2] at this
  exact absurd this (by decide)
theorem I8 {v:Int} (h:C0 v.natAbs<268435456):Ib (Av v) (Ae v)=true :=
  Ap.2 ⟨by unfold Ae; rw [Gc]; exact h,Wo v⟩
theorem Ad1 {v:Int} (h:C0 v.natAbs<134217728):Wy (Av v) (Ae v)=true :=
  Ap.2 ⟨by unfold Ae; rw [Gc]; exact h,Wo v⟩
theorem Tf {n:Bool} {l:List Int} (h1:l=Nt (By l)) (h2:n=true→l≠[]):n=Av (wv n l)∧l=Ae (wv n l):=by
  have e:(wv n l).natAbs=By l:=by unfold wv H8; split<;>omega
  refine ⟨?_,by unfold Ae; rw [e]; exact h1⟩
  unfold Av wv H8
  cases n
  · simp
  · have h3:=h2 rfl
    have h4:By l≠0:=fun h=>by
      rw [h] at h1
      exact h3 h1
    simp; omega
theorem Ha {n:Bool} {l:List Int} (h:Ib n l=true):∃ v,n=Av v∧l=Ae v∧C0 v.natAbs<268435456:=by
  obtain ⟨h0,h1,h2⟩:=Ap.1 h
  obtain ⟨e1,e2⟩:=Tf h1 h2
  refine ⟨_,e1,e2,?_⟩
  have:=congrArg List.length e2
  unfold Ae at this
  rw [Gc] at this
  omega
theorem Uj {n:Bool} {l:List Int} (h:Wy n l=true):∃ v,n=Av v∧l=Ae v∧C0 v.natAbs<134217728:=by
  obtain ⟨h0,h1,h2⟩:=Ap.1 h
  obtain ⟨e1,e2⟩:=Tf h1 h2
  refine ⟨_,e1,e2,?_⟩
  have:=congrArg List.length e2
  unfold Ae at this
  rw [Gc] at this
  omega
theorem Mj {v:Int} (h:C0 v.natAbs<1073741824):Fh (Ae v)=true :=
  Ik (by unfold Ae; rw [Gc]; exact h) (Ab3 _)
theorem Dh (v:Int):By (Ae v)=v.natAbs:=Qe _
theorem B3 (v:Int):(Ae v).length=C0 v.natAbs:=Gc _
theorem Apw (n:Bool) (l:List Int):wv (!n) l=- wv n l:=by
  unfold wv H8
  cases n<;>simp
theorem Xp {a b:List Int} (ha:R4 a) (hb:R4 b):By (He a b)=By a+By b:=by
  unfold He
  rw [Hx,Aux]
  have h1:=Ie ha
  have h2:=Ie hb
  have h3:2^(32*a.length)≤2^(32*max a.length b.length):=Auz (by decide) (by omega)
  have h4:2^(32*b.length)≤2^(32*max a.length b.length):=Auz (by decide) (by omega)
  rw [J9]
  omega
theorem M3 (a b:List Int):(He a b).length=max a.length b.length+1:=Dn _ _
theorem Vm (a b:List Int):R4 (He a b):=K0 _ _
theorem Ad7 {a:List Int} (b:List Int) (ha:R4 a):By (Ga a b)=By a-By b:=by
  unfold Ga
  rw [Hx,Aux]
  have h1:=Ie ha
  omega
theorem P6 (a b:List Int):(Ga a b).length=a.length:=Dn _ _
theorem Xw (a b:List Int):R4 (Ga a b):=K0 _ _
theorem Kg (v:Int) (j:Nat):(Ji v j).natAbs=v.natAbs / 2^j:=by
  unfold Ji
  generalize v.natAbs / 2^j=m
  unfold H8; split<;>omega
theorem Rd {v:Int} (h:v<0) (m:Nat):H8 (Av v) m=-(m:Int):=by
  unfold H8 Av; rw [Aul h,if_pos rfl]
theorem Rc {v:Int} (h:¬ v<0) (m:Nat):H8 (Av v) m=(m:Int):=by
  unfold H8 Av; rw [Aup h,if_neg (by decide)]
theorem Y2 (v:Int) (i j:Nat):Ji (Ji v i) j=Ji v (i+j):=by
  have e:v.natAbs / 2^(i+j)=v.natAbs / 2^i / 2^j:=by rw [Nat.pow_add,Nat.div_div_eq_div_mul]
  have h1:=Kg v i
  by_cases hv:v<0
  · have h2:Ji v i=-((v.natAbs / 2^i:Nat):Int):=Rd hv _
    rw [show Ji v (i+j)=-((v.natAbs / 2^(i+j):Nat):Int) from Rd hv _,e]
    by_cases h0:v.natAbs / 2^i=0
    · rw [h2,h0]
      show Ji 0 j=_
      rw [Nat.zero_div]
      show H8 (Av 0) (0 / 2^j)=_
      rw [Nat.zero_div]; rfl
    · have h3:Ji v i<0:=by omega
      rw [show Ji (Ji v i) j=-(((Ji v i).natAbs / 2^j:Nat):Int) from Rd h3 _,h1]
  · have h2:Ji v i=((v.natAbs / 2^i:Nat):Int):=Rc hv _
    have h3:¬ Ji v i<0:=by omega
    rw [show Ji (Ji v i) j=(((Ji v i).natAbs / 2^j:Nat):Int) from Rc h3 _,h1,show Ji v (i+j)=((v.natAbs / 2^(i+j):Nat):Int) from Rc hv _,e]
theorem Aa7 (v:Int):Ji v 0=v:=by
  unfold Ji H8 Av
  rw [Nat.pow_zero,Nat.div_one]
  by_cases h:v<0
  · rw [Aul h,if_pos rfl]; omega
  · rw [Aup h,if_neg (by decide)]; omega
theorem Ra (j:Nat):Ji 0 j=0:=by
  unfold Ji
  rw [show (Int.natAbs 0)=0 from rfl,Nat.zero_div]
  rfl
theorem Agb {l:List Int} (h:R4 l):By (l.drop 1)=By l / 4294967296:=by
  cases l with
  | nil=>rfl
  | cons x l =>
    have:=h x (List.mem_cons_self ..)
    show By l=_
    rw [By]; omega
theorem Acb {l:List Int} (h:R4 l):R4 (l.drop 1):=fun x hx=>h x (List.mem_of_mem_drop hx)
theorem Aca {l:List Int} (h:R4 l):R4 ([(0:Int)]++l):=fun x hx=>by
  rcases List.mem_cons.1 hx with rfl | hx
  · omega
  · exact h x hx
theorem Akn (n:Nat):C0 (2*n)≤C0 n+1:=by
  refine Ko ?_
  have h:=Io n
  rw [J9]
  omega
theorem An4 (n:Nat):C0 (n*4294967296)≤C0 n+1:=by
  refine Ko ?_
  have h:=Io n
  rw [J9]
  omega
theorem Abx {n m:Nat} (h:2^m≤n):(n / 2^m).log2+m=n.log2:=by
  have hp:=B9 m
  have h0:n≠0:=by omega
  have hm:m≤n.log2:=(Nat.le_log2 h0).2 h
  have e:(n / 2^m).log2=n.log2-m:=by
    refine Uo ?_ ?_
    · rw [Nat.le_div_iff_mul_le hp,← Nat.pow_add]
      exact Nat.le_trans (Auz (by decide) (by omega)) (Nat.log2_self_le h0)
    · rw [Nat.div_lt_iff_lt_mul hp,← Nat.pow_add]
      exact Nat.lt_of_lt_of_le Nat.lt_log2_self (Auz (by decide) (by omega))
  omega
end Go.Rnd
namespace Go.Rnd
open Go.Den
def Q6 (n:Nat):Nat:=if h:n=0∨n%2=1 then 0 else Q6 (n / 2)+1
termination_by n
decreasing_by omega
def mD (v:Int):Int:=Ji v (Q6 v.natAbs)
def eD (v e:Int):Int:=if v=0 then 0 else e+Q6 v.natAbs
def De (v e w f:Int):Int:=if v=0 then f else if w=0 then e else min e f
def Auf (v e w f:Int):Int:=G2 v (e-De v e w f)+G2 w (f-De v e w f)
def Acz (v e w f:Int):Int:=mD (Auf v e w f)
def Amd (v e w f:Int):Int:=eD (Auf v e w f) (De v e w f)
def Agf (v e:Int):Int:=if v=0 then 0 else Zt v+e
def S2 (e:Int):Bool:=Cr (-2000000≤e∧e≤2000000)
def S3 (e:Int):Bool:=Cr (-400000≤e∧e≤400000)
def Abk (v e f:Int):Bool:=Cr (v=0∨(-1000000≤e-f∧e-f≤1000000))&&Cr (-400000≤e∧e≤400000∧-1000000≤f∧f≤1000000)
theorem Ac7 {n:Nat} (h:n=0∨n%2=1):Q6 n=0:=by rw [Q6,dif_pos h]
theorem Ae8 {n:Nat} (h0:n≠0) (h:n%2=0):Q6 n=Q6 (n / 2)+1:=by rw [Q6,dif_neg (by omega)]
theorem Yt {n:Nat} (h:n≠0):∀ k,Q6 (n*2^k)=k+Q6 n
  | 0=>by rw [Nat.pow_zero,Nat.mul_one,Nat.zero_add]
  | k+1=>by
    have hp:=B9 k
    have h1:n*2^k≠0:=by
      intro e
      rcases Nat.mul_eq_zero.1 e with e | e<;>omega
    have e:n*2^(k+1)=n*2^k*2:=by rw [Nat.pow_succ,Nat.mul_assoc]
    rw [e,Ae8 (by omega) (by omega),Nat.mul_div_cancel _ (by decide),Yt h k]
    omega
theorem Ae7 (n:Nat) (h:n≠0):∃ m,n=m*2^Q6 n∧m%2=1:=by
  induction n using Nat.strongRecOn with
  | _ n ih =>
    by_cases h2:n%2=1
    · refine ⟨n,?_,h2⟩
      rw [Ac7 (.inr h2),Nat.pow_zero,Nat.mul_one]
    · obtain ⟨m,h3,h4⟩:=ih (n / 2) (by omega) (by omega)
      refine ⟨m,?_,h4⟩
      rw [Ae8 h (by omega),Nat.pow_succ,← Nat.mul_assoc,← h3]
      omega
theorem Apf {n:Nat} (h:n≠0):Q6 n≤n.log2:=by
  obtain ⟨m,h1,h2⟩:=Ae7 n h
  refine (Nat.le_log2 h).2 ?_
  have:1*2^Q6 n≤m*2^Q6 n:=Auw _ (by omega)
  omega
theorem Xx {n:Nat}:n.log2<32*C0 n+1:=by
  unfold C0
  by_cases h:n=0
  · rw [h]; decide
  · rw [if_neg h]; omega
theorem Aka {v:Int} {k:Nat} (h:v.natAbs%2^k=0):mD (Ji v k)=mD v:=by
  unfold mD
  by_cases h0:v=0
  · rw [h0,Ra]
  · have hp:=B9 k
    have hv:=Nat.div_add_mod v.natAbs (2^k)
    rw [h,Nat.add_zero,Nat.mul_comm] at hv
    have hq:v.natAbs / 2^k≠0:=by
      intro e; rw [e] at hv; omega
    have:=Yt hq k
    rw [hv] at this
    rw [Kg,Y2,this]
theorem Alk {v e:Int} {k:Nat} (h:v.natAbs%2^k=0) (h0:v≠0):eD (Ji v k) (e+k)=eD v e:=by
  unfold eD
  have hp:=B9 k
  have hv:=Nat.div_add_mod v.natAbs (2^k)
  rw [h,Nat.add_zero,Nat.mul_comm] at hv
  have hq:v.natAbs / 2^k≠0:=by
    intro e; rw [e] at hv; omega
  have ht:=Yt hq k
  rw [hv] at ht
  have ha:=Kg v k
  rw [if_neg h0,if_neg (by omega),ha,ht]
  omega
theorem Aq5 {v:Int} (h:v%2=1):mD v=v:=by
  unfold mD
  rw [Ac7 (.inr (by omega)),Aa7]
theorem Arp {v:Int} (h:v%2=1) (e:Int):eD v e=e:=by
  unfold eD
  rw [Ac7 (.inr (by omega)),if_neg (by omega)]
  omega
theorem Aft (v:Int):v=mD v*((2^Q6 v.natAbs:Nat):Int):=by
  by_cases h:v=0
  · rw [h]
    show (0:Int)=Ji 0 _*_
    rw [Ra,Int.zero_mul]
  · obtain ⟨m,h1,h2⟩:=Ae7 v.natAbs (by omega)
    have hp:=B9 (Q6 v.natAbs)
    have hq:v.natAbs / 2^Q6 v.natAbs=m:=Nat.div_eq_of_eq_mul_left hp h1
    unfold mD Ji
    rw [hq]
    by_cases hv:v<0
    · rw [Rd hv,Int.neg_mul,← Au5,← h1]; omega
    · rw [Rc hv,← Au5,← h1]; omega
theorem Un {v:Int}:mD v=0↔v=0:=by
  constructor
  · intro h
    have:=Aft v
    rw [h,Int.zero_mul] at this
    exact this
  · intro h
    rw [h]
    exact Ra _
theorem Pl (v:Int):(mD v).natAbs≤v.natAbs:=by
  unfold mD
  rw [Kg]
  exact Nat.div_le_self _ _
end Go.Rnd
namespace Go.Rnd
open Go.Den
theorem Aub {v e g:Int} (h:g≤e) (h0:v≠0):g≤eD v e:=by
  unfold eD
  rw [if_neg h0]
  omega
def Ah (l:List Int):Bool:=Cr (∀ x∈l,Ai x=true)
def A2 (x:Int):Int:=H8 (Cs x.toNat) (Aq x.toNat)
def P2 (n:Bool) (b:Int):Int:=if n then Dm b else b
end Go.Rnd
namespace Go.Rnd
open Go.Den
theorem Ac4 (s:Bool) {q:Nat} {L:Int} (hq:q<2^53) (hL:-1074≤L) (h:2^52≤q∨L=-1074) (hr:(L+1074).toNat*2^52+q<Gg) :
    Aq (B1 s ((L+1074).toNat*2^52+q))=q∧Ax (B1 s ((L+1074).toNat*2^52+q))=L:=by
  rw [Jk] at hr
  obtain ⟨t,ht⟩:∃ t:Nat,L=t-1074:=⟨(L+1074).toNat,by omega⟩
  have et:(L+1074).toNat=t:=by omega
  rw [et] at hr ⊢
  have hp:=Sw s (r:=t*2^52+q) (by omega)
  have hf:=Qr s (t*2^52+q)
  unfold Aq Ax
  by_cases h52:2^52≤q
  · have e1:Em (B1 s (t*2^52+q))=t+1:=by rw [hp]; omega
    rw [e1,hf,if_neg (by omega),if_neg (by omega)]
    omega
  · have t0:t=0:=by omega
    subst t0
    have e1:Em (B1 s (0*2^52+q))=0:=by rw [hp]; omega
    rw [e1,hf,if_pos rfl,if_pos rfl]
    omega
theorem Aen (s:Bool) {V:Nat} {E:Int} (h0:V≠0) (hE:Cc V E≤E) (hi:B8 V E<Gg) :
    flagsOf V E=0∧∃ k:Nat,Aq (B1 s (B8 V E))=V*2^k∧Ax (B1 s (B8 V E))=E-k:=by
  have hl2:V.log2=V.log2:=rfl
  have ek:kept V E=V*2^(E-Cc V E).toNat:=by
    unfold kept Iy
    have e1:(Cc V E-E).toNat=0:=by omega
    have e2:(-(Cc V E-E)).toNat=(E-Cc V E).toNat:=by omega
    rw [e1,e2,Mg]
  have eex:exact V E=true:=by
    unfold exact K1
    have e1:(Cc V E-E).toNat=0:=by omega
    rw [e1,Nat.pow_zero,Nat.mod_one]; rfl
  constructor
  · unfold flagsOf flags
    rw [if_neg h0,if_neg (by omega),eex]; rfl
  · have hr:B8 V E=(Cc V E+1074).toNat*2^52+kept V E:=by
      unfold B8 at hi ⊢
      rw [if_neg h0] at hi ⊢
      omega
    have hk:kept V E<2^53:=by
      rw [ek,← Nat.log2_lt (Ja h0),Oo V _ h0]
      unfold Cc at hE ⊢
      omega
    have hb:2^52≤kept V E∨Cc V E=-1074:=by
      by_cases h:Cc V E=-1074
      · exact .inr h
      · left
        refine Afx h0 ?_
        unfold Cc at h ⊢
        omega
    rw [hr] at hi
    obtain ⟨p1,p2⟩:=Ac4 s hk (by unfold Cc; omega) hb hi
    refine ⟨(E-Cc V E).toNat,?_,?_⟩
    · rw [hr,p1,ek]
    · rw [hr,p2]; omega
theorem Ab6 {V:Nat} {E:Int} (h:V<2^53) (hE:-1074≤E):Cc V E≤E:=by
  by_cases h0:V=0
  · subst h0; unfold Cc; rw [Nat.log2_zero]; omega
  · have:=(Nat.log2_lt h0).2 h
    unfold Cc; omega
end Go.Rnd
namespace Go.Rnd
open Go.Den
def Ec (x:Int):Int:=if x=0 then 0 else (x.toNat.log2:Int)+1
def P5 (x y:Int):Int:=((x.toNat*y.toNat / 18446744073709551616:Nat):Int)
def Lr (x y:Int):Int:=((x.toNat*y.toNat%18446744073709551616:Nat):Int)
def Ajz (a b:Int):Bool:=decide (A1 a=4)||decide (A1 b=4)
def B2 (b:Nat):Nat:=52-(Aq b).log2
def Cj (b:Int):Int:=((Aq b.toNat*2^B2 b.toNat:Nat):Int)
def F9 (b:Int):Int:=Ax b.toNat-B2 b.toNat
def Kk (b:Int):Bool:=Cr (Aq b.toNat≠0)
def Mv (m e:Int):Bool:=Cr (1152921504606846976≤m∧m<4611686018427387904∧-6000≤e∧e≤6000)
def Eg (a b:Int):Int:=(Lj a.toNat b.toNat).1
def At4 (a b:Int):Int:=(Lj a.toNat b.toNat).2
def Eo (a b:Int):Int:=(W8 a.toNat b.toNat).1
def Auc (a b:Int):Int:=(W8 a.toNat b.toNat).2
def Afy (x:Int):Bool:=Cr (0≤x∧x<4294967296)
def singleL (l:List Int) (x:Int):List Int:=digits (l.length+1) (By l*x.toNat)
def Zb (n:Bool) (l:List Int):Bool:=Cr (l.length<33554432∧l=Nt (By l)∧(n=true→l≠[]))
end Go.Rnd
namespace Go.Rnd
theorem Ym (a b:Nat):H9 a b=H9 b a:=by
  unfold H9
  by_cases ha:Ao a=4
  · simp only [ha,true_or,or_true,if_true]
  · by_cases hb:Ao b=4
    · simp only [hb,true_or,or_true,if_true]
    · simp only [ha,hb,or_self,if_false]
      by_cases ha3:Ao a=3
      · by_cases hb3:Ao b=3
        · simp only [ha3,hb3,if_true,true_and]
          by_cases e:a=b
          · subst e; rfl
          · rw [if_pos e,if_pos (fun h=>e h.symm)]
        · simp only [ha3,hb3,if_true,if_false,false_and]
      · by_cases hb3:Ao b=3
        · simp only [ha3,hb3,if_true,if_false,false_and]
        · simp only [ha3,hb3,if_false]
          rw [Bool.and_comm,Int.min_comm,Int.add_comm]
theorem Abc {Y D:Nat} (h:Y%2^D=0):E1 Y D=Y / 2^D:=by unfold E1; rw [if_pos h]
theorem Ads {Y D:Nat} (h:Y%2^D≠0):E1 Y D%2=1:=by unfold E1; rw [if_neg h]; omega
theorem Abd {Y d:Nat} (hY:Y<2^62) (h:Y%2^d≠0):(E1 Y (min d 63)-1)*2^d<Y∧Y<(E1 Y (min d 63)+1)*2^d∧E1 Y (min d 63)%2=1:=by
  have hA:=B9 d
  by_cases hd:d≤63
  · rw [Nat.min_eq_left hd]
    refine ⟨?_,?_,Ads h⟩
    all_goals
      unfold E1
      rw [if_neg h]
      have h1:=Nat.div_add_mod Y (2^d)
      have h2:=Nat.mod_lt Y hA
      generalize Y / 2^d=q at *
      generalize Y%2^d=r at *
      generalize 2^d=c at *
      rw [Nat.mul_comm] at h1
    · have h3:(2*(q / 2)+1-1)*c≤q*c:=Auw c (by omega)
      omega
    · have h3:(q+1)*c≤(2*(q / 2)+1+1)*c:=Auw c (by omega)
      rw [Nat.add_mul,Nat.one_mul] at h3
      omega
  · rw [Nat.min_eq_right (by omega)]
    have h63:Y%2^63=Y:=Aux (by omega)
    have hd0:Y / 2^63=0:=Nat.div_eq_of_lt (by omega)
    have hY0:Y≠0:=by intro e; rw [e] at h; simp at h
    have hr:E1 Y 63=1:=by unfold E1; rw [h63,if_neg hY0,hd0]
    have hp:2^62≤2^d:=Auz (by decide) (by omega)
    rw [hr]
    refine ⟨by simp; omega,by omega,rfl⟩
theorem pow9 {d M:Nat} (h:(M*2^9)%2^d≠0):10≤d:=by
  refine Nat.lt_of_not_le fun hle=>h ?_
  obtain ⟨k,hk⟩:∃ k,9=d+k:=⟨9-d,by omega⟩
  rw [hk,Nat.pow_add,Nat.mul_comm (2^d),← Nat.mul_assoc,Nat.mul_mod_left]
theorem Mt {V m d:Nat} {e f:Int} (hd:e=f+d) (h:V=m*2^d∨(m%2=1∧(m-1)*2^d<V∧V<(m+1)*2^d∧2^60≤m)) :
    B8 m (e-9)=B8 V (f-9)∧flagsOf m (e-9)=flagsOf V (f-9):=by
  rcases h with rfl | ⟨h1,h2,h3,h4⟩
  · have:=Dl m d (e-9)
    have e1:e-9-(d:Int)=f-9:=by omega
    rw [e1] at this
    exact ⟨this.1.symm,this.2.symm⟩
  · have hm0:m≠0:=by omega
    have hlog:=On h1 (by omega) h2 h3
    have hl60:60≤m.log2:=(Nat.le_log2 hm0).2 h4
    have e1:f-9+(d:Int)=e-9:=by omega
    have hle:Cc V (f-9)=Cc m (f-9+d):=by unfold Cc; rw [hlog]; congr 1; omega
    have hk:f-9+d+2≤Cc m (f-9+d):=by unfold Cc; omega
    obtain ⟨a1,a2⟩:=Oa h1 h2 h3 hle hk
    rw [e1] at a1 a2
    exact ⟨a1.symm,a2.symm⟩
theorem Adk (V:Nat) (f:Int):B8 (V*2^9) (f-9)=B8 V f∧flagsOf (V*2^9) (f-9)=flagsOf V f:=Dl V 9 f
structure Apd (Mx My d:Nat) (e f:Int) (X r:Nat):Prop where
  plus:B8 (X+r) (e-9)=B8 (Mx*2^d+My) f∧flagsOf (X+r) (e-9)=flagsOf (Mx*2^d+My) f
  less:r<X→My<Mx*2^d∧B8 (X-r) (e-9)=B8 (Mx*2^d-My) f∧flagsOf (X-r) (e-9)=flagsOf (Mx*2^d-My) f
  more:X<r→Mx*2^d<My∧B8 (r-X) (e-9)=B8 (My-Mx*2^d) f∧flagsOf (r-X) (e-9)=flagsOf (My-Mx*2^d) f
  same:X=r→Mx*2^d=My
  small:r≤2^62
theorem Ao9 {X My r d p:Nat} {e f:Int} (hd:e=f+d) (comm:X*2^d=p*2^9) (n1:(r-1)*2^d<My*2^9) (n2:My*2^9<r*2^d+2^d) (n3:r%2=1) (hX2:X%2=0) (hX:2^61≤X) (hr:r≤2^53) :
    (B8 (X+r) (e-9)=B8 (p+My) f∧flagsOf (X+r) (e-9)=flagsOf (p+My) f)∧My<p∧B8 (X-r) (e-9)=B8 (p-My) f∧flagsOf (X-r) (e-9)=flagsOf (p-My) f:=by
  have e1:(r-1)*2^d+2^d=r*2^d:=by
    obtain ⟨k,rfl⟩:∃ k,r=k+1:=⟨r-1,by omega⟩
    rw [Nat.add_sub_cancel,Nat.add_mul,Nat.one_mul]
  have e2:(r+1)*2^d=r*2^d+2^d:=by rw [Nat.add_mul,Nat.one_mul]
  have hXd:(r+1)*2^d≤X*2^d:=Auw _ (by omega)
  have hlt:My<p:=by rw [e2,comm] at hXd; omega
  have a1:B8 (X+r) (e-9)=B8 ((p+My)*2^9) (f-9)∧flagsOf (X+r) (e-9)=flagsOf ((p+My)*2^9) (f-9):=by
    refine Mt hd (.inr ⟨by omega,?_,?_,by omega⟩)
    · have h1:X+r-1=X+(r-1):=by omega
      rw [h1,Nat.add_mul X (r-1) (2^d),Nat.add_mul p My (2^9),comm]
      exact Nat.add_lt_add_left n1 _
    · have h1:X+r+1=X+(r+1):=by omega
      rw [h1,Nat.add_mul X (r+1) (2^d),Nat.add_mul p My (2^9),comm,e2]
      exact Nat.add_lt_add_left n2 _
  have a2:B8 (X-r) (e-9)=B8 ((p-My)*2^9) (f-9)∧flagsOf (X-r) (e-9)=flagsOf ((p-My)*2^9) (f-9):=by
    rw [e2,comm] at hXd
    refine Mt hd (.inr ⟨by omega,?_,?_,by omega⟩)
    · have h1:X-r-1=X-(r+1):=by omega
      rw [h1,Nat.sub_mul X (r+1) (2^d),Nat.sub_mul p My (2^9),comm,e2]
      omega
    · have h1:X-r+1=X-(r-1):=by omega
      rw [h1,Nat.sub_mul X (r-1) (2^d),Nat.sub_mul p My (2^9),comm]
      omega
  rw [(Adk _ f).1,(Adk _ f).2] at a1 a2
  exact ⟨a1,hlt,a2⟩
theorem Acx {Mx My d:Nat} {e f:Int} (hd:e=f+d) (hx:Mx<2^53) (hy:My<2^53) (hbig:10≤d→2^52≤Mx) :
    Apd Mx My d e f (Mx*2^9) (E1 (My*2^9) (min d 63)):=by
  have hA:=B9 d
  have hY:My*2^9<2^62:=by omega
  have comm:Mx*2^9*2^d=Mx*2^d*2^9:=by rw [Nat.mul_assoc,Nat.mul_comm (2^9),← Nat.mul_assoc]
  have s9:=fun V=>Adk V f
  by_cases hz:(My*2^9)%2^d=0
  ·
    have hr:∃ r,E1 (My*2^9) (min d 63)=r∧My*2^9=r*2^d:=by
      by_cases hd63:d≤63
      · rw [Nat.min_eq_left hd63]
        exact ⟨_,rfl,by rw [Abc hz]; exact (Nat.div_mul_cancel (Nat.dvd_of_mod_eq_zero hz)).symm⟩
      · have hp:2^62≤2^d:=Auz (by decide) (by omega)
        have:My*2^9=0:=by rw [Aux (by omega)] at hz; exact hz
        rw [Nat.min_eq_right (by omega),this]
        exact ⟨0,by decide,by omega⟩
    obtain ⟨r,hr,hYr⟩:=hr
    rw [hr]
    have hle:r≤2^62:=by
      have:r*1≤r*2^d:=Nat.mul_le_mul_left r hA
      omega
    have cmp:∀ x y:Nat,x*2^d<y*2^d↔x<y:=fun x y=>Nat.mul_lt_mul_right hA
    refine ⟨?_,fun h=>?_,fun h=>?_,fun h=>?_,hle⟩
    · rw [← (s9 _).1,← (s9 _).2]
      exact Mt hd (.inl (by rw [Nat.add_mul (Mx*2^d) My (2^9),Nat.add_mul (Mx*2^9) r (2^d),comm,hYr]))
    · have h1:=(cmp r (Mx*2^9)).2 h
      refine ⟨by omega,?_⟩
      rw [← (s9 _).1,← (s9 _).2]
      exact Mt hd (.inl (by first | rw [Nat.sub_mul (Mx*2^d) My (2^9),Nat.sub_mul (Mx*2^9) r (2^d),comm,hYr] | rw [Nat.sub_mul My (Mx*2^d) (2^9),Nat.sub_mul r (Mx*2^9) (2^d),comm,hYr]))
    · have h1:=(cmp (Mx*2^9) r).2 h
      refine ⟨by omega,?_⟩
      rw [← (s9 _).1,← (s9 _).2]
      exact Mt hd (.inl (by first | rw [Nat.sub_mul (Mx*2^d) My (2^9),Nat.sub_mul (Mx*2^9) r (2^d),comm,hYr] | rw [Nat.sub_mul My (Mx*2^d) (2^9),Nat.sub_mul r (Mx*2^9) (2^d),comm,hYr]))
    · rw [← h] at hYr
      omega
  ·
    have hd10:=pow9 hz
    have hMx:=hbig hd10
    obtain ⟨n1,n2,n3⟩:=Abd hY hz
    have hrle:E1 (My*2^9) (min d 63)≤2^53:=by
      refine Nat.le_of_not_lt fun h=>?_
      have h1:2^53*2^d≤(E1 (My*2^9) (min d 63)-1)*2^d:=Auw _ (by omega)
      have h2:2^10≤2^d:=Auz (by decide) hd10
      have h3:2^53*2^10≤2^53*2^d:=Nat.mul_le_mul_left _ h2
      omega
    generalize E1 (My*2^9) (min d 63)=r at *
    have hr1:1≤r:=by omega
    have e1:(r-1)*2^d+2^d=r*2^d:=by
      obtain ⟨k,rfl⟩:∃ k,r=k+1:=⟨r-1,by omega⟩
      rw [Nat.add_sub_cancel,Nat.add_mul,Nat.one_mul]
    have e2:(r+1)*2^d=r*2^d+2^d:=by rw [Nat.add_mul,Nat.one_mul]
    rw [e2] at n2
    have hXr:r<Mx*2^9:=by omega
    have hXd:(r+1)*2^d≤Mx*2^9*2^d:=Auw _ (by omega)
    rw [e2,comm] at hXd
    obtain ⟨p1,p2,p3⟩:=Ao9 hd comm n1 n2 n3 (by omega) (by omega) hrle
    exact ⟨p1,fun _=>⟨p2,p3⟩,fun h=>by omega,fun h=>by omega,by omega⟩
theorem Tr (n:Bool) (m:Nat) (e:Int):Fq n m e false=(B1 n (B8 m e),flagsOf m e):=by
  unfold Fq
  have:=Dl m 2 e
  have e1:m*2^2=4*m+false.toNat:=by simp; omega
  have e2:e-((2:Nat):Int)=e-2:=by omega
  rw [e1,e2] at this
  rw [this.1,this.2]
theorem Pa (E:Int):B8 0 E=0:=if_pos rfl
theorem Nc (E:Int):flagsOf 0 E=0:=if_pos rfl
theorem Hn {b:Nat} (h:Ir b=true):Ao b≠4∧Ao b≠3:=by
  unfold Ir at h
  simp only [Aur] at h
  unfold Ao
  rw [if_neg (by omega)]
  split
  · omega
  · split<;>omega
theorem Xs {b:Nat} (h:-1064≤Ax b):2^52≤Aq b:=by
  unfold Ax at h
  unfold Aq
  split at h
  · omega
  · rw [if_neg (by assumption)]; omega
theorem Mz (z:Nat) (s:Bool) {V:Nat} (hV:V≠0) (f:Int):J1 z (H8 s V) f=(B1 s (B8 V f),flagsOf V f):=by
  unfold J1 H8
  cases s
  · have h1:¬ (V:Int)=0:=by omega
    have h2:¬ (V:Int)<0:=by omega
    simp only [Bool.false_eq_true,if_false,h1,h2,decide_false,Int.natAbs_natCast]
  · have h1:¬ -(V:Int)=0:=by omega
    have h2:-(V:Int)<0:=by omega
    simp only [if_true,h1,if_false,h2,decide_true,Int.natAbs_neg,Int.natAbs_natCast]
theorem Apb {p q X r:Nat} {e f:Int} (s t:Bool)
    (plus:B8 (X+r) e=B8 (p+q) f∧flagsOf (X+r) e=flagsOf (p+q) f)
    (less:r<X→q<p∧B8 (X-r) e=B8 (p-q) f∧flagsOf (X-r) e=flagsOf (p-q) f)
    (more:X<r→p<q∧B8 (r-X) e=B8 (q-p) f∧flagsOf (r-X) e=flagsOf (q-p) f)
    (same:X=r→p=q) :
    J1 (B1 (s&&t) 0) (H8 s p+H8 t q) f=(if s=t then Fq s (X+r) e false
      else if r<X then Fq s (X-r) e false
      else if X<r then Fq t (r-X) e false
      else (0,0)):=by
  simp only [Tr]
  by_cases hs:s=t
  · rw [if_pos hs,← hs]
    have hsum:H8 s p+H8 s q=H8 s (p+q):=by unfold H8; cases s<;>simp<;>omega
    rw [hsum,plus.1,plus.2]
    by_cases h0:p+q=0
    · rw [h0,Pa,Nc]
      unfold J1
      have:H8 s 0=0:=by unfold H8; cases s<;>rfl
      rw [if_pos this,Auq]
    · exact Mz _ _ h0 _
  · rw [if_neg hs]
    by_cases h1:r<X
    · obtain ⟨c1,c2,c3⟩:=less h1
      rw [if_pos h1,c2,c3]
      have hsum:H8 s p+H8 t q=H8 s (p-q):=by
        unfold H8; cases s<;>cases t<;>simp at hs ⊢<;>omega
      rw [hsum]
      exact Mz _ _ (by omega) _
    · rw [if_neg h1]
      by_cases h2:X<r
      · obtain ⟨c1,c2,c3⟩:=more h2
        rw [if_pos h2,c2,c3]
        have hsum:H8 s p+H8 t q=H8 t (q-p):=by
          unfold H8; cases s<;>cases t<;>simp at hs ⊢<;>omega
        rw [hsum]
        exact Mz _ _ (by omega) _
      · rw [if_neg h2]
        have c:=same (by omega)
        have hsum:H8 s p+H8 t q=0:=by
          unfold H8; cases s<;>cases t<;>simp at hs ⊢<;>omega
        have hz:(s&&t)=false:=by cases s<;>cases t<;>simp at hs ⊢
        rw [hsum,hz]
        rfl
theorem Amc {a b:Nat} (ha:Ir a=true) (hb:Ir b=true) :
    H9 a b=J1 (B1 (Cs a&&Cs b) 0) (Gp a (min (Ax a) (Ax b))+Gp b (min (Ax a) (Ax b))) (min (Ax a) (Ax b)):=by
  have k1:=Hn ha
  have k2:=Hn hb
  unfold H9
  rw [if_neg (fun h=>h.elim k1.1 k2.1),if_neg k1.2,if_neg k2.2]
theorem Ac5 (b:Nat):Gp b (Ax b)=H8 (Cs b) (Aq b):=by
  unfold Gp; rw [Int.sub_self,Int.toNat_zero,Nat.pow_zero,Nat.mul_one]
theorem Ail {b:Nat} {f:Int} {d:Nat} (h:Ax b=f+d):Gp b f=H8 (Cs b) (Aq b*2^d):=by
  unfold Gp
  have:(Ax b-f).toNat=d:=by omega
  rw [this]
theorem Acw {a b:Nat} (ha:Ir a=true) (hb:Ir b=true) {d:Nat} (hd:Ax a=Ax b+d) :
    H9 a b=(if Cs a=Cs b then Fq (Cs a) (Aq a*2^9+E1 (Aq b*2^9) (min d 63)) (Ax a-9) false
      else if E1 (Aq b*2^9) (min d 63)<Aq a*2^9 then Fq (Cs a) (Aq a*2^9-E1 (Aq b*2^9) (min d 63)) (Ax a-9) false
      else if Aq a*2^9<E1 (Aq b*2^9) (min d 63) then Fq (Cs b) (E1 (Aq b*2^9) (min d 63)-Aq a*2^9) (Ax a-9) false
      else (0,0)):=by
  have hx:=Ei a
  have hy:=Ei b
  have C:=Acx (Mx:=Aq a) (My:=Aq b) hd hx hy (fun h=>Xs (by have:=Di b; omega))
  rw [Amc ha hb,Int.min_eq_right (by omega),Ac5,Ail hd]
  exact Apb _ _ C.plus C.less C.more C.same
theorem S5 {b:Nat} (h:b<2^64):Qn b<2^64:=by unfold Qn; split<;>omega
theorem Aek (m:Nat) (e:Int):flagsOf m e<32:=by
  unfold flagsOf flags
  split
  · decide
  · split
    · decide
    · split
      · decide
      · split<;>decide
theorem Uv {a b:Nat} (ha:a<2^64) (hb:b<2^64):(H9 a b).1<2^64∧(H9 a b).2<32:=by
  unfold H9
  split
  · exact ⟨by decide,by decide⟩
  · split
    · split
      · decide
      · exact ⟨ha,(by decide:0<32)⟩
    · split
      · exact ⟨hb,(by decide:0<32)⟩
      · unfold J1
        split
        · refine ⟨?_,(by decide:0<32)⟩
          unfold B1; split<;>decide
        · exact ⟨Q9 _ _ _,Aek _ _⟩
end Go.Rnd
namespace Go.Rnd
open Go.Den
def Bl (r c:Nat) (f:Nat→Nat→Int):List Int:=(List.range (r*c)).map fun j=>f (j / c) (j%c)
theorem Bu (r c:Nat) (f:Nat→Nat→Int):(Bl r c f).length=r*c:=by unfold Bl; rw [List.length_map,List.length_range]
theorem Hz {r c i k:Nat} (hi:i<r) (hk:k<c):i*c+k<r*c:=by
  have:(i+1)*c≤r*c:=Auw c hi
  rw [Nat.add_mul,Nat.one_mul] at this
  omega
theorem Sy {c i k:Nat} (hk:k<c):(i*c+k) / c=i∧(i*c+k)%c=k:=by
  constructor
  · rw [Nat.mul_comm,Nat.mul_add_div (by omega),Nat.div_eq_of_lt hk,Nat.add_zero]
  · rw [Nat.mul_comm,Nat.mul_add_mod,Aux hk]
theorem Gl {r c:Nat} {f:Nat→Nat→Int} {j:Nat} (h:j<r*c):(Bl r c f)[j]?=some (f (j / c) (j%c)):=by
  unfold Bl
  rw [List.getElem?_map,List.getElem?_range h]
  rfl
theorem Acd {r c i k:Nat} {f:Nat→Nat→Int} (hi:i<r) (hk:k<c):(Bl r c f).getD (i*c+k) 0=f i k:=by
  obtain ⟨d1,d2⟩:=Sy (i:=i) hk
  rw [Auu,Gl (Hz hi hk),d1,d2]
  rfl
theorem Rz {l m:List Int} (h:l.length=m.length) (he:∀ j,j<l.length→l[j]?=m[j]?):l=m:=by
  refine List.ext_getElem? fun j=>?_
  by_cases hj:j<l.length
  · exact he j hj
  · rw [List.getElem?_eq_none (by omega),List.getElem?_eq_none (by omega)]
theorem C9 {r c:Nat} {f g:Nat→Nat→Int} (h:∀ i k,i<r→k<c→f i k=g i k):Bl r c f=Bl r c g:=by
  refine Rz (by rw [Bu,Bu]) fun j hj=>?_
  rw [Bu] at hj
  have hc:0<c:=by
    rcases Nat.eq_zero_or_pos c with h0 | h0
    · subst h0; rw [Nat.mul_zero] at hj; omega
    · exact h0
  rw [Gl hj,Gl hj,h (j / c) (j%c) ((Nat.div_lt_iff_lt_mul hc).2 hj) (Nat.mod_lt _ hc)]
theorem Ahs {r c:Nat} {l:List Int} (h:l.length=r*c):l=Bl r c fun i k=>l.getD (i*c+k) 0:=by
  refine Rz (by rw [Bu,h]) fun j hj=>?_
  rw [Gl (by omega)]
  have e:j / c*c+j%c=j:=by rw [Nat.mul_comm]; exact Nat.div_add_mod j c
  rw [e,Auu,Au1 hj]
  rfl
theorem R5 {r c i k:Nat} {f:Nat→Nat→Int} (hk:k<c) (x:Int) :
    (Bl r c f).set (i*c+k) x=Bl r c fun a b=>if a=i∧b=k then x else f a b:=by
  refine Rz (by rw [List.length_set,Bu,Bu]) fun j hj=>?_
  rw [List.length_set,Bu] at hj
  obtain ⟨d1,d2⟩:=Sy (i:=i) hk
  rw [Gl hj,List.getElem?_set]
  by_cases h:i*c+k=j
  · subst h
    rw [if_pos rfl,if_pos (by rw [Bu]; exact hj),d1,d2,if_pos ⟨rfl,rfl⟩]
  · rw [if_neg h,Gl hj,if_neg]
    rintro ⟨h1,h2⟩
    exact h (by rw [← h1,← h2,Nat.mul_comm]; exact Nat.div_add_mod j c)
theorem Kz (r c:Nat) (f:Nat→Nat→Int):Bl (r+1) c f=Bl r c f++(List.range c).map (f r):=by
  unfold Bl
  rw [Nat.add_mul,Nat.one_mul,List.range_add,List.map_append,List.map_map]
  congr 1
  refine List.map_congr_left fun k hk=>?_
  have hk:=List.mem_range.1 hk
  obtain ⟨d1,d2⟩:=Sy (i:=r) hk
  show f ((r*c+k) / c) ((r*c+k)%c)=f r k
  rw [d1,d2]
theorem Ky (c:Nat) (f:Nat→Nat→Int):Bl 0 c f=[]:=by
  unfold Bl; rw [Nat.zero_mul]; rfl
theorem Ii (k:Nat) (g:Nat→Int):(List.range (k+1)).map g=(List.range k).map g++[g k]:=by
  rw [List.range_succ,List.map_append]; rfl
theorem Aei (r c:Nat):Bl r c (fun _ _=>0)=List.replicate (r*c) 0:=by
  unfold Bl
  rw [List.map_const',List.length_range]
def Ub:Nat→List Int→List Int→Nat
  | s,x::xs,y::ys=>Ub (H9 s (Lj x.toNat y.toNat).1).1 xs ys
  | s,_,_=>s
def Nf (x y:List Int):Int:=Ub 0 x y
theorem Ul {a b:Nat}:(Lj a b).1<2^64:=by
  unfold Lj
  split
  · decide
  · split
    · split
      · decide
      · unfold B1; split<;>decide
    · exact Q9 _ _ _
theorem Z4:∀ (x y:List Int) (s:Nat),s<2^64→Ub s x y<2^64
  | x::xs,y::ys,s,h=>Z4 xs ys _ (Uv h Ul).1
  | [],_,_,h=>by unfold Ub; exact h
  | _::_,[],_,h=>by unfold Ub; exact h
end Go.Rnd
namespace Go.Rnd
open Go.Den
def Bj (n:Int):Bool:=decide (0≤n)&&decide (n≤6)
def Bg (r c:Int) (l:List Int):Bool:=(Bj r&&Bj c)&&decide ((l.length:Int)=r*c)
def Je (r c:Int) (l:List Int):Int:=if Bg r c l=true then 0 else 1
def U2 (r c:Int) (l:List Int) (p q:Int) (m:List Int):Int:=if (Bg r c l&&Bg p q m)=true then 0 else 1
def Du (_r c:Int) (l:List Int) (i k:Int):Bool:=Cr (0≤i∧i<10∧0≤k∧k<10∧0≤c∧c<10∧i*c+k<l.length∧l.length<1000)
def Ee (c:Int) (l:List Int) (i k:Int):Int:=l.getD (i*c+k).toNat 0
def Co (i k:Int):Int:=if i=k then 4607182418800017408 else 0
def So (x y i k:Int):Bool:=Cr (0≤x∧x<10∧0≤y∧y<10∧0≤i∧i<10∧0≤k∧k<10)
def Ns (r c x y a b:Int):Bool:=decide (0≤x∧0≤y∧0≤a∧0≤b∧x≤r∧y≤c∧a≤r-x∧b≤c-y)
def Y5 (r c:Int) (l:List Int) (i:Int):Bool:=Bg r c l&&Cr (0≤i∧i<r)
def Lc (r c:Int) (l:List Int) (k:Int):Bool:=Bg r c l&&Cr (0≤k∧k<c)
def Qm (r c:Int) (l:List Int) (p q:Int) (m:List Int) (i k:Int):Bool:=(Y5 r c l i&&Lc p q m k)&&((Ah l&&Ah m)&&Cr (c=p))
def J0 (c:Int) (l:List Int) (i:Int):List Int:=List.drop (i*c).toNat (List.take ((i+1)*c).toNat l)
def N0 (r c:Int) (l:List Int) (k:Int):List Int:=(List.range r.toNat).map fun j:Nat=>Ee c l (j:Int) k
abbrev MX:=Int × Int × List Int × Int
def Gk (e:Int):MX:=(0,0,[],e)
def La (n:Int):MX:=if Bj n=true then (n,n,Bl n.toNat n.toNat fun i k=>Co i k,0) else Gk 3
def Bc (r c:Int) (l:List Int):MX:=if Bg r c l=true then (c,r,Bl c.toNat r.toNat fun i k=>Ee c l k i,0) else Gk 1
def Dz (r c:Int) (l:List Int) (x y a b:Int):MX :=
  if Bg r c l=true then (if Ns r c x y a b=true then (a,b,Bl a.toNat b.toNat fun i k=>Ee c l (x+i) (y+k),0) else Gk 3) else Gk 1
def Ml (r c:Int) (l:List Int) (p q:Int) (m:List Int):MX :=
  if (Bg r c l&&Bg p q m)=true then (if c=p then (r,q,Bl r.toNat q.toNat fun i k=>Nf (J0 c l i) (N0 p q m k),0) else Gk 3) else Gk 1
def T8 (r c:Int) (l:List Int) (p q:Int) (m:List Int):MX :=
  if (Bg r c l&&Bg p q m)=true then (if r=p∧c=q then (r,c,Bl r.toNat c.toNat fun i k=>Dk (Ee c l i k) (Ee q m i k),0) else Gk 3) else Gk 1
def S8 (x y:List Int):Bool:=decide (x.length=y.length)&&decide (x.length≤64)
def okLen (l:List Int):Bool:=Cr (l.length≤17592186044416)
theorem Hm {n:Int}:Bj n=true↔0≤n∧n≤6:=by unfold Bj; simp
theorem Kw {r c:Int} {l:List Int}:Bg r c l=true↔(0≤r∧r≤6)∧(0≤c∧c≤6)∧(l.length:Int)=r*c:=by
  unfold Bg
  rw [Auv,Auv,Hm,Hm,Aur,and_assoc]
theorem Dj {r c:Int} {l:List Int} (h:Bg r c l=true):∃ R C:Nat,r=R∧c=C∧R≤6∧C≤6∧l.length=R*C:=by
  obtain ⟨h1,h2,h3⟩:=Kw.1 h
  refine ⟨r.toNat,c.toNat,by omega,by omega,by omega,by omega,?_⟩
  have:(((r.toNat*c.toNat:Nat)):Int)=r*c:=by rw [Au5,Int.toNat_of_nonneg h1.1,Int.toNat_of_nonneg h2.1]
  omega
theorem Ff {n:Int} (h:Bj n=true):∃ R:Nat,n=R∧R≤6:=by
  have:=Hm.1 h
  exact ⟨n.toNat,by omega,by omega⟩
theorem Afb {n:Nat} (h:n≤6):Bj (n:Int)=true:=Hm.2 ⟨by omega,by omega⟩
theorem Oc {r c:Nat} {l:List Int} (hr:r≤6) (hc:c≤6) (hl:l.length=r*c):Bg (r:Int) (c:Int) l=true :=
  Kw.2 ⟨⟨by omega,by omega⟩,⟨by omega,by omega⟩,by rw [hl,Au5]⟩
theorem Sf (c:Nat) (l:List Int) (i k:Nat):Ee (c:Int) l (i:Int) (k:Int)=l.getD (i*c+k) 0:=by
  unfold Ee
  have:((i:Int)*(c:Int)+(k:Int)).toNat=i*c+k:=by
    rw [← Au5,← Int.natCast_add,Aum]
  rw [this]
theorem Fk {r c i k:Nat} {R:Int} {l:List Int} (hr:r≤6) (hc:c≤6) (hl:l.length=r*c) (hi:i<r) (hk:k<c):Du R (c:Int) l (i:Int) (k:Int)=true:=by
  have:=Hz hi hk
  have h36:=Nat.mul_le_mul hr hc
  refine Ap.2 ⟨by omega,by omega,by omega,by omega,by omega,by omega,?_,by omega⟩
  rw [← Au5]
  omega
theorem R6 {r c i k:Nat} {f:Nat→Nat→Int} (hi:i<r) (hk:k<c):Ee (c:Int) (Bl r c f) (i:Int) (k:Int)=f i k:=by
  rw [Sf,Acd hi hk]
theorem Pp {r c:Nat} {l:List Int} (h:l.length=r*c):(Bl r c fun i k=>Ee (c:Int) l (i:Int) (k:Int))=l:=by
  conv=>rhs; rw [Ahs h]
  exact C9 fun i k _ _=>Sf c l i k
theorem No {l:List Int} (h:Ah l=true) {j:Nat} (hj:j<l.length):Ai (l.getD j 0)=true:=by
  have h:=Ap.1 h
  rw [Auu,Au1 hj]
  exact h _ (List.getElem_mem hj)
end Go.Rnd
namespace Go.Rnd
theorem Xj {b:Nat} (h:b<2^64):B1 (Cs b) (b%2^63)=b:=by
  unfold B1 Cs
  by_cases hb:2^63≤b
  · simp only [hb,decide_true,if_true]; omega
  · simp only [hb,decide_false,Bool.false_eq_true,if_false]; omega
theorem We {b:Nat} (h:b<2^64) (h4:Ao b≠4):B1 (Cs b) (B8 (Aq b) (Ax b))=b:=by
  rw [Pb h4,Xj h]
theorem X7 {b:Nat} (h3:Ao b≠3) (h4:Ao b≠4):flagsOf (Aq b) (Ax b)=0:=by
  by_cases h0:Aq b=0
  · rw [h0]; exact Nc _
  · have h1:=Ei b
    have h2:=Di b
    have h5:=Aoa h3 h4
    exact (Aen false h0 (Ab6 (by omega) h2.1) (by rw [Pb h4]; exact h5)).1
theorem mul_pow {a p:Nat} (a3:Ao a≠3) (a4:Ao a≠4) (p3:Ao p≠3) (p4:Ao p≠4) (hp:Aq p=2^52) (hn:Cs p=false) :
    Lj a p=(B1 (Cs a) (B8 (Aq a) (Ax a+Ax p+52)),flagsOf (Aq a) (Ax a+Ax p+52)):=by
  obtain ⟨s1,s2⟩:=Dl (Aq a) 52 (Ax a+Ax p+52)
  have e:Ax a+Ax p+52-((52:Nat):Int)=Ax a+Ax p:=by omega
  rw [e] at s1 s2
  have e2:(Cs a !=false)=Cs a:=by cases Cs a<;>rfl
  unfold Lj
  rw [if_neg (by omega),if_neg (by omega),hp,hn,s1,s2,e2]
theorem Agk (M:Nat):Fp M (2^52) 120=M*2^69:=by
  unfold Fp
  have e:M*2^120=M*2^68*2^52:=by rw [Nat.mul_assoc,← Nat.pow_add]
  rw [e,Nat.mul_div_cancel _ (B9 52),Nat.mul_mod_left,if_pos rfl,Nat.add_zero,Nat.mul_left_comm]
theorem div_pow {a p:Nat} (a0:Ao a≠0) (a3:Ao a≠3) (a4:Ao a≠4) (p0:Ao p≠0) (p3:Ao p≠3) (p4:Ao p≠4) (hp:Aq p=2^52) (hn:Cs p=false) :
    W8 a p=(B1 (Cs a) (B8 (Aq a) (Ax a-Ax p-52)),flagsOf (Aq a) (Ax a-Ax p-52)):=by
  obtain ⟨s1,s2⟩:=Dl (Aq a) 69 (Ax a-Ax p-52)
  have e:Ax a-Ax p-52-((69:Nat):Int)=Ax a-Ax p-121:=by omega
  rw [e] at s1 s2
  have e2:(Cs a !=false)=Cs a:=by cases Cs a<;>rfl
  unfold W8
  rw [if_neg (by omega),if_neg (by omega),if_neg a3,if_neg (by omega),if_neg p0,hp,hn,Agk,s1,s2,e2]
theorem Abj:Aq 4607182418800017408=2^52∧Ax 4607182418800017408=-52∧Ao 4607182418800017408=2∧Cs 4607182418800017408=false:=by decide +kernel
theorem mul_one {a:Nat} (h:a<2^64) (a3:Ao a≠3) (a4:Ao a≠4):Lj a 4607182418800017408=(a,0):=by
  obtain ⟨o1,o2,o3,o4⟩:=Abj
  have e:Ax a+-52+52=Ax a:=by omega
  rw [mul_pow a3 a4 (by omega) (by omega) o1 o4,o2,e,We h a4,X7 a3 a4]
theorem div_one {a:Nat} (h:a<2^64) (a0:Ao a≠0) (a3:Ao a≠3) (a4:Ao a≠4):W8 a 4607182418800017408=(a,0):=by
  obtain ⟨o1,o2,o3,o4⟩:=Abj
  have e:Ax a - -52-52=Ax a:=by omega
  rw [div_pow a0 a3 a4 (by omega) (by omega) (by omega) o1 o4,o2,e,We h a4,X7 a3 a4]
end Go.Rnd
namespace Go.Rnd
def Q2 (n:Nat):Nat:=Ieee.Datum.rootFrom n (n.log2 / 2+1) 0
theorem Am7 (k:Nat):1 <<< k=2^k:=by rw [Nat.shiftLeft_eq,Nat.one_mul]
theorem Sr {n:Nat}:∀ (todo root:Nat),root*root≤n→n<(root+2^todo)*(root+2^todo) →
    Ieee.Datum.rootFrom n todo root*Ieee.Datum.rootFrom n todo root≤n∧n<(Ieee.Datum.rootFrom n todo root+1)*(Ieee.Datum.rootFrom n todo root+1)
  | 0,root,h1,h2=>⟨h1,h2⟩
  | todo+1,root,h1,h2=>by
    unfold Ieee.Datum.rootFrom
    simp only [Am7]
    have hp:2^(todo+1)=2^todo+2^todo:=by rw [Nat.pow_succ]; omega
    rw [hp] at h2
    by_cases h:(root+2^todo)*(root+2^todo)≤n
    · rw [if_pos h]
      exact Sr todo _ h (by rw [Nat.add_assoc]; exact h2)
    · rw [if_neg h]
      exact Sr todo _ h1 (by omega)
theorem Ot (n:Nat):Q2 n*Q2 n≤n∧n<(Q2 n+1)*(Q2 n+1):=by
  refine Sr _ _ (by simp) ?_
  rw [Nat.zero_add,← Nat.pow_add]
  rcases Nat.eq_zero_or_pos n with rfl | hn
  · decide
  · refine (Nat.log2_lt (by omega)).1 ?_
    omega
theorem Aa4 {a b:Nat} (h:a*a<b*b):a<b:=by
  rcases Nat.lt_or_ge a b with h1 | h1
  · exact h1
  · have:=Nat.mul_le_mul h1 h1; omega
theorem V8 {n w:Nat} (h1:w*w≤n) (h2:n<(w+1)*(w+1)):w=Q2 n:=by
  obtain ⟨a,b⟩:=Ot n
  have c1:=Aa4 (Nat.lt_of_le_of_lt h1 b)
  have c2:=Aa4 (Nat.lt_of_le_of_lt a h2)
  omega
theorem Aku {n w:Nat} (h:w*w≤n):w≤Q2 n:=by
  have:=Aa4 (Nat.lt_of_le_of_lt h (Ot n).2)
  omega
def F2 (n:Nat):Nat:=2*Q2 n+(if Q2 n*Q2 n=n then 0 else 1)
theorem Sn (a c:Nat):a*c*(a*c)=a*a*(c*c):=by
  rw [Nat.mul_assoc,Nat.mul_left_comm c,← Nat.mul_assoc a a]
theorem Xl {n:Nat} (d:Nat) (E:Int) (h:2^53≤Q2 n) :
    B8 (F2 (n*(2^d*2^d))) (E-d)=B8 (F2 n) E∧flagsOf (F2 (n*(2^d*2^d))) (E-d)=flagsOf (F2 n) E:=by
  have hA:=B9 d
  obtain ⟨h1,h2⟩:=Ot n
  unfold F2
  generalize hw:Q2 n=w at *
  generalize hc:2^d=c at *
  have hcc:0<c*c:=Nat.mul_pos hA hA
  by_cases h0:w*w=n
  · have e1:Q2 (n*(c*c))=w*c:=by
      refine (V8 ?_ ?_).symm
      · rw [Sn,h0]; exact Nat.le_refl _
      · have:=Sn w c
        rw [h0] at this
        rw [Nat.add_mul,Nat.mul_add,this]; omega
    rw [e1,Sn,h0,if_pos rfl,if_pos rfl]
    have:=Dl (2*w+0) d E
    rw [hc,show (2*w+0)*c=2*(w*c)+0 by rw [Nat.add_zero,Nat.add_zero,Nat.mul_assoc]] at this
    exact this
  · rw [if_neg h0]
    obtain ⟨g1,g2⟩:=Ot (n*(c*c))
    have q1:w*c≤Q2 (n*(c*c)):=Aku (by rw [Sn]; exact Auw _ h1)
    have q2:Q2 (n*(c*c))<(w+1)*c:=by
      refine Aa4 (Nat.lt_of_le_of_lt g1 ?_)
      rw [Sn]
      exact (Nat.mul_lt_mul_right hcc).2 h2
    have q3:Q2 (n*(c*c))=w*c→Q2 (n*(c*c))*Q2 (n*(c*c))≠n*(c*c):=fun h5 h6=>by
      rw [h5,Sn] at h6
      exact h0 (Nat.eq_of_mul_eq_mul_right hcc h6)
    generalize hQ:Q2 (n*(c*c))=Q at *
    have p1:(2*w+1-1)*c=2*(w*c):=by rw [Nat.add_sub_cancel,Nat.mul_assoc]
    have p2:(2*w+1+1)*c=2*((w+1)*c):=by rw [show 2*w+1+1=2*(w+1) by omega,Nat.mul_assoc]
    have od:(2*w+1)%2=1:=by omega
    generalize hV:2*Q+(if Q*Q=n*(c*c) then 0 else 1)=V
    have v1:(2*w+1-1)*2^d<V:=by
      rw [hc,p1,← hV]
      by_cases h5:Q=w*c
      · rw [if_neg (q3 h5)]; omega
      · split<;>omega
    have v2:V<(2*w+1+1)*2^d:=by
      rw [hc,p2,← hV]
      split<;>omega
    have lV:=On od (by omega) v1 v2
    have hs:54≤(2*w+1).log2:=by rw [Nat.le_log2 (by omega)]; omega
    have ee:E-(d:Int)+d=E:=by omega
    have:=Oa (E:=E-d) od v1 v2 (by unfold Cc; rw [lV]; omega) (by unfold Cc; omega)
    rw [ee] at this
    exact this
theorem Zv {n t:Nat} (h:2^(t+t)≤n):2^t≤Q2 n:=Aku (by rw [← Nat.pow_add]; exact h)
theorem pow_two (k d:Nat):2^(k+2*d)=2^k*(2^d*2^d):=by rw [Nat.pow_add,Nat.two_mul,Nat.pow_add]
theorem Agu {m k l:Nat} {E F:Int} (h1:2^106≤m*2^k) (h2:2^106≤m*2^l) (he:2*E+k=2*F+l) :
    B8 (F2 (m*2^k)) E=B8 (F2 (m*2^l)) F∧flagsOf (F2 (m*2^k)) E=flagsOf (F2 (m*2^l)) F:=by
  rcases Nat.le_total k l with h | h
  · obtain ⟨d,rfl⟩:∃ d,l=k+2*d:=⟨(l-k) / 2,by omega⟩
    have:=Xl (n:=m*2^k) d E (Zv (t:=53) h1)
    rw [Nat.mul_assoc,← pow_two,show E-(d:Int)=F by omega] at this
    exact ⟨this.1.symm,this.2.symm⟩
  · obtain ⟨d,rfl⟩:∃ d,k=l+2*d:=⟨(k-l) / 2,by omega⟩
    have:=Xl (n:=m*2^l) d F (Zv (t:=53) h2)
    rw [Nat.mul_assoc,← pow_two,show F-(d:Int)=E by omega] at this
    exact this
def J8 (b:Nat):Nat:=128+(Ax b%2).toNat
def Nq (b:Nat):Nat × Nat :=
  if Ao b=4 then (W9,0)
  else if Ao b=0∨b=Gg then (b,0)
  else if Cs b=true then (W9,16)
  else (B8 (F2 (Aq b*2^J8 b)) ((Ax b-J8 b) / 2-1),flagsOf (F2 (Aq b*2^J8 b)) ((Ax b-J8 b) / 2-1))
theorem I6 {b:Nat} (h3:Ao b≠3) (h4:Ao b≠4):Aq b=0↔Ao b=0:=by
  have:=Mp b
  have:=Ij b
  unfold Aq
  unfold Ao at *
  split at h3<;>split<;>(try split)<;>(try split)<;>simp_all<;>omega
theorem Aa3 {b:Nat} (h:Ao b=4):Nq b=(W9,0):=if_pos h
theorem Sm {b:Nat} (h4:Ao b≠4) (h:Ao b=0∨b=Gg):Nq b=(b,0):=by unfold Nq; rw [if_neg h4,if_pos h]
theorem Aa2 {b:Nat} (h4:Ao b≠4) (h:¬ (Ao b=0∨b=Gg)) (hn:Cs b=true):Nq b=(W9,16):=by unfold Nq; rw [if_neg h4,if_neg h,if_pos hn]
theorem Ai5 {b:Nat} (h4:Ao b≠4) (h:¬ (Ao b=0∨b=Gg)) (hn:Cs b=false) :
    Nq b=(B8 (F2 (Aq b*2^J8 b)) ((Ax b-J8 b) / 2-1),flagsOf (F2 (Aq b*2^J8 b)) ((Ax b-J8 b) / 2-1)):=by
  unfold Nq; rw [if_neg h4,if_neg h,if_neg (by rw [hn]; decide)]
theorem Ai9 (r:Nat):B1 false r=r:=rfl
theorem Ajh {b:Nat} (hm:Aq b≠0):2^106≤Aq b*2^J8 b∧2*((Ax b-(J8 b:Int)) / 2-1)+J8 b=Ax b-2:=by
  refine ⟨?_,by unfold J8; omega⟩
  have:2^128≤2^J8 b:=Auz (by decide) (by unfold J8; omega)
  have h5:=Nat.mul_le_mul (show 1≤Aq b by omega) this
  omega
theorem Ake {b:Nat} (hm:Aq b≠0):(Aq b).log2≤52:=by
  have:=(Nat.log2_lt hm).2 (show Aq b<2^53 from Ei b)
  omega
end Go.Rnd
namespace Go.Rnd
def Hs (b:Nat) (n:Int):Nat × Nat :=
  if Ao b=4 then (W9,0)
  else if Ao b=3∨Ao b=0 then (b,0)
  else (B1 (Cs b) (B8 (Aq b) (Ax b+n)),flagsOf (Aq b) (Ax b+n))
theorem Ai0 {V:Nat} {E:Int} (h0:V≠0) (h:E+V.log2+1≤-1075):B8 V E=0∧flagsOf V E=3:=by
  have hl:Cc V E=-1074:=by unfold Cc; omega
  obtain ⟨k,hk⟩:∃ k:Nat,(-1074:Int)-E=((k:Nat):Int):=⟨(-1074-E).toNat,by omega⟩
  have hV:V<2^(V.log2+1):=(Nat.log2_lt h0).1 (by omega)
  have hp:2^(V.log2+1)*2≤2^k:=by rw [← Nat.pow_succ]; exact Auz (by decide) (by omega)
  have e1:V*2^(-((-1074:Int)-E)).toNat=V:=by rw [hk]; simp
  have e2:((-1074:Int)-E).toNat=k:=by rw [hk]; rfl
  have hk2:kept V E=0:=by
    unfold kept Iy
    rw [hl,e1,e2]
    unfold L5
    rw [Nat.div_eq_of_lt (by omega),Aux (by omega),if_neg (by omega)]
  have hx:exact V E=false:=by
    unfold exact K1
    rw [hl,e1,e2,Aux (by omega)]
    exact Aup h0
  have hr:B8 V E=0:=by
    unfold B8
    rw [if_neg h0,hl,hk2]
    rfl
  refine ⟨hr,?_⟩
  unfold flagsOf
  rw [if_neg h0,hr,hx]
  rfl
theorem Ag6 (n:Bool) {m:Nat} {e:Int} {more:Bool} (hm:m<2^53) (h0:m≠0∨more=true) (he:e≤-1130) :
    Fq n m e more=(B1 n 0,3):=by
  have h1:more.toNat≤1:=by cases more<;>decide
  have hV:4*m+more.toNat≠0:=by
    rcases h0 with h | h
    · omega
    · rw [h]; simp
  have hl:(4*m+more.toNat).log2≤54:=by
    have:=(Nat.log2_lt hV).2 (show 4*m+more.toNat<2^55 by omega); omega
  have:=Ai0 hV (E:=e-2) (by omega)
  unfold Fq
  rw [this.1,this.2]
theorem Ajx (n:Bool):Fq n 0 (-1074) true=(B1 n 0,3):=by
  cases n<;>decide +kernel
theorem Adl {b:Nat} {n:Int} (h4:Ao b≠4) (h:¬ (Ao b=3∨Ao b=0)) (hn:Ax b+n≤-1130):Hs b n=(B1 (Cs b) 0,3):=by
  have hm:Aq b≠0:=fun h5=>h (.inr ((I6 (by omega) h4).1 h5))
  have:=Ai0 hm (E:=Ax b+n) (by have:=Ake hm; omega)
  unfold Hs
  rw [if_neg h4,if_neg h,this.1,this.2]
theorem Agp {b:Nat} {n:Int} (h4:Ao b≠4) (h:¬ (Ao b=3∨Ao b=0)):Hs b n=(B1 (Cs b) (B8 (Aq b) (Ax b+n)),flagsOf (Aq b) (Ax b+n)):=by
  unfold Hs; rw [if_neg h4,if_neg h]
def Aem (b:Nat):Int:=if Ir b=true∧Ao b≠0 then ((Aq b).log2:Int)+Ax b else 0
def Aia (b:Nat):Nat:=b%2^63
def Aqu (a b:Nat):Int:=if Ao a=4∨Ao b=4 then 0 else if Ny a<Ny b then -1 else if Ny b<Ny a then 1 else 0
def Aqv (a b:Nat):Bool:=!(decide (Ao a=4∨Ao b=4))
end Go.Rnd
namespace Go.Rnd
open Go.Den
def Xn (b:Int):Int:=Ny b.toNat
def Adz (a b:Int):Int:=Aqu a.toNat b.toNat
def At0 (a b:Int):Bool:=Aqv a.toNat b.toNat
def Abu (x:Int):Int:=Aia x.toNat
def Cg (x n:Int):Int:=(Hs x.toNat n).1
def Ana (x n:Int):Int:=(Hs x.toNat n).2
def Ew (x n:Int):Bool:=Ai x&&Cr (-2300≤n∧n≤2300)
def Bt (x:Int):Int:=Aem x.toNat
def Aab:List Int→Nat→Nat
  | [],m=>m
  | x::l,m=>if Ao x.toNat=4 then W9 else Aab l (max m (Aia x.toNat))
def Bq (l:List Int):Int:=Aab l 0
def Dw (l:List Int):Bool:=l.all Cv
def B6 (r c:Int) (l:List Int):Int:=if Bg r c l=true then (if Dw l=true then 0 else 4) else 1
def Afp (c:Int) (l:List Int) (n:Nat):Bool:=(List.range n).any fun i:Nat=>decide (A1 (Ee c l (i:Int) (i:Int))=0)
def Mr (r c:Int) (l:List Int) (p q:Int) (m:List Int):Int :=
  if B6 r c l≠0 then B6 r c l else if B6 p q m≠0 then B6 p q m
  else if r≠c∨r≠p then 3 else if Afp c l r.toNat=true then 5 else 0
def K8 (c:Int) (l:List Int) (i:Int):Int→Int→List Int→Int
  | s,_,[]=>s
  | s,j,x::xs=>K8 c l i (Dk s (Eg (Ee c l i j) x)) (j+1) xs
def Ys (c:Int) (l:List Int) (b:Nat→Int) (n:Nat):Nat→List Int
  | 0=>[]
  | k+1=>Eo (K8 c l ((n-1-k:Nat):Int) (b (n-1-k)) ((n-k:Nat):Int) (Ys c l b n k)) (Ee c l ((n-1-k:Nat):Int) ((n-1-k:Nat):Int))::Ys c l b n k
def Ur (c:Int) (l:List Int) (b:Nat→Int):Nat→List Int
  | 0=>[]
  | k+1=>Ur c l b k++[Eo (K8 c l (k:Int) (b k) 0 (Ur c l b k)) (Ee c l (k:Int) (k:Int))]
def upG (c:Int) (l:List Int) (q:Int) (m:List Int) (n w:Nat):List Int:=Bl n w fun i j=>(Ys c l (fun i=>Ee q m (i:Int) (j:Int)) n n).getD i 0
def W3 (c:Int) (l:List Int) (q:Int) (m:List Int) (n w:Nat):List Int:=Bl n w fun i j=>(Ur c l (fun i=>Ee q m (i:Int) (j:Int)) n).getD i 0
def Iw (r c:Int) (l:List Int):MX:=if Dw l=true then (r,c,l,0) else Gk 2
def Xc (r c:Int) (l:List Int) (p q:Int) (m:List Int):MX :=
  if Mr r c l p q m≠0 then Gk (Mr r c l p q m) else Iw r q (upG c l q m r.toNat q.toNat)
def Zp (r c:Int) (l:List Int) (p q:Int) (m:List Int):MX :=
  if Mr r c l p q m≠0 then Gk (Mr r c l p q m) else Iw r q (W3 c l q m r.toNat q.toNat)
def Tz (c:Int) (l:List Int) (n:Nat):List Int:=(List.range n).map fun i:Nat=>Abu (Ee c l (i:Int) (i:Int))
def Apq (d:List Int):Bool:=d.any fun x=>!(decide (Adz (Cg (Bq d) (-40)) x<0))
def Ak6 (r c:Int) (l:List Int):Bool:=Apq (Tz c l (min r.toNat c.toNat))
def Nv (r c:Int) (l:List Int):Bool × Int:=if B6 r c l≠0 then (false,B6 r c l) else (Ak6 r c l,0)
def N6 (r c:Int) (l:List Int) (p q:Int) (m:List Int):Bool:=(Bg r c l&&Bg p q m)&&((Ah l&&Ah m)&&Cr (r=c∧r=p))
def D7 (n:Nat):List Int:=Bl n n fun i k=>Co (i:Int) (k:Int)
def El (r c:Int) (l:List Int) (p q:Int) (m:List Int):MX :=
  if (Bc r c l).2.2.2≠0 then Gk (Bc r c l).2.2.2 else Ml (Bc r c l).1 (Bc r c l).2.1 (Bc r c l).2.2.1 p q m
end Go.Rnd
namespace Go.Rnd
open Go.Den
theorem Aos {a b:Nat}:(W8 a b).1<2^64:=by
  have h1:Gg<2^63:=by decide
  have hs:∀ (s:Bool) {r:Nat},r<2^63→B1 s r<2^64:=by
    intro s r h
    unfold B1
    cases s
    · rw [if_neg (by decide)]; omega
    · rw [if_pos rfl]; omega
  have hN:W9<2^64:=by decide
  unfold W8
  by_cases c1:Ao a=4∨Ao b=4
  · rw [if_pos c1]; exact hN
  rw [if_neg c1]
  by_cases c2:Ao a=Ao b∧(Ao a=3∨Ao a=0)
  · rw [if_pos c2]; exact hN
  rw [if_neg c2]
  by_cases c3:Ao a=3
  · rw [if_pos c3]; exact hs _ h1
  rw [if_neg c3]
  by_cases c4:Ao b=3∨Ao a=0
  · rw [if_pos c4]; exact hs _ (by decide)
  rw [if_neg c4]
  by_cases c5:Ao b=0
  · rw [if_pos c5]; exact hs _ h1
  rw [if_neg c5]
  exact hs _ (Pd _ _)
theorem Z6 (a b:Int):Ai (Eo a b)=true:=B5 Aos
theorem N7 {a b:Int} (ha:Ai a=true) (hb:Ai b=true):Ai (Dk a b)=true:=by
  obtain ⟨x,rfl,hx⟩:=Bv ha
  obtain ⟨y,rfl,hy⟩:=Bv hb
  exact B5 (Uv (by rw [Aum]; exact hx) (S5 (by rw [Aum]; exact hy))).1
theorem Gr {r c:Nat} {f:Nat→Nat→Int} (h:∀ i k,Ai (f i k)=true):Ah (Bl r c f)=true:=Ap.2 fun x hx=>by
  obtain ⟨j,_,rfl⟩:=List.mem_map.1 hx
  exact h _ _
theorem L7 (a b:Int):Ai (Eg a b)=true:=B5 Ul
theorem Qf (c:Int) (l:List Int) (b:Nat→Int) (n:Nat):∀ k,(Ys c l b n k).length=k
  | 0=>rfl
  | k+1=>by rw [Ys,List.length_cons,Qf c l b n k]
theorem Ac6 (c:Int) (l:List Int) (b:Nat→Int) (n:Nat):∀ k,∀ x∈Ys c l b n k,Ai x=true
  | 0,x,h=>by cases h
  | k+1,x,h=>by
    rw [Ys] at h
    rcases List.mem_cons.1 h with rfl | h
    · exact Z6 _ _
    · exact Ac6 c l b n k x h
theorem Aas (c:Int) (l:List Int) (b:Nat→Int) (n k:Nat):∀ d,(Ys c l b n (k+d)).drop d=Ys c l b n k
  | 0=>rfl
  | d+1=>by
    rw [← Nat.add_assoc,Ys,List.drop_succ_cons]
    exact Aas c l b n k d
theorem Aar {c:Int} {l:List Int} {b:Nat→Int} {n k:Nat} (h:k≤n):(Ys c l b n n).drop (n-k)=Ys c l b n k:=by
  have:=Aas c l b n k (n-k)
  rw [Nat.add_sub_cancel' h] at this
  exact this
theorem Amt {c:Int} {l:List Int} {b:Nat→Int} {n i:Nat} (h:i<n) :
    (Ys c l b n n).getD i 0=Eo (K8 c l (i:Int) (b i) ((i+1:Nat):Int) ((Ys c l b n n).drop (i+1))) (Ee c l (i:Int) (i:Int)):=by
  have e1:=Aar (c:=c) (l:=l) (b:=b) (n:=n) (k:=n-i) (by omega)
  have e2:=Aar (c:=c) (l:=l) (b:=b) (n:=n) (k:=n-i-1) (by omega)
  rw [show n-(n-i)=i by omega] at e1
  rw [show n-(n-i-1)=i+1 by omega] at e2
  rw [e2]
  have e3:(Ys c l b n n).getD i 0=((Ys c l b n n).drop i).getD 0 0:=by
    rw [Auu,Auu,List.getElem?_drop,Nat.add_zero]
  rw [e3,e1,show n-i=(n-i-1)+1 by omega,Ys]
  have e4:n-1-(n-i-1)=i:=by omega
  have e5:n-(n-i-1)=i+1:=by omega
  rw [e4,e5]
  rfl
theorem R7 {l:List Int} (h:∀ x∈l,Ai x=true) (i:Nat):Ai (l.getD i 0)=true:=by
  rw [Auu]
  cases hi:l[i]? with
  | none=>exact B5 (n:=0) (by decide)
  | some x=>exact h x (List.mem_of_getElem? hi)
theorem X0 {c:Int} {l:List Int} {i s j:Int} {xs:List Int} {t:Nat} (h:t<xs.length):K8 c l i s j (xs.drop t)=K8 c l i (Dk s (Eg (Ee c l i j) (xs.getD t 0))) (j+1) (xs.drop (t+1)):=by
  rw [List.drop_eq_getElem_cons h,K8,Auu,Au1 h]; rfl
theorem G5 (c:Int) (l:List Int) (b:Nat→Int):∀ k,(Ur c l b k).length=k
  | 0=>rfl
  | k+1=>by rw [Ur,List.length_append,G5 c l b k]; rfl
theorem Aec (c:Int) (l:List Int) (b:Nat→Int):∀ k,∀ x∈Ur c l b k,Ai x=true
  | 0,x,h=>by cases h
  | k+1,x,h=>by
    rw [Ur] at h
    rcases List.mem_append.1 h with h | h
    · exact Aec c l b k x h
    · rw [List.mem_singleton.1 h]; exact Z6 _ _
theorem Ab0 {c:Int} {l:List Int} {b:Nat→Int} {k:Nat}:∀ d,(Ur c l b (k+d)).take k=Ur c l b k
  | 0=>by rw [Nat.add_zero]; exact List.take_of_length_le (by rw [G5]; omega)
  | d+1=>by
    rw [← Nat.add_assoc,Ur,List.take_append_of_le_length (by rw [G5]; omega)]
    exact Ab0 d
theorem Ab1 {c:Int} {l:List Int} {b:Nat→Int} {n k:Nat} (h:k≤n):(Ur c l b n).take k=Ur c l b k:=by
  have:=Ab0 (c:=c) (l:=l) (b:=b) (k:=k) (n-k)
  rw [Nat.add_sub_cancel' h] at this
  exact this
theorem An3 {c:Int} {l:List Int} {b:Nat→Int} {n i:Nat} (h:i<n) :
    (Ur c l b n).getD i 0=Eo (K8 c l (i:Int) (b i) 0 ((Ur c l b n).take i)) (Ee c l (i:Int) (i:Int)):=by
  have e1:=Ab1 (c:=c) (l:=l) (b:=b) (n:=n) (k:=i+1) (by omega)
  have e2:=Ab1 (c:=c) (l:=l) (b:=b) (n:=n) (k:=i) (by omega)
  have e3:(Ur c l b n).getD i 0=((Ur c l b n).take (i+1)).getD i 0:=by
    rw [Auu,Auu,List.getElem?_take_of_lt (by omega)]
  rw [e3,e1,e2,Ur,Auu,List.getElem?_append_right (by rw [G5]; omega),G5,Nat.sub_self]
  rfl
end Go.Rnd
namespace Go.Rnd
open Go.Den
def Aqx:Int:=4607182418800017408
def Hg (x:Int):Int:=(Nq x.toNat).1
def N8 (x:Int):Int:=(Nq x.toNat).2
def Adh (k:Int):Int→List Int→Int
  | s,[]=>s
  | s,x::l=>Adh k (Kc s (Eg (Cg x k) (Cg x k))) l
def Ek (x:List Int):Int :=
  if Bq x=0∨Cv (Bq x)=false then Bq x else Cg (Hg (Adh (-Bt (Bq x)) 0 x)) (Bt (Bq x))
def Jp (l:List Int):Bool:=l.all fun x=>decide (A1 x=0)
def P7:List Int→Int
  | []=>0
  | x::l=>if A1 x=0 then P7 l else x
def Bk (l:List Int) (k:Int):List Int:=l.map fun x=>Cg x k
def I3 (n:Nat) (f:Nat→Int):List Int:=Aqx::(List.range (n-1)).map fun j=>f (j+1)
def muI (x:List Int):Int:=if Dp (P7 x)=true then Ek (Bk x (-Bt (Bq x))) else Dm (Ek (Bk x (-Bt (Bq x))))
def Ho (x:List Int):Int:=Cg (muI x) (Bt (Bq x))
def Ak8 (x:List Int):Int:=Cg (x.getD 0 0) (-Bt (Bq x))
def Abl (x:List Int):List Int:=I3 x.length fun j=>Eo (Cg (x.getD j 0) (-Bt (Bq x))) (Dk (Ak8 x) (muI x))
def Ad5 (x:List Int):Int:=Eo (Dk (muI x) (Ak8 x)) (muI x)
def Ans (x:List Int):List Int × Int × Int × Int :=
  if Jp (x.drop 1)=true then (I3 x.length fun _=>0,0,x.getD 0 0,0)
  else if Cv (Ho x)=true then (Abl x,Ad5 x,Ho x,0) else ([],0,0,2)
def Cf (x:List Int):List Int × Int × Int × Int :=
  if x.length=0∨64<x.length then ([],0,0,3) else if Dw x=true then Ans x else ([],0,0,4)
def Dr (c:Int) (l:List Int) (b i:Int) (n:Nat):List Int:=(List.range n).map fun j:Nat=>Ee c l (i+(j:Int)) b
def Aad (c:Int) (l:List Int) (i:Int) (v:List Int) (t b:Int):Int:=Eg t (Nf v (Dr c l b i v.length))
def O0 (c:Int) (l:List Int) (i k:Int) (v:List Int) (t a b:Int):Int :=
  if k≤b∧i≤a∧a<i+v.length then Dk (Ee c l a b) (Eg (Aad c l i v t b) (v.getD (a-i).toNat 0)) else Ee c l a b
def F4 (r c:Nat) (l:List Int) (i k:Int) (v:List Int) (t:Int):List Int:=Bl r c fun a b=>O0 (c:Int) l i k v t (a:Int) (b:Int)
def Md (r c i k:Int) (v:List Int):Bool:=decide (0≤i∧(v.length:Int)≤r∧i≤r-v.length∧0≤k∧k≤c)
def Td (r c:Nat) (l:List Int) (j:Nat) (x:Int):List Int:=Bl r c fun a b=>if b=j∧j≤a then (if a=j then x else 0) else Ee (c:Int) l (a:Int) (b:Int)
def F6 (r c:Nat) (l:List Int) (j:Nat):List Int:=Dr (c:Int) l (j:Int) (j:Int) (r-j)
def W1 (r c:Nat) (l:List Int) (j:Nat):List Int:=Td r c (F4 r c l (j:Int) (j:Int) (Cf (F6 r c l j)).1 (Cf (F6 r c l j)).2.1) j (Cf (F6 r c l j)).2.2.1
def Nw (r c:Nat):Nat→Nat→List Int→Option (List Int × List (List Int × Int))
  | 0,_,l=>some (l,[])
  | n+1,j,l=>if (Cf (F6 r c l j)).2.2.2=0 then
      (Nw r c n (j+1) (W1 r c l j)).map fun x=>(x.1,((Cf (F6 r c l j)).1,(Cf (F6 r c l j)).2.1)::x.2) else none
def I1 (r c:Nat):Nat:=min c (r-1)
def Kb (n:Nat):Nat→List (List Int × Int)→List Int→List Int
  | _,[],q=>q
  | j,m::ms,q=>F4 n n (Kb n (j+1) ms q) (j:Int) 0 m.1 m.2
def Iz (r c:Nat) (l:List Int):Option (List Int × List (List Int × Int)):=Nw r c (I1 r c) 0 l
def Sb (r c:Nat) (l:List Int):List Int:=match Iz r c l with
  | some x=>Kb r 0 x.2 (D7 r)
  | none=>[]
def Nz (r c:Nat) (l:List Int):List Int:=match Iz r c l with
  | some x=>x.1
  | none=>[]
def Fb (r c:Int) (l:List Int):MX:=if (Iz r.toNat c.toNat l).isSome=true then (r,c,Nz r.toNat c.toNat l,0) else Gk 2
def Vw (ms:List (List Int × Int)):List (List DV):=ms.map fun m=>[.ints .arg .u64 m.1,.int .u64 m.2]
def Jb (r c:Int) (l:List Int):List (List DV):=match Iz r.toNat c.toNat l with
  | some x=>Vw x.2
  | none=>[]
def Rx (m:Int):Int:=Q2 (m.toNat*2^64)
def Ry (m:Int):Bool:=decide (Q2 (m.toNat*2^64)*Q2 (m.toNat*2^64)=m.toNat*2^64)
def Qc (r c:Nat) (l:List Int):Bool:=(Iz r c l).isSome&&(Dw (Sb r c l)&&Dw (Nz r c l))
def Gh (r c:Int) (l:List Int):Int:=if B6 r c l≠0 then B6 r c l else if Qc r.toNat c.toNat l=true then 0 else 2
def qX (r c:Int) (l:List Int):MX:=if Gh r c l≠0 then Gk (Gh r c l) else (r,r,Sb r.toNat c.toNat l,0)
def rX (r c:Int) (l:List Int):MX:=if Gh r c l≠0 then Gk (Gh r c l) else (r,c,Nz r.toNat c.toNat l,0)
def tqX (r c:Int) (l:List Int):MX:=if Gh r c l≠0 then Gk (Gh r c l) else (r,min r c,(Dz r r (Sb r.toNat c.toNat l) 0 0 r (min r c)).2.2.1,0)
def trX (r c:Int) (l:List Int):MX:=if Gh r c l≠0 then Gk (Gh r c l) else (min r c,c,(Dz r c (Nz r.toNat c.toNat l) 0 0 (min r c) c).2.2.1,0)
end Go.Rnd
namespace Go.Rnd
open Go.Den
def mulM (x y:MX):MX:=Ml x.1 x.2.1 x.2.2.1 y.1 y.2.1 y.2.2.1
def P1 (x:MX):MX:=Bc x.1 x.2.1 x.2.2.1
def I7 (x:MX) (i k a b:Int):MX:=Dz x.1 x.2.1 x.2.2.1 i k a b
def Ahv (r c:Int) (l:List Int) (e:Int):MX:=if e≠0 then Gk e else if B6 r c l≠0 then Gk 2 else (r,c,l,0)
def Acj (x:MX):MX:=Ahv x.1 x.2.1 x.2.2.1 x.2.2.2
def eqT (p q:Int) (m:List Int):List Int:=(Bc p q m).2.2.1
def eqR (p q:Int) (m:List Int):MX:=rX q p (eqT p q m)
def eqS (p q:Int) (m:List Int):MX:=P1 (I7 (eqR p q m) 0 0 p p)
def hY (p q:Int) (m:List Int) (u v:Int) (h:List Int):MX :=
  if Gh q p (eqT p q m)≠0 then Gk (Gh q p (eqT p q m)) else if (Nv (eqS p q m).1 (eqS p q m).2.1 (eqS p q m).2.2.1).1=true then Gk 5
  else Zp (eqS p q m).1 (eqS p q m).2.1 (eqS p q m).2.2.1 u v h
def hQ (p q:Int) (m:List Int):MX :=
  if Gh q p (eqT p q m)≠0 then Gk (Gh q p (eqT p q m)) else if (Nv (eqS p q m).1 (eqS p q m).2.1 (eqS p q m).2.2.1).1=true then Gk 5
  else qX q p (eqT p q m)
end Go.Rnd
namespace Go.Rnd
open Go.Den
def upM (x y:MX):MX:=Xc x.1 x.2.1 x.2.2.1 y.1 y.2.1 y.2.2.1
def Ua (x y:MX):MX:=Zp x.1 x.2.1 x.2.2.1 y.1 y.2.1 y.2.2.1
def Atu (x y:MX):MX:=T8 x.1 x.2.1 x.2.2.1 y.1 y.2.1 y.2.2.1
def Fl (x y:MX):MX:=El x.1 x.2.1 x.2.2.1 y.1 y.2.1 y.2.2.1
def R8 (x:MX):Bool:=(Nv x.1 x.2.1 x.2.2.1).1
def Mb (x:MX):Int:=B6 x.1 x.2.1 x.2.2.1
def Tt (r c:Int) (l:List Int):Int :=
  if (Bc r c l).2.2.2≠0 then (Bc r c l).2.2.2 else Gh (Bc r c l).1 (Bc r c l).2.1 (Bc r c l).2.2.1
def lqL (r c:Int) (l:List Int):MX :=
  if Tt r c l≠0 then Gk (Tt r c l) else P1 (rX (Bc r c l).1 (Bc r c l).2.1 (Bc r c l).2.2.1)
def lqQ (r c:Int) (l:List Int):MX :=
  if Tt r c l≠0 then Gk (Tt r c l) else P1 (qX (Bc r c l).1 (Bc r c l).2.1 (Bc r c l).2.2.1)
def Ig (r c:Int) (l:List Int) (p q:Int) (m:List Int) (u v:Int) (h:List Int):Int :=
  if B6 r c l≠0 then B6 r c l else if B6 p q m≠0 then B6 p q m else if B6 u v h≠0 then B6 u v h
  else if p≠r∨u≠r∨v≠1∨r<c∨c+q<r then 3 else 0
def Th (l m h:List Int):Bool:=(Ah l&&Ah m)&&Ah h
def gT (r c:Int) (l:List Int):MX:=I7 (rX r c l) 0 0 c (rX r c l).2.1
def gC (r c:Int) (l:List Int) (u v:Int) (h:List Int):MX:=El (qX r c l).1 (qX r c l).2.1 (qX r c l).2.2.1 u v h
def gE (r c:Int) (l:List Int) (p q:Int) (m:List Int) (u v:Int) (h:List Int):Int :=
  if Gh r c l≠0 then Gh r c l else if R8 (gT r c l)=true then 5
  else if Mb (gC r c l u v h)≠0∨Mb (gC r c l p q m)≠0 then 2 else 0
def G1 (c:Int) (x:MX):MX:=I7 x 0 0 c x.2.1
def Ft (r c:Int) (x:MX):MX:=I7 x c 0 (r-c) x.2.1
def Na (e:Int) (x:MX):MX:=if e≠0 then Gk e else x
def X9 (x:MX):MX:=I7 (lqL x.1 x.2.1 x.2.2.1) 0 0 x.1 x.1
def erO (x:MX):MX:=I7 (lqQ x.1 x.2.1 x.2.2.1) 0 0 x.1 (lqQ x.1 x.2.1 x.2.2.1).2.1
def erY (x y:MX):MX :=
  if Tt x.1 x.2.1 x.2.2.1≠0 then Gk (Tt x.1 x.2.1 x.2.2.1) else if R8 (X9 x)=true then Gk 5
  else if (Ua (X9 x) y).2.2.2≠0 then Gk (Ua (X9 x) y).2.2.2
  else Acj (Fl (erO x) (Ua (X9 x) y))
def erZ (x y:MX):MX :=
  if Tt x.1 x.2.1 x.2.2.1≠0 then Gk (Tt x.1 x.2.1 x.2.2.1) else if R8 (X9 x)=true then Gk 5
  else if (Ua (X9 x) y).2.2.2≠0 then Gk (Ua (X9 x) y).2.2.2
  else ((Fl (erO x) (Ua (X9 x) y)).1,(Fl (erO x) (Ua (X9 x) y)).2.1,(Fl (erO x) (Ua (X9 x) y)).2.2.1,(Acj (Fl (erO x) (Ua (X9 x) y))).2.2.2)
def gF (r c:Int) (C E y:MX):MX:=Atu (G1 c C) (mulM (G1 c E) y)
def gX2 (r c:Int) (T C E y:MX):MX:=if y.2.2.2≠0 then Gk y.2.2.2 else if Mb (gF r c C E y)≠0 then Gk 2 else upM T (gF r c C E y)
def gY2 (r c:Int) (T C E y:MX):MX:=if y.2.2.2≠0 then Gk y.2.2.2 else if Mb (gF r c C E y)≠0 then Gk 2 else if (upM T (gF r c C E y)).2.2.2≠0 then Gk (upM T (gF r c C E y)).2.2.2 else y
def gY0 (r c:Int) (l:List Int) (p q:Int) (m:List Int) (u v:Int) (h:List Int):MX:=erY (Ft r c (gC r c l p q m)) (Ft r c (gC r c l u v h))
def gX (r c:Int) (l:List Int) (p q:Int) (m:List Int) (u v:Int) (h:List Int):MX :=
  if Ig r c l p q m u v h≠0 then Gk (Ig r c l p q m u v h) else if gE r c l p q m u v h≠0 then Gk (gE r c l p q m u v h)
  else gX2 r c (gT r c l) (gC r c l u v h) (gC r c l p q m) (gY0 r c l p q m u v h)
def gY (r c:Int) (l:List Int) (p q:Int) (m:List Int) (u v:Int) (h:List Int):MX :=
  if Ig r c l p q m u v h≠0 then Gk (Ig r c l p q m u v h) else if gE r c l p q m u v h≠0 then Gk (gE r c l p q m u v h)
  else gY2 r c (gT r c l) (gC r c l u v h) (gC r c l p q m) (gY0 r c l p q m u v h)
def sqV (x:Int):Int:=mD (A2 x)*mD (A2 x)
def sqK (x:Int):Int:=eD (A2 x) (Aw x)+eD (A2 x) (Aw x)
def sqM (x:Int):Int:=Acz 0 0 (mD (sqV x)) (eD (sqV x) (sqK x))
def sqE (x:Int):Int:=Amd 0 0 (mD (sqV x)) (eD (sqV x) (sqK x))
end Go.Rnd
namespace Go.Rnd
open Go.Den
def Aav (k b:Int):Bool:=Cv b&&(decide (A1 b=0)||(decide (-k≤Bt b)&&decide (Bt b<k)))
def U6 (x:List Int) (k:Int):Bool:=x.all (Aav k)
end Go.Rnd
end
