/- A verified evaluator of the program's form and its use for this seat: S1Env, Rnd, Flt, Words, NearL, IeeL, OrdL, MulL, Limb, DyL, DyV, ExactL, MulW, SumL, MatL, MatW, PowL, RootL, ScaleL, SolW, TriL, HouW, LseW, GgW. -/
import Derived.Test.YtjbokjpbiobjpaaGreatProg
import Derived.Test.YtjbokjpbiobjpaaGreatTD
set_option linter.unusedVariables false
set_option linter.unusedSimpArgs false
noncomputable section
namespace Go.Proofs.S1
open Go Go.Den Go.Proofs
set_option maxRecDepth 100000
abbrev tB:Nat:=37
abbrev tMR:Nat:=214
abbrev tW:Nat:=173
def tys:List (Nat × TI):=[
  (2,⟨1,8,(.int .i64),[.int .i64 (0:Int)]⟩),
  (3,⟨1,8,(.int .i64),[.int .i64 (0:Int)]⟩),
  (4,⟨1,1,.bool,[.bool false]⟩),
  (5,⟨1,1,(.int .u8),[.int .u8 (0:Int)]⟩),
  (22,⟨1,24,(.slice 37),[.nil]⟩),
  (24,⟨3,40,(.struct [(0,3),(1,3),(2,22)]),[.int .i64 (0:Int),.int .i64 (0:Int),.nil]⟩),
  (25,⟨1,8,(.int .i64),[.int .i64 (0:Int)]⟩),
  (36,⟨1,8,(.int .u64),[.int .u64 (0:Int)]⟩),
  (37,⟨1,8,(.int .u64),[.int .u64 (0:Int)]⟩),
  (38,⟨1,24,(.slice 41),[.nil]⟩),
  (41,⟨1,1,(.int .i8),[.int .i8 (0:Int)]⟩),
  (43,⟨1,24,(.slice 173),[.nil]⟩),
  (45,⟨2,32,(.struct [(0,4),(1,43)]),[.bool false,.nil]⟩),
  (47,⟨3,40,(.struct [(0,45),(2,3)]),[.bool false,.nil,.int .i64 (0:Int)]⟩),
  (57,⟨12,160,(.struct [(0,24),(3,24),(6,24),(9,24)]),[.int .i64 (0:Int),.int .i64 (0:Int),.nil,.int .i64 (0:Int),.int .i64 (0:Int),.nil,.int .i64 (0:Int),.int .i64 (0:Int),.nil,.int .i64 (0:Int),.int .i64 (0:Int),.nil]⟩),
  (60,⟨12,160,(.struct [(0,24),(3,24),(6,24),(9,24)]),[.int .i64 (0:Int),.int .i64 (0:Int),.nil,.int .i64 (0:Int),.int .i64 (0:Int),.nil,.int .i64 (0:Int),.int .i64 (0:Int),.nil,.int .i64 (0:Int),.int .i64 (0:Int),.nil]⟩),
  (71,⟨9,120,(.struct [(0,24),(3,24),(6,24)]),[.int .i64 (0:Int),.int .i64 (0:Int),.nil,.int .i64 (0:Int),.int .i64 (0:Int),.nil,.int .i64 (0:Int),.int .i64 (0:Int),.nil]⟩),
  (74,⟨9,120,(.struct [(0,24),(3,24),(6,24)]),[.int .i64 (0:Int),.int .i64 (0:Int),.nil,.int .i64 (0:Int),.int .i64 (0:Int),.nil,.int .i64 (0:Int),.int .i64 (0:Int),.nil]⟩),
  (80,⟨7,88,(.struct [(0,24),(3,24),(6,25)]),[.int .i64 (0:Int),.int .i64 (0:Int),.nil,.int .i64 (0:Int),.int .i64 (0:Int),.nil,.int .i64 (0:Int)]⟩),
  (88,⟨9,120,(.struct [(0,24),(3,24),(6,24)]),[.int .i64 (0:Int),.int .i64 (0:Int),.nil,.int .i64 (0:Int),.int .i64 (0:Int),.nil,.int .i64 (0:Int),.int .i64 (0:Int),.nil]⟩),
  (91,⟨1,24,(.slice 24),[.nil]⟩),
  (102,⟨1,8,(.int .i64),[.int .i64 (0:Int)]⟩),
  (114,⟨6,80,(.array 2 24),[.int .i64 (0:Int),.int .i64 (0:Int),.nil,.int .i64 (0:Int),.int .i64 (0:Int),.nil]⟩),
  (118,⟨7,88,(.struct [(0,24),(3,24),(6,4)]),[.int .i64 (0:Int),.int .i64 (0:Int),.nil,.int .i64 (0:Int),.int .i64 (0:Int),.nil,.bool false]⟩),
  (121,⟨1,8,.fl,[.fl 0]⟩),
  (131,⟨1,24,(.slice 47),[.nil]⟩),
  (134,⟨1,24,(.slice 135),[.nil]⟩),
  (135,⟨1,24,(.slice 45),[.nil]⟩),
  (145,⟨9,120,(.array 3 24),[.int .i64 (0:Int),.int .i64 (0:Int),.nil,.int .i64 (0:Int),.int .i64 (0:Int),.nil,.int .i64 (0:Int),.int .i64 (0:Int),.nil]⟩),
  (147,⟨15,200,(.struct [(0,24),(3,24),(6,24),(9,24),(12,24)]),[.int .i64 (0:Int),.int .i64 (0:Int),.nil,.int .i64 (0:Int),.int .i64 (0:Int),.nil,.int .i64 (0:Int),.int .i64 (0:Int),.nil,.int .i64 (0:Int),.int .i64 (0:Int),.nil,.int .i64 (0:Int),.int .i64 (0:Int),.nil]⟩),
  (155,⟨3,40,(.struct [(0,3),(1,3),(2,131)]),[.int .i64 (0:Int),.int .i64 (0:Int),.nil]⟩),
  (166,⟨1,1,(.int .u8),[.int .u8 (0:Int)]⟩),
  (173,⟨1,4,(.int .u32),[.int .u32 (0:Int)]⟩),
  (183,⟨12,160,(.array 4 24),[.int .i64 (0:Int),.int .i64 (0:Int),.nil,.int .i64 (0:Int),.int .i64 (0:Int),.nil,.int .i64 (0:Int),.int .i64 (0:Int),.nil,.int .i64 (0:Int),.int .i64 (0:Int),.nil]⟩),
  (188,⟨2,16,(.array 2 3),[.int .i64 (0:Int),.int .i64 (0:Int)]⟩),
  (189,⟨1,24,(.slice 191),[.nil]⟩),
  (191,⟨3,40,(.struct [(0,22),(1,37),(2,37)]),[.nil,.int .u64 (0:Int),.int .u64 (0:Int)]⟩),
  (199,⟨3,24,(.struct [(0,4),(1,3),(2,36)]),[.bool false,.int .i64 (0:Int),.int .u64 (0:Int)]⟩),
  (208,⟨1,24,(.slice 214),[.nil]⟩),
  (214,⟨2,32,(.struct [(0,22),(1,37)]),[.nil,.int .u64 (0:Int)]⟩)]
theorem ty2:Bo Tryz.prog 2 ⟨1,8,(.int .i64),[.int .i64 (0:Int)]⟩:=Bs (z:=.int .i64 (0:Int)) (by kernel_rfl) (fun c w=>by simp [A0,Aj,Value.cells]) rfl (by simp [Value.cells,Value.oneCell']) (by simp only [Bw]; exact Tryz.underlying2)
theorem ty3:Bo Tryz.prog 3 ⟨1,8,(.int .i64),[.int .i64 (0:Int)]⟩:=Bs (z:=.int .i64 (0:Int)) (by kernel_rfl) (fun c w=>by simp [A0,Aj,Value.cells]) rfl (by simp [Value.cells,Value.oneCell']) (by simp only [Bw]; exact Tryz.underlying3)
theorem ty4:Bo Tryz.prog 4 ⟨1,1,.bool,[.bool false]⟩:=Bs (z:=.bool false) (by kernel_rfl) (fun c w=>by simp [A0,Aj,Value.cells]) rfl (by simp [Value.cells,Value.oneCell']) (by simp only [Bw]; exact Tryz.underlying4)
theorem ty5:Bo Tryz.prog 5 ⟨1,1,(.int .u8),[.int .u8 (0:Int)]⟩:=Bs (z:=.int .u8 (0:Int)) (by kernel_rfl) (fun c w=>by simp [A0,Aj,Value.cells]) rfl (by simp [Value.cells,Value.oneCell']) (by simp only [Bw]; exact Tryz.underlying5)
theorem ty22:Bo Tryz.prog 22 ⟨1,24,(.slice 37),[.nil]⟩:=Bs (z:=.slice none 0 0) (by kernel_rfl) (fun c w=>by simp [A0,Aj,Value.cells]) rfl (by simp [Value.cells,Value.oneCell']) (by simp only [Bw]; exact Tryz.underlying22)
theorem ty24:Bo Tryz.prog 24 ⟨3,40,(.struct [(0,3),(1,3),(2,22)]),[.int .i64 (0:Int),.int .i64 (0:Int),.nil]⟩:=Bs (z:=.agg #[.int .i64 (0:Int),.int .i64 (0:Int),.slice none 0 0]) (by kernel_rfl) (fun c w=>by simp [A0,Aj,Value.cells]) rfl (by simp [Value.cells,Value.oneCell']) (by simp only [Bw]; exact ⟨_,Tryz.underlying24,by kernel_rfl⟩)
theorem ty25:Bo Tryz.prog 25 ⟨1,8,(.int .i64),[.int .i64 (0:Int)]⟩:=Bs (z:=.int .i64 (0:Int)) (by kernel_rfl) (fun c w=>by simp [A0,Aj,Value.cells]) rfl (by simp [Value.cells,Value.oneCell']) (by simp only [Bw]; exact Tryz.underlying25)
theorem Aou:Bo Tryz.prog 36 ⟨1,8,(.int .u64),[.int .u64 (0:Int)]⟩:=Bs (z:=.int .u64 (0:Int)) (by kernel_rfl) (fun c w=>by simp [A0,Aj,Value.cells]) rfl (by simp [Value.cells,Value.oneCell']) (by simp only [Bw]; exact Tryz.underlying36)
theorem ty37:Bo Tryz.prog 37 ⟨1,8,(.int .u64),[.int .u64 (0:Int)]⟩:=Bs (z:=.int .u64 (0:Int)) (by kernel_rfl) (fun c w=>by simp [A0,Aj,Value.cells]) rfl (by simp [Value.cells,Value.oneCell']) (by simp only [Bw]; exact Tryz.underlying37)
theorem ty38:Bo Tryz.prog 38 ⟨1,24,(.slice 41),[.nil]⟩:=Bs (z:=.slice none 0 0) (by kernel_rfl) (fun c w=>by simp [A0,Aj,Value.cells]) rfl (by simp [Value.cells,Value.oneCell']) (by simp only [Bw]; exact Tryz.underlying38)
theorem ty41:Bo Tryz.prog 41 ⟨1,1,(.int .i8),[.int .i8 (0:Int)]⟩:=Bs (z:=.int .i8 (0:Int)) (by kernel_rfl) (fun c w=>by simp [A0,Aj,Value.cells]) rfl (by simp [Value.cells,Value.oneCell']) (by simp only [Bw]; exact Tryz.underlying41)
theorem ty43:Bo Tryz.prog 43 ⟨1,24,(.slice 173),[.nil]⟩:=Bs (z:=.slice none 0 0) (by kernel_rfl) (fun c w=>by simp [A0,Aj,Value.cells]) rfl (by simp [Value.cells,Value.oneCell']) (by simp only [Bw]; exact Tryz.underlying43)
theorem ty45:Bo Tryz.prog 45 ⟨2,32,(.struct [(0,4),(1,43)]),[.bool false,.nil]⟩:=Bs (z:=.agg #[.bool false,.slice none 0 0]) (by kernel_rfl) (fun c w=>by simp [A0,Aj,Value.cells]) rfl (by simp [Value.cells,Value.oneCell']) (by simp only [Bw]; exact ⟨_,Tryz.underlying45,by kernel_rfl⟩)
theorem ty47:Bo Tryz.prog 47 ⟨3,40,(.struct [(0,45),(2,3)]),[.bool false,.nil,.int .i64 (0:Int)]⟩:=Bs (z:=.agg #[.bool false,.slice none 0 0,.int .i64 (0:Int)]) (by kernel_rfl) (fun c w=>by simp [A0,Aj,Value.cells]) rfl (by simp [Value.cells,Value.oneCell']) (by simp only [Bw]; exact ⟨_,Tryz.underlying47,by kernel_rfl⟩)
theorem ty57:Bo Tryz.prog 57 ⟨12,160,(.struct [(0,24),(3,24),(6,24),(9,24)]),[.int .i64 (0:Int),.int .i64 (0:Int),.nil,.int .i64 (0:Int),.int .i64 (0:Int),.nil,.int .i64 (0:Int),.int .i64 (0:Int),.nil,.int .i64 (0:Int),.int .i64 (0:Int),.nil]⟩:=Bs (z:=.agg #[.int .i64 (0:Int),.int .i64 (0:Int),.slice none 0 0,.int .i64 (0:Int),.int .i64 (0:Int),.slice none 0 0,.int .i64 (0:Int),.int .i64 (0:Int),.slice none 0 0,.int .i64 (0:Int),.int .i64 (0:Int),.slice none 0 0]) (by kernel_rfl) (fun c w=>by simp [A0,Aj,Value.cells]) rfl (by simp [Value.cells,Value.oneCell']) (by simp only [Bw]; exact ⟨_,Tryz.underlying57,by kernel_rfl⟩)
theorem ty60:Bo Tryz.prog 60 ⟨12,160,(.struct [(0,24),(3,24),(6,24),(9,24)]),[.int .i64 (0:Int),.int .i64 (0:Int),.nil,.int .i64 (0:Int),.int .i64 (0:Int),.nil,.int .i64 (0:Int),.int .i64 (0:Int),.nil,.int .i64 (0:Int),.int .i64 (0:Int),.nil]⟩:=Bs (z:=.agg #[.int .i64 (0:Int),.int .i64 (0:Int),.slice none 0 0,.int .i64 (0:Int),.int .i64 (0:Int),.slice none 0 0,.int .i64 (0:Int),.int .i64 (0:Int),.slice none 0 0,.int .i64 (0:Int),.int .i64 (0:Int),.slice none 0 0]) (by kernel_rfl) (fun c w=>by simp [A0,Aj,Value.cells]) rfl (by simp [Value.cells,Value.oneCell']) (by simp only [Bw]; exact ⟨_,Tryz.underlying60,by kernel_rfl⟩)
theorem ty71:Bo Tryz.prog 71 ⟨9,120,(.struct [(0,24),(3,24),(6,24)]),[.int .i64 (0:Int),.int .i64 (0:Int),.nil,.int .i64 (0:Int),.int .i64 (0:Int),.nil,.int .i64 (0:Int),.int .i64 (0:Int),.nil]⟩:=Bs (z:=.agg #[.int .i64 (0:Int),.int .i64 (0:Int),.slice none 0 0,.int .i64 (0:Int),.int .i64 (0:Int),.slice none 0 0,.int .i64 (0:Int),.int .i64 (0:Int),.slice none 0 0]) (by kernel_rfl) (fun c w=>by simp [A0,Aj,Value.cells]) rfl (by simp [Value.cells,Value.oneCell']) (by simp only [Bw]; exact ⟨_,Tryz.underlying71,by kernel_rfl⟩)
theorem ty74:Bo Tryz.prog 74 ⟨9,120,(.struct [(0,24),(3,24),(6,24)]),[.int .i64 (0:Int),.int .i64 (0:Int),.nil,.int .i64 (0:Int),.int .i64 (0:Int),.nil,.int .i64 (0:Int),.int .i64 (0:Int),.nil]⟩:=Bs (z:=.agg #[.int .i64 (0:Int),.int .i64 (0:Int),.slice none 0 0,.int .i64 (0:Int),.int .i64 (0:Int),.slice none 0 0,.int .i64 (0:Int),.int .i64 (0:Int),.slice none 0 0]) (by kernel_rfl) (fun c w=>by simp [A0,Aj,Value.cells]) rfl (by simp [Value.cells,Value.oneCell']) (by simp only [Bw]; exact ⟨_,Tryz.underlying74,by kernel_rfl⟩)
theorem ty80:Bo Tryz.prog 80 ⟨7,88,(.struct [(0,24),(3,24),(6,25)]),[.int .i64 (0:Int),.int .i64 (0:Int),.nil,.int .i64 (0:Int),.int .i64 (0:Int),.nil,.int .i64 (0:Int)]⟩:=Bs (z:=.agg #[.int .i64 (0:Int),.int .i64 (0:Int),.slice none 0 0,.int .i64 (0:Int),.int .i64 (0:Int),.slice none 0 0,.int .i64 (0:Int)]) (by kernel_rfl) (fun c w=>by simp [A0,Aj,Value.cells]) rfl (by simp [Value.cells,Value.oneCell']) (by simp only [Bw]; exact ⟨_,Tryz.underlying80,by kernel_rfl⟩)
theorem ty88:Bo Tryz.prog 88 ⟨9,120,(.struct [(0,24),(3,24),(6,24)]),[.int .i64 (0:Int),.int .i64 (0:Int),.nil,.int .i64 (0:Int),.int .i64 (0:Int),.nil,.int .i64 (0:Int),.int .i64 (0:Int),.nil]⟩:=Bs (z:=.agg #[.int .i64 (0:Int),.int .i64 (0:Int),.slice none 0 0,.int .i64 (0:Int),.int .i64 (0:Int),.slice none 0 0,.int .i64 (0:Int),.int .i64 (0:Int),.slice none 0 0]) (by kernel_rfl) (fun c w=>by simp [A0,Aj,Value.cells]) rfl (by simp [Value.cells,Value.oneCell']) (by simp only [Bw]; exact ⟨_,Tryz.underlying88,by kernel_rfl⟩)
theorem ty91:Bo Tryz.prog 91 ⟨1,24,(.slice 24),[.nil]⟩:=Bs (z:=.slice none 0 0) (by kernel_rfl) (fun c w=>by simp [A0,Aj,Value.cells]) rfl (by simp [Value.cells,Value.oneCell']) (by simp only [Bw]; exact Tryz.underlying91)
theorem Apd:Bo Tryz.prog 102 ⟨1,8,(.int .i64),[.int .i64 (0:Int)]⟩:=Bs (z:=.int .i64 (0:Int)) (by kernel_rfl) (fun c w=>by simp [A0,Aj,Value.cells]) rfl (by simp [Value.cells,Value.oneCell']) (by simp only [Bw]; exact Tryz.underlying102)
theorem Apc:Bo Tryz.prog 114 ⟨6,80,(.array 2 24),[.int .i64 (0:Int),.int .i64 (0:Int),.nil,.int .i64 (0:Int),.int .i64 (0:Int),.nil]⟩:=Bs (z:=.agg #[.int .i64 (0:Int),.int .i64 (0:Int),.slice none 0 0,.int .i64 (0:Int),.int .i64 (0:Int),.slice none 0 0]) (by kernel_rfl) (fun c w=>by simp [A0,Aj,Value.cells]) rfl (by simp [Value.cells,Value.oneCell']) (by simp only [Bw]; exact Tryz.underlying114)
theorem Apb:Bo Tryz.prog 118 ⟨7,88,(.struct [(0,24),(3,24),(6,4)]),[.int .i64 (0:Int),.int .i64 (0:Int),.nil,.int .i64 (0:Int),.int .i64 (0:Int),.nil,.bool false]⟩:=Bs (z:=.agg #[.int .i64 (0:Int),.int .i64 (0:Int),.slice none 0 0,.int .i64 (0:Int),.int .i64 (0:Int),.slice none 0 0,.bool false]) (by kernel_rfl) (fun c w=>by simp [A0,Aj,Value.cells]) rfl (by simp [Value.cells,Value.oneCell']) (by simp only [Bw]; exact ⟨_,Tryz.underlying118,by kernel_rfl⟩)
theorem Apa:Bo Tryz.prog 121 ⟨1,8,.fl,[.fl 0]⟩:=Bs (z:=.float .f64 0) (by kernel_rfl) (fun c w=>by simp [A0,Aj,Value.cells,M7]) rfl (by simp [Value.cells,Value.oneCell']) (by simp only [Bw]; exact Tryz.underlying121)
theorem Ao9:Bo Tryz.prog 131 ⟨1,24,(.slice 47),[.nil]⟩:=Bs (z:=.slice none 0 0) (by kernel_rfl) (fun c w=>by simp [A0,Aj,Value.cells]) rfl (by simp [Value.cells,Value.oneCell']) (by simp only [Bw]; exact Tryz.underlying131)
theorem Ao8:Bo Tryz.prog 134 ⟨1,24,(.slice 135),[.nil]⟩:=Bs (z:=.slice none 0 0) (by kernel_rfl) (fun c w=>by simp [A0,Aj,Value.cells]) rfl (by simp [Value.cells,Value.oneCell']) (by simp only [Bw]; exact Tryz.underlying134)
theorem Ao7:Bo Tryz.prog 135 ⟨1,24,(.slice 45),[.nil]⟩:=Bs (z:=.slice none 0 0) (by kernel_rfl) (fun c w=>by simp [A0,Aj,Value.cells]) rfl (by simp [Value.cells,Value.oneCell']) (by simp only [Bw]; exact Tryz.underlying135)
theorem Ao6:Bo Tryz.prog 145 ⟨9,120,(.array 3 24),[.int .i64 (0:Int),.int .i64 (0:Int),.nil,.int .i64 (0:Int),.int .i64 (0:Int),.nil,.int .i64 (0:Int),.int .i64 (0:Int),.nil]⟩:=Bs (z:=.agg #[.int .i64 (0:Int),.int .i64 (0:Int),.slice none 0 0,.int .i64 (0:Int),.int .i64 (0:Int),.slice none 0 0,.int .i64 (0:Int),.int .i64 (0:Int),.slice none 0 0]) (by kernel_rfl) (fun c w=>by simp [A0,Aj,Value.cells]) rfl (by simp [Value.cells,Value.oneCell']) (by simp only [Bw]; exact Tryz.underlying145)
theorem Ao5:Bo Tryz.prog 147 ⟨15,200,(.struct [(0,24),(3,24),(6,24),(9,24),(12,24)]),[.int .i64 (0:Int),.int .i64 (0:Int),.nil,.int .i64 (0:Int),.int .i64 (0:Int),.nil,.int .i64 (0:Int),.int .i64 (0:Int),.nil,.int .i64 (0:Int),.int .i64 (0:Int),.nil,.int .i64 (0:Int),.int .i64 (0:Int),.nil]⟩:=Bs (z:=.agg #[.int .i64 (0:Int),.int .i64 (0:Int),.slice none 0 0,.int .i64 (0:Int),.int .i64 (0:Int),.slice none 0 0,.int .i64 (0:Int),.int .i64 (0:Int),.slice none 0 0,.int .i64 (0:Int),.int .i64 (0:Int),.slice none 0 0,.int .i64 (0:Int),.int .i64 (0:Int),.slice none 0 0]) (by kernel_rfl) (fun c w=>by simp [A0,Aj,Value.cells]) rfl (by simp [Value.cells,Value.oneCell']) (by simp only [Bw]; exact ⟨_,Tryz.underlying147,by kernel_rfl⟩)
theorem Ao4:Bo Tryz.prog 155 ⟨3,40,(.struct [(0,3),(1,3),(2,131)]),[.int .i64 (0:Int),.int .i64 (0:Int),.nil]⟩:=Bs (z:=.agg #[.int .i64 (0:Int),.int .i64 (0:Int),.slice none 0 0]) (by kernel_rfl) (fun c w=>by simp [A0,Aj,Value.cells]) rfl (by simp [Value.cells,Value.oneCell']) (by simp only [Bw]; exact ⟨_,Tryz.underlying155,by kernel_rfl⟩)
theorem Ao3:Bo Tryz.prog 166 ⟨1,1,(.int .u8),[.int .u8 (0:Int)]⟩:=Bs (z:=.int .u8 (0:Int)) (by kernel_rfl) (fun c w=>by simp [A0,Aj,Value.cells]) rfl (by simp [Value.cells,Value.oneCell']) (by simp only [Bw]; exact Tryz.underlying166)
theorem Ao2:Bo Tryz.prog 173 ⟨1,4,(.int .u32),[.int .u32 (0:Int)]⟩:=Bs (z:=.int .u32 (0:Int)) (by kernel_rfl) (fun c w=>by simp [A0,Aj,Value.cells]) rfl (by simp [Value.cells,Value.oneCell']) (by simp only [Bw]; exact Tryz.underlying173)
theorem Ao1:Bo Tryz.prog 183 ⟨12,160,(.array 4 24),[.int .i64 (0:Int),.int .i64 (0:Int),.nil,.int .i64 (0:Int),.int .i64 (0:Int),.nil,.int .i64 (0:Int),.int .i64 (0:Int),.nil,.int .i64 (0:Int),.int .i64 (0:Int),.nil]⟩:=Bs (z:=.agg #[.int .i64 (0:Int),.int .i64 (0:Int),.slice none 0 0,.int .i64 (0:Int),.int .i64 (0:Int),.slice none 0 0,.int .i64 (0:Int),.int .i64 (0:Int),.slice none 0 0,.int .i64 (0:Int),.int .i64 (0:Int),.slice none 0 0]) (by kernel_rfl) (fun c w=>by simp [A0,Aj,Value.cells]) rfl (by simp [Value.cells,Value.oneCell']) (by simp only [Bw]; exact Tryz.underlying183)
theorem Ao0:Bo Tryz.prog 188 ⟨2,16,(.array 2 3),[.int .i64 (0:Int),.int .i64 (0:Int)]⟩:=Bs (z:=.agg #[.int .i64 (0:Int),.int .i64 (0:Int)]) (by kernel_rfl) (fun c w=>by simp [A0,Aj,Value.cells]) rfl (by simp [Value.cells,Value.oneCell']) (by simp only [Bw]; exact Tryz.underlying188)
theorem Aoz:Bo Tryz.prog 189 ⟨1,24,(.slice 191),[.nil]⟩:=Bs (z:=.slice none 0 0) (by kernel_rfl) (fun c w=>by simp [A0,Aj,Value.cells]) rfl (by simp [Value.cells,Value.oneCell']) (by simp only [Bw]; exact Tryz.underlying189)
theorem Aoy:Bo Tryz.prog 191 ⟨3,40,(.struct [(0,22),(1,37),(2,37)]),[.nil,.int .u64 (0:Int),.int .u64 (0:Int)]⟩:=Bs (z:=.agg #[.slice none 0 0,.int .u64 (0:Int),.int .u64 (0:Int)]) (by kernel_rfl) (fun c w=>by simp [A0,Aj,Value.cells]) rfl (by simp [Value.cells,Value.oneCell']) (by simp only [Bw]; exact ⟨_,Tryz.underlying191,by kernel_rfl⟩)
theorem Aox:Bo Tryz.prog 199 ⟨3,24,(.struct [(0,4),(1,3),(2,36)]),[.bool false,.int .i64 (0:Int),.int .u64 (0:Int)]⟩:=Bs (z:=.agg #[.bool false,.int .i64 (0:Int),.int .u64 (0:Int)]) (by kernel_rfl) (fun c w=>by simp [A0,Aj,Value.cells]) rfl (by simp [Value.cells,Value.oneCell']) (by simp only [Bw]; exact ⟨_,Tryz.underlying199,by kernel_rfl⟩)
theorem Aow:Bo Tryz.prog 208 ⟨1,24,(.slice 214),[.nil]⟩:=Bs (z:=.slice none 0 0) (by kernel_rfl) (fun c w=>by simp [A0,Aj,Value.cells]) rfl (by simp [Value.cells,Value.oneCell']) (by simp only [Bw]; exact Tryz.underlying208)
theorem Aov:Bo Tryz.prog 214 ⟨2,32,(.struct [(0,22),(1,37)]),[.nil,.int .u64 (0:Int)]⟩:=Bs (z:=.agg #[.slice none 0 0,.int .u64 (0:Int)]) (by kernel_rfl) (fun c w=>by simp [A0,Aj,Value.cells]) rfl (by simp [Value.cells,Value.oneCell']) (by simp only [Bw]; exact ⟨_,Tryz.underlying214,by kernel_rfl⟩)
theorem Amz:Oo Tryz.prog tys:=.cons ty2 <| .cons ty3 <| .cons ty4 <| .cons ty5 <| .cons ty22 <| .cons ty24 <| .cons ty25 <| .cons Aou <| .cons ty37 <| .cons ty38 <| .cons ty41 <| .cons ty43 <| .cons ty45 <| .cons ty47 <| .cons ty57 <| .cons ty60 <| .cons ty71 <| .cons ty74 <| .cons ty80 <| .cons ty88 <| .cons ty91 <| .cons Apd <| .cons Apc <| .cons Apb <| .cons Apa <| .cons Ao9 <| .cons Ao8 <| .cons Ao7 <| .cons Ao6 <| .cons Ao5 <| .cons Ao4 <| .cons Ao3 <| .cons Ao2 <| .cons Ao1 <| .cons Ao0 <| .cons Aoz <| .cons Aoy <| .cons Aox <| .cons Aow <| .cons Aov <| .nil
def exts:List (Nat × Ext):=[(169,.bits),(210,.frombits),(263,.sqrt),(266,.sub64)]
def Aav:List (Nat × Ext)→Nat→Option Ext
  | [],_=>none
  | (m,e)::l,n=>bif Nat.beq m n then some e else Aav l n
theorem Aiw (args:Array Value) (w:World):(callFunc 169 args).run Tryz.prog w=((Pr .bits args).run Tryz.prog w).andThen fun v w'=>.ok (.value v) w':=run_callFunc_extern (e:=Extern.MathFloatBits.float64bits) Tryz.func169 (by kernel_rfl) (by kernel_rfl) (by kernel_rfl) (by kernel_rfl) args w
theorem Aiv (args:Array Value) (w:World):(callFunc 210 args).run Tryz.prog w=((Pr .frombits args).run Tryz.prog w).andThen fun v w'=>.ok (.value v) w':=run_callFunc_extern (e:=Extern.MathFloatBits.float64frombits) Tryz.func210 (by kernel_rfl) (by kernel_rfl) (by kernel_rfl) (by kernel_rfl) args w
theorem Aiu (args:Array Value) (w:World):(callFunc 263 args).run Tryz.prog w=((Pr .sqrt args).run Tryz.prog w).andThen fun v w'=>.ok (.value v) w':=run_callFunc_extern (e:=Extern.MathSqrt.sqrt) Tryz.func263 (by kernel_rfl) (by kernel_rfl) (by kernel_rfl) (by kernel_rfl) args w
theorem Ait (args:Array Value) (w:World):(callFunc 266 args).run Tryz.prog w=((Pr .sub64 args).run Tryz.prog w).andThen fun v w'=>.ok (.value v) w':=run_callFunc_extern (e:=Tt) Tryz.func266 (by kernel_rfl) (by kernel_rfl) (by kernel_rfl) (by kernel_rfl) args w
def Aob:List Nat:=[199,188]
theorem Aqn:Yy Tryz.prog 199 ⟨3,24,(.struct [(0,4),(1,3),(2,36)]),[.bool false,.int .i64 (0:Int),.int .u64 (0:Int)]⟩ where
  guard:=by kernel_rfl
  eq:=by
    intro w c x y xs ys hx hy hlx hly
    obtain ⟨a0,x1,rfl,hx1⟩:=Tx hx
    obtain ⟨a1,x2,rfl,hx2⟩:=Hp hx1
    obtain ⟨a2,x3,rfl,hx3⟩:=Hp hx2
    obtain rfl:=Oa hx3
    obtain ⟨b0,y1,rfl,hy1⟩:=Tx hy
    obtain ⟨b1,y2,rfl,hy2⟩:=Hp hy1
    obtain ⟨b2,y3,rfl,hy3⟩:=Hp hy2
    obtain rfl:=Oa hy3
    obtain ⟨xs⟩:=xs
    obtain ⟨ys⟩:=ys
    simp only [A0.B6,A0.Fa,Aj] at hlx hly
    obtain ⟨_,_,rfl,rfl,_,_,rfl,rfl,_,_,rfl,rfl,rfl⟩:=hlx
    obtain ⟨_,_,rfl,rfl,_,_,rfl,rfl,_,_,rfl,rfl,rfl⟩:=hly
    have hu:Tryz.prog.underlying 199=some (.struct (Tryz.prog.fieldsOf 199)):=by kernel_rfl
    have hp:Tryz.prog.stoodInHeld 199=false:=by kernel_rfl
    unfold Op.equal Op.maxDepth
    rw [run_equalIn_struct w 9999 199 _ _ hu hp]
    have hfs:Tryz.prog.fieldsOf 199=(match Tryz.prog.underlying 199 with | some (.struct fs)=>fs | _=>#[]):=rfl
    rw [hfs,Tryz.underlying199]
    simp [Op.eqFields,Jq w ty3 rfl,Jq w ty4 rfl,Jq w Aou rfl,run_equalIn_int w _ _ _ _ _ _ Tryz.underlying3,run_equalIn_bool w _ _ _ _ Tryz.underlying4,run_equalIn_int w _ _ _ _ _ _ Tryz.underlying36,Wq,U3]
    by_cases h0:a0=b0<;>by_cases h1:a1=b1<;>by_cases h2:a2=b2<;>simp [h0,h1,h2]
theorem Aqo:Yy Tryz.prog 188 ⟨2,16,(.array 2 3),[.int .i64 (0:Int),.int .i64 (0:Int)]⟩ where
  guard:=by kernel_rfl
  eq:=by
    intro w c x y xs ys hx hy hlx hly
    obtain ⟨a0,x1,rfl,hx1⟩:=Hp hx
    obtain ⟨a1,x2,rfl,hx2⟩:=Hp hx1
    obtain rfl:=Oa hx2
    obtain ⟨b0,y1,rfl,hy1⟩:=Hp hy
    obtain ⟨b1,y2,rfl,hy2⟩:=Hp hy1
    obtain rfl:=Oa hy2
    obtain ⟨xs⟩:=xs
    obtain ⟨ys⟩:=ys
    simp only [A0.B6,A0.Fa,Aj] at hlx hly
    obtain ⟨_,_,rfl,rfl,_,_,rfl,rfl,rfl⟩:=hlx
    obtain ⟨_,_,rfl,rfl,_,_,rfl,rfl,rfl⟩:=hly
    obtain ⟨i,_,hi,_⟩:=ty3.info
    have hc:Tryz.prog.cellsOf 3=1:=by kernel_rfl
    unfold Op.equal Op.maxDepth
    rw [run_equalIn_array w 9999 _ _ Tryz.underlying188 hi,hc]
    simp [Op.eqItems,List.range,List.range.loop,Jq w ty3 rfl,run_equalIn_int w _ _ _ _ _ _ Tryz.underlying3,Wq,U3]
    by_cases h0:a0=b0<;>by_cases h1:a1=b1<;>simp [h0,h1]
def Bb (Ba:Nat→Option Entry) (adopt:Nat→Bool) (hint:Nat→Option A5) (live:Nat→Option (List Nat)):Env:={ ty:=Agl tys,Ba:=Ba,ext:=Aav exts,eqs:=fun t=>Jx t Aob,adopt:=adopt,live:=live,hint:=hint }
theorem Ay {l:List (Nat × Entry)} (h:Ax Tryz.prog l) (adopt:Nat→Bool) (hint:Nat→Option A5) (live:Nat→Option (List Nat)):Hw Tryz.prog (Bb (A9 l) adopt hint live) where
  ty:=fun t ti ht=>Amz.get ht
  Ba:=fun g e hg=>(h.get hg).meets
  call:=fun g e hg=>(h.get hg).call
  ext:=by
    intro g x hx args w
    simp only [Bb,exts,Aav] at hx
    cases hb:Nat.beq 169 g with
    | true =>
      rw [hb] at hx
      cases hx
      obtain rfl:=Arh hb
      exact Aiw args w
    | false =>
    rw [hb,Aq2] at hx
    clear hb
    cases hb:Nat.beq 210 g with
    | true =>
      rw [hb] at hx
      cases hx
      obtain rfl:=Arh hb
      exact Aiv args w
    | false =>
    rw [hb,Aq2] at hx
    clear hb
    cases hb:Nat.beq 263 g with
    | true =>
      rw [hb] at hx
      cases hx
      obtain rfl:=Arh hb
      exact Aiu args w
    | false =>
    rw [hb,Aq2] at hx
    clear hb
    cases hb:Nat.beq 266 g with
    | true =>
      rw [hb] at hx
      cases hx
      obtain rfl:=Arh hb
      exact Ait args w
    | false =>
    rw [hb,Aq2] at hx
    clear hb
    cases hx
  eqs:=by
    intro t ti ht hti
    simp only [Bb,Aob,Jx] at ht hti
    cases hb:Nat.beq t 199 with
    | true =>
      obtain rfl:=Arh hb
      cases hti
      exact Aqn
    | false =>
    rw [hb,Aq2] at ht
    clear hb
    cases hb:Nat.beq t 188 with
    | true =>
      obtain rfl:=Arh hb
      cases hti
      exact Aqo
    | false =>
    rw [hb,Aq2] at ht
    clear hb
    cases ht
  mixed:=by kernel_rfl
def Amn:List (Nat × Ext):=[(169,.bitsN),(210,.frombits),(263,.sqrt),(266,.sub64)]
def Amq:List (Nat × List CK)→Nat→List CK
  | [],_=>[]
  | (m,e)::l,n=>bif Nat.beq m n then e else Amq l n
def Acq (Ba:Nat→Option Entry) (adopt:Nat→Bool) (hint:Nat→Option A5) (live:Nat→Option (List Nat)) (adv:Nat→List CK):Env:={ ty:=Agl tys,Ba:=Ba,ext:=Aav Amn,eqs:=fun t=>Jx t Aob,adopt:=adopt,live:=live,hint:=hint,adv:=adv }
theorem Aln {l:List (Nat × Entry)} (h:Ax Tryz.prog l) (adopt:Nat→Bool) (hint:Nat→Option A5) (live:Nat→Option (List Nat)) (adv:Nat→List CK):Hw Tryz.prog (Acq (A9 l) adopt hint live adv) :=
  have k:=Ay h adopt hint live
  ⟨k.ty,k.Ba,k.call,(by
    intro g x hx args w
    simp only [Acq,Amn,Aav] at hx
    cases hb:Nat.beq 169 g with
    | true =>
      rw [hb] at hx
      cases hx
      obtain rfl:=Arh hb
      exact Aiw args w
    | false =>
    rw [hb,Aq2] at hx
    clear hb
    cases hb:Nat.beq 210 g with
    | true =>
      rw [hb] at hx
      cases hx
      obtain rfl:=Arh hb
      exact Aiv args w
    | false =>
    rw [hb,Aq2] at hx
    clear hb
    cases hb:Nat.beq 263 g with
    | true =>
      rw [hb] at hx
      cases hx
      obtain rfl:=Arh hb
      exact Aiu args w
    | false =>
    rw [hb,Aq2] at hx
    clear hb
    cases hb:Nat.beq 266 g with
    | true =>
      rw [hb] at hx
      cases hx
      obtain rfl:=Arh hb
      exact Ait args w
    | false =>
    rw [hb,Aq2] at hx
    clear hb
    cases hx),k.eqs,k.mixed,k.spoil⟩
end Go.Proofs.S1
namespace Go.Rnd
def Qi (V k:Nat):Nat:=V / 2^k+(if 2^k<2*(V%2^k)∨(2*(V%2^k)=2^k∧V / 2^k%2=1) then 1 else 0)
def Ln (V:Nat) (s:Int):Nat:=Qi (V*2^(-s).toNat) s.toNat
def K8 (V:Nat) (s:Int):Bool:=decide (V*2^(-s).toNat%2^s.toNat=0)
def Dq (M:Nat) (E:Int):Int:=max (E+M.log2-52) (-1074)
def kept (M:Nat) (E:Int):Nat:=Ln M (Dq M E-E)
def G8:Nat:=2047*2^52
def Ch (M:Nat) (E:Int):Nat:=if M=0 then 0 else min ((Dq M E+1074).toNat*2^52+kept M E) G8
def exact (M:Nat) (E:Int):Bool:=K8 M (Dq M E-E)
def flags (r:Nat) (ex:Bool):Nat:=if r=G8 then 5 else if ex then 0 else if 2^52≤r then 1 else 3
def flagsOf (M:Nat) (E:Int):Nat:=if M=0 then 0 else flags (Ch M E) (exact M E)
theorem Cc (k:Nat):0<2^k:=Nat.pow_pos (by decide)
theorem V6 (V:Nat):Qi V 0=V:=by
  unfold Qi; simp [Nat.mod_one]
theorem Zt (V a k:Nat):Qi (V*2^a) (a+k)=Qi V k:=by
  unfold Qi
  have hA:=Cc a
  have e:2^(a+k)=2^a*2^k:=Nat.pow_add 2 a k
  have hd:V*2^a / 2^(a+k)=V / 2^k:=by
    rw [e,Nat.mul_comm V,Nat.mul_div_mul_left _ _ hA]
  have hm:V*2^a%2^(a+k)=2^a*(V%2^k):=by
    rw [e,Nat.mul_comm V,Nat.mul_mod_mul_left]
  rw [hd,hm,e]
  have h1:(2^a*2^k<2*(2^a*(V%2^k)))↔(2^k<2*(V%2^k)):=by
    rw [Nat.mul_left_comm 2]
    exact Nat.mul_lt_mul_left hA
  have h2:(2*(2^a*(V%2^k))=2^a*2^k)↔(2*(V%2^k)=2^k):=by
    rw [Nat.mul_left_comm 2]
    exact Nat.mul_right_inj (by omega)
  simp only [h1,h2]
theorem mod_mul (V a k:Nat):(V*2^a%2^(a+k)=0)↔(V%2^k=0):=by
  have hA:=Cc a
  rw [Nat.pow_add,Nat.mul_comm V,Nat.mul_mod_mul_left]
  constructor
  · intro h
    rcases Nat.mul_eq_zero.1 h with h | h
    · omega
    · exact h
  · intro h; rw [h]; rfl
theorem Sh (V k:Nat) (s:Int):Ln (V*2^k) (s+k)=Ln V s∧K8 (V*2^k) (s+k)=K8 V s:=by
  unfold Ln K8
  by_cases h0:0≤s
  · have e1:(-(s+k)).toNat=0:=by omega
    have e2:(-s).toNat=0:=by omega
    have e3:(s+k).toNat=k+s.toNat:=by omega
    rw [e1,e2,e3,Nat.pow_zero,Nat.mul_one,Nat.mul_one]
    exact ⟨Zt V k _,by simp only [mod_mul]⟩
  · by_cases h1:0≤s+k
    · have e1:(-(s+k)).toNat=0:=by omega
      have e2:s.toNat=0:=by omega
      have e3:k=(s+k).toNat+(-s).toNat:=by omega
      rw [e1,e2,Nat.pow_zero,Nat.mul_one]
      have e4:V*2^k=V*2^(-s).toNat*2^(s+k).toNat:=by
        rw [Nat.mul_assoc,← Nat.pow_add,Nat.add_comm (-s).toNat,← e3]
      rw [e4]
      refine ⟨?_,?_⟩
      · have:=Zt (V*2^(-s).toNat) (s+k).toNat 0
        rw [Nat.add_zero] at this; exact this
      · have:=mod_mul (V*2^(-s).toNat) (s+k).toNat 0
        rw [Nat.add_zero,Nat.pow_zero] at this
        simp only [this]
    · have e1:(s+k).toNat=0:=by omega
      have e2:s.toNat=0:=by omega
      have e3:(-s).toNat=k+(-(s+k)).toNat:=by omega
      rw [e1,e2,e3,Nat.pow_add,Nat.mul_assoc]
      exact ⟨rfl,rfl⟩
theorem Ui (M k:Nat) (hM:M≠0):(M*2^k).log2=M.log2+k:=by
  have hk:=Cc k
  have hne:M*2^k≠0:=by
    intro h
    rcases Nat.mul_eq_zero.1 h with h | h<;>omega
  have h1:=Nat.log2_self_le hM
  have h2:=Nat.lt_log2_self (n:=M)
  have a:M.log2+k≤(M*2^k).log2:=by
    rw [Nat.le_log2 hne,Nat.pow_add]
    exact Ara _ h1
  have b:(M*2^k).log2<M.log2+k+1:=by
    rw [Nat.log2_lt hne,Nat.add_right_comm,Nat.pow_add]
    exact (Nat.mul_lt_mul_right hk).2 h2
  omega
theorem X4 {n a:Nat} (h1:2^a≤n) (h2:n<2^(a+1)):n.log2=a:=by
  have:=Cc a
  have hn:n≠0:=by omega
  have b1:=(Nat.le_log2 hn).2 h1
  have b2:=(Nat.log2_lt hn).2 h2
  omega
theorem Aci (M k:Nat) (E:Int) (hM:M≠0):Dq (M*2^k) (E-k)=Dq M E:=by
  unfold Dq; rw [Ui M k hM]; congr 1; omega
theorem Md {M k:Nat} (hM:M≠0):M*2^k≠0:=by
  have:=Cc k
  intro h
  rcases Nat.mul_eq_zero.1 h with h | h<;>omega
theorem Ei (M k:Nat) (E:Int):Ch (M*2^k) (E-k)=Ch M E∧flagsOf (M*2^k) (E-k)=flagsOf M E:=by
  by_cases hM:M=0
  · subst hM; simp [Ch,flagsOf]
  · have hl:=Aci M k E hM
    have e:Dq M E-(E-k)=Dq M E-E+k:=by omega
    have h1:Ch (M*2^k) (E-k)=Ch M E:=by
      unfold Ch kept
      rw [if_neg (Md hM),if_neg hM,hl,e,(Sh M k _).1]
    refine ⟨h1,?_⟩
    unfold flagsOf
    rw [if_neg (Md hM),if_neg hM,h1]
    unfold exact
    rw [hl,e,(Sh M k _).2]
theorem Ag7 {V s d k:Nat} (hs:s%2=1) (h1:(s-1)*2^d<V) (h2:V<(s+1)*2^d) (hk:2≤k) :
    Qi V (d+k)=Qi s k∧V%2^(d+k)≠0∧s%2^k≠0:=by
  have hA:=Cc d
  obtain ⟨j,rfl⟩:∃ j,k=j+2:=⟨k-2,by omega⟩
  have hB:2^(j+2)=4*2^j:=by rw [Nat.pow_add]; omega
  have hBp:=Cc (j+2)
  have hC:=Cc j
  have hsd:=Nat.div_add_mod s (2^(j+2))
  have hr2:s%2^(j+2)%2=1:=by
    rw [hB,show 4*2^j=2*(2*2^j) by omega,Nat.mod_mul_right_mod]; exact hs
  have hrlt:=Nat.mod_lt s hBp
  generalize hq:s / 2^(j+2)=q at *
  generalize hr:s%2^(j+2)=r at *
  have hAB:2^(d+(j+2))=2^d*2^(j+2):=Nat.pow_add 2 d (j+2)
  generalize hBB:2^(j+2)=b at *
  generalize hAA:2^d=a at *
  have e1:(s-1)*a=q*(a*b)+(r-1)*a:=by
    have:s-1=b*q+(r-1):=by omega
    rw [this,Nat.add_mul,Nat.mul_comm b q,Nat.mul_assoc,Nat.mul_comm b a]
  have e2:(s+1)*a=q*(a*b)+(r+1)*a:=by
    have:s+1=b*q+(r+1):=by omega
    rw [this,Nat.add_mul,Nat.mul_comm b q,Nat.mul_assoc,Nat.mul_comm b a]
  have e3:(r+1)*a≤b*a:=Ara a (by omega)
  rw [Nat.mul_comm b a] at e3
  rw [e1] at h1
  rw [e2] at h2
  have hdiv:V / (a*b)=q:=Nat.div_eq_of_lt_le (by omega) (by rw [Nat.add_mul]; omega)
  have hmod:V%(a*b)=V-q*(a*b):=by
    have:=Nat.div_add_mod V (a*b)
    rw [hdiv,Nat.mul_comm (a*b) q] at this; omega
  have hb2:b=2*(2*2^j):=by omega
  generalize hc:2^j=c at *
  have hR1:(r-1)*a<V-q*(a*b):=by omega
  have hR2:V-q*(a*b)<(r+1)*a:=by omega
  generalize hR:V-q*(a*b)=R at *
  have hab:a*b=2*(2*c*a):=by rw [hb2,Nat.mul_comm a,Nat.mul_assoc]
  have key:(a*b<2*R∨(2*R=a*b∧q%2=1))↔(b<2*r∨(2*r=b∧q%2=1)):=by
    rw [hab,hb2]
    rcases Nat.lt_or_ge r (2*c) with hlt | hge
    · have:(r+1)*a≤2*c*a:=Ara a (by omega)
      constructor<;>(intro h; omega)
    · have hgt:2*c+1≤r:=by omega
      have:2*c*a≤(r-1)*a:=Ara a (by omega)
      constructor
      · intro _; left; omega
      · intro _; left; omega
  refine ⟨?_,?_,?_⟩
  · unfold Qi
    rw [hAB,hdiv,hmod,hBB,hq,hr]
    simp only [key]
  · rw [hAB,hmod]
    have:=Nat.zero_le ((r-1)*a)
    omega
  · omega
theorem Nd {V s d:Nat} {E:Int} (hs:s%2=1) (h1:(s-1)*2^d<V) (h2:V<(s+1)*2^d) (hl:Dq V E=Dq s (E+d)) (hk:E+d+2≤Dq s (E+d)) :
    Ch V E=Ch s (E+d)∧flagsOf V E=flagsOf s (E+d):=by
  have hV:V≠0:=by omega
  have hs0:s≠0:=by omega
  generalize hL:Dq s (E+d)=L at *
  obtain ⟨k,hk2⟩:∃ k:Nat,L-(E+d)=k+2:=⟨(L-(E+d)-2).toNat,by omega⟩
  obtain ⟨a1,a2,a3⟩:=Ag7 (k:=k+2) hs h1 h2 (by omega)
  have e1:(L-E).toNat=d+(k+2):=by omega
  have e2:(-(L-E)).toNat=0:=by omega
  have e3:(L-(E+d)).toNat=k+2:=by omega
  have e4:(-(L-(E+d))).toNat=0:=by omega
  have hr:Ch V E=Ch s (E+d):=by
    unfold Ch kept Ln
    rw [if_neg hV,if_neg hs0,hl,hL,e1,e2,e3,e4]
    simp only [Nat.pow_zero,Nat.mul_one]
    rw [a1]
  refine ⟨hr,?_⟩
  unfold flagsOf exact K8
  rw [if_neg hV,if_neg hs0,hr,hl,hL,e1,e2,e3,e4]
  simp only [Nat.pow_zero,Nat.mul_one,a2,a3,decide_false]
theorem No {V s d:Nat} (hs:s%2=1) (hs3:3≤s) (h1:(s-1)*2^d<V) (h2:V<(s+1)*2^d):V.log2=s.log2+d:=by
  have hs0:s≠0:=by omega
  have a1:=Nat.log2_self_le hs0
  have a2:=Nat.lt_log2_self (n:=s)
  have hl:1≤s.log2:=by rw [Nat.le_log2 hs0]; omega
  obtain ⟨t,ht⟩:∃ t,s.log2=t+1:=⟨s.log2-1,by omega⟩
  rw [ht] at a1 a2 ⊢
  have ev1:2^(t+1)=2*2^t:=by rw [Nat.pow_succ]; omega
  have ev2:2^(t+1+1)=2*(2*2^t):=by rw [Nat.pow_succ,ev1]; omega
  refine X4 ?_ ?_
  · rw [Nat.pow_add]
    have:2^(t+1)*2^d≤(s-1)*2^d:=Ara _ (by omega)
    omega
  · have e:t+1+d+1=(t+1+1)+d:=by omega
    rw [e,Nat.pow_add]
    have:(s+1)*2^d≤2^(t+1+1)*2^d:=Ara _ (by omega)
    omega
end Go.Rnd
namespace Go.Rnd
def D4 (b:Nat):Bool:=decide (2^63≤b)
def G7 (b:Nat):Nat:=b / 2^52%2048
def Ft (b:Nat):Nat:=b%2^52
def Au (b:Nat):Nat:=if G7 b=2047 then (if Ft b=0 then 3 else 4) else if 0<G7 b then 2 else if 0<Ft b then 1 else 0
def Le (b:Nat):Bool:=decide (G7 b<2047)
def Pn (b:Nat):Nat:=if 2^63≤b then b-2^63 else b+2^63
def Av (b:Nat):Nat:=if G7 b=0 then Ft b else Ft b+2^52
def Be (b:Nat):Int:=if G7 b=0 then -1074 else (G7 b:Int)-1075
def Co (neg:Bool) (r:Nat):Nat:=if neg then 2^63+r else r
def Ih (neg:Bool) (m:Nat):Int:=if neg then -(m:Int) else m
def Sa (b:Nat) (e:Int):Int:=Ih (D4 b) (Av b*2^(Be b-e).toNat)
def Vt:Nat:=0x7ff8000000000000
def Pf (z:Nat) (S:Int) (e:Int):Nat × Nat :=
  if S=0 then (z,0) else (Co (decide (S<0)) (Ch S.natAbs e),flagsOf S.natAbs e)
def N3 (a b:Nat):Nat × Nat :=
  if Au a=4∨Au b=4 then (Vt,0)
  else if Au a=3 then (if Au b=3∧a≠b then (Vt,16) else (a,0))
  else if Au b=3 then (b,0)
  else Pf (Co (D4 a&&D4 b) 0) (Sa a (min (Be a) (Be b))+Sa b (min (Be a) (Be b))) (min (Be a) (Be b))
def Ap7 (a b:Nat):Nat × Nat:=N3 a (Pn b)
def Fb (neg:Bool) (m:Nat) (e:Int) (more:Bool):Nat × Nat :=
  (Co neg (Ch (4*m+more.toNat) (e-2)),flagsOf (4*m+more.toNat) (e-2))
def Df (x:Int):Bool:=D4 x.toNat
def Kt (x:Int):Int:=G7 x.toNat
def Cd (x:Int):Int:=Ft x.toNat
def A8 (x:Int):Int:=Au x.toNat
def C9 (x:Int):Bool:=Le x.toNat
def Dd (x:Int):Int:=Pn x.toNat
def Bg (x:Int):Int:=Av x.toNat
def Aw (x:Int):Int:=Be x.toNat
def D0 (neg:Bool) (m e:Int) (more:Bool):Int:=(Fb neg m.toNat e more).1
def Dz (neg:Bool) (m e:Int) (more:Bool):Int:=(Fb neg m.toNat e more).2
def Jn (a b:Int):Int:=(N3 a.toNat b.toNat).1
def Sv (a b:Int):Int:=(N3 a.toNat b.toNat).2
def Dm (a b:Int):Int:=(Ap7 a.toNat b.toNat).1
def Ap8 (a b:Int):Int:=(Ap7 a.toNat b.toNat).2
theorem Js (b:Nat):G7 b<2048:=Nat.mod_lt _ (by decide)
theorem Q2 (b:Nat):Ft b<4503599627370496:=Nat.mod_lt _ (by decide)
theorem Ek (b:Nat):Av b<9007199254740992:=by
  have:=Q2 b
  unfold Av; split<;>omega
theorem Eb (b:Nat):-1074≤Be b∧Be b≤972:=by
  have:=Js b
  unfold Be; split<;>omega
theorem Rl {m:Nat} {e:Int} (h1:2^52≤m) (h2:m<2^53) (he:-1074≤e):Ch m e=min ((e+1074).toNat*2^52+m) G8:=by
  have hl:m.log2=52:=X4 h1 h2
  have hm:m≠0:=by omega
  have hle:Dq m e=e:=by unfold Dq; rw [hl]; omega
  unfold Ch kept
  rw [if_neg hm,hle,Int.sub_self]
  unfold Ln
  simp [V6]
theorem Zn {m:Nat} (h2:m<2^52):Ch m (-1074)=m:=by
  by_cases hm:m=0
  · subst hm; rfl
  · have hl:m.log2<52:=(Nat.log2_lt hm).2 h2
    have hle:Dq m (-1074)=-1074:=by unfold Dq; omega
    unfold Ch kept
    rw [if_neg hm,hle,Int.sub_self]
    unfold Ln G8
    simp [V6]
    omega
theorem Adg (m:Nat) (e:Int):Ch m e≤G8:=by
  unfold Ch
  split
  · exact Nat.zero_le _
  · exact Nat.min_le_right _ _
theorem Qy:G8=9218868437227405312:=rfl
theorem S6 (m:Nat) (e:Int):Ch m e<2^63:=by
  have:=Adg m e
  rw [Qy] at this
  omega
theorem P7 (n:Bool) (m:Nat) (e:Int):Co n (Ch m e)<2^64:=by
  have:=S6 m e
  unfold Co; split<;>omega
theorem Ue {r:Nat} (h:r<2^63):Pn r=2^63+r:=by
  unfold Pn; rw [if_neg (by omega)]; omega
end Go.Rnd
namespace Go.Rnd
open Go.Den
def Ix (m e:Int):Bool:=Cn (0≤m∧m≤9007199254740992∧-1074≤e∧e+m / 9007199254740992≤100000)
def L9 (m e:Int):Nat:=if 9007199254740992≤m then 1 else if m<4503599627370496 then 2+(e+1074).toNat else 0
def Qk (n:Bool) (m e:Int):Int:=Co n (Ch m.toNat e)
def Di (m e:Int) (r:Bool):Bool :=
  Cn (0≤m∧m<18446744073709551616∧e≤50000∧(-1137≤e∨(m<4611686018427387904∧-1140≤e))∧(r=true→4503599627370496≤m∨e≤-1074))
def Es (n D:Nat):Nat:=if n%2^D=0 then n / 2^D else 2*(n / 2^D / 2)+1
def D9 (m d:Int):Int:=Es m.toNat (min d.toNat 63)
def Cu (l:List Int):Bool:=Cn (l.length<4611686018427387904∧∀ x∈l,Ai x=true)
def Xy (x:Int):Bool:=Cn (0≤x)
theorem Z0 (n:Nat):Xy (n:Int)=true:=Ao.2 (Int.natCast_nonneg n)
theorem Z1 {x:Int} (h:Xy x=true):∃ n:Nat,x=n:=⟨x.toNat,by have:=Ao.1 h; omega⟩
end Go.Rnd
namespace Go.Rnd
theorem Aqb (a c:Nat):(a+1)*c+c=a*c+(c+c):=by rw [Nat.add_mul,Nat.one_mul,Nat.add_assoc]
theorem Ape:2^52+2^52=2^53:=by decide
theorem Aqa (a:Nat):(a+1)*2^52+2^52=a*2^52+2^53:=(Aqb a (2^52)).trans (congrArg (fun x=>a*2^52+x) Ape)
theorem Am0:2^52*2^1=2^53:=by decide
theorem Aki {E:Int}:Ch (2^53) E=Ch (2^52) (E+1):=by
  have:=(Ei (2^52) 1 (E+1)).1
  have e1:E+1-((1:Nat):Int)=E:=by omega
  rw [e1,Am0] at this
  exact this
theorem Ag4 {E:Int} (hE:-1074≤E):Ch (2^53) E=min ((E+1074).toNat*2^52+2^53) G8:=by
  have e3:(E+1+1074).toNat=(E+1074).toNat+1:=by omega
  rw [Aki,Rl (by decide) (by decide) (by omega),e3]
  exact congrArg (fun x=>min x G8) (Aqa _)
theorem Aeo {q:Nat} {E:Int} (h1:q≤2^53) (hE:-1074≤E) (h2:2^52≤q∨E=-1074):Ch q E=min ((E+1074).toNat*2^52+q) G8:=by
  by_cases ha:q=2^53
  · rw [ha]; exact Ag4 hE
  · by_cases hb:2^52≤q
    · exact Rl hb (by omega) hE
    · obtain rfl:E=-1074:=h2.resolve_left hb
      rw [Zn (by omega)]
      unfold G8
      simp
      omega
theorem Aeu {M D s:Nat} (hs:s≤1):Qi (4*M+s) (D+2)=M / 2^D+(if 0<D∧(2^(D-1)<M%2^D∨(M%2^D=2^(D-1)∧(s=1∨M / 2^D%2=1))) then 1 else 0) ∧
    ((4*M+s)%2^(D+2)=0↔M%2^D=0∧s=0):=by
  have hp:2^(D+2)=2^D*4:=by rw [Nat.pow_add]
  have hA:=Cc D
  have hdm:=Nat.div_add_mod M (2^D)
  have hlt:=Nat.mod_lt M hA
  have hdiv:(4*M+s) / (2^D*4)=M / 2^D:=by
    rw [Nat.mul_comm (2^D) 4,← Nat.div_div_eq_div_mul]
    congr 1; omega
  have hmod:(4*M+s)%(2^D*4)=4*(M%2^D)+s:=by
    have h:=Nat.div_add_mod (4*M+s) (2^D*4)
    rw [hdiv] at h
    have e:2^D*4*(M / 2^D)=4*(2^D*(M / 2^D)):=by rw [Nat.mul_comm (2^D) 4,Nat.mul_assoc]
    rw [e] at h
    omega
  unfold Qi
  rw [hp,hdiv,hmod]
  generalize M%2^D=r at *
  generalize M / 2^D=q at *
  refine ⟨?_,by omega⟩
  congr 1
  have key:(2^D*4<2*(4*r+s)∨2*(4*r+s)=2^D*4∧q%2=1)↔(0<D∧(2^(D-1)<r∨(r=2^(D-1)∧(s=1∨q%2=1)))):=by
    cases D with
    | zero=>simp only [Nat.pow_zero] at hlt ⊢; omega
    | succ d =>
      rw [Nat.pow_succ] at hlt ⊢
      simp only [Nat.add_sub_cancel]
      generalize 2^d=c at *
      omega
  simp only [key]
structure Drop (M:Nat) (e:Int) (D:Nat):Prop where
  le:D≤63
  stop:D<63→M / 2^D<2^53∧-1074≤e+D
  least:∀ d,d<D→2^53≤M / 2^d∨e+d < -1074
def Zv (M D s:Nat):Nat:=M / 2^D+(if 0<D∧(2^(D-1)<M%2^D∨(M%2^D=2^(D-1)∧(s=1∨M / 2^D%2=1))) then 1 else 0)
theorem Aha {M D s:Nat} (h:M / 2^D<2^53):Zv M D s≤2^53:=by
  unfold Zv; split<;>omega
theorem Ahb {M D s:Nat}:M / 2^D≤Zv M D s:=by unfold Zv; omega
theorem Aoe {M D:Nat} {c:Nat} (h:M / 2^D<c):M<c*2^D:=(Nat.div_lt_iff_lt_mul (Cc D)).1 h
theorem Aic {M D:Nat} {c:Nat} (h:c≤M / 2^D):c*2^D≤M:=(Nat.le_div_iff_mul_le (Cc D)).1 h
theorem Uq {V:Nat} {E L:Int} (h:(E+V.log2-52=L∧-1074≤L)∨(E+V.log2-52≤L∧L=-1074)):Dq V E=L:=by unfold Dq; omega
theorem Afg {M s:Nat} (hs:s≤1) (hM:M≠0):(4*M+s).log2=M.log2+2:=by
  have h1:=Nat.log2_self_le hM
  have h2:=Nat.lt_log2_self (n:=M)
  refine X4 ?_ ?_
  · rw [Nat.pow_add]; omega
  · have e:2^(M.log2+2+1)=2^(M.log2+1)*4:=by rw [show M.log2+2+1=M.log2+1+2 by omega,Nat.pow_add]
    omega
theorem Ae8 {M D s:Nat} {e:Int} (hD:Drop M e D) (hs:s≤1) (hV:4*M+s≠0) (hM:M<2^64) (he:-1137≤e∨(M<2^62∧-1140≤e)) (hr:s=1→2^52≤M∨e≤-1074) :
    Ch (4*M+s) (e-2)=Ch (if e+D < -1074 then 0 else Zv M D s) (max (e+D) (-1074)) ∧
    flagsOf (4*M+s) (e-2)=flags (Ch (4*M+s) (e-2)) (decide (M%2^D=0∧s=0)) ∧
    (if e+D < -1074 then 0 else Zv M D s)≤2^53:=by
  have hA:=Cc D
  by_cases hlow:e+D < -1074
  ·
    have hD63:D=63:=by
      rcases Nat.lt_or_ge D 63 with h | h
      · have:=(hD.stop h).2; omega
      · have:=hD.le; omega
    subst hD63
    have hM62:M<2^62:=by rcases he with h | h; omega; exact h.1
    have he2:-1140≤e:=by rcases he with h | h; omega; exact h.2
    have hV64:4*M+s<2^64:=by omega
    have hlog:(4*M+s).log2<64:=(Nat.log2_lt hV).2 hV64
    have hl:Dq (4*M+s) (e-2)=-1074:=Uq (.inr ⟨by omega,rfl⟩)
    obtain ⟨k,hk⟩:∃ k:Nat,(-1074-(e-2)).toNat=66+k:=⟨(-1074-(e-2)).toNat-66,by omega⟩
    have e2:(-(-1074-(e-2))).toNat=0:=by omega
    have hp:2^66≤2^(66+k):=Ard (by decide) (by omega)
    have hsm:4*M+s<2^(66+k):=by omega
    have hz:Ln (4*M+s) (-1074-(e-2))=0:=by
      unfold Ln Qi
      rw [e2,hk,Nat.pow_zero,Nat.mul_one,Nat.div_eq_of_lt hsm,Arb hsm,if_neg (by omega)]
    have hru:Ch (4*M+s) (e-2)=0:=by
      unfold Ch kept
      rw [if_neg hV,hl,hz]
      simp
    refine ⟨?_,?_,?_⟩
    · rw [hru,if_pos hlow]; rfl
    · unfold flagsOf exact K8
      rw [if_neg hV,hl,e2,hk,Nat.pow_zero,Nat.mul_one,Arb hsm]
      congr 1
      have h63:M%2^63=M:=Arb (by omega)
      rw [h63,Are]
      simp only [Aq5]
      omega
    · rw [if_pos hlow]; exact Nat.zero_le _
  · have hmax:max (e+D) (-1074)=e+D:=by omega
    have hq:M / 2^D<2^53:=by
      rcases Nat.lt_or_ge D 63 with h | h
      · exact (hD.stop h).1
      · have:D=63:=by have:=hD.le; omega
        subst this
        exact Nat.lt_of_le_of_lt (Nat.div_le_of_le_mul (show M≤2^63*2 by omega)) (by decide)
    obtain ⟨c1,c2⟩:=Aeu (M:=M) (D:=D) hs
    rw [if_neg hlow,hmax]
    refine ⟨?_,?_,Aha hq⟩
    all_goals
      by_cases hD0:D=0∧s=0
      · obtain ⟨rfl,rfl⟩:=hD0
        have hM0:M≠0:=by omega
        obtain ⟨s1,s2⟩:=Ei M 2 e
        have e1:M*2^2=4*M+0:=by omega
        have e2:e-((2:Nat):Int)=e-2:=by omega
        rw [e1,e2] at s1 s2
        have hq0:Zv M 0 0=M:=by unfold Zv; simp
        have hle:Dq M e≤e:=by
          have:M.log2<53:=(Nat.log2_lt hM0).2 (by simpa using hq)
          unfold Dq; simp only [Int.natCast_zero,Int.add_zero] at hlow; omega
        first
        | (rw [s1,hq0]; simp; done)
        | (rw [s2,s1]
           unfold flagsOf exact K8
           have z:(Dq M e-e).toNat=0:=by omega
           rw [if_neg hM0,z]
           simp [Nat.mod_one])
      ·
        have hl:Dq (4*M+s) (e-2)=e+D:=by
          by_cases hM0:M=0
          · subst hM0
            have hs1:s=1:=by omega
            subst hs1
            have hle:e+D=-1074:=by
              rcases Nat.eq_zero_or_pos D with rfl | hpos
              · have:=hr rfl; omega
              · have h:=hD.least (D-1) (by omega)
                simp only [Nat.zero_div] at h
                omega
            refine Uq (.inr ⟨?_,hle⟩)
            have:(4*0+1:Nat).log2=0:=by decide
            rw [this]; omega
          · have hlog:=Afg hs hM0
            have hub:M.log2<53+D:=by
              rw [Nat.log2_lt hM0,Nat.pow_add]; exact Aoe hq
            have hcase:52+D≤M.log2∨e+D=-1074:=by
              rcases Nat.eq_zero_or_pos D with rfl | hpos
              · have hs1:s=1:=by omega
                rcases hr hs1 with h | h
                · left; rw [Nat.le_log2 hM0]; simpa using h
                · right; simp only [Int.natCast_zero,Int.add_zero] at hlow ⊢; omega
              · rcases hD.least (D-1) (by omega) with h | h
                · left
                  rw [Nat.le_log2 hM0]
                  have:=Aic h
                  have e1:2^(52+D)=2^53*2^(D-1):=by rw [← Nat.pow_add]; congr 1; omega
                  rw [e1]; exact this
                · right; omega
            refine Uq ?_
            rw [hlog]
            rcases hcase with h | h
            · left; omega
            · right; omega
        have e1:(e+D-(e-2)).toNat=D+2:=by omega
        have e2:(-(e+(D:Int)-(e-2))).toNat=0:=by omega
        have hkept:kept (4*M+s) (e-2)=Zv M D s:=by
          unfold kept Ln
          rw [hl,e1,e2,Nat.pow_zero,Nat.mul_one,c1]; rfl
        first
        | (have hbig:2^52≤Zv M D s∨e+D=-1074:=by
             rcases Nat.eq_zero_or_pos D with rfl | hpos
             · have hs1:s=1:=by omega
               rcases hr hs1 with h | h
               · left; exact Nat.le_trans (by simpa using h) Ahb
               · right; simp only [Int.natCast_zero,Int.add_zero] at hlow ⊢; omega
             · rcases hD.least (D-1) (by omega) with h | h
               · left
                 refine Nat.le_trans ?_ Ahb
                 rw [Nat.le_div_iff_mul_le hA]
                 have:=Aic h
                 have e1:2^52*2^D=2^53*2^(D-1):=by rw [← Nat.pow_add,← Nat.pow_add]; congr 1; omega
                 rw [e1]; exact this
               · right; omega
           rw [Aeo (Aha hq) (by omega) hbig]
           unfold Ch
           rw [if_neg hV,hl,hkept]; done)
        | (unfold flagsOf exact K8
           rw [if_neg hV,hl,e1,e2,Nat.pow_zero,Nat.mul_one]
           congr 1
           rw [Are]
           simp only [Aq5]
           exact c2)
theorem Aex (n:Bool) {r:Nat} (h:r<2^63):G7 (Co n r)=r / 2^52:=by
  unfold G7 Co; cases n
  · simp only [Bool.false_eq_true,if_false]; omega
  · simp only [if_true]; omega
theorem Acl (n:Bool) (r:Nat):Ft (Co n r)=r%2^52:=by
  unfold Ft Co; cases n
  · rfl
  · simp only [if_true]; omega
theorem Afk (n:Bool) {r:Nat} (h:r≤G8):Au (Co n r)=if r=G8 then 3 else if 2^52≤r then 2 else if 0<r then 1 else 0:=by
  rw [Qy] at *
  unfold Au
  rw [Aex n (by omega),Acl]
  by_cases h1:r=9218868437227405312
  · subst h1; simp
  · rw [if_neg h1,if_neg (by omega)]
    by_cases h2:2^52≤r
    · rw [if_pos h2,if_pos (by omega)]
    · rw [if_neg h2,if_neg (by omega)]
      by_cases h3:0<r
      · rw [if_pos h3,if_pos (by omega)]
      · rw [if_neg h3,if_neg (by omega)]
end Go.Rnd
namespace Go.Rnd
open Ieee
theorem Acj (b:Nat):(G7 b=2047∧Ft b=0∧Au b=3)∨(G7 b=2047∧Ft b≠0∧Au b=4)∨(G7 b<2047∧Au b≠3∧Au b≠4):=by
  have:=Js b
  unfold Au
  by_cases h1:G7 b=2047
  · by_cases h2:Ft b=0<;>simp [h1,h2]
  · refine .inr (.inr ⟨by omega,?_⟩)
    rw [if_neg h1]
    split
    · decide
    · split<;>decide
end Go.Rnd
namespace Go.Rnd
open Ieee
def Us (b:Nat):Int:=Ih (D4 b) (b%2^63)
end Go.Rnd
namespace Go.Rnd
def Vm (a b:Nat):Nat × Nat :=
  if Au a=4∨Au b=4 then (Vt,0)
  else if Au a=3∨Au b=3 then (if Au a=0∨Au b=0 then (Vt,16) else (Co (D4 a !=D4 b) G8,0))
  else (Co (D4 a !=D4 b) (Ch (Av a*Av b) (Be a+Be b)),flagsOf (Av a*Av b) (Be a+Be b))
def Fk (X Y K:Nat):Nat:=2*(X*2^K / Y)+(if X*2^K%Y=0 then 0 else 1)
def Acs (a b:Nat):Nat × Nat :=
  if Au a=4∨Au b=4 then (Vt,0)
  else if Au a=Au b∧(Au a=3∨Au a=0) then (Vt,16)
  else if Au a=3 then (Co (D4 a !=D4 b) G8,0)
  else if Au b=3∨Au a=0 then (Co (D4 a !=D4 b) 0,0)
  else if Au b=0 then (Co (D4 a !=D4 b) G8,8)
  else (Co (D4 a !=D4 b) (Ch (Fk (Av a) (Av b) 120) (Be a-Be b-121)),flagsOf (Fk (Av a) (Av b) 120) (Be a-Be b-121))
theorem Ab4 {V k:Nat} {E:Int} (hm:1≤V / 2^k) (hc:2^53≤V / 2^k∨E+k+1≤-1074) :
    Ch (4*(V / 2^k)+(if V%2^k=0 then 0 else 1)) (E+k-2)=Ch V E∧flagsOf (4*(V / 2^k)+(if V%2^k=0 then 0 else 1)) (E+k-2)=flagsOf V E:=by
  have hA:=Cc k
  have h1:=Nat.div_add_mod V (2^k)
  have h2:=Nat.mod_lt V hA
  generalize hq:V / 2^k=q at *
  generalize hr:V%2^k=r at *
  by_cases h0:r=0
  · rw [if_pos h0]
    obtain ⟨a1,a2⟩:=Ei q k (E+k)
    obtain ⟨b1,b2⟩:=Ei q 2 (E+k)
    have e1:E+(k:Int)-k=E:=by omega
    have e2:V=q*2^k:=by rw [Nat.mul_comm]; omega
    have e3:q*2^2=4*q+0:=by omega
    have e4:E+(k:Int)-((2:Nat):Int)=E+k-2:=by omega
    rw [e1,← e2] at a1 a2
    rw [e3,e4] at b1 b2
    rw [a1,a2,b1,b2]
    exact ⟨rfl,rfl⟩
  · rw [if_neg h0]
    obtain ⟨d,rfl⟩:∃ d,k=d+1:=by
      cases k with
      | zero=>simp only [Nat.pow_zero] at h2; omega
      | succ d=>exact ⟨d,rfl⟩
    have hD:2^(d+1)=2*2^d:=by rw [Nat.pow_succ]; omega
    rw [hD] at h1 h2
    generalize hc2:2^d=c at *
    have p1:(2*q+1-1)*c=2*c*q:=by rw [Nat.add_sub_cancel,Nat.mul_comm,Nat.mul_left_comm,Nat.mul_assoc]
    have p2:(2*q+1+1)*c=2*c*q+2*c:=by
      rw [show 2*q+1+1=2*(q+1) by omega,Nat.mul_assoc,Nat.add_mul,Nat.mul_add,Nat.mul_comm q c,Nat.mul_assoc]; omega
    have lt1:(2*q+1-1)*2^d<V:=by rw [hc2,p1]; omega
    have lt2:V<(2*q+1+1)*2^d:=by rw [hc2,p2]; omega
    have od:(2*q+1)%2=1:=by omega
    have lV:=No od (by omega) lt1 lt2
    have l4:(4*q+1).log2=(2*q+1).log2+1:=No (d:=1) od (by omega) (by omega) (by omega)
    have hs:(2*q+1).log2≥54∨E+d+2≤-1074:=by
      rcases hc with h | h
      · left; rw [ge_iff_le,Nat.le_log2 (by omega)]; omega
      · right; omega
    have hk:E+d+2≤Dq (2*q+1) (E+d):=by unfold Dq; omega
    obtain ⟨a1,a2⟩:=Nd (E:=E) od lt1 lt2 (by unfold Dq; rw [lV]; omega) hk
    have ee:E+((d+1:Nat):Int)-2+((1:Nat):Int)=E+d:=by omega
    obtain ⟨b1,b2⟩:=Nd (V:=4*q+1) (d:=1) (E:=E+((d+1:Nat):Int)-2) od (by omega) (by omega) (by unfold Dq; rw [l4]; omega) (by rw [ee]; unfold Dq; omega)
    rw [ee] at b1 b2
    rw [a1,a2,b1,b2]
    exact ⟨rfl,rfl⟩
theorem Qs (n:Bool) {V k:Nat} {E e:Int} {s:Bool} (he:e=E+k) (hs:s=decide (V%2^k≠0)) (hm:1≤V / 2^k) (hc:2^53≤V / 2^k∨E+k+1≤-1074) :
    Fb n (V / 2^k) e s=(Co n (Ch V E),flagsOf V E):=by
  obtain ⟨a,b⟩:=Ab4 hm hc
  have e1:s.toNat=if V%2^k=0 then 0 else 1:=by
    rw [hs]
    by_cases h:V%2^k=0
    · rw [Aq3 (by omega),if_pos h]; rfl
    · rw [Aqz h,if_neg h]; rfl
  unfold Fb
  rw [he,e1,a,b]
theorem Tu {X Y K:Nat} (d:Nat) (E:Int) (hY:0<Y) (h:2^53≤X*2^K / Y) :
    Ch (Fk X Y (K+d)) (E-d)=Ch (Fk X Y K) E∧flagsOf (Fk X Y (K+d)) (E-d)=flagsOf (Fk X Y K) E:=by
  have hA:=Cc d
  unfold Fk
  have e:X*2^(K+d)=X*2^K*2^d:=by rw [Nat.pow_add,Nat.mul_assoc]
  rw [e]
  generalize X*2^K=Z at *
  have h1:=Nat.div_add_mod Z Y
  have h2:=Nat.mod_lt Z hY
  by_cases h0:Z%Y=0
  · obtain ⟨q,rfl⟩:=Nat.dvd_of_mod_eq_zero h0
    have e1:Y*q*2^d=Y*(q*2^d):=Nat.mul_assoc _ _ _
    rw [e1,Nat.mul_mod_right,Nat.mul_mod_right,Nat.mul_div_cancel_left _ hY,Nat.mul_div_cancel_left _ hY,if_pos rfl]
    have:=Ei (2*q+0) d E
    rw [show (2*q+0)*2^d=2*(q*2^d)+0 by rw [Nat.add_zero,Nat.add_zero,Nat.mul_assoc]] at this
    exact this
  · have h3:=Nat.div_add_mod (Z*2^d) Y
    have h4:=Nat.mod_lt (Z*2^d) hY
    rw [if_neg h0]
    generalize hq:Z / Y=q at *
    generalize hr:Z%Y=r at *
    generalize hc:2^d=c at *
    have hz:Z*c=Y*(q*c)+r*c:=by rw [← h1,Nat.add_mul,Nat.mul_assoc]
    have hrc:r*c<Y*c:=(Nat.mul_lt_mul_right hA).2 h2
    have hrc0:0<r*c:=Nat.mul_pos (by omega) hA
    have q1:q*c≤Z*c / Y:=by rw [Nat.le_div_iff_mul_le hY,Nat.mul_comm (q*c)]; omega
    have q2:Z*c / Y<(q+1)*c:=by
      rw [Nat.div_lt_iff_lt_mul hY,Nat.add_mul,Nat.add_mul,Nat.one_mul,Nat.mul_comm (q*c),Nat.mul_comm c Y]; omega
    have q3:Z*c / Y=q*c→Z*c%Y≠0:=fun h5 h6=>by rw [h5,h6] at h3; omega
    generalize hQ:Z*c / Y=Q at *
    have p1:(2*q+1-1)*c=2*(q*c):=by rw [Nat.add_sub_cancel,Nat.mul_assoc]
    have p2:(2*q+1+1)*c=2*((q+1)*c):=by rw [show 2*q+1+1=2*(q+1) by omega,Nat.mul_assoc]
    have od:(2*q+1)%2=1:=by omega
    generalize hV:2*Q+(if Z*c%Y=0 then 0 else 1)=V
    have v1:(2*q+1-1)*2^d<V:=by
      rw [hc,p1,← hV]
      by_cases h5:Q=q*c
      · rw [if_neg (q3 h5)]; omega
      · split<;>omega
    have v2:V<(2*q+1+1)*2^d:=by
      rw [hc,p2,← hV]
      split<;>omega
    have lV:=No od (by omega) v1 v2
    have hs:54≤(2*q+1).log2:=by rw [Nat.le_log2 (by omega)]; omega
    have ee:E-(d:Int)+d=E:=by omega
    have:=Nd (E:=E-d) od v1 v2 (by unfold Dq; rw [lV]; omega) (by unfold Dq; omega)
    rw [ee] at this
    exact this
theorem Abl {X Y K L:Nat} {E F:Int} (hY:0<Y) (h1:2^53≤X*2^K / Y) (h2:2^53≤X*2^L / Y) (he:E+K=F+L) :
    Ch (Fk X Y K) E=Ch (Fk X Y L) F∧flagsOf (Fk X Y K) E=flagsOf (Fk X Y L) F:=by
  rcases Nat.le_total K L with h | h
  · obtain ⟨d,rfl⟩:=Nat.exists_eq_add_of_le h
    have:=Tu d E hY h1
    rw [show E-(d:Int)=F by omega] at this
    exact ⟨this.1.symm,this.2.symm⟩
  · obtain ⟨d,rfl⟩:=Nat.exists_eq_add_of_le h
    have:=Tu d F hY h2
    rw [show F-(d:Int)=E by omega] at this
    exact this
theorem Abm (X Y a K:Nat):Fk (X*2^a) Y K=Fk X Y (K+a):=by
  unfold Fk
  have:X*2^a*2^K=X*2^(K+a):=by rw [Nat.mul_assoc,← Nat.pow_add,Nat.add_comm a K]
  rw [this]
theorem Za (X Y b K:Nat):Fk X (Y*2^b) (K+b)=Fk X Y K:=by
  have hp:=Cc b
  unfold Fk
  have:X*2^(K+b)=X*2^K*2^b:=by rw [Nat.pow_add,Nat.mul_assoc]
  rw [this,Nat.mul_div_mul_right _ _ hp,Nat.mul_mod_mul_right]
  have:(X*2^K%Y*2^b=0)↔(X*2^K%Y=0):=by
    constructor
    · intro h
      rcases Nat.mul_eq_zero.1 h with h | h
      · exact h
      · omega
    · intro h; rw [h,Nat.zero_mul]
  simp only [this]
theorem Anl {X Y K t:Nat} (hX:0<X) (hY0:0<Y) (hY:Y<2^t) (hK:53+t≤K):2^53≤X*2^K / Y:=by
  rw [Nat.le_div_iff_mul_le hY0]
  have h1:2^53*Y≤2^53*2^t:=Nat.mul_le_mul_left _ (by omega)
  have h2:2^(53+t)≤2^K:=Ard (by decide) hK
  have h3:1*2^K≤X*2^K:=Ara _ (by omega)
  rw [Nat.pow_add] at h2
  omega
theorem Ae9 (n:Bool) {X Y K:Nat} {e E:Int} {s:Bool} (hs:s=decide (X*2^K%Y≠0)) (he:E=e-1) (hq:2^53≤X*2^K / Y) :
    Fb n (X*2^K / Y) e s=(Co n (Ch (Fk X Y K) E),flagsOf (Fk X Y K) E):=by
  have e1:Fk X Y K / 2^1=X*2^K / Y:=by
    unfold Fk
    split<;>omega
  have e2:decide (Fk X Y K%2^1≠0)=decide (X*2^K%Y≠0):=by
    unfold Fk
    by_cases h:X*2^K%Y=0
    · rw [if_pos h,Aq3 (by omega),Aq3 (by omega)]
    · rw [if_neg h,Aqz (by omega),Aqz h]
  have:=Qs n (V:=Fk X Y K) (k:=1) (E:=E) (e:=e) (s:=s) (by omega) (by rw [e2]; exact hs) (by omega) (.inl (by omega))
  rw [e1] at this
  exact this
end Go.Rnd
namespace Go.Rnd
open Go.Den
def Bq:List Int→Nat
  | []=>0
  | x::l=>x.toNat+4294967296*Bq l
def digits:Nat→Nat→List Int
  | 0,_=>[]
  | k+1,v=>((v%4294967296:Nat):Int)::digits k (v / 4294967296)
def Da (n:Nat):Nat:=if n=0 then 0 else n.log2 / 32+1
def Mu (n:Nat):List Int:=digits (Da n) n
def Ag (v:Int):List Int:=Mu v.natAbs
def As (v:Int):Bool:=decide (v<0)
def wv (n:Bool) (l:List Int):Int:=Ih n (Bq l)
def Qz (l:List Int):Prop:=∀ x∈l,0≤x∧x<4294967296
def E6 (l:List Int):Bool:=Cn (l.length<1073741824∧Qz l)
def Jt (n:Bool) (l:List Int):Bool:=Cn (l.length<268435456∧l=Mu (Bq l)∧(n=true→l≠[]))
def Vl (n:Bool) (l:List Int):Bool:=Cn (l.length<134217728∧l=Mu (Bq l)∧(n=true→l≠[]))
def Ans (k:Int):Bool:=Cn (-1000000≤k∧k≤1000000)
def Adu (k:Int):Bool:=Cn (-9223372036854775808≤k∧k≤9223372036854775807)
def Fs (l:List Int) (i:Int):Int:=if 0≤i then l.getD i.toNat 0 else 0
def G3 (a b:List Int):List Int:=digits (max a.length b.length+1) (Bq a+Bq b)
def F3 (a b:List Int):List Int:=digits a.length (Bq a-Bq b)
def leL (a b:List Int):Bool:=Cn (Bq a≤Bq b)
def R4 (a b:Nat):Int:=if a<b then -1 else if b<a then 1 else 0
def Iw (v:Int) (j:Nat):Int:=Ih (As v) (v.natAbs / 2^j)
def Gt (v k:Int):Int:=if 0≤k then v*((2^k.toNat:Nat):Int) else Iw v (-k).toNat
def Aez (v:Int):Bool:=decide (v%2=1)
def Ty (v w:Int):Bool:=decide (v=w)
theorem two32:2^32=4294967296:=by decide
theorem Jk (k:Nat):2^(32*(k+1))=4294967296*2^(32*k):=by
  rw [Nat.mul_add,Nat.mul_one,Nat.pow_add,Nat.mul_comm,two32]
theorem De:∀ (k v:Nat),(digits k v).length=k
  | 0,_=>rfl
  | k+1,v=>by rw [digits,List.length_cons,De k]
theorem Ka:∀ (k v:Nat),Qz (digits k v)
  | 0,_=>fun x h=>by cases h
  | k+1,v=>fun x h=>by
    rw [digits,List.mem_cons] at h
    rcases h with rfl | h
    · omega
    · exact Ka k _ x h
theorem Ho:∀ (k v:Nat),Bq (digits k v)=v%2^(32*k)
  | 0,v=>by rw [digits,Bq,Nat.mul_zero,Nat.pow_zero,Nat.mod_one]
  | k+1,v=>by
    rw [digits,Bq,Ho k,Aq0,Jk,Nat.mod_mul]
theorem H0:∀ {l:List Int},Qz l→Bq l<2^(32*l.length)
  | [],_=>by decide
  | x::l,h=>by
    have h1:=h x (List.mem_cons_self ..)
    have h2:=H0 (l:=l) (fun y hy=>h y (List.mem_cons_of_mem _ hy))
    rw [Bq,List.length_cons,Jk]
    omega
theorem Nw:∀ {l:List Int},Qz l→digits l.length (Bq l)=l
  | [],_=>rfl
  | x::l,h=>by
    have h1:=h x (List.mem_cons_self ..)
    have h2:=Nw (l:=l) (fun y hy=>h y (List.mem_cons_of_mem _ hy))
    rw [Bq,List.length_cons,digits]
    have e1:(x.toNat+4294967296*Bq l)%4294967296=x.toNat:=by omega
    have e2:(x.toNat+4294967296*Bq l) / 4294967296=Bq l:=by omega
    rw [e1,e2,h2]
    congr 1
    omega
theorem Iy (n:Nat):n<2^(32*Da n):=by
  unfold Da
  by_cases h:n=0
  · rw [if_pos h,h]; decide
  · rw [if_neg h]
    exact Nat.lt_of_lt_of_le Nat.lt_log2_self (Ard (by decide) (by omega))
theorem Jy {n k:Nat} (h:n<2^(32*k)):Da n≤k:=by
  unfold Da
  by_cases h0:n=0
  · rw [if_pos h0]; exact Nat.zero_le _
  · rw [if_neg h0]
    have:=(Nat.log2_lt h0).2 h
    omega
theorem Ala {n k:Nat} (h:2^(32*k)≤n):k+1≤Da n:=by
  have hp:=Cc (32*k)
  unfold Da
  rw [if_neg (by omega)]
  have:=(Nat.le_log2 (by omega)).2 h
  omega
theorem J7 {n m:Nat} (h:n≤m):Da n≤Da m:=Jy (Nat.lt_of_le_of_lt h (Iy m))
theorem Pc (n:Nat):Bq (Mu n)=n:=by
  unfold Mu
  rw [Ho,Arb (Iy n)]
theorem F5 (n:Nat):(Mu n).length=Da n:=De _ _
theorem Aai (n:Nat):Qz (Mu n):=Ka _ _
theorem U6:∀ (k v i:Nat),i<k→(digits k v).getD i 0=((v / 2^(32*i)%4294967296:Nat):Int)
  | k+1,v,0,_=>by rw [digits,List.getD_cons_zero,Nat.mul_zero,Nat.pow_zero,Nat.div_one]
  | k+1,v,i+1,h=>by
    rw [digits,List.getD_cons_succ,U6 k _ i (by omega),Jk,Nat.div_div_eq_div_mul]
theorem Mg {l:List Int} (h:Qz l) (i:Nat):l.getD i 0=((Bq l / 2^(32*i)%4294967296:Nat):Int):=by
  by_cases hi:i<l.length
  · have:=U6 l.length (Bq l) i hi
    rw [Nw h] at this
    exact this
  · have h1:=H0 h
    have h2:2^(32*l.length)≤2^(32*i):=Ard (by decide) (by omega)
    rw [Nat.div_eq_of_lt (by omega),Aq8,List.getElem?_eq_none (by omega)]
    rfl
theorem F6 {l:List Int} (h:Qz l) (i:Nat):Fs l (i:Int)=((Bq l / 2^(32*i)%4294967296:Nat):Int):=by
  unfold Fs
  rw [if_pos (by omega),Aq0,Mg h]
theorem Hv:∀ (k v:Nat),digits (k+1) v=digits k v++[((v / 2^(32*k)%4294967296:Nat):Int)]
  | 0,v=>by rw [digits,digits,digits,Nat.mul_zero,Nat.pow_zero,Nat.div_one]; rfl
  | k+1,v=>by
    rw [digits,Hv k,Jk,← Nat.div_div_eq_div_mul]
    rfl
theorem So:∀ (j k v:Nat),j≤k→(digits k v).take j=digits j v
  | 0,_,_,_=>by rw [List.take_zero,digits]
  | j+1,k+1,v,h=>by rw [digits,List.take_succ_cons,So j k _ (by omega),digits]
theorem Acg {l:List Int} (h:Qz l):l.take (Da (Bq l))=Mu (Bq l):=by
  have h1:=So (Da (Bq l)) l.length (Bq l) (Jy (H0 h))
  rw [Nw h] at h1
  exact h1
theorem I8 {n:Nat} (h:n≠0):0<Da n:=by unfold Da; rw [if_neg h]; omega
theorem Fy (v:Int):wv (As v) (Ag v)=v:=by
  unfold wv As Ag Ih
  rw [Pc]
  by_cases h:v<0
  · rw [Aqz h,if_pos rfl]; omega
  · rw [Aq3 h,if_neg (by decide)]; omega
theorem H6 {l:List Int} (h:l.length<1073741824) (hi:Qz l):E6 l=true:=Ao.2 ⟨h,hi⟩
theorem H7 {l:List Int} (h:E6 l=true):l.length<1073741824∧Qz l:=Ao.1 h
theorem U8 (v:Int):Ag v=Mu (Bq (Ag v))∧(As v=true→Ag v≠[]):=by
  unfold Ag
  rw [Pc]
  refine ⟨rfl,fun h e=>?_⟩
  have h1:v<0:=of_decide_eq_true h
  have h2:=F5 v.natAbs
  rw [e] at h2
  have:=I8 (n:=v.natAbs) (by omega)
  rw [← h2] at this
  exact absurd this (by decide)
theorem Je {v:Int} (h:Da v.natAbs<268435456):Jt (As v) (Ag v)=true :=
  Ao.2 ⟨by unfold Ag; rw [F5]; exact h,U8 v⟩
theorem Ahh {v:Int} (h:Da v.natAbs<134217728):Vl (As v) (Ag v)=true :=
  Ao.2 ⟨by unfold Ag; rw [F5]; exact h,U8 v⟩
theorem R7 {n:Bool} {l:List Int} (h1:l=Mu (Bq l)) (h2:n=true→l≠[]):n=As (wv n l)∧l=Ag (wv n l):=by
  have e:(wv n l).natAbs=Bq l:=by unfold wv Ih; split<;>omega
  refine ⟨?_,by unfold Ag; rw [e]; exact h1⟩
  unfold As wv Ih
  cases n
  · simp
  · have h3:=h2 rfl
    have h4:Bq l≠0:=fun h=>by
      rw [h] at h1
      exact h3 h1
    simp; omega
theorem H5 {n:Bool} {l:List Int} (h:Jt n l=true):∃ v,n=As v∧l=Ag v∧Da v.natAbs<268435456:=by
  obtain ⟨h0,h1,h2⟩:=Ao.1 h
  obtain ⟨e1,e2⟩:=R7 h1 h2
  refine ⟨_,e1,e2,?_⟩
  have:=congrArg List.length e2
  unfold Ag at this
  rw [F5] at this
  omega
theorem S9 {n:Bool} {l:List Int} (h:Vl n l=true):∃ v,n=As v∧l=Ag v∧Da v.natAbs<134217728:=by
  obtain ⟨h0,h1,h2⟩:=Ao.1 h
  obtain ⟨e1,e2⟩:=R7 h1 h2
  refine ⟨_,e1,e2,?_⟩
  have:=congrArg List.length e2
  unfold Ag at this
  rw [F5] at this
  omega
theorem Ls {v:Int} (h:Da v.natAbs<1073741824):E6 (Ag v)=true :=
  H6 (by unfold Ag; rw [F5]; exact h) (Aai _)
theorem Dc (v:Int):Bq (Ag v)=v.natAbs:=Pc _
theorem By (v:Int):(Ag v).length=Da v.natAbs:=F5 _
theorem Ams (n:Bool) (l:List Int):wv (!n) l=- wv n l:=by
  unfold wv Ih
  cases n<;>simp
theorem V9 {a b:List Int} (ha:Qz a) (hb:Qz b):Bq (G3 a b)=Bq a+Bq b:=by
  unfold G3
  rw [Ho,Arb]
  have h1:=H0 ha
  have h2:=H0 hb
  have h3:2^(32*a.length)≤2^(32*max a.length b.length):=Ard (by decide) (by omega)
  have h4:2^(32*b.length)≤2^(32*max a.length b.length):=Ard (by decide) (by omega)
  rw [Jk]
  omega
theorem L8 (a b:List Int):(G3 a b).length=max a.length b.length+1:=De _ _
theorem T5 (a b:List Int):Qz (G3 a b):=Ka _ _
theorem Ab9 {a:List Int} (b:List Int) (ha:Qz a):Bq (F3 a b)=Bq a-Bq b:=by
  unfold F3
  rw [Ho,Arb]
  have h1:=H0 ha
  omega
theorem O4 (a b:List Int):(F3 a b).length=a.length:=De _ _
theorem Wg (a b:List Int):Qz (F3 a b):=Ka _ _
theorem Jp (v:Int) (j:Nat):(Iw v j).natAbs=v.natAbs / 2^j:=by
  unfold Iw
  generalize v.natAbs / 2^j=m
  unfold Ih; split<;>omega
theorem Qb {v:Int} (h:v<0) (m:Nat):Ih (As v) m=-(m:Int):=by
  unfold Ih As; rw [Aqz h,if_pos rfl]
theorem Qa {v:Int} (h:¬ v<0) (m:Nat):Ih (As v) m=(m:Int):=by
  unfold Ih As; rw [Aq3 h,if_neg (by decide)]
theorem Xj (v:Int) (i j:Nat):Iw (Iw v i) j=Iw v (i+j):=by
  have e:v.natAbs / 2^(i+j)=v.natAbs / 2^i / 2^j:=by rw [Nat.pow_add,Nat.div_div_eq_div_mul]
  have h1:=Jp v i
  by_cases hv:v<0
  · have h2:Iw v i=-((v.natAbs / 2^i:Nat):Int):=Qb hv _
    rw [show Iw v (i+j)=-((v.natAbs / 2^(i+j):Nat):Int) from Qb hv _,e]
    by_cases h0:v.natAbs / 2^i=0
    · rw [h2,h0]
      show Iw 0 j=_
      rw [Nat.zero_div]
      show Ih (As 0) (0 / 2^j)=_
      rw [Nat.zero_div]; rfl
    · have h3:Iw v i<0:=by omega
      rw [show Iw (Iw v i) j=-(((Iw v i).natAbs / 2^j:Nat):Int) from Qb h3 _,h1]
  · have h2:Iw v i=((v.natAbs / 2^i:Nat):Int):=Qa hv _
    have h3:¬ Iw v i<0:=by omega
    rw [show Iw (Iw v i) j=(((Iw v i).natAbs / 2^j:Nat):Int) from Qa h3 _,h1,show Iw v (i+j)=((v.natAbs / 2^(i+j):Nat):Int) from Qa hv _,e]
theorem Zk (v:Int):Iw v 0=v:=by
  unfold Iw Ih As
  rw [Nat.pow_zero,Nat.div_one]
  by_cases h:v<0
  · rw [Aqz h,if_pos rfl]; omega
  · rw [Aq3 h,if_neg (by decide)]; omega
theorem P8 (j:Nat):Iw 0 j=0:=by
  unfold Iw
  rw [show (Int.natAbs 0)=0 from rfl,Nat.zero_div]
  rfl
theorem Ad8 {l:List Int} (h:Qz l):Bq (l.drop 1)=Bq l / 4294967296:=by
  cases l with
  | nil=>rfl
  | cons x l =>
    have:=h x (List.mem_cons_self ..)
    show Bq l=_
    rw [Bq]; omega
theorem Aan {l:List Int} (h:Qz l):Qz (l.drop 1):=fun x hx=>h x (List.mem_of_mem_drop hx)
theorem Aam {l:List Int} (h:Qz l):Qz ([(0:Int)]++l):=fun x hx=>by
  rcases List.mem_cons.1 hx with rfl | hx
  · omega
  · exact h x hx
theorem Ah6 (n:Nat):Da (2*n)≤Da n+1:=by
  refine Jy ?_
  have h:=Iy n
  rw [Jk]
  omega
theorem Ak9 (n:Nat):Da (n*4294967296)≤Da n+1:=by
  refine Jy ?_
  have h:=Iy n
  rw [Jk]
  omega
end Go.Rnd
namespace Go.Rnd
open Go.Den
def Rb (n:Nat):Nat:=if h:n=0∨n%2=1 then 0 else Rb (n / 2)+1
termination_by n
decreasing_by omega
def mD (v:Int):Int:=Iw v (Rb v.natAbs)
def eD (v e:Int):Int:=if v=0 then 0 else e+Rb v.natAbs
def C1 (v e w f:Int):Int:=if v=0 then f else if w=0 then e else min e f
def Aqt (v e w f:Int):Int:=Gt v (e-C1 v e w f)+Gt w (f-C1 v e w f)
def Aa9 (v e w f:Int):Int:=mD (Aqt v e w f)
def Ajo (v e w f:Int):Int:=eD (Aqt v e w f) (C1 v e w f)
def Rr (e:Int):Bool:=Cn (-2000000≤e∧e≤2000000)
def Tb (e:Int):Bool:=Cn (-400000≤e∧e≤400000)
def Zz (v e f:Int):Bool:=Cn (v=0∨(-1000000≤e-f∧e-f≤1000000))&&Cn (-400000≤e∧e≤400000∧-1000000≤f∧f≤1000000)
theorem Abi {n:Nat} (h:n=0∨n%2=1):Rb n=0:=by rw [Rb,dif_pos h]
theorem Ada {n:Nat} (h0:n≠0) (h:n%2=0):Rb n=Rb (n / 2)+1:=by rw [Rb,dif_neg (by omega)]
theorem Xa {n:Nat} (h:n≠0):∀ k,Rb (n*2^k)=k+Rb n
  | 0=>by rw [Nat.pow_zero,Nat.mul_one,Nat.zero_add]
  | k+1=>by
    have hp:=Cc k
    have h1:n*2^k≠0:=by
      intro e
      rcases Nat.mul_eq_zero.1 e with e | e<;>omega
    have e:n*2^(k+1)=n*2^k*2:=by rw [Nat.pow_succ,Nat.mul_assoc]
    rw [e,Ada (by omega) (by omega),Nat.mul_div_cancel _ (by decide),Xa h k]
    omega
theorem Ac9 (n:Nat) (h:n≠0):∃ m,n=m*2^Rb n∧m%2=1:=by
  induction n using Nat.strongRecOn with
  | _ n ih =>
    by_cases h2:n%2=1
    · refine ⟨n,?_,h2⟩
      rw [Abi (.inr h2),Nat.pow_zero,Nat.mul_one]
    · obtain ⟨m,h3,h4⟩:=ih (n / 2) (by omega) (by omega)
      refine ⟨m,?_,h4⟩
      rw [Ada h (by omega),Nat.pow_succ,← Nat.mul_assoc,← h3]
      omega
theorem Amc {n:Nat} (h:n≠0):Rb n≤n.log2:=by
  obtain ⟨m,h1,h2⟩:=Ac9 n h
  refine (Nat.le_log2 h).2 ?_
  have:1*2^Rb n≤m*2^Rb n:=Ara _ (by omega)
  omega
theorem Afh {n:Nat}:n.log2<32*Da n+1:=by
  unfold Da
  by_cases h:n=0
  · rw [h]; decide
  · rw [if_neg h]; omega
theorem Ahu {v:Int} {k:Nat} (h:v.natAbs%2^k=0):mD (Iw v k)=mD v:=by
  unfold mD
  by_cases h0:v=0
  · rw [h0,P8]
  · have hp:=Cc k
    have hv:=Nat.div_add_mod v.natAbs (2^k)
    rw [h,Nat.add_zero,Nat.mul_comm] at hv
    have hq:v.natAbs / 2^k≠0:=by
      intro e; rw [e] at hv; omega
    have:=Xa hq k
    rw [hv] at this
    rw [Jp,Xj,this]
theorem Aiz {v e:Int} {k:Nat} (h:v.natAbs%2^k=0) (h0:v≠0):eD (Iw v k) (e+k)=eD v e:=by
  unfold eD
  have hp:=Cc k
  have hv:=Nat.div_add_mod v.natAbs (2^k)
  rw [h,Nat.add_zero,Nat.mul_comm] at hv
  have hq:v.natAbs / 2^k≠0:=by
    intro e; rw [e] at hv; omega
  have ht:=Xa hq k
  rw [hv] at ht
  have ha:=Jp v k
  rw [if_neg h0,if_neg (by omega),ha,ht]
  omega
theorem Anw {v:Int} (h:v%2=1):mD v=v:=by
  unfold mD
  rw [Abi (.inr (by omega)),Zk]
theorem Aoc {v:Int} (h:v%2=1) (e:Int):eD v e=e:=by
  unfold eD
  rw [Abi (.inr (by omega)),if_neg (by omega)]
  omega
theorem Ak0 (v:Int):v=mD v*((2^Rb v.natAbs:Nat):Int):=by
  by_cases h:v=0
  · rw [h]
    show (0:Int)=Iw 0 _*_
    rw [P8,Int.zero_mul]
  · obtain ⟨m,h1,h2⟩:=Ac9 v.natAbs (by omega)
    have hp:=Cc (Rb v.natAbs)
    have hq:v.natAbs / 2^Rb v.natAbs=m:=Nat.div_eq_of_eq_mul_left hp h1
    unfold mD Iw
    rw [hq]
    by_cases hv:v<0
    · rw [Qb hv,Int.neg_mul,← Ark,← h1]; omega
    · rw [Qa hv,← Ark,← h1]; omega
theorem Akz {v:Int}:mD v=0↔v=0:=by
  constructor
  · intro h
    have:=Ak0 v
    rw [h,Int.zero_mul] at this
    exact this
  · intro h
    rw [h]
    exact P8 _
theorem Ru (v:Int):(mD v).natAbs≤v.natAbs:=by
  unfold mD
  rw [Jp]
  exact Nat.div_le_self _ _
end Go.Rnd
namespace Go.Rnd
open Go.Den
theorem Aqp {v e g:Int} (h:g≤e) (h0:v≠0):g≤eD v e:=by
  unfold eD
  rw [if_neg h0]
  omega
def Ah (l:List Int):Bool:=Cn (∀ x∈l,Ai x=true)
def A7 (x:Int):Int:=Ih (D4 x.toNat) (Av x.toNat)
def Oz (n:Bool) (b:Int):Int:=if n then Dd b else b
end Go.Rnd
namespace Go.Rnd
open Go.Den
end Go.Rnd
namespace Go.Rnd
open Go.Den
def D1 (x:Int):Int:=if x=0 then 0 else (x.toNat.log2:Int)+1
def O3 (x y:Int):Int:=((x.toNat*y.toNat / 18446744073709551616:Nat):Int)
def K0 (x y:Int):Int:=((x.toNat*y.toNat%18446744073709551616:Nat):Int)
def Ahn (a b:Int):Bool:=decide (A8 a=4)||decide (A8 b=4)
def Bu (b:Nat):Nat:=52-(Av b).log2
def Ca (b:Int):Int:=((Av b.toNat*2^Bu b.toNat:Nat):Int)
def F1 (b:Int):Int:=Be b.toNat-Bu b.toNat
def Jv (b:Int):Bool:=Cn (Av b.toNat≠0)
def L5 (m e:Int):Bool:=Cn (1152921504606846976≤m∧m<4611686018427387904∧-6000≤e∧e≤6000)
def El (a b:Int):Int:=(Vm a.toNat b.toNat).1
def Aqh (a b:Int):Int:=(Vm a.toNat b.toNat).2
def E8 (a b:Int):Int:=(Acs a.toNat b.toNat).1
def Aqq (a b:Int):Int:=(Acs a.toNat b.toNat).2
def Adt (x:Int):Bool:=Cn (0≤x∧x<4294967296)
def singleL (l:List Int) (x:Int):List Int:=digits (l.length+1) (Bq l*x.toNat)
def Xr (n:Bool) (l:List Int):Bool:=Cn (l.length<33554432∧l=Mu (Bq l)∧(n=true→l≠[]))
end Go.Rnd
namespace Go.Rnd
theorem Af3 (a b:Nat):N3 a b=N3 b a:=by
  unfold N3
  by_cases ha:Au a=4
  · simp only [ha,true_or,or_true,if_true]
  · by_cases hb:Au b=4
    · simp only [hb,true_or,or_true,if_true]
    · simp only [ha,hb,or_self,if_false]
      by_cases ha3:Au a=3
      · by_cases hb3:Au b=3
        · simp only [ha3,hb3,if_true,true_and]
          by_cases e:a=b
          · subst e; rfl
          · rw [if_pos e,if_pos (fun h=>e h.symm)]
        · simp only [ha3,hb3,if_true,if_false,false_and]
      · by_cases hb3:Au b=3
        · simp only [ha3,hb3,if_true,if_false,false_and]
        · simp only [ha3,hb3,if_false]
          rw [Bool.and_comm,Int.min_comm,Int.add_comm]
theorem Zq {Y D:Nat} (h:Y%2^D=0):Es Y D=Y / 2^D:=by unfold Es; rw [if_pos h]
theorem Abx {Y D:Nat} (h:Y%2^D≠0):Es Y D%2=1:=by unfold Es; rw [if_neg h]; omega
theorem Zr {Y d:Nat} (hY:Y<2^62) (h:Y%2^d≠0):(Es Y (min d 63)-1)*2^d<Y∧Y<(Es Y (min d 63)+1)*2^d∧Es Y (min d 63)%2=1:=by
  have hA:=Cc d
  by_cases hd:d≤63
  · rw [Nat.min_eq_left hd]
    refine ⟨?_,?_,Abx h⟩
    all_goals
      unfold Es
      rw [if_neg h]
      have h1:=Nat.div_add_mod Y (2^d)
      have h2:=Nat.mod_lt Y hA
      generalize Y / 2^d=q at *
      generalize Y%2^d=r at *
      generalize 2^d=c at *
      rw [Nat.mul_comm] at h1
    · have h3:(2*(q / 2)+1-1)*c≤q*c:=Ara c (by omega)
      omega
    · have h3:(q+1)*c≤(2*(q / 2)+1+1)*c:=Ara c (by omega)
      rw [Nat.add_mul,Nat.one_mul] at h3
      omega
  · rw [Nat.min_eq_right (by omega)]
    have h63:Y%2^63=Y:=Arb (by omega)
    have hd0:Y / 2^63=0:=Nat.div_eq_of_lt (by omega)
    have hY0:Y≠0:=by intro e; rw [e] at h; simp at h
    have hr:Es Y 63=1:=by unfold Es; rw [h63,if_neg hY0,hd0]
    have hp:2^62≤2^d:=Ard (by decide) (by omega)
    rw [hr]
    refine ⟨by simp; omega,by omega,rfl⟩
theorem pow9 {d M:Nat} (h:(M*2^9)%2^d≠0):10≤d:=by
  refine Nat.lt_of_not_le fun hle=>h ?_
  obtain ⟨k,hk⟩:∃ k,9=d+k:=⟨9-d,by omega⟩
  rw [hk,Nat.pow_add,Nat.mul_comm (2^d),← Nat.mul_assoc,Nat.mul_mod_left]
theorem Lz {V m d:Nat} {e f:Int} (hd:e=f+d) (h:V=m*2^d∨(m%2=1∧(m-1)*2^d<V∧V<(m+1)*2^d∧2^60≤m)) :
    Ch m (e-9)=Ch V (f-9)∧flagsOf m (e-9)=flagsOf V (f-9):=by
  rcases h with rfl | ⟨h1,h2,h3,h4⟩
  · have:=Ei m d (e-9)
    have e1:e-9-(d:Int)=f-9:=by omega
    rw [e1] at this
    exact ⟨this.1.symm,this.2.symm⟩
  · have hm0:m≠0:=by omega
    have hlog:=No h1 (by omega) h2 h3
    have hl60:60≤m.log2:=(Nat.le_log2 hm0).2 h4
    have e1:f-9+(d:Int)=e-9:=by omega
    have hle:Dq V (f-9)=Dq m (f-9+d):=by unfold Dq; rw [hlog]; congr 1; omega
    have hk:f-9+d+2≤Dq m (f-9+d):=by unfold Dq; omega
    obtain ⟨a1,a2⟩:=Nd h1 h2 h3 hle hk
    rw [e1] at a1 a2
    exact ⟨a1.symm,a2.symm⟩
theorem Abq (V:Nat) (f:Int):Ch (V*2^9) (f-9)=Ch V f∧flagsOf (V*2^9) (f-9)=flagsOf V f:=Ei V 9 f
structure Ama (Mx My d:Nat) (e f:Int) (X r:Nat):Prop where
  plus:Ch (X+r) (e-9)=Ch (Mx*2^d+My) f∧flagsOf (X+r) (e-9)=flagsOf (Mx*2^d+My) f
  less:r<X→My<Mx*2^d∧Ch (X-r) (e-9)=Ch (Mx*2^d-My) f∧flagsOf (X-r) (e-9)=flagsOf (Mx*2^d-My) f
  more:X<r→Mx*2^d<My∧Ch (r-X) (e-9)=Ch (My-Mx*2^d) f∧flagsOf (r-X) (e-9)=flagsOf (My-Mx*2^d) f
  same:X=r→Mx*2^d=My
  small:r≤2^62
theorem Al7 {X My r d p:Nat} {e f:Int} (hd:e=f+d) (comm:X*2^d=p*2^9) (n1:(r-1)*2^d<My*2^9) (n2:My*2^9<r*2^d+2^d) (n3:r%2=1) (hX2:X%2=0) (hX:2^61≤X) (hr:r≤2^53) :
    (Ch (X+r) (e-9)=Ch (p+My) f∧flagsOf (X+r) (e-9)=flagsOf (p+My) f)∧My<p∧Ch (X-r) (e-9)=Ch (p-My) f∧flagsOf (X-r) (e-9)=flagsOf (p-My) f:=by
  have e1:(r-1)*2^d+2^d=r*2^d:=by
    obtain ⟨k,rfl⟩:∃ k,r=k+1:=⟨r-1,by omega⟩
    rw [Nat.add_sub_cancel,Nat.add_mul,Nat.one_mul]
  have e2:(r+1)*2^d=r*2^d+2^d:=by rw [Nat.add_mul,Nat.one_mul]
  have hXd:(r+1)*2^d≤X*2^d:=Ara _ (by omega)
  have hlt:My<p:=by rw [e2,comm] at hXd; omega
  have a1:Ch (X+r) (e-9)=Ch ((p+My)*2^9) (f-9)∧flagsOf (X+r) (e-9)=flagsOf ((p+My)*2^9) (f-9):=by
    refine Lz hd (.inr ⟨by omega,?_,?_,by omega⟩)
    · have h1:X+r-1=X+(r-1):=by omega
      rw [h1,Nat.add_mul X (r-1) (2^d),Nat.add_mul p My (2^9),comm]
      exact Nat.add_lt_add_left n1 _
    · have h1:X+r+1=X+(r+1):=by omega
      rw [h1,Nat.add_mul X (r+1) (2^d),Nat.add_mul p My (2^9),comm,e2]
      exact Nat.add_lt_add_left n2 _
  have a2:Ch (X-r) (e-9)=Ch ((p-My)*2^9) (f-9)∧flagsOf (X-r) (e-9)=flagsOf ((p-My)*2^9) (f-9):=by
    rw [e2,comm] at hXd
    refine Lz hd (.inr ⟨by omega,?_,?_,by omega⟩)
    · have h1:X-r-1=X-(r+1):=by omega
      rw [h1,Nat.sub_mul X (r+1) (2^d),Nat.sub_mul p My (2^9),comm,e2]
      omega
    · have h1:X-r+1=X-(r-1):=by omega
      rw [h1,Nat.sub_mul X (r-1) (2^d),Nat.sub_mul p My (2^9),comm]
      omega
  rw [(Abq _ f).1,(Abq _ f).2] at a1 a2
  exact ⟨a1,hlt,a2⟩
theorem Aa7 {Mx My d:Nat} {e f:Int} (hd:e=f+d) (hx:Mx<2^53) (hy:My<2^53) (hbig:10≤d→2^52≤Mx) :
    Ama Mx My d e f (Mx*2^9) (Es (My*2^9) (min d 63)):=by
  have hA:=Cc d
  have hY:My*2^9<2^62:=by omega
  have comm:Mx*2^9*2^d=Mx*2^d*2^9:=by rw [Nat.mul_assoc,Nat.mul_comm (2^9),← Nat.mul_assoc]
  have s9:=fun V=>Abq V f
  by_cases hz:(My*2^9)%2^d=0
  ·
    have hr:∃ r,Es (My*2^9) (min d 63)=r∧My*2^9=r*2^d:=by
      by_cases hd63:d≤63
      · rw [Nat.min_eq_left hd63]
        exact ⟨_,rfl,by rw [Zq hz]; exact (Nat.div_mul_cancel (Nat.dvd_of_mod_eq_zero hz)).symm⟩
      · have hp:2^62≤2^d:=Ard (by decide) (by omega)
        have:My*2^9=0:=by rw [Arb (by omega)] at hz; exact hz
        rw [Nat.min_eq_right (by omega),this]
        exact ⟨0,by decide,by omega⟩
    obtain ⟨r,hr,hYr⟩:=hr
    rw [hr]
    have hle:r≤2^62:=by
      have:r*1≤r*2^d:=Nat.mul_le_mul_left r hA
      omega
    have cmp:∀ x y:Nat,x*2^d<y*2^d↔x<y:=fun x y=>Nat.mul_lt_mul_right hA
    refine ⟨?_,fun h=>?_,fun h=>?_,fun h=>?_,hle⟩
    · rw [← (s9 _).1,← (s9 _).2]
      exact Lz hd (.inl (by rw [Nat.add_mul (Mx*2^d) My (2^9),Nat.add_mul (Mx*2^9) r (2^d),comm,hYr]))
    · have h1:=(cmp r (Mx*2^9)).2 h
      refine ⟨by omega,?_⟩
      rw [← (s9 _).1,← (s9 _).2]
      exact Lz hd (.inl (by first | rw [Nat.sub_mul (Mx*2^d) My (2^9),Nat.sub_mul (Mx*2^9) r (2^d),comm,hYr] | rw [Nat.sub_mul My (Mx*2^d) (2^9),Nat.sub_mul r (Mx*2^9) (2^d),comm,hYr]))
    · have h1:=(cmp (Mx*2^9) r).2 h
      refine ⟨by omega,?_⟩
      rw [← (s9 _).1,← (s9 _).2]
      exact Lz hd (.inl (by first | rw [Nat.sub_mul (Mx*2^d) My (2^9),Nat.sub_mul (Mx*2^9) r (2^d),comm,hYr] | rw [Nat.sub_mul My (Mx*2^d) (2^9),Nat.sub_mul r (Mx*2^9) (2^d),comm,hYr]))
    · rw [← h] at hYr
      omega
  ·
    have hd10:=pow9 hz
    have hMx:=hbig hd10
    obtain ⟨n1,n2,n3⟩:=Zr hY hz
    have hrle:Es (My*2^9) (min d 63)≤2^53:=by
      refine Nat.le_of_not_lt fun h=>?_
      have h1:2^53*2^d≤(Es (My*2^9) (min d 63)-1)*2^d:=Ara _ (by omega)
      have h2:2^10≤2^d:=Ard (by decide) hd10
      have h3:2^53*2^10≤2^53*2^d:=Nat.mul_le_mul_left _ h2
      omega
    generalize Es (My*2^9) (min d 63)=r at *
    have hr1:1≤r:=by omega
    have e1:(r-1)*2^d+2^d=r*2^d:=by
      obtain ⟨k,rfl⟩:∃ k,r=k+1:=⟨r-1,by omega⟩
      rw [Nat.add_sub_cancel,Nat.add_mul,Nat.one_mul]
    have e2:(r+1)*2^d=r*2^d+2^d:=by rw [Nat.add_mul,Nat.one_mul]
    rw [e2] at n2
    have hXr:r<Mx*2^9:=by omega
    have hXd:(r+1)*2^d≤Mx*2^9*2^d:=Ara _ (by omega)
    rw [e2,comm] at hXd
    obtain ⟨p1,p2,p3⟩:=Al7 hd comm n1 n2 n3 (by omega) (by omega) hrle
    exact ⟨p1,fun _=>⟨p2,p3⟩,fun h=>by omega,fun h=>by omega,by omega⟩
theorem Sj (n:Bool) (m:Nat) (e:Int):Fb n m e false=(Co n (Ch m e),flagsOf m e):=by
  unfold Fb
  have:=Ei m 2 e
  have e1:m*2^2=4*m+false.toNat:=by simp; omega
  have e2:e-((2:Nat):Int)=e-2:=by omega
  rw [e1,e2] at this
  rw [this.1,this.2]
theorem V3 (E:Int):Ch 0 E=0:=if_pos rfl
theorem Q3 (E:Int):flagsOf 0 E=0:=if_pos rfl
theorem U1 {b:Nat} (h:Le b=true):Au b≠4∧Au b≠3:=by
  unfold Le at h
  simp only [Aq5] at h
  unfold Au
  rw [if_neg (by omega)]
  split
  · omega
  · split<;>omega
theorem Wc {b:Nat} (h:-1064≤Be b):2^52≤Av b:=by
  unfold Be at h
  unfold Av
  split at h
  · omega
  · rw [if_neg (by assumption)]; omega
theorem Pe (z:Nat) (s:Bool) {V:Nat} (hV:V≠0) (f:Int):Pf z (Ih s V) f=(Co s (Ch V f),flagsOf V f):=by
  unfold Pf Ih
  cases s
  · have h1:¬ (V:Int)=0:=by omega
    have h2:¬ (V:Int)<0:=by omega
    simp only [Bool.false_eq_true,if_false,h1,h2,decide_false,Int.natAbs_natCast]
  · have h1:¬ -(V:Int)=0:=by omega
    have h2:-(V:Int)<0:=by omega
    simp only [if_true,h1,if_false,h2,decide_true,Int.natAbs_neg,Int.natAbs_natCast]
theorem Al8 {p q X r:Nat} {e f:Int} (s t:Bool)
    (plus:Ch (X+r) e=Ch (p+q) f∧flagsOf (X+r) e=flagsOf (p+q) f)
    (less:r<X→q<p∧Ch (X-r) e=Ch (p-q) f∧flagsOf (X-r) e=flagsOf (p-q) f)
    (more:X<r→p<q∧Ch (r-X) e=Ch (q-p) f∧flagsOf (r-X) e=flagsOf (q-p) f)
    (same:X=r→p=q) :
    Pf (Co (s&&t) 0) (Ih s p+Ih t q) f=(if s=t then Fb s (X+r) e false
      else if r<X then Fb s (X-r) e false
      else if X<r then Fb t (r-X) e false
      else (0,0)):=by
  simp only [Sj]
  by_cases hs:s=t
  · rw [if_pos hs,← hs]
    have hsum:Ih s p+Ih s q=Ih s (p+q):=by unfold Ih; cases s<;>simp<;>omega
    rw [hsum,plus.1,plus.2]
    by_cases h0:p+q=0
    · rw [h0,V3,Q3]
      unfold Pf
      have:Ih s 0=0:=by unfold Ih; cases s<;>rfl
      rw [if_pos this,Aq4]
    · exact Pe _ _ h0 _
  · rw [if_neg hs]
    by_cases h1:r<X
    · obtain ⟨c1,c2,c3⟩:=less h1
      rw [if_pos h1,c2,c3]
      have hsum:Ih s p+Ih t q=Ih s (p-q):=by
        unfold Ih; cases s<;>cases t<;>simp at hs ⊢<;>omega
      rw [hsum]
      exact Pe _ _ (by omega) _
    · rw [if_neg h1]
      by_cases h2:X<r
      · obtain ⟨c1,c2,c3⟩:=more h2
        rw [if_pos h2,c2,c3]
        have hsum:Ih s p+Ih t q=Ih t (q-p):=by
          unfold Ih; cases s<;>cases t<;>simp at hs ⊢<;>omega
        rw [hsum]
        exact Pe _ _ (by omega) _
      · rw [if_neg h2]
        have c:=same (by omega)
        have hsum:Ih s p+Ih t q=0:=by
          unfold Ih; cases s<;>cases t<;>simp at hs ⊢<;>omega
        have hz:(s&&t)=false:=by cases s<;>cases t<;>simp at hs ⊢
        rw [hsum,hz]
        rfl
theorem Ajn {a b:Nat} (ha:Le a=true) (hb:Le b=true) :
    N3 a b=Pf (Co (D4 a&&D4 b) 0) (Sa a (min (Be a) (Be b))+Sa b (min (Be a) (Be b))) (min (Be a) (Be b)):=by
  have k1:=U1 ha
  have k2:=U1 hb
  unfold N3
  rw [if_neg (fun h=>h.elim k1.1 k2.1),if_neg k1.2,if_neg k2.2]
theorem Abg (b:Nat):Sa b (Be b)=Ih (D4 b) (Av b):=by
  unfold Sa; rw [Int.sub_self,Int.toNat_zero,Nat.pow_zero,Nat.mul_one]
theorem Age {b:Nat} {f:Int} {d:Nat} (h:Be b=f+d):Sa b f=Ih (D4 b) (Av b*2^d):=by
  unfold Sa
  have:(Be b-f).toNat=d:=by omega
  rw [this]
theorem Aa6 {a b:Nat} (ha:Le a=true) (hb:Le b=true) {d:Nat} (hd:Be a=Be b+d) :
    N3 a b=(if D4 a=D4 b then Fb (D4 a) (Av a*2^9+Es (Av b*2^9) (min d 63)) (Be a-9) false
      else if Es (Av b*2^9) (min d 63)<Av a*2^9 then Fb (D4 a) (Av a*2^9-Es (Av b*2^9) (min d 63)) (Be a-9) false
      else if Av a*2^9<Es (Av b*2^9) (min d 63) then Fb (D4 b) (Es (Av b*2^9) (min d 63)-Av a*2^9) (Be a-9) false
      else (0,0)):=by
  have hx:=Ek a
  have hy:=Ek b
  have C:=Aa7 (Mx:=Av a) (My:=Av b) hd hx hy (fun h=>Wc (by have:=Eb b; omega))
  rw [Ajn ha hb,Int.min_eq_right (by omega),Abg,Age hd]
  exact Al8 _ _ C.plus C.less C.more C.same
theorem Rt {b:Nat} (h:b<2^64):Pn b<2^64:=by unfold Pn; split<;>omega
theorem Acn (m:Nat) (e:Int):flagsOf m e<32:=by
  unfold flagsOf flags
  split
  · decide
  · split
    · decide
    · split
      · decide
      · split<;>decide
theorem Tk {a b:Nat} (ha:a<2^64) (hb:b<2^64):(N3 a b).1<2^64∧(N3 a b).2<32:=by
  unfold N3
  split
  · exact ⟨by decide,by decide⟩
  · split
    · split
      · decide
      · exact ⟨ha,(by decide:0<32)⟩
    · split
      · exact ⟨hb,(by decide:0<32)⟩
      · unfold Pf
        split
        · refine ⟨?_,(by decide:0<32)⟩
          unfold Co; split<;>decide
        · exact ⟨P7 _ _ _,Acn _ _⟩
end Go.Rnd
namespace Go.Rnd
open Go.Den
def Cq (r c:Nat) (f:Nat→Nat→Int):List Int:=(List.range (r*c)).map fun j=>f (j / c) (j%c)
theorem Bz (r c:Nat) (f:Nat→Nat→Int):(Cq r c f).length=r*c:=by unfold Cq; rw [List.length_map,List.length_range]
theorem J6 {r c i k:Nat} (hi:i<r) (hk:k<c):i*c+k<r*c:=by
  have:(i+1)*c≤r*c:=Ara c hi
  rw [Nat.add_mul,Nat.one_mul] at this
  omega
theorem Rp {c i k:Nat} (hk:k<c):(i*c+k) / c=i∧(i*c+k)%c=k:=by
  constructor
  · rw [Nat.mul_comm,Nat.mul_add_div (by omega),Nat.div_eq_of_lt hk,Nat.add_zero]
  · rw [Nat.mul_comm,Nat.mul_add_mod,Arb hk]
theorem Gc {r c:Nat} {f:Nat→Nat→Int} {j:Nat} (h:j<r*c):(Cq r c f)[j]?=some (f (j / c) (j%c)):=by
  unfold Cq
  rw [List.getElem?_map,List.getElem?_range h]
  rfl
theorem Aik {r c i k:Nat} {f:Nat→Nat→Int} (hi:i<r) (hk:k<c):(Cq r c f).getD (i*c+k) 0=f i k:=by
  obtain ⟨d1,d2⟩:=Rp (i:=i) hk
  rw [Aq8,Gc (J6 hi hk),d1,d2]
  rfl
theorem Uj {l m:List Int} (h:l.length=m.length) (he:∀ j,j<l.length→l[j]?=m[j]?):l=m:=by
  refine List.ext_getElem? fun j=>?_
  by_cases hj:j<l.length
  · exact he j hj
  · rw [List.getElem?_eq_none (by omega),List.getElem?_eq_none (by omega)]
theorem Dn {r c:Nat} {f g:Nat→Nat→Int} (h:∀ i k,i<r→k<c→f i k=g i k):Cq r c f=Cq r c g:=by
  refine Uj (by rw [Bz,Bz]) fun j hj=>?_
  rw [Bz] at hj
  have hc:0<c:=by
    rcases Nat.eq_zero_or_pos c with h0 | h0
    · subst h0; rw [Nat.mul_zero] at hj; omega
    · exact h0
  rw [Gc hj,Gc hj,h (j / c) (j%c) ((Nat.div_lt_iff_lt_mul hc).2 hj) (Nat.mod_lt _ hc)]
theorem Afn {r c:Nat} {l:List Int} (h:l.length=r*c):l=Cq r c fun i k=>l.getD (i*c+k) 0:=by
  refine Uj (by rw [Bz,h]) fun j hj=>?_
  rw [Gc (by omega)]
  have e:j / c*c+j%c=j:=by rw [Nat.mul_comm]; exact Nat.div_add_mod j c
  rw [e,Aq8,Arf hj]
  rfl
theorem Q0 {r c i k:Nat} {f:Nat→Nat→Int} (hk:k<c) (x:Int) :
    (Cq r c f).set (i*c+k) x=Cq r c fun a b=>if a=i∧b=k then x else f a b:=by
  refine Uj (by rw [List.length_set,Bz,Bz]) fun j hj=>?_
  rw [List.length_set,Bz] at hj
  obtain ⟨d1,d2⟩:=Rp (i:=i) hk
  rw [Gc hj,List.getElem?_set]
  by_cases h:i*c+k=j
  · subst h
    rw [if_pos rfl,if_pos (by rw [Bz]; exact hj),d1,d2,if_pos ⟨rfl,rfl⟩]
  · rw [if_neg h,Gc hj,if_neg]
    rintro ⟨h1,h2⟩
    exact h (by rw [← h1,← h2,Nat.mul_comm]; exact Nat.div_add_mod j c)
theorem J9 (r c:Nat) (f:Nat→Nat→Int):Cq (r+1) c f=Cq r c f++(List.range c).map (f r):=by
  unfold Cq
  rw [Nat.add_mul,Nat.one_mul,List.range_add,List.map_append,List.map_map]
  congr 1
  refine List.map_congr_left fun k hk=>?_
  have hk:=List.mem_range.1 hk
  obtain ⟨d1,d2⟩:=Rp (i:=r) hk
  show f ((r*c+k) / c) ((r*c+k)%c)=f r k
  rw [d1,d2]
theorem J8 (c:Nat) (f:Nat→Nat→Int):Cq 0 c f=[]:=by
  unfold Cq; rw [Nat.zero_mul]; rfl
theorem H4 (k:Nat) (g:Nat→Int):(List.range (k+1)).map g=(List.range k).map g++[g k]:=by
  rw [List.range_succ,List.map_append]; rfl
def Aay:Nat→List Int→List Int→Nat
  | s,x::xs,y::ys=>Aay (N3 s (Vm x.toNat y.toNat).1).1 xs ys
  | s,_,_=>s
def Ov (x y:List Int):Int:=Aay 0 x y
theorem Tc {a b:Nat}:(Vm a b).1<2^64:=by
  unfold Vm
  split
  · decide
  · split
    · split
      · decide
      · unfold Co; split<;>decide
    · exact P7 _ _ _
theorem Yi:∀ (x y:List Int) (s:Nat),s<2^64→Aay s x y<2^64
  | x::xs,y::ys,s,h=>Yi xs ys _ (Tk h Tc).1
  | [],_,_,h=>by unfold Aay; exact h
  | _::_,[],_,h=>by unfold Aay; exact h
end Go.Rnd
namespace Go.Rnd
open Go.Den
def Bl (n:Int):Bool:=decide (0≤n)&&decide (n≤6)
def Bf (r c:Int) (l:List Int):Bool:=(Bl r&&Bl c)&&decide ((l.length:Int)=r*c)
def It (r c:Int) (l:List Int):Int:=if Bf r c l=true then 0 else 1
def Tp (r c:Int) (l:List Int) (p q:Int) (m:List Int):Int:=if (Bf r c l&&Bf p q m)=true then 0 else 1
def D2 (_r c:Int) (l:List Int) (i k:Int):Bool:=Cn (0≤i∧i<10∧0≤k∧k<10∧0≤c∧c<10∧i*c+k<l.length∧l.length<1000)
def Eh (c:Int) (l:List Int) (i k:Int):Int:=l.getD (i*c+k).toNat 0
def R0 (i k:Int):Int:=if i=k then 4607182418800017408 else 0
def Rj (x y i k:Int):Bool:=Cn (0≤x∧x<10∧0≤y∧y<10∧0≤i∧i<10∧0≤k∧k<10)
def O0 (r c x y a b:Int):Bool:=decide (0≤x∧0≤y∧0≤a∧0≤b∧x≤r∧y≤c∧a≤r-x∧b≤c-y)
def Xl (r c:Int) (l:List Int) (i:Int):Bool:=Bf r c l&&Cn (0≤i∧i<r)
def Kl (r c:Int) (l:List Int) (k:Int):Bool:=Bf r c l&&Cn (0≤k∧k<c)
def Pm (r c:Int) (l:List Int) (p q:Int) (m:List Int) (i k:Int):Bool:=(Xl r c l i&&Kl p q m k)&&((Ah l&&Ah m)&&Cn (c=p))
def La (c:Int) (l:List Int) (i:Int):List Int:=List.drop (i*c).toNat (List.take ((i+1)*c).toNat l)
def Pv (r c:Int) (l:List Int) (k:Int):List Int:=(List.range r.toNat).map fun j:Nat=>Eh c l (j:Int) k
abbrev MX:=Int × Int × List Int × Int
def Gh (e:Int):MX:=(0,0,[],e)
def Kj (n:Int):MX:=if Bl n=true then (n,n,Cq n.toNat n.toNat fun i k=>R0 i k,0) else Gh 3
def A6 (r c:Int) (l:List Int):MX:=if Bf r c l=true then (c,r,Cq c.toNat r.toNat fun i k=>Eh c l k i,0) else Gh 1
def D5 (r c:Int) (l:List Int) (x y a b:Int):MX :=
  if Bf r c l=true then (if O0 r c x y a b=true then (a,b,Cq a.toNat b.toNat fun i k=>Eh c l (x+i) (y+k),0) else Gh 3) else Gh 1
def M4 (r c:Int) (l:List Int) (p q:Int) (m:List Int):MX :=
  if (Bf r c l&&Bf p q m)=true then (if c=p then (r,q,Cq r.toNat q.toNat fun i k=>Ov (La c l i) (Pv p q m k),0) else Gh 3) else Gh 1
def Re (r c:Int) (l:List Int) (p q:Int) (m:List Int):MX :=
  if (Bf r c l&&Bf p q m)=true then (if r=p∧c=q then (r,c,Cq r.toNat c.toNat fun i k=>Dm (Eh c l i k) (Eh q m i k),0) else Gh 3) else Gh 1
def Rx (x y:List Int):Bool:=decide (x.length=y.length)&&decide (x.length≤64)
def okLen (l:List Int):Bool:=Cn (l.length≤17592186044416)
theorem Hc {n:Int}:Bl n=true↔0≤n∧n≤6:=by unfold Bl; simp
theorem J5 {r c:Int} {l:List Int}:Bf r c l=true↔(0≤r∧r≤6)∧(0≤c∧c≤6)∧(l.length:Int)=r*c:=by
  unfold Bf
  rw [Aq9,Aq9,Hc,Hc,Aq5,and_assoc]
theorem Db {r c:Int} {l:List Int} (h:Bf r c l=true):∃ R C:Nat,r=R∧c=C∧R≤6∧C≤6∧l.length=R*C:=by
  obtain ⟨h1,h2,h3⟩:=J5.1 h
  refine ⟨r.toNat,c.toNat,by omega,by omega,by omega,by omega,?_⟩
  have:(((r.toNat*c.toNat:Nat)):Int)=r*c:=by rw [Ark,Int.toNat_of_nonneg h1.1,Int.toNat_of_nonneg h2.1]
  omega
theorem F9 {n:Int} (h:Bl n=true):∃ R:Nat,n=R∧R≤6:=by
  have:=Hc.1 h
  exact ⟨n.toNat,by omega,by omega⟩
theorem Akd {n:Nat} (h:n≤6):Bl (n:Int)=true:=Hc.2 ⟨by omega,by omega⟩
theorem Qh {r c:Nat} {l:List Int} (hr:r≤6) (hc:c≤6) (hl:l.length=r*c):Bf (r:Int) (c:Int) l=true :=
  J5.2 ⟨⟨by omega,by omega⟩,⟨by omega,by omega⟩,by rw [hl,Ark]⟩
theorem Ad3 (c:Nat) (l:List Int) (i k:Nat):Eh (c:Int) l (i:Int) (k:Int)=l.getD (i*c+k) 0:=by
  unfold Eh
  have:((i:Int)*(c:Int)+(k:Int)).toNat=i*c+k:=by
    rw [← Ark,← Int.natCast_add,Aq0]
  rw [this]
theorem Fh {r c i k:Nat} {R:Int} {l:List Int} (hr:r≤6) (hc:c≤6) (hl:l.length=r*c) (hi:i<r) (hk:k<c):D2 R (c:Int) l (i:Int) (k:Int)=true:=by
  have:=J6 hi hk
  have h36:=Nat.mul_le_mul hr hc
  refine Ao.2 ⟨by omega,by omega,by omega,by omega,by omega,by omega,?_,by omega⟩
  rw [← Ark]
  omega
theorem Adv {r c i k:Nat} {f:Nat→Nat→Int} (hi:i<r) (hk:k<c):Eh (c:Int) (Cq r c f) (i:Int) (k:Int)=f i k:=by
  rw [Ad3,Aik hi hk]
theorem Wn {r c:Nat} {l:List Int} (h:l.length=r*c):(Cq r c fun i k=>Eh (c:Int) l (i:Int) (k:Int))=l:=by
  conv=>rhs; rw [Afn h]
  exact Dn fun i k _ _=>Ad3 c l i k
theorem Yu {l:List Int} (h:Ah l=true) {j:Nat} (hj:j<l.length):Ai (l.getD j 0)=true:=by
  have h:=Ao.1 h
  rw [Aq8,Arf hj]
  exact h _ (List.getElem_mem hj)
end Go.Rnd
namespace Go.Rnd
theorem Aej {b:Nat} (h:b<2^64):Co (D4 b) (b%2^63)=b:=by
  unfold Co D4
  by_cases hb:2^63≤b
  · simp only [hb,decide_true,if_true]; omega
  · simp only [hb,decide_false,Bool.false_eq_true,if_false]; omega
end Go.Rnd
namespace Go.Rnd
def P3 (n:Nat):Nat:=Ieee.Datum.rootFrom n (n.log2 / 2+1) 0
theorem Ake (k:Nat):1 <<< k=2^k:=by rw [Nat.shiftLeft_eq,Nat.one_mul]
theorem Rm {n:Nat}:∀ (todo root:Nat),root*root≤n→n<(root+2^todo)*(root+2^todo) →
    Ieee.Datum.rootFrom n todo root*Ieee.Datum.rootFrom n todo root≤n∧n<(Ieee.Datum.rootFrom n todo root+1)*(Ieee.Datum.rootFrom n todo root+1)
  | 0,root,h1,h2=>⟨h1,h2⟩
  | todo+1,root,h1,h2=>by
    unfold Ieee.Datum.rootFrom
    simp only [Ake]
    have hp:2^(todo+1)=2^todo+2^todo:=by rw [Nat.pow_succ]; omega
    rw [hp] at h2
    by_cases h:(root+2^todo)*(root+2^todo)≤n
    · rw [if_pos h]
      exact Rm todo _ h (by rw [Nat.add_assoc]; exact h2)
    · rw [if_neg h]
      exact Rm todo _ h1 (by omega)
theorem Nq (n:Nat):P3 n*P3 n≤n∧n<(P3 n+1)*(P3 n+1):=by
  refine Rm _ _ (by simp) ?_
  rw [Nat.zero_add,← Nat.pow_add]
  rcases Nat.eq_zero_or_pos n with rfl | hn
  · decide
  · refine (Nat.log2_lt (by omega)).1 ?_
    omega
theorem Zh {a b:Nat} (h:a*a<b*b):a<b:=by
  rcases Nat.lt_or_ge a b with h1 | h1
  · exact h1
  · have:=Nat.mul_le_mul h1 h1; omega
theorem Uu {n w:Nat} (h1:w*w≤n) (h2:n<(w+1)*(w+1)):w=P3 n:=by
  obtain ⟨a,b⟩:=Nq n
  have c1:=Zh (Nat.lt_of_le_of_lt h1 b)
  have c2:=Zh (Nat.lt_of_le_of_lt a h2)
  omega
theorem Aid {n w:Nat} (h:w*w≤n):w≤P3 n:=by
  have:=Zh (Nat.lt_of_le_of_lt h (Nq n).2)
  omega
def Fq (n:Nat):Nat:=2*P3 n+(if P3 n*P3 n=n then 0 else 1)
theorem Ri (a c:Nat):a*c*(a*c)=a*a*(c*c):=by
  rw [Nat.mul_assoc,Nat.mul_left_comm c,← Nat.mul_assoc a a]
theorem V4 {n:Nat} (d:Nat) (E:Int) (h:2^53≤P3 n) :
    Ch (Fq (n*(2^d*2^d))) (E-d)=Ch (Fq n) E∧flagsOf (Fq (n*(2^d*2^d))) (E-d)=flagsOf (Fq n) E:=by
  have hA:=Cc d
  obtain ⟨h1,h2⟩:=Nq n
  unfold Fq
  generalize hw:P3 n=w at *
  generalize hc:2^d=c at *
  have hcc:0<c*c:=Nat.mul_pos hA hA
  by_cases h0:w*w=n
  · have e1:P3 (n*(c*c))=w*c:=by
      refine (Uu ?_ ?_).symm
      · rw [Ri,h0]; exact Nat.le_refl _
      · have:=Ri w c
        rw [h0] at this
        rw [Nat.add_mul,Nat.mul_add,this]; omega
    rw [e1,Ri,h0,if_pos rfl,if_pos rfl]
    have:=Ei (2*w+0) d E
    rw [hc,show (2*w+0)*c=2*(w*c)+0 by rw [Nat.add_zero,Nat.add_zero,Nat.mul_assoc]] at this
    exact this
  · rw [if_neg h0]
    obtain ⟨g1,g2⟩:=Nq (n*(c*c))
    have q1:w*c≤P3 (n*(c*c)):=Aid (by rw [Ri]; exact Ara _ h1)
    have q2:P3 (n*(c*c))<(w+1)*c:=by
      refine Zh (Nat.lt_of_le_of_lt g1 ?_)
      rw [Ri]
      exact (Nat.mul_lt_mul_right hcc).2 h2
    have q3:P3 (n*(c*c))=w*c→P3 (n*(c*c))*P3 (n*(c*c))≠n*(c*c):=fun h5 h6=>by
      rw [h5,Ri] at h6
      exact h0 (Nat.eq_of_mul_eq_mul_right hcc h6)
    generalize hQ:P3 (n*(c*c))=Q at *
    have p1:(2*w+1-1)*c=2*(w*c):=by rw [Nat.add_sub_cancel,Nat.mul_assoc]
    have p2:(2*w+1+1)*c=2*((w+1)*c):=by rw [show 2*w+1+1=2*(w+1) by omega,Nat.mul_assoc]
    have od:(2*w+1)%2=1:=by omega
    generalize hV:2*Q+(if Q*Q=n*(c*c) then 0 else 1)=V
    have v1:(2*w+1-1)*2^d<V:=by
      rw [hc,p1,← hV]
      by_cases h5:Q=w*c
      · rw [if_neg (q3 h5)]; omega
      · split<;>omega
    have v2:V<(2*w+1+1)*2^d:=by
      rw [hc,p2,← hV]
      split<;>omega
    have lV:=No od (by omega) v1 v2
    have hs:54≤(2*w+1).log2:=by rw [Nat.le_log2 (by omega)]; omega
    have ee:E-(d:Int)+d=E:=by omega
    have:=Nd (E:=E-d) od v1 v2 (by unfold Dq; rw [lV]; omega) (by unfold Dq; omega)
    rw [ee] at this
    exact this
theorem X9 {n t:Nat} (h:2^(t+t)≤n):2^t≤P3 n:=Aid (by rw [← Nat.pow_add]; exact h)
theorem pow_two (k d:Nat):2^(k+2*d)=2^k*(2^d*2^d):=by rw [Nat.pow_add,Nat.two_mul,Nat.pow_add]
theorem Aer {m k l:Nat} {E F:Int} (h1:2^106≤m*2^k) (h2:2^106≤m*2^l) (he:2*E+k=2*F+l) :
    Ch (Fq (m*2^k)) E=Ch (Fq (m*2^l)) F∧flagsOf (Fq (m*2^k)) E=flagsOf (Fq (m*2^l)) F:=by
  rcases Nat.le_total k l with h | h
  · obtain ⟨d,rfl⟩:∃ d,l=k+2*d:=⟨(l-k) / 2,by omega⟩
    have:=V4 (n:=m*2^k) d E (X9 (t:=53) h1)
    rw [Nat.mul_assoc,← pow_two,show E-(d:Int)=F by omega] at this
    exact ⟨this.1.symm,this.2.symm⟩
  · obtain ⟨d,rfl⟩:∃ d,k=l+2*d:=⟨(k-l) / 2,by omega⟩
    have:=V4 (n:=m*2^l) d F (X9 (t:=53) h2)
    rw [Nat.mul_assoc,← pow_two,show F-(d:Int)=E by omega] at this
    exact this
def Jj (b:Nat):Nat:=128+(Be b%2).toNat
def Ms (b:Nat):Nat × Nat :=
  if Au b=4 then (Vt,0)
  else if Au b=0∨b=G8 then (b,0)
  else if D4 b=true then (Vt,16)
  else (Ch (Fq (Av b*2^Jj b)) ((Be b-Jj b) / 2-1),flagsOf (Fq (Av b*2^Jj b)) ((Be b-Jj b) / 2-1))
theorem Ke {b:Nat} (h3:Au b≠3) (h4:Au b≠4):Av b=0↔Au b=0:=by
  have:=Q2 b
  have:=Js b
  unfold Av
  unfold Au at *
  split at h3<;>split<;>(try split)<;>(try split)<;>simp_all<;>omega
theorem Zg {b:Nat} (h:Au b=4):Ms b=(Vt,0):=if_pos h
theorem Rh {b:Nat} (h4:Au b≠4) (h:Au b=0∨b=G8):Ms b=(b,0):=by unfold Ms; rw [if_neg h4,if_pos h]
theorem Zf {b:Nat} (h4:Au b≠4) (h:¬ (Au b=0∨b=G8)) (hn:D4 b=true):Ms b=(Vt,16):=by unfold Ms; rw [if_neg h4,if_neg h,if_pos hn]
theorem Agv {b:Nat} (h4:Au b≠4) (h:¬ (Au b=0∨b=G8)) (hn:D4 b=false) :
    Ms b=(Ch (Fq (Av b*2^Jj b)) ((Be b-Jj b) / 2-1),flagsOf (Fq (Av b*2^Jj b)) ((Be b-Jj b) / 2-1)):=by
  unfold Ms; rw [if_neg h4,if_neg h,if_neg (by rw [hn]; decide)]
theorem Agz (r:Nat):Co false r=r:=rfl
theorem Ag6 {b:Nat} (hm:Av b≠0):2^106≤Av b*2^Jj b∧2*((Be b-(Jj b:Int)) / 2-1)+Jj b=Be b-2:=by
  refine ⟨?_,by unfold Jj; omega⟩
  have:2^128≤2^Jj b:=Ard (by decide) (by unfold Jj; omega)
  have h5:=Nat.mul_le_mul (show 1≤Av b by omega) this
  omega
theorem Ahy {b:Nat} (hm:Av b≠0):(Av b).log2≤52:=by
  have:=(Nat.log2_lt hm).2 (show Av b<2^53 from Ek b)
  omega
end Go.Rnd
namespace Go.Rnd
def Hi (b:Nat) (n:Int):Nat × Nat :=
  if Au b=4 then (Vt,0)
  else if Au b=3∨Au b=0 then (b,0)
  else (Co (D4 b) (Ch (Av b) (Be b+n)),flagsOf (Av b) (Be b+n))
theorem Agr {V:Nat} {E:Int} (h0:V≠0) (h:E+V.log2+1≤-1075):Ch V E=0∧flagsOf V E=3:=by
  have hl:Dq V E=-1074:=by unfold Dq; omega
  obtain ⟨k,hk⟩:∃ k:Nat,(-1074:Int)-E=((k:Nat):Int):=⟨(-1074-E).toNat,by omega⟩
  have hV:V<2^(V.log2+1):=(Nat.log2_lt h0).1 (by omega)
  have hp:2^(V.log2+1)*2≤2^k:=by rw [← Nat.pow_succ]; exact Ard (by decide) (by omega)
  have e1:V*2^(-((-1074:Int)-E)).toNat=V:=by rw [hk]; simp
  have e2:((-1074:Int)-E).toNat=k:=by rw [hk]; rfl
  have hk2:kept V E=0:=by
    unfold kept Ln
    rw [hl,e1,e2]
    unfold Qi
    rw [Nat.div_eq_of_lt (by omega),Arb (by omega),if_neg (by omega)]
  have hx:exact V E=false:=by
    unfold exact K8
    rw [hl,e1,e2,Arb (by omega)]
    exact Aq3 h0
  have hr:Ch V E=0:=by
    unfold Ch
    rw [if_neg h0,hl,hk2]
    rfl
  refine ⟨hr,?_⟩
  unfold flagsOf
  rw [if_neg h0,hr,hx]
  rfl
theorem Ae4 (n:Bool) {m:Nat} {e:Int} {more:Bool} (hm:m<2^53) (h0:m≠0∨more=true) (he:e≤-1130) :
    Fb n m e more=(Co n 0,3):=by
  have h1:more.toNat≤1:=by cases more<;>decide
  have hV:4*m+more.toNat≠0:=by
    rcases h0 with h | h
    · omega
    · rw [h]; simp
  have hl:(4*m+more.toNat).log2≤54:=by
    have:=(Nat.log2_lt hV).2 (show 4*m+more.toNat<2^55 by omega); omega
  have:=Agr hV (E:=e-2) (by omega)
  unfold Fb
  rw [this.1,this.2]
theorem Ahl (n:Bool):Fb n 0 (-1074) true=(Co n 0,3):=by
  cases n<;>decide +kernel
theorem Abr {b:Nat} {n:Int} (h4:Au b≠4) (h:¬ (Au b=3∨Au b=0)) (hn:Be b+n≤-1130):Hi b n=(Co (D4 b) 0,3):=by
  have hm:Av b≠0:=fun h5=>h (.inr ((Ke (by omega) h4).1 h5))
  have:=Agr hm (E:=Be b+n) (by have:=Ahy hm; omega)
  unfold Hi
  rw [if_neg h4,if_neg h,this.1,this.2]
theorem Aem {b:Nat} {n:Int} (h4:Au b≠4) (h:¬ (Au b=3∨Au b=0)):Hi b n=(Co (D4 b) (Ch (Av b) (Be b+n)),flagsOf (Av b) (Be b+n)):=by
  unfold Hi; rw [if_neg h4,if_neg h]
def Aiy (b:Nat):Int:=if Le b=true∧Au b≠0 then ((Av b).log2:Int)+Be b else 0
def Af4 (b:Nat):Nat:=b%2^63
def Ann (a b:Nat):Int:=if Au a=4∨Au b=4 then 0 else if Us a<Us b then -1 else if Us b<Us a then 1 else 0
def Ano (a b:Nat):Bool:=!(decide (Au a=4∨Au b=4))
end Go.Rnd
namespace Go.Rnd
open Go.Den
def V7 (b:Int):Int:=Us b.toNat
def Ab2 (a b:Int):Int:=Ann a.toNat b.toNat
def Aqd (a b:Int):Bool:=Ano a.toNat b.toNat
def Z9 (x:Int):Int:=Af4 x.toNat
def B8 (x n:Int):Int:=(Hi x.toNat n).1
def Akh (x n:Int):Int:=(Hi x.toNat n).2
def Ej (x n:Int):Bool:=Ai x&&Cn (-2300≤n∧n≤2300)
def B0 (x:Int):Int:=Aiy x.toNat
def Yo:List Int→Nat→Nat
  | [],m=>m
  | x::l,m=>if Au x.toNat=4 then Vt else Yo l (max m (Af4 x.toNat))
def Bm (l:List Int):Int:=Yo l 0
def D8 (l:List Int):Bool:=l.all C9
def Bx (r c:Int) (l:List Int):Int:=if Bf r c l=true then (if D8 l=true then 0 else 4) else 1
def Aku (c:Int) (l:List Int) (n:Nat):Bool:=(List.range n).any fun i:Nat=>decide (A8 (Eh c l (i:Int) (i:Int))=0)
def M5 (r c:Int) (l:List Int) (p q:Int) (m:List Int):Int :=
  if Bx r c l≠0 then Bx r c l else if Bx p q m≠0 then Bx p q m
  else if r≠c∨r≠p then 3 else if Aku c l r.toNat=true then 5 else 0
def Mv (c:Int) (l:List Int) (i:Int):Int→Int→List Int→Int
  | s,_,[]=>s
  | s,j,x::xs=>Mv c l i (Dm s (El (Eh c l i j) x)) (j+1) xs
def W9 (c:Int) (l:List Int) (b:Nat→Int) (n:Nat):Nat→List Int
  | 0=>[]
  | k+1=>E8 (Mv c l ((n-1-k:Nat):Int) (b (n-1-k)) ((n-k:Nat):Int) (W9 c l b n k)) (Eh c l ((n-1-k:Nat):Int) ((n-1-k:Nat):Int))::W9 c l b n k
def X6 (c:Int) (l:List Int) (b:Nat→Int):Nat→List Int
  | 0=>[]
  | k+1=>X6 c l b k++[E8 (Mv c l (k:Int) (b k) 0 (X6 c l b k)) (Eh c l (k:Int) (k:Int))]
def Y6 (c:Int) (l:List Int) (q:Int) (m:List Int) (n w:Nat):List Int:=Cq n w fun i j=>(W9 c l (fun i=>Eh q m (i:Int) (j:Int)) n n).getD i 0
def loG (c:Int) (l:List Int) (q:Int) (m:List Int) (n w:Nat):List Int:=Cq n w fun i j=>(X6 c l (fun i=>Eh q m (i:Int) (j:Int)) n).getD i 0
def Is (r c:Int) (l:List Int):MX:=if D8 l=true then (r,c,l,0) else Gh 2
def Vv (r c:Int) (l:List Int) (p q:Int) (m:List Int):MX :=
  if M5 r c l p q m≠0 then Gh (M5 r c l p q m) else Is r q (Y6 c l q m r.toNat q.toNat)
def loX (r c:Int) (l:List Int) (p q:Int) (m:List Int):MX :=
  if M5 r c l p q m≠0 then Gh (M5 r c l p q m) else Is r q (loG c l q m r.toNat q.toNat)
def Sp (c:Int) (l:List Int) (n:Nat):List Int:=(List.range n).map fun i:Nat=>Z9 (Eh c l (i:Int) (i:Int))
def Amm (d:List Int):Bool:=d.any fun x=>!(decide (Ab2 (B8 (Bm d) (-40)) x<0))
def Aim (r c:Int) (l:List Int):Bool:=Amm (Sp c l (min r.toNat c.toNat))
def Mz (r c:Int) (l:List Int):Bool × Int:=if Bx r c l≠0 then (false,Bx r c l) else (Aim r c l,0)
def Na (r c:Int) (l:List Int) (p q:Int) (m:List Int):Bool:=(Bf r c l&&Bf p q m)&&((Ah l&&Ah m)&&Cn (r=c∧r=p))
def Nv (n:Nat):List Int:=Cq n n fun i k=>R0 (i:Int) (k:Int)
def Ef (r c:Int) (l:List Int) (p q:Int) (m:List Int):MX :=
  if (A6 r c l).2.2.2≠0 then Gh (A6 r c l).2.2.2 else M4 (A6 r c l).1 (A6 r c l).2.1 (A6 r c l).2.2.1 p q m
end Go.Rnd
namespace Go.Rnd
open Go.Den
theorem Alp {a b:Nat}:(Acs a b).1<2^64:=by
  have h1:G8<2^63:=by decide
  have hs:∀ (s:Bool) {r:Nat},r<2^63→Co s r<2^64:=by
    intro s r h
    unfold Co
    cases s
    · rw [if_neg (by decide)]; omega
    · rw [if_pos rfl]; omega
  have hN:Vt<2^64:=by decide
  unfold Acs
  by_cases c1:Au a=4∨Au b=4
  · rw [if_pos c1]; exact hN
  rw [if_neg c1]
  by_cases c2:Au a=Au b∧(Au a=3∨Au a=0)
  · rw [if_pos c2]; exact hN
  rw [if_neg c2]
  by_cases c3:Au a=3
  · rw [if_pos c3]; exact hs _ h1
  rw [if_neg c3]
  by_cases c4:Au b=3∨Au a=0
  · rw [if_pos c4]; exact hs _ (by decide)
  rw [if_neg c4]
  by_cases c5:Au b=0
  · rw [if_pos c5]; exact hs _ h1
  rw [if_neg c5]
  exact hs _ (S6 _ _)
theorem Yj (a b:Int):Ai (E8 a b)=true:=B1 Alp
theorem L7 {a b:Int} (ha:Ai a=true) (hb:Ai b=true):Ai (Dm a b)=true:=by
  obtain ⟨x,rfl,hx⟩:=Bt ha
  obtain ⟨y,rfl,hy⟩:=Bt hb
  exact B1 (Tk (by rw [Aq0]; exact hx) (Rt (by rw [Aq0]; exact hy))).1
theorem Gi {r c:Nat} {f:Nat→Nat→Int} (h:∀ i k,Ai (f i k)=true):Ah (Cq r c f)=true:=Ao.2 fun x hx=>by
  obtain ⟨j,_,rfl⟩:=List.mem_map.1 hx
  exact h _ _
theorem Lc (a b:Int):Ai (El a b)=true:=B1 Tc
theorem Pd (c:Int) (l:List Int) (b:Nat→Int) (n:Nat):∀ k,(W9 c l b n k).length=k
  | 0=>rfl
  | k+1=>by rw [W9,List.length_cons,Pd c l b n k]
theorem Abh (c:Int) (l:List Int) (b:Nat→Int) (n:Nat):∀ k,∀ x∈W9 c l b n k,Ai x=true
  | 0,x,h=>by cases h
  | k+1,x,h=>by
    rw [W9] at h
    rcases List.mem_cons.1 h with rfl | h
    · exact Yj _ _
    · exact Abh c l b n k x h
theorem Y5 (c:Int) (l:List Int) (b:Nat→Int) (n k:Nat):∀ d,(W9 c l b n (k+d)).drop d=W9 c l b n k
  | 0=>rfl
  | d+1=>by
    rw [← Nat.add_assoc,W9,List.drop_succ_cons]
    exact Y5 c l b n k d
theorem Y4 {c:Int} {l:List Int} {b:Nat→Int} {n k:Nat} (h:k≤n):(W9 c l b n n).drop (n-k)=W9 c l b n k:=by
  have:=Y5 c l b n k (n-k)
  rw [Nat.add_sub_cancel' h] at this
  exact this
theorem Aj2 {c:Int} {l:List Int} {b:Nat→Int} {n i:Nat} (h:i<n) :
    (W9 c l b n n).getD i 0=E8 (Mv c l (i:Int) (b i) ((i+1:Nat):Int) ((W9 c l b n n).drop (i+1))) (Eh c l (i:Int) (i:Int)):=by
  have e1:=Y4 (c:=c) (l:=l) (b:=b) (n:=n) (k:=n-i) (by omega)
  have e2:=Y4 (c:=c) (l:=l) (b:=b) (n:=n) (k:=n-i-1) (by omega)
  rw [show n-(n-i)=i by omega] at e1
  rw [show n-(n-i-1)=i+1 by omega] at e2
  rw [e2]
  have e3:(W9 c l b n n).getD i 0=((W9 c l b n n).drop i).getD 0 0:=by
    rw [Aq8,Aq8,List.getElem?_drop,Nat.add_zero]
  rw [e3,e1,show n-i=(n-i-1)+1 by omega,W9]
  have e4:n-1-(n-i-1)=i:=by omega
  have e5:n-(n-i-1)=i+1:=by omega
  rw [e4,e5]
  rfl
theorem Q1 {l:List Int} (h:∀ x∈l,Ai x=true) (i:Nat):Ai (l.getD i 0)=true:=by
  rw [Aq8]
  cases hi:l[i]? with
  | none=>exact B1 (n:=0) (by decide)
  | some x=>exact h x (List.mem_of_getElem? hi)
theorem Wi {c:Int} {l:List Int} {i s j:Int} {xs:List Int} {t:Nat} (h:t<xs.length):Mv c l i s j (xs.drop t)=Mv c l i (Dm s (El (Eh c l i j) (xs.getD t 0))) (j+1) (xs.drop (t+1)):=by
  rw [List.drop_eq_getElem_cons h,Mv,Aq8,Arf h]; rfl
theorem Hk (c:Int) (l:List Int) (b:Nat→Int):∀ k,(X6 c l b k).length=k
  | 0=>rfl
  | k+1=>by rw [X6,List.length_append,Hk c l b k]; rfl
theorem Ace (c:Int) (l:List Int) (b:Nat→Int):∀ k,∀ x∈X6 c l b k,Ai x=true
  | 0,x,h=>by cases h
  | k+1,x,h=>by
    rw [X6] at h
    rcases List.mem_append.1 h with h | h
    · exact Ace c l b k x h
    · rw [List.mem_singleton.1 h]; exact Yj _ _
theorem Aaf {c:Int} {l:List Int} {b:Nat→Int} {k:Nat}:∀ d,(X6 c l b (k+d)).take k=X6 c l b k
  | 0=>by rw [Nat.add_zero]; exact List.take_of_length_le (by rw [Hk]; omega)
  | d+1=>by
    rw [← Nat.add_assoc,X6,List.take_append_of_le_length (by rw [Hk]; omega)]
    exact Aaf d
theorem Aag {c:Int} {l:List Int} {b:Nat→Int} {n k:Nat} (h:k≤n):(X6 c l b n).take k=X6 c l b k:=by
  have:=Aaf (c:=c) (l:=l) (b:=b) (k:=k) (n-k)
  rw [Nat.add_sub_cancel' h] at this
  exact this
theorem Ak8 {c:Int} {l:List Int} {b:Nat→Int} {n i:Nat} (h:i<n) :
    (X6 c l b n).getD i 0=E8 (Mv c l (i:Int) (b i) 0 ((X6 c l b n).take i)) (Eh c l (i:Int) (i:Int)):=by
  have e1:=Aag (c:=c) (l:=l) (b:=b) (n:=n) (k:=i+1) (by omega)
  have e2:=Aag (c:=c) (l:=l) (b:=b) (n:=n) (k:=i) (by omega)
  have e3:(X6 c l b n).getD i 0=((X6 c l b n).take (i+1)).getD i 0:=by
    rw [Aq8,Aq8,List.getElem?_take_of_lt (by omega)]
  rw [e3,e1,e2,X6,Aq8,List.getElem?_append_right (by rw [Hk]; omega),Hk,Nat.sub_self]
  rfl
end Go.Rnd
namespace Go.Rnd
open Go.Den
def Anq:Int:=4607182418800017408
def G6 (x:Int):Int:=(Ms x.toNat).1
def Nb (x:Int):Int:=(Ms x.toNat).2
def Abn (k:Int):Int→List Int→Int
  | s,[]=>s
  | s,x::l=>Abn k (Jn s (El (B8 x k) (B8 x k))) l
def Ea (x:List Int):Int :=
  if Bm x=0∨C9 (Bm x)=false then Bm x else B8 (G6 (Abn (-B0 (Bm x)) 0 x)) (B0 (Bm x))
def I4 (l:List Int):Bool:=l.all fun x=>decide (A8 x=0)
def O5:List Int→Int
  | []=>0
  | x::l=>if A8 x=0 then O5 l else x
def Bi (l:List Int) (k:Int):List Int:=l.map fun x=>B8 x k
def Il (n:Nat) (f:Nat→Int):List Int:=Anq::(List.range (n-1)).map fun j=>f (j+1)
def muI (x:List Int):Int:=if Df (O5 x)=true then Ea (Bi x (-B0 (Bm x))) else Dd (Ea (Bi x (-B0 (Bm x))))
def He (x:List Int):Int:=B8 (muI x) (B0 (Bm x))
def Aio (x:List Int):Int:=B8 (x.getD 0 0) (-B0 (Bm x))
def Z2 (x:List Int):List Int:=Il x.length fun j=>E8 (B8 (x.getD j 0) (-B0 (Bm x))) (Dm (Aio x) (muI x))
def Ab7 (x:List Int):Int:=E8 (Dm (muI x) (Aio x)) (muI x)
def Akx (x:List Int):List Int × Int × Int × Int :=
  if I4 (x.drop 1)=true then (Il x.length fun _=>0,0,x.getD 0 0,0)
  else if C9 (He x)=true then (Z2 x,Ab7 x,He x,0) else ([],0,0,2)
def B7 (x:List Int):List Int × Int × Int × Int :=
  if x.length=0∨64<x.length then ([],0,0,3) else if D8 x=true then Akx x else ([],0,0,4)
def Dh (c:Int) (l:List Int) (b i:Int) (n:Nat):List Int:=(List.range n).map fun j:Nat=>Eh c l (i+(j:Int)) b
def Yq (c:Int) (l:List Int) (i:Int) (v:List Int) (t b:Int):Int:=El t (Ov v (Dh c l b i v.length))
def Nz (c:Int) (l:List Int) (i k:Int) (v:List Int) (t a b:Int):Int :=
  if k≤b∧i≤a∧a<i+v.length then Dm (Eh c l a b) (El (Yq c l i v t b) (v.getD (a-i).toNat 0)) else Eh c l a b
def Fu (r c:Nat) (l:List Int) (i k:Int) (v:List Int) (t:Int):List Int:=Cq r c fun a b=>Nz (c:Int) l i k v t (a:Int) (b:Int)
def Li (r c i k:Int) (v:List Int):Bool:=decide (0≤i∧(v.length:Int)≤r∧i≤r-v.length∧0≤k∧k≤c)
def R5 (r c:Nat) (l:List Int) (j:Nat) (x:Int):List Int:=Cq r c fun a b=>if b=j∧j≤a then (if a=j then x else 0) else Eh (c:Int) l (a:Int) (b:Int)
def Fx (r c:Nat) (l:List Int) (j:Nat):List Int:=Dh (c:Int) l (j:Int) (j:Int) (r-j)
def Vn (r c:Nat) (l:List Int) (j:Nat):List Int:=R5 r c (Fu r c l (j:Int) (j:Int) (B7 (Fx r c l j)).1 (B7 (Fx r c l j)).2.1) j (B7 (Fx r c l j)).2.2.1
def M3 (r c:Nat):Nat→Nat→List Int→Option (List Int × List (List Int × Int))
  | 0,_,l=>some (l,[])
  | n+1,j,l=>if (B7 (Fx r c l j)).2.2.2=0 then
      (M3 r c n (j+1) (Vn r c l j)).map fun x=>(x.1,((B7 (Fx r c l j)).1,(B7 (Fx r c l j)).2.1)::x.2) else none
def Ij (r c:Nat):Nat:=min c (r-1)
def Jm (n:Nat):Nat→List (List Int × Int)→List Int→List Int
  | _,[],q=>q
  | j,m::ms,q=>Fu n n (Jm n (j+1) ms q) (j:Int) 0 m.1 m.2
def Ii (r c:Nat) (l:List Int):Option (List Int × List (List Int × Int)):=M3 r c (Ij r c) 0 l
def Rz (r c:Nat) (l:List Int):List Int:=match Ii r c l with
  | some x=>Jm r 0 x.2 (Nv r)
  | none=>[]
def Nu (r c:Nat) (l:List Int):List Int:=match Ii r c l with
  | some x=>x.1
  | none=>[]
def E3 (r c:Int) (l:List Int):MX:=if (Ii r.toNat c.toNat l).isSome=true then (r,c,Nu r.toNat c.toNat l,0) else Gh 2
def Ud (ms:List (List Int × Int)):List (List DV):=ms.map fun m=>[.ints .arg .u64 m.1,.int .u64 m.2]
def Iq (r c:Int) (l:List Int):List (List DV):=match Ii r.toNat c.toNat l with
  | some x=>Ud x.2
  | none=>[]
def Qu (m:Int):Int:=P3 (m.toNat*2^64)
def Qv (m:Int):Bool:=decide (P3 (m.toNat*2^64)*P3 (m.toNat*2^64)=m.toNat*2^64)
def Pa (r c:Nat) (l:List Int):Bool:=(Ii r c l).isSome&&(D8 (Rz r c l)&&D8 (Nu r c l))
def Hd (r c:Int) (l:List Int):Int:=if Bx r c l≠0 then Bx r c l else if Pa r.toNat c.toNat l=true then 0 else 2
def qX (r c:Int) (l:List Int):MX:=if Hd r c l≠0 then Gh (Hd r c l) else (r,r,Rz r.toNat c.toNat l,0)
def rX (r c:Int) (l:List Int):MX:=if Hd r c l≠0 then Gh (Hd r c l) else (r,c,Nu r.toNat c.toNat l,0)
end Go.Rnd
namespace Go.Rnd
open Go.Den
def mulM (x y:MX):MX:=M4 x.1 x.2.1 x.2.2.1 y.1 y.2.1 y.2.2.1
def Y7 (x:MX):MX:=A6 x.1 x.2.1 x.2.2.1
def Lb (x:MX) (i k a b:Int):MX:=D5 x.1 x.2.1 x.2.2.1 i k a b
def Air (r c:Int) (l:List Int) (e:Int):MX:=if e≠0 then Gh e else if Bx r c l≠0 then Gh 2 else (r,c,l,0)
def Aiq (x:MX):MX:=Air x.1 x.2.1 x.2.2.1 x.2.2.2
def eqT (p q:Int) (m:List Int):List Int:=(A6 p q m).2.2.1
def eqR (p q:Int) (m:List Int):MX:=rX q p (eqT p q m)
def eqS (p q:Int) (m:List Int):MX:=Y7 (Lb (eqR p q m) 0 0 p p)
def hY (p q:Int) (m:List Int) (u v:Int) (h:List Int):MX :=
  if Hd q p (eqT p q m)≠0 then Gh (Hd q p (eqT p q m)) else if (Mz (eqS p q m).1 (eqS p q m).2.1 (eqS p q m).2.2.1).1=true then Gh 5
  else loX (eqS p q m).1 (eqS p q m).2.1 (eqS p q m).2.2.1 u v h
def hQ (p q:Int) (m:List Int):MX :=
  if Hd q p (eqT p q m)≠0 then Gh (Hd q p (eqT p q m)) else if (Mz (eqS p q m).1 (eqS p q m).2.1 (eqS p q m).2.2.1).1=true then Gh 5
  else qX q p (eqT p q m)
end Go.Rnd
namespace Go.Rnd
open Go.Den
def upM (x y:MX):MX:=Vv x.1 x.2.1 x.2.2.1 y.1 y.2.1 y.2.2.1
def Vg (x y:MX):MX:=loX x.1 x.2.1 x.2.2.1 y.1 y.2.1 y.2.2.1
def Anb (x y:MX):MX:=Re x.1 x.2.1 x.2.2.1 y.1 y.2.1 y.2.2.1
def F2 (x y:MX):MX:=Ef x.1 x.2.1 x.2.2.1 y.1 y.2.1 y.2.2.1
def Uz (x:MX):Bool:=(Mz x.1 x.2.1 x.2.2.1).1
def Px (x:MX):Int:=Bx x.1 x.2.1 x.2.2.1
def Te (r c:Int) (l:List Int):Int :=
  if (A6 r c l).2.2.2≠0 then (A6 r c l).2.2.2 else Hd (A6 r c l).1 (A6 r c l).2.1 (A6 r c l).2.2.1
def lqL (r c:Int) (l:List Int):MX :=
  if Te r c l≠0 then Gh (Te r c l) else Y7 (rX (A6 r c l).1 (A6 r c l).2.1 (A6 r c l).2.2.1)
def Y0 (r c:Int) (l:List Int):MX :=
  if Te r c l≠0 then Gh (Te r c l) else Y7 (qX (A6 r c l).1 (A6 r c l).2.1 (A6 r c l).2.2.1)
def F8 (r c:Int) (l:List Int) (p q:Int) (m:List Int) (u v:Int) (h:List Int):Int :=
  if Bx r c l≠0 then Bx r c l else if Bx p q m≠0 then Bx p q m else if Bx u v h≠0 then Bx u v h
  else if p≠r∨u≠r∨v≠1∨r<c∨c+q<r then 3 else 0
def N1 (l m h:List Int):Bool:=(Ah l&&Ah m)&&Ah h
def gT (r c:Int) (l:List Int):MX:=Lb (rX r c l) 0 0 c (rX r c l).2.1
def gC (r c:Int) (l:List Int) (u v:Int) (h:List Int):MX:=Ef (qX r c l).1 (qX r c l).2.1 (qX r c l).2.2.1 u v h
def gE (r c:Int) (l:List Int) (p q:Int) (m:List Int) (u v:Int) (h:List Int):Int :=
  if Hd r c l≠0 then Hd r c l else if Uz (gT r c l)=true then 5
  else if Px (gC r c l u v h)≠0∨Px (gC r c l p q m)≠0 then 2 else 0
def G5 (c:Int) (x:MX):MX:=Lb x 0 0 c x.2.1
def Fl (r c:Int) (x:MX):MX:=Lb x c 0 (r-c) x.2.1
def Mf (e:Int) (x:MX):MX:=if e≠0 then Gh e else x
def Yg (x:MX):MX:=Lb (lqL x.1 x.2.1 x.2.2.1) 0 0 x.1 x.1
def erO (x:MX):MX:=Lb (Y0 x.1 x.2.1 x.2.2.1) 0 0 x.1 (Y0 x.1 x.2.1 x.2.2.1).2.1
def erY (x y:MX):MX :=
  if Te x.1 x.2.1 x.2.2.1≠0 then Gh (Te x.1 x.2.1 x.2.2.1) else if Uz (Yg x)=true then Gh 5
  else if (Vg (Yg x) y).2.2.2≠0 then Gh (Vg (Yg x) y).2.2.2
  else Aiq (F2 (erO x) (Vg (Yg x) y))
def erZ (x y:MX):MX :=
  if Te x.1 x.2.1 x.2.2.1≠0 then Gh (Te x.1 x.2.1 x.2.2.1) else if Uz (Yg x)=true then Gh 5
  else if (Vg (Yg x) y).2.2.2≠0 then Gh (Vg (Yg x) y).2.2.2
  else ((F2 (erO x) (Vg (Yg x) y)).1,(F2 (erO x) (Vg (Yg x) y)).2.1,(F2 (erO x) (Vg (Yg x) y)).2.2.1,(Aiq (F2 (erO x) (Vg (Yg x) y))).2.2.2)
def gF (r c:Int) (C E y:MX):MX:=Anb (G5 c C) (mulM (G5 c E) y)
def gX2 (r c:Int) (T C E y:MX):MX:=if y.2.2.2≠0 then Gh y.2.2.2 else if Px (gF r c C E y)≠0 then Gh 2 else upM T (gF r c C E y)
def gY2 (r c:Int) (T C E y:MX):MX:=if y.2.2.2≠0 then Gh y.2.2.2 else if Px (gF r c C E y)≠0 then Gh 2 else if (upM T (gF r c C E y)).2.2.2≠0 then Gh (upM T (gF r c C E y)).2.2.2 else y
def gY0 (r c:Int) (l:List Int) (p q:Int) (m:List Int) (u v:Int) (h:List Int):MX:=erY (Fl r c (gC r c l p q m)) (Fl r c (gC r c l u v h))
def gX (r c:Int) (l:List Int) (p q:Int) (m:List Int) (u v:Int) (h:List Int):MX :=
  if F8 r c l p q m u v h≠0 then Gh (F8 r c l p q m u v h) else if gE r c l p q m u v h≠0 then Gh (gE r c l p q m u v h)
  else gX2 r c (gT r c l) (gC r c l u v h) (gC r c l p q m) (gY0 r c l p q m u v h)
def gY (r c:Int) (l:List Int) (p q:Int) (m:List Int) (u v:Int) (h:List Int):MX :=
  if F8 r c l p q m u v h≠0 then Gh (F8 r c l p q m u v h) else if gE r c l p q m u v h≠0 then Gh (gE r c l p q m u v h)
  else gY2 r c (gT r c l) (gC r c l u v h) (gC r c l p q m) (gY0 r c l p q m u v h)
def sqV (x:Int):Int:=mD (A7 x)*mD (A7 x)
def sqK (x:Int):Int:=eD (A7 x) (Aw x)+eD (A7 x) (Aw x)
def sqM (x:Int):Int:=Aa9 0 0 (mD (sqV x)) (eD (sqV x) (sqK x))
def sqE (x:Int):Int:=Ajo 0 0 (mD (sqV x)) (eD (sqV x) (sqK x))
end Go.Rnd
end
