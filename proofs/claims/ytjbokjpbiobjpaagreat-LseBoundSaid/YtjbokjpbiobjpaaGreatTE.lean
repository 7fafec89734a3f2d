/- A verified evaluator of the program's form and its use for this seat: S1Env, Rnd, Flt, Words, NearL, IeeL, OrdL, MulL, Limb, DyL, DyV, ExactL, MulW, SumL, MatL, MatW, PowL, RootL, ScaleL, SolW, TriL, HouW, LseW, GgW, RidW. -/
import Derived.Test.YtjbokjpbiobjpaaGreatProg
import Derived.Test.YtjbokjpbiobjpaaGreatTD
set_option linter.unusedVariables false
set_option linter.unusedSimpArgs false
noncomputable section
open Int (toNat)
open List (length getD)
namespace Go.Proofs.S1
open Go Go.Den Go.Proofs
set_option maxRecDepth 100000
abbrev tB:Nat:=37
abbrev tMR:Nat:=214
def tys:List (Nat × TI):=[
 (2,⟨1,8,(.int .i64),[.int .i64 (0:Int)]⟩),
 (3,⟨1,8,(.int .i64),[.int .i64 (0:Int)]⟩),
 (4,⟨1,1,.bool,[.bool false]⟩),
 (5,⟨1,1,(.int .u8),[.int .u8 (0:Int)]⟩),
 (22,⟨1,24,(.slice 37),[.nil]⟩),
 (24,⟨3,40,(.struct [(0,3),(1,3),(2,22)]),[.int .i64 (0:Int),.int .i64 (0:Int),.nil]⟩),
 (25,⟨1,8,(.int .i64),[.int .i64 (0:Int)]⟩),
 (36,⟨1,8,(.int .u64),[.int .u64 (0:Int)]⟩),
 (37,⟨1,8,(.int .u64),[.int .u64 (0:Int)]⟩),
 (38,⟨1,24,(.slice 41),[.nil]⟩),
 (41,⟨1,1,(.int .i8),[.int .i8 (0:Int)]⟩),
 (43,⟨1,24,(.slice 173),[.nil]⟩),
 (45,⟨2,32,(.struct [(0,4),(1,43)]),[.bool false,.nil]⟩),
 (47,⟨3,40,(.struct [(0,45),(2,3)]),[.bool false,.nil,.int .i64 (0:Int)]⟩),
 (57,⟨12,160,(.struct [(0,24),(3,24),(6,24),(9,24)]),[.int .i64 (0:Int),.int .i64 (0:Int),.nil,.int .i64 (0:Int),.int .i64 (0:Int),.nil,.int .i64 (0:Int),.int .i64 (0:Int),.nil,.int .i64 (0:Int),.int .i64 (0:Int),.nil]⟩),
 (60,⟨12,160,(.struct [(0,24),(3,24),(6,24),(9,24)]),[.int .i64 (0:Int),.int .i64 (0:Int),.nil,.int .i64 (0:Int),.int .i64 (0:Int),.nil,.int .i64 (0:Int),.int .i64 (0:Int),.nil,.int .i64 (0:Int),.int .i64 (0:Int),.nil]⟩),
 (71,⟨9,120,(.struct [(0,24),(3,24),(6,24)]),[.int .i64 (0:Int),.int .i64 (0:Int),.nil,.int .i64 (0:Int),.int .i64 (0:Int),.nil,.int .i64 (0:Int),.int .i64 (0:Int),.nil]⟩),
 (74,⟨9,120,(.struct [(0,24),(3,24),(6,24)]),[.int .i64 (0:Int),.int .i64 (0:Int),.nil,.int .i64 (0:Int),.int .i64 (0:Int),.nil,.int .i64 (0:Int),.int .i64 (0:Int),.nil]⟩),
 (80,⟨7,88,(.struct [(0,24),(3,24),(6,25)]),[.int .i64 (0:Int),.int .i64 (0:Int),.nil,.int .i64 (0:Int),.int .i64 (0:Int),.nil,.int .i64 (0:Int)]⟩),
 (88,⟨9,120,(.struct [(0,24),(3,24),(6,24)]),[.int .i64 (0:Int),.int .i64 (0:Int),.nil,.int .i64 (0:Int),.int .i64 (0:Int),.nil,.int .i64 (0:Int),.int .i64 (0:Int),.nil]⟩),
 (91,⟨1,24,(.slice 24),[.nil]⟩),
 (102,⟨1,8,(.int .i64),[.int .i64 (0:Int)]⟩),
 (114,⟨6,80,(.array 2 24),[.int .i64 (0:Int),.int .i64 (0:Int),.nil,.int .i64 (0:Int),.int .i64 (0:Int),.nil]⟩),
 (118,⟨7,88,(.struct [(0,24),(3,24),(6,4)]),[.int .i64 (0:Int),.int .i64 (0:Int),.nil,.int .i64 (0:Int),.int .i64 (0:Int),.nil,.bool false]⟩),
 (121,⟨1,8,.fl,[.fl 0]⟩),
 (131,⟨1,24,(.slice 47),[.nil]⟩),
 (134,⟨1,24,(.slice 135),[.nil]⟩),
 (135,⟨1,24,(.slice 45),[.nil]⟩),
 (145,⟨9,120,(.array 3 24),[.int .i64 (0:Int),.int .i64 (0:Int),.nil,.int .i64 (0:Int),.int .i64 (0:Int),.nil,.int .i64 (0:Int),.int .i64 (0:Int),.nil]⟩),
 (147,⟨15,200,(.struct [(0,24),(3,24),(6,24),(9,24),(12,24)]),[.int .i64 (0:Int),.int .i64 (0:Int),.nil,.int .i64 (0:Int),.int .i64 (0:Int),.nil,.int .i64 (0:Int),.int .i64 (0:Int),.nil,.int .i64 (0:Int),.int .i64 (0:Int),.nil,.int .i64 (0:Int),.int .i64 (0:Int),.nil]⟩),
 (155,⟨3,40,(.struct [(0,3),(1,3),(2,131)]),[.int .i64 (0:Int),.int .i64 (0:Int),.nil]⟩),
 (166,⟨1,1,(.int .u8),[.int .u8 (0:Int)]⟩),
 (173,⟨1,4,(.int .u32),[.int .u32 (0:Int)]⟩),
 (183,⟨12,160,(.array 4 24),[.int .i64 (0:Int),.int .i64 (0:Int),.nil,.int .i64 (0:Int),.int .i64 (0:Int),.nil,.int .i64 (0:Int),.int .i64 (0:Int),.nil,.int .i64 (0:Int),.int .i64 (0:Int),.nil]⟩),
 (188,⟨2,16,(.array 2 3),[.int .i64 (0:Int),.int .i64 (0:Int)]⟩),
 (189,⟨1,24,(.slice 191),[.nil]⟩),
 (191,⟨3,40,(.struct [(0,22),(1,37),(2,37)]),[.nil,.int .u64 (0:Int),.int .u64 (0:Int)]⟩),
 (199,⟨3,24,(.struct [(0,4),(1,3),(2,36)]),[.bool false,.int .i64 (0:Int),.int .u64 (0:Int)]⟩),
 (208,⟨1,24,(.slice 214),[.nil]⟩),
 (214,⟨2,32,(.struct [(0,22),(1,37)]),[.nil,.int .u64 (0:Int)]⟩)]
theorem ty2:Bq Tryz.prog 2 ⟨1,8,(.int .i64),[.int .i64 (0:Int)]⟩:=Bs (z:=.int .i64 (0:Int)) (by kernel_rfl) (fun c w=>by simp [Az,Aj,Value.cells]) rfl (by simp [Value.cells,Value.oneCell']) (by simp only [By]; exact Tryz.underlying2)
theorem ty3:Bq Tryz.prog 3 ⟨1,8,(.int .i64),[.int .i64 (0:Int)]⟩:=Bs (z:=.int .i64 (0:Int)) (by kernel_rfl) (fun c w=>by simp [Az,Aj,Value.cells]) rfl (by simp [Value.cells,Value.oneCell']) (by simp only [By]; exact Tryz.underlying3)
theorem ty4:Bq Tryz.prog 4 ⟨1,1,.bool,[.bool false]⟩:=Bs (z:=.bool false) (by kernel_rfl) (fun c w=>by simp [Az,Aj,Value.cells]) rfl (by simp [Value.cells,Value.oneCell']) (by simp only [By]; exact Tryz.underlying4)
theorem ty5:Bq Tryz.prog 5 ⟨1,1,(.int .u8),[.int .u8 (0:Int)]⟩:=Bs (z:=.int .u8 (0:Int)) (by kernel_rfl) (fun c w=>by simp [Az,Aj,Value.cells]) rfl (by simp [Value.cells,Value.oneCell']) (by simp only [By]; exact Tryz.underlying5)
theorem Avv:Bq Tryz.prog 22 ⟨1,24,(.slice 37),[.nil]⟩:=Bs (z:=.slice none 0 0) (by kernel_rfl) (fun c w=>by simp [Az,Aj,Value.cells]) rfl (by simp [Value.cells,Value.oneCell']) (by simp only [By]; exact Tryz.underlying22)
theorem Avu:Bq Tryz.prog 24 ⟨3,40,(.struct [(0,3),(1,3),(2,22)]),[.int .i64 (0:Int),.int .i64 (0:Int),.nil]⟩:=Bs (z:=.agg #[.int .i64 (0:Int),.int .i64 (0:Int),.slice none 0 0]) (by kernel_rfl) (fun c w=>by simp [Az,Aj,Value.cells]) rfl (by simp [Value.cells,Value.oneCell']) (by simp only [By]; exact ⟨_,Tryz.underlying24,by kernel_rfl⟩)
theorem Avt:Bq Tryz.prog 25 ⟨1,8,(.int .i64),[.int .i64 (0:Int)]⟩:=Bs (z:=.int .i64 (0:Int)) (by kernel_rfl) (fun c w=>by simp [Az,Aj,Value.cells]) rfl (by simp [Value.cells,Value.oneCell']) (by simp only [By]; exact Tryz.underlying25)
theorem As1:Bq Tryz.prog 36 ⟨1,8,(.int .u64),[.int .u64 (0:Int)]⟩:=Bs (z:=.int .u64 (0:Int)) (by kernel_rfl) (fun c w=>by simp [Az,Aj,Value.cells]) rfl (by simp [Value.cells,Value.oneCell']) (by simp only [By]; exact Tryz.underlying36)
theorem Avs:Bq Tryz.prog 37 ⟨1,8,(.int .u64),[.int .u64 (0:Int)]⟩:=Bs (z:=.int .u64 (0:Int)) (by kernel_rfl) (fun c w=>by simp [Az,Aj,Value.cells]) rfl (by simp [Value.cells,Value.oneCell']) (by simp only [By]; exact Tryz.underlying37)
theorem Avr:Bq Tryz.prog 38 ⟨1,24,(.slice 41),[.nil]⟩:=Bs (z:=.slice none 0 0) (by kernel_rfl) (fun c w=>by simp [Az,Aj,Value.cells]) rfl (by simp [Value.cells,Value.oneCell']) (by simp only [By]; exact Tryz.underlying38)
theorem Avq:Bq Tryz.prog 41 ⟨1,1,(.int .i8),[.int .i8 (0:Int)]⟩:=Bs (z:=.int .i8 (0:Int)) (by kernel_rfl) (fun c w=>by simp [Az,Aj,Value.cells]) rfl (by simp [Value.cells,Value.oneCell']) (by simp only [By]; exact Tryz.underlying41)
theorem Avp:Bq Tryz.prog 43 ⟨1,24,(.slice 173),[.nil]⟩:=Bs (z:=.slice none 0 0) (by kernel_rfl) (fun c w=>by simp [Az,Aj,Value.cells]) rfl (by simp [Value.cells,Value.oneCell']) (by simp only [By]; exact Tryz.underlying43)
theorem Avo:Bq Tryz.prog 45 ⟨2,32,(.struct [(0,4),(1,43)]),[.bool false,.nil]⟩:=Bs (z:=.agg #[.bool false,.slice none 0 0]) (by kernel_rfl) (fun c w=>by simp [Az,Aj,Value.cells]) rfl (by simp [Value.cells,Value.oneCell']) (by simp only [By]; exact ⟨_,Tryz.underlying45,by kernel_rfl⟩)
theorem Avn:Bq Tryz.prog 47 ⟨3,40,(.struct [(0,45),(2,3)]),[.bool false,.nil,.int .i64 (0:Int)]⟩:=Bs (z:=.agg #[.bool false,.slice none 0 0,.int .i64 (0:Int)]) (by kernel_rfl) (fun c w=>by simp [Az,Aj,Value.cells]) rfl (by simp [Value.cells,Value.oneCell']) (by simp only [By]; exact ⟨_,Tryz.underlying47,by kernel_rfl⟩)
theorem Avm:Bq Tryz.prog 57 ⟨12,160,(.struct [(0,24),(3,24),(6,24),(9,24)]),[.int .i64 (0:Int),.int .i64 (0:Int),.nil,.int .i64 (0:Int),.int .i64 (0:Int),.nil,.int .i64 (0:Int),.int .i64 (0:Int),.nil,.int .i64 (0:Int),.int .i64 (0:Int),.nil]⟩:=Bs (z:=.agg #[.int .i64 (0:Int),.int .i64 (0:Int),.slice none 0 0,.int .i64 (0:Int),.int .i64 (0:Int),.slice none 0 0,.int .i64 (0:Int),.int .i64 (0:Int),.slice none 0 0,.int .i64 (0:Int),.int .i64 (0:Int),.slice none 0 0]) (by kernel_rfl) (fun c w=>by simp [Az,Aj,Value.cells]) rfl (by simp [Value.cells,Value.oneCell']) (by simp only [By]; exact ⟨_,Tryz.underlying57,by kernel_rfl⟩)
theorem Avl:Bq Tryz.prog 60 ⟨12,160,(.struct [(0,24),(3,24),(6,24),(9,24)]),[.int .i64 (0:Int),.int .i64 (0:Int),.nil,.int .i64 (0:Int),.int .i64 (0:Int),.nil,.int .i64 (0:Int),.int .i64 (0:Int),.nil,.int .i64 (0:Int),.int .i64 (0:Int),.nil]⟩:=Bs (z:=.agg #[.int .i64 (0:Int),.int .i64 (0:Int),.slice none 0 0,.int .i64 (0:Int),.int .i64 (0:Int),.slice none 0 0,.int .i64 (0:Int),.int .i64 (0:Int),.slice none 0 0,.int .i64 (0:Int),.int .i64 (0:Int),.slice none 0 0]) (by kernel_rfl) (fun c w=>by simp [Az,Aj,Value.cells]) rfl (by simp [Value.cells,Value.oneCell']) (by simp only [By]; exact ⟨_,Tryz.underlying60,by kernel_rfl⟩)
theorem Avk:Bq Tryz.prog 71 ⟨9,120,(.struct [(0,24),(3,24),(6,24)]),[.int .i64 (0:Int),.int .i64 (0:Int),.nil,.int .i64 (0:Int),.int .i64 (0:Int),.nil,.int .i64 (0:Int),.int .i64 (0:Int),.nil]⟩:=Bs (z:=.agg #[.int .i64 (0:Int),.int .i64 (0:Int),.slice none 0 0,.int .i64 (0:Int),.int .i64 (0:Int),.slice none 0 0,.int .i64 (0:Int),.int .i64 (0:Int),.slice none 0 0]) (by kernel_rfl) (fun c w=>by simp [Az,Aj,Value.cells]) rfl (by simp [Value.cells,Value.oneCell']) (by simp only [By]; exact ⟨_,Tryz.underlying71,by kernel_rfl⟩)
theorem Avj:Bq Tryz.prog 74 ⟨9,120,(.struct [(0,24),(3,24),(6,24)]),[.int .i64 (0:Int),.int .i64 (0:Int),.nil,.int .i64 (0:Int),.int .i64 (0:Int),.nil,.int .i64 (0:Int),.int .i64 (0:Int),.nil]⟩:=Bs (z:=.agg #[.int .i64 (0:Int),.int .i64 (0:Int),.slice none 0 0,.int .i64 (0:Int),.int .i64 (0:Int),.slice none 0 0,.int .i64 (0:Int),.int .i64 (0:Int),.slice none 0 0]) (by kernel_rfl) (fun c w=>by simp [Az,Aj,Value.cells]) rfl (by simp [Value.cells,Value.oneCell']) (by simp only [By]; exact ⟨_,Tryz.underlying74,by kernel_rfl⟩)
theorem Avi:Bq Tryz.prog 80 ⟨7,88,(.struct [(0,24),(3,24),(6,25)]),[.int .i64 (0:Int),.int .i64 (0:Int),.nil,.int .i64 (0:Int),.int .i64 (0:Int),.nil,.int .i64 (0:Int)]⟩:=Bs (z:=.agg #[.int .i64 (0:Int),.int .i64 (0:Int),.slice none 0 0,.int .i64 (0:Int),.int .i64 (0:Int),.slice none 0 0,.int .i64 (0:Int)]) (by kernel_rfl) (fun c w=>by simp [Az,Aj,Value.cells]) rfl (by simp [Value.cells,Value.oneCell']) (by simp only [By]; exact ⟨_,Tryz.underlying80,by kernel_rfl⟩)
theorem Avh:Bq Tryz.prog 88 ⟨9,120,(.struct [(0,24),(3,24),(6,24)]),[.int .i64 (0:Int),.int .i64 (0:Int),.nil,.int .i64 (0:Int),.int .i64 (0:Int),.nil,.int .i64 (0:Int),.int .i64 (0:Int),.nil]⟩:=Bs (z:=.agg #[.int .i64 (0:Int),.int .i64 (0:Int),.slice none 0 0,.int .i64 (0:Int),.int .i64 (0:Int),.slice none 0 0,.int .i64 (0:Int),.int .i64 (0:Int),.slice none 0 0]) (by kernel_rfl) (fun c w=>by simp [Az,Aj,Value.cells]) rfl (by simp [Value.cells,Value.oneCell']) (by simp only [By]; exact ⟨_,Tryz.underlying88,by kernel_rfl⟩)
theorem Avg:Bq Tryz.prog 91 ⟨1,24,(.slice 24),[.nil]⟩:=Bs (z:=.slice none 0 0) (by kernel_rfl) (fun c w=>by simp [Az,Aj,Value.cells]) rfl (by simp [Value.cells,Value.oneCell']) (by simp only [By]; exact Tryz.underlying91)
theorem Atk:Bq Tryz.prog 102 ⟨1,8,(.int .i64),[.int .i64 (0:Int)]⟩:=Bs (z:=.int .i64 (0:Int)) (by kernel_rfl) (fun c w=>by simp [Az,Aj,Value.cells]) rfl (by simp [Value.cells,Value.oneCell']) (by simp only [By]; exact Tryz.underlying102)
theorem Atj:Bq Tryz.prog 114 ⟨6,80,(.array 2 24),[.int .i64 (0:Int),.int .i64 (0:Int),.nil,.int .i64 (0:Int),.int .i64 (0:Int),.nil]⟩:=Bs (z:=.agg #[.int .i64 (0:Int),.int .i64 (0:Int),.slice none 0 0,.int .i64 (0:Int),.int .i64 (0:Int),.slice none 0 0]) (by kernel_rfl) (fun c w=>by simp [Az,Aj,Value.cells]) rfl (by simp [Value.cells,Value.oneCell']) (by simp only [By]; exact Tryz.underlying114)
theorem Ati:Bq Tryz.prog 118 ⟨7,88,(.struct [(0,24),(3,24),(6,4)]),[.int .i64 (0:Int),.int .i64 (0:Int),.nil,.int .i64 (0:Int),.int .i64 (0:Int),.nil,.bool false]⟩:=Bs (z:=.agg #[.int .i64 (0:Int),.int .i64 (0:Int),.slice none 0 0,.int .i64 (0:Int),.int .i64 (0:Int),.slice none 0 0,.bool false]) (by kernel_rfl) (fun c w=>by simp [Az,Aj,Value.cells]) rfl (by simp [Value.cells,Value.oneCell']) (by simp only [By]; exact ⟨_,Tryz.underlying118,by kernel_rfl⟩)
theorem Ath:Bq Tryz.prog 121 ⟨1,8,.fl,[.fl 0]⟩:=Bs (z:=.float .f64 0) (by kernel_rfl) (fun c w=>by simp [Az,Aj,Value.cells,Od]) rfl (by simp [Value.cells,Value.oneCell']) (by simp only [By]; exact Tryz.underlying121)
theorem Atg:Bq Tryz.prog 131 ⟨1,24,(.slice 47),[.nil]⟩:=Bs (z:=.slice none 0 0) (by kernel_rfl) (fun c w=>by simp [Az,Aj,Value.cells]) rfl (by simp [Value.cells,Value.oneCell']) (by simp only [By]; exact Tryz.underlying131)
theorem Atf:Bq Tryz.prog 134 ⟨1,24,(.slice 135),[.nil]⟩:=Bs (z:=.slice none 0 0) (by kernel_rfl) (fun c w=>by simp [Az,Aj,Value.cells]) rfl (by simp [Value.cells,Value.oneCell']) (by simp only [By]; exact Tryz.underlying134)
theorem Ate:Bq Tryz.prog 135 ⟨1,24,(.slice 45),[.nil]⟩:=Bs (z:=.slice none 0 0) (by kernel_rfl) (fun c w=>by simp [Az,Aj,Value.cells]) rfl (by simp [Value.cells,Value.oneCell']) (by simp only [By]; exact Tryz.underlying135)
theorem Atd:Bq Tryz.prog 145 ⟨9,120,(.array 3 24),[.int .i64 (0:Int),.int .i64 (0:Int),.nil,.int .i64 (0:Int),.int .i64 (0:Int),.nil,.int .i64 (0:Int),.int .i64 (0:Int),.nil]⟩:=Bs (z:=.agg #[.int .i64 (0:Int),.int .i64 (0:Int),.slice none 0 0,.int .i64 (0:Int),.int .i64 (0:Int),.slice none 0 0,.int .i64 (0:Int),.int .i64 (0:Int),.slice none 0 0]) (by kernel_rfl) (fun c w=>by simp [Az,Aj,Value.cells]) rfl (by simp [Value.cells,Value.oneCell']) (by simp only [By]; exact Tryz.underlying145)
theorem Atc:Bq Tryz.prog 147 ⟨15,200,(.struct [(0,24),(3,24),(6,24),(9,24),(12,24)]),[.int .i64 (0:Int),.int .i64 (0:Int),.nil,.int .i64 (0:Int),.int .i64 (0:Int),.nil,.int .i64 (0:Int),.int .i64 (0:Int),.nil,.int .i64 (0:Int),.int .i64 (0:Int),.nil,.int .i64 (0:Int),.int .i64 (0:Int),.nil]⟩:=Bs (z:=.agg #[.int .i64 (0:Int),.int .i64 (0:Int),.slice none 0 0,.int .i64 (0:Int),.int .i64 (0:Int),.slice none 0 0,.int .i64 (0:Int),.int .i64 (0:Int),.slice none 0 0,.int .i64 (0:Int),.int .i64 (0:Int),.slice none 0 0,.int .i64 (0:Int),.int .i64 (0:Int),.slice none 0 0]) (by kernel_rfl) (fun c w=>by simp [Az,Aj,Value.cells]) rfl (by simp [Value.cells,Value.oneCell']) (by simp only [By]; exact ⟨_,Tryz.underlying147,by kernel_rfl⟩)
theorem Atb:Bq Tryz.prog 155 ⟨3,40,(.struct [(0,3),(1,3),(2,131)]),[.int .i64 (0:Int),.int .i64 (0:Int),.nil]⟩:=Bs (z:=.agg #[.int .i64 (0:Int),.int .i64 (0:Int),.slice none 0 0]) (by kernel_rfl) (fun c w=>by simp [Az,Aj,Value.cells]) rfl (by simp [Value.cells,Value.oneCell']) (by simp only [By]; exact ⟨_,Tryz.underlying155,by kernel_rfl⟩)
theorem Ata:Bq Tryz.prog 166 ⟨1,1,(.int .u8),[.int .u8 (0:Int)]⟩:=Bs (z:=.int .u8 (0:Int)) (by kernel_rfl) (fun c w=>by simp [Az,Aj,Value.cells]) rfl (by simp [Value.cells,Value.oneCell']) (by simp only [By]; exact Tryz.underlying166)
theorem As9:Bq Tryz.prog 173 ⟨1,4,(.int .u32),[.int .u32 (0:Int)]⟩:=Bs (z:=.int .u32 (0:Int)) (by kernel_rfl) (fun c w=>by simp [Az,Aj,Value.cells]) rfl (by simp [Value.cells,Value.oneCell']) (by simp only [By]; exact Tryz.underlying173)
theorem As8:Bq Tryz.prog 183 ⟨12,160,(.array 4 24),[.int .i64 (0:Int),.int .i64 (0:Int),.nil,.int .i64 (0:Int),.int .i64 (0:Int),.nil,.int .i64 (0:Int),.int .i64 (0:Int),.nil,.int .i64 (0:Int),.int .i64 (0:Int),.nil]⟩:=Bs (z:=.agg #[.int .i64 (0:Int),.int .i64 (0:Int),.slice none 0 0,.int .i64 (0:Int),.int .i64 (0:Int),.slice none 0 0,.int .i64 (0:Int),.int .i64 (0:Int),.slice none 0 0,.int .i64 (0:Int),.int .i64 (0:Int),.slice none 0 0]) (by kernel_rfl) (fun c w=>by simp [Az,Aj,Value.cells]) rfl (by simp [Value.cells,Value.oneCell']) (by simp only [By]; exact Tryz.underlying183)
theorem As7:Bq Tryz.prog 188 ⟨2,16,(.array 2 3),[.int .i64 (0:Int),.int .i64 (0:Int)]⟩:=Bs (z:=.agg #[.int .i64 (0:Int),.int .i64 (0:Int)]) (by kernel_rfl) (fun c w=>by simp [Az,Aj,Value.cells]) rfl (by simp [Value.cells,Value.oneCell']) (by simp only [By]; exact Tryz.underlying188)
theorem As6:Bq Tryz.prog 189 ⟨1,24,(.slice 191),[.nil]⟩:=Bs (z:=.slice none 0 0) (by kernel_rfl) (fun c w=>by simp [Az,Aj,Value.cells]) rfl (by simp [Value.cells,Value.oneCell']) (by simp only [By]; exact Tryz.underlying189)
theorem As5:Bq Tryz.prog 191 ⟨3,40,(.struct [(0,22),(1,37),(2,37)]),[.nil,.int .u64 (0:Int),.int .u64 (0:Int)]⟩:=Bs (z:=.agg #[.slice none 0 0,.int .u64 (0:Int),.int .u64 (0:Int)]) (by kernel_rfl) (fun c w=>by simp [Az,Aj,Value.cells]) rfl (by simp [Value.cells,Value.oneCell']) (by simp only [By]; exact ⟨_,Tryz.underlying191,by kernel_rfl⟩)
theorem As4:Bq Tryz.prog 199 ⟨3,24,(.struct [(0,4),(1,3),(2,36)]),[.bool false,.int .i64 (0:Int),.int .u64 (0:Int)]⟩:=Bs (z:=.agg #[.bool false,.int .i64 (0:Int),.int .u64 (0:Int)]) (by kernel_rfl) (fun c w=>by simp [Az,Aj,Value.cells]) rfl (by simp [Value.cells,Value.oneCell']) (by simp only [By]; exact ⟨_,Tryz.underlying199,by kernel_rfl⟩)
theorem As3:Bq Tryz.prog 208 ⟨1,24,(.slice 214),[.nil]⟩:=Bs (z:=.slice none 0 0) (by kernel_rfl) (fun c w=>by simp [Az,Aj,Value.cells]) rfl (by simp [Value.cells,Value.oneCell']) (by simp only [By]; exact Tryz.underlying208)
theorem As2:Bq Tryz.prog 214 ⟨2,32,(.struct [(0,22),(1,37)]),[.nil,.int .u64 (0:Int)]⟩:=Bs (z:=.agg #[.slice none 0 0,.int .u64 (0:Int)]) (by kernel_rfl) (fun c w=>by simp [Az,Aj,Value.cells]) rfl (by simp [Value.cells,Value.oneCell']) (by simp only [By]; exact ⟨_,Tryz.underlying214,by kernel_rfl⟩)
theorem Arb:P4 Tryz.prog tys:=.cons ty2 <| .cons ty3 <| .cons ty4 <| .cons ty5 <| .cons Avv <| .cons Avu <| .cons Avt <| .cons As1 <| .cons Avs <| .cons Avr <| .cons Avq <| .cons Avp <| .cons Avo <| .cons Avn <| .cons Avm <| .cons Avl <| .cons Avk <| .cons Avj <| .cons Avi <| .cons Avh <| .cons Avg <| .cons Atk <| .cons Atj <| .cons Ati <| .cons Ath <| .cons Atg <| .cons Atf <| .cons Ate <| .cons Atd <| .cons Atc <| .cons Atb <| .cons Ata <| .cons As9 <| .cons As8 <| .cons As7 <| .cons As6 <| .cons As5 <| .cons As4 <| .cons As3 <| .cons As2 <| .nil
def exts:List (Nat × Ext):=[(169,.bits),(210,.frombits),(263,.sqrt),(266,.sub64)]
def Acw:List (Nat × Ext)→Nat→Option Ext
 | [],_=>none
 | (m,e)::l,n=>bif Nat.beq m n then some e else Acw l n
theorem Amd (args:Array Value) (w:World):(callFunc 169 args).run Tryz.prog w=((Q4 .bits args).run Tryz.prog w).andThen fun v w'=>.ok (.value v) w':=run_callFunc_extern (e:=Extern.MathFloatBits.float64bits) Tryz.func169 (by kernel_rfl) (by kernel_rfl) (by kernel_rfl) (by kernel_rfl) args w
theorem Amc (args:Array Value) (w:World):(callFunc 210 args).run Tryz.prog w=((Q4 .frombits args).run Tryz.prog w).andThen fun v w'=>.ok (.value v) w':=run_callFunc_extern (e:=Extern.MathFloatBits.float64frombits) Tryz.func210 (by kernel_rfl) (by kernel_rfl) (by kernel_rfl) (by kernel_rfl) args w
theorem Amb (args:Array Value) (w:World):(callFunc 263 args).run Tryz.prog w=((Q4 .sqrt args).run Tryz.prog w).andThen fun v w'=>.ok (.value v) w':=run_callFunc_extern (e:=Extern.MathSqrt.sqrt) Tryz.func263 (by kernel_rfl) (by kernel_rfl) (by kernel_rfl) (by kernel_rfl) args w
theorem Ama (args:Array Value) (w:World):(callFunc 266 args).run Tryz.prog w=((Q4 .sub64 args).run Tryz.prog w).andThen fun v w'=>.ok (.value v) w':=run_callFunc_extern (e:=Vv) Tryz.func266 (by kernel_rfl) (by kernel_rfl) (by kernel_rfl) (by kernel_rfl) args w
def Asj:List Nat:=[199,188]
theorem Auy:Aa3 Tryz.prog 199 ⟨3,24,(.struct [(0,4),(1,3),(2,36)]),[.bool false,.int .i64 (0:Int),.int .u64 (0:Int)]⟩ where
 guard:=by kernel_rfl
 eq:=by
  intro w c x y xs ys hx hy hlx hly
  obtain ⟨a0,x1,rfl,hx1⟩:=V1 hx
  obtain ⟨a1,x2,rfl,hx2⟩:=H7 hx1
  obtain ⟨a2,x3,rfl,hx3⟩:=H7 hx2
  obtain rfl:=Pj hx3
  obtain ⟨b0,y1,rfl,hy1⟩:=V1 hy
  obtain ⟨b1,y2,rfl,hy2⟩:=H7 hy1
  obtain ⟨b2,y3,rfl,hy3⟩:=H7 hy2
  obtain rfl:=Pj hy3
  obtain ⟨xs⟩:=xs
  obtain ⟨ys⟩:=ys
  simp only [Az.B9,Az.F1,Aj] at hlx hly
  obtain ⟨_,_,rfl,rfl,_,_,rfl,rfl,_,_,rfl,rfl,rfl⟩:=hlx
  obtain ⟨_,_,rfl,rfl,_,_,rfl,rfl,_,_,rfl,rfl,rfl⟩:=hly
  have hu:Tryz.prog.underlying 199=some (.struct (Tryz.prog.fieldsOf 199)):=by kernel_rfl
  have hp:Tryz.prog.stoodInHeld 199=false:=by kernel_rfl
  unfold Op.equal Op.maxDepth
  rw [run_equalIn_struct w 9999 199 _ _ hu hp]
  have hfs:Tryz.prog.fieldsOf 199=(match Tryz.prog.underlying 199 with | some (.struct fs)=>fs | _=>#[]):=rfl
  rw [hfs,Tryz.underlying199]
  simp [Op.eqFields,Kq w ty3 rfl,Kq w ty4 rfl,Kq w As1 rfl,run_equalIn_int w _ _ _ _ _ _ Tryz.underlying3,run_equalIn_bool w _ _ _ _ Tryz.underlying4,run_equalIn_int w _ _ _ _ _ _ Tryz.underlying36,Yx,W5]
  by_cases h0:a0=b0<;>by_cases h1:a1=b1<;>by_cases h2:a2=b2<;>simp [h0,h1,h2]
theorem Auz:Aa3 Tryz.prog 188 ⟨2,16,(.array 2 3),[.int .i64 (0:Int),.int .i64 (0:Int)]⟩ where
 guard:=by kernel_rfl
 eq:=by
  intro w c x y xs ys hx hy hlx hly
  obtain ⟨a0,x1,rfl,hx1⟩:=H7 hx
  obtain ⟨a1,x2,rfl,hx2⟩:=H7 hx1
  obtain rfl:=Pj hx2
  obtain ⟨b0,y1,rfl,hy1⟩:=H7 hy
  obtain ⟨b1,y2,rfl,hy2⟩:=H7 hy1
  obtain rfl:=Pj hy2
  obtain ⟨xs⟩:=xs
  obtain ⟨ys⟩:=ys
  simp only [Az.B9,Az.F1,Aj] at hlx hly
  obtain ⟨_,_,rfl,rfl,_,_,rfl,rfl,rfl⟩:=hlx
  obtain ⟨_,_,rfl,rfl,_,_,rfl,rfl,rfl⟩:=hly
  obtain ⟨i,_,hi,_⟩:=ty3.info
  have hc:Tryz.prog.cellsOf 3=1:=by kernel_rfl
  unfold Op.equal Op.maxDepth
  rw [run_equalIn_array w 9999 _ _ Tryz.underlying188 hi,hc]
  simp [Op.eqItems,List.range,List.range.loop,Kq w ty3 rfl,run_equalIn_int w _ _ _ _ _ _ Tryz.underlying3,Yx,W5]
  by_cases h0:a0=b0<;>by_cases h1:a1=b1<;>simp [h0,h1]
def Ba (A8:Nat→Option Entry) (adopt:Nat→Bool) (hint:Nat→Option A5) (live:Nat→Option (List Nat)):Env:={ ty:=Ajt tys,A8:=A8,ext:=Acw exts,eqs:=fun t=>Kv t Asj,adopt:=adopt,live:=live,hint:=hint }
theorem A1 {l:List (Nat × Entry)} (h:Ay Tryz.prog l) (adopt:Nat→Bool) (hint:Nat→Option A5) (live:Nat→Option (List Nat)):I2 Tryz.prog (Ba (A7 l) adopt hint live) where
 ty:=fun t ti ht=>Arb.get ht
 A8:=fun g e hg=>(h.get hg).meets
 call:=fun g e hg=>(h.get hg).call
 ext:=by
  intro g x hx args w
  simp only [Ba,exts,Acw] at hx
  cases hb:Nat.beq 169 g with
  | true =>
    rw [hb] at hx
    cases hx
    obtain rfl:=Axl hb
    exact Amd args w
  | false =>
  rw [hb,Aw7] at hx
  clear hb
  cases hb:Nat.beq 210 g with
  | true =>
    rw [hb] at hx
    cases hx
    obtain rfl:=Axl hb
    exact Amc args w
  | false =>
  rw [hb,Aw7] at hx
  clear hb
  cases hb:Nat.beq 263 g with
  | true =>
    rw [hb] at hx
    cases hx
    obtain rfl:=Axl hb
    exact Amb args w
  | false =>
  rw [hb,Aw7] at hx
  clear hb
  cases hb:Nat.beq 266 g with
  | true =>
    rw [hb] at hx
    cases hx
    obtain rfl:=Axl hb
    exact Ama args w
  | false =>
  rw [hb,Aw7] at hx
  clear hb
  cases hx
 eqs:=by
  intro t ti ht hti
  simp only [Ba,Asj,Kv] at ht hti
  cases hb:Nat.beq t 199 with
  | true =>
    obtain rfl:=Axl hb
    cases hti
    exact Auy
  | false =>
  rw [hb,Aw7] at ht
  clear hb
  cases hb:Nat.beq t 188 with
  | true =>
    obtain rfl:=Axl hb
    cases hti
    exact Auz
  | false =>
  rw [hb,Aw7] at ht
  clear hb
  cases ht
 mixed:=by kernel_rfl
def Aq0:List (Nat × Ext):=[(169,.bitsN),(210,.frombits),(263,.sqrt),(266,.sub64)]
def Aq1:List (Nat × List CK)→Nat→List CK
 | [],_=>[]
 | (m,e)::l,n=>bif Nat.beq m n then e else Aq1 l n
def Ae4 (A8:Nat→Option Entry) (adopt:Nat→Bool) (hint:Nat→Option A5) (live:Nat→Option (List Nat)) (adv:Nat→List CK):Env:={ ty:=Ajt tys,A8:=A8,ext:=Acw Aq0,eqs:=fun t=>Kv t Asj,adopt:=adopt,live:=live,hint:=hint,adv:=adv }
theorem Apv {l:List (Nat × Entry)} (h:Ay Tryz.prog l) (adopt:Nat→Bool) (hint:Nat→Option A5) (live:Nat→Option (List Nat)) (adv:Nat→List CK):I2 Tryz.prog (Ae4 (A7 l) adopt hint live adv) :=
 have k:=A1 h adopt hint live
 ⟨k.ty,k.A8,k.call,(by
  intro g x hx args w
  simp only [Ae4,Aq0,Acw] at hx
  cases hb:Nat.beq 169 g with
  | true =>
    rw [hb] at hx
    cases hx
    obtain rfl:=Axl hb
    exact Amd args w
  | false =>
  rw [hb,Aw7] at hx
  clear hb
  cases hb:Nat.beq 210 g with
  | true =>
    rw [hb] at hx
    cases hx
    obtain rfl:=Axl hb
    exact Amc args w
  | false =>
  rw [hb,Aw7] at hx
  clear hb
  cases hb:Nat.beq 263 g with
  | true =>
    rw [hb] at hx
    cases hx
    obtain rfl:=Axl hb
    exact Amb args w
  | false =>
  rw [hb,Aw7] at hx
  clear hb
  cases hb:Nat.beq 266 g with
  | true =>
    rw [hb] at hx
    cases hx
    obtain rfl:=Axl hb
    exact Ama args w
  | false =>
  rw [hb,Aw7] at hx
  clear hb
  cases hx),k.eqs,k.mixed,k.spoil⟩
end Go.Proofs.S1
namespace Go.Rnd
def L8 (V k:Nat):Nat:=V / 2^k+(if 2^k<2*(V%2^k)∨(2*(V%2^k)=2^k∧V / 2^k%2=1) then 1 else 0)
def I4 (V:Nat) (s:Int):Nat:=L8 (V*2^(-s).toNat) s.toNat
def K2 (V:Nat) (s:Int):Bool:=decide (V*2^(-s).toNat%2^s.toNat=0)
def B7 (M:Nat) (E:Int):Int:=max (E+M.log2-52) (-1074)
def kept (M:Nat) (E:Int):Nat:=I4 M (B7 M E-E)
def Eg:Nat:=2047*2^52
def Bu (M:Nat) (E:Int):Nat:=if M=0 then 0 else min ((B7 M E+1074).toNat*2^52+kept M E) Eg
def exact (M:Nat) (E:Int):Bool:=K2 M (B7 M E-E)
def flags (r:Nat) (ex:Bool):Nat:=if r=Eg then 5 else if ex then 0 else if 2^52≤r then 1 else 3
def flagsOf (M:Nat) (E:Int):Nat:=if M=0 then 0 else flags (Bu M E) (exact M E)
theorem B1 (k:Nat):0<2^k:=Nat.pow_pos (by decide)
theorem Mn (V:Nat):L8 V 0=V:=by
 unfold L8; simp [Nat.mod_one]
theorem Ru (V a k:Nat):L8 (V*2^a) (a+k)=L8 V k:=by
 unfold L8
 have hA:=B1 a
 have e:2^(a+k)=2^a*2^k:=Axs 2 a k
 have hd:V*2^a / 2^(a+k)=V / 2^k:=by
  rw [e,Axr V,Nat.mul_div_mul_left _ _ hA]
 have hm:V*2^a%2^(a+k)=2^a*(V%2^k):=by
  rw [e,Axr V,Nat.mul_mod_mul_left]
 rw [hd,hm,e]
 have h1:(2^a*2^k<2*(2^a*(V%2^k)))↔(2^k<2*(V%2^k)):=by
  rw [Nat.mul_left_comm 2]
  exact Nat.mul_lt_mul_left hA
 have h2:(2*(2^a*(V%2^k))=2^a*2^k)↔(2*(V%2^k)=2^k):=by
  rw [Nat.mul_left_comm 2]
  exact Nat.mul_right_inj (by omega)
 simp only [h1,h2]
theorem mod_mul (V a k:Nat):(V*2^a%2^(a+k)=0)↔(V%2^k=0):=by
 have hA:=B1 a
 rw [Axs,Axr V,Nat.mul_mod_mul_left]
 constructor
 ·intro h
  rcases Nat.mul_eq_zero.1 h with h | h
  ·omega
  ·exact h
 ·intro h; rw [h]; rfl
theorem Ub (V k:Nat) (s:Int):I4 (V*2^k) (s+k)=I4 V s∧K2 (V*2^k) (s+k)=K2 V s:=by
 unfold I4 K2
 by_cases h0:0≤s
 ·have e1:(-(s+k)).toNat=0:=by omega
  have e2:(-s).toNat=0:=by omega
  have e3:(s+k).toNat=k+s.toNat:=by omega
  rw [e1,e2,e3,Ax1,Ayc,Ayc]
  exact ⟨Ru V k _,by simp only [mod_mul]⟩
 ·by_cases h1:0≤s+k
  ·have e1:(-(s+k)).toNat=0:=by omega
   have e2:s.toNat=0:=by omega
   have e3:k=(s+k).toNat+(-s).toNat:=by omega
   rw [e1,e2,Ax1,Ayc]
   have e4:V*2^k=V*2^(-s).toNat*2^(s+k).toNat:=by
    rw [Axu,← Axs,Nat.add_comm (-s).toNat,← e3]
   rw [e4]
   refine ⟨?_,?_⟩
   ·have:=Ru (V*2^(-s).toNat) (s+k).toNat 0
    rw [Ayb] at this; exact this
   ·have:=mod_mul (V*2^(-s).toNat) (s+k).toNat 0
    rw [Ayb,Ax1] at this
    simp only [this]
  ·have e1:(s+k).toNat=0:=by omega
   have e2:s.toNat=0:=by omega
   have e3:(-s).toNat=k+(-(s+k)).toNat:=by omega
   rw [e1,e2,e3,Axs,Axu]
   exact ⟨rfl,rfl⟩
theorem Oz (M k:Nat) (hM:M≠0):(M*2^k).log2=M.log2+k:=by
 have hk:=B1 k
 have hne:M*2^k≠0:=by
  intro h
  rcases Nat.mul_eq_zero.1 h with h | h<;>omega
 have h1:=Nat.log2_self_le hM
 have h2:=Nat.lt_log2_self (n:=M)
 have a:M.log2+k≤(M*2^k).log2:=by
  rw [Nat.le_log2 hne,Axs]
  exact Axf _ h1
 have b:(M*2^k).log2<M.log2+k+1:=by
  rw [Ayj hne,Nat.add_right_comm,Axs]
  exact (Nat.mul_lt_mul_right hk).2 h2
 omega
theorem Ve {n a:Nat} (h1:2^a≤n) (h2:n<2^(a+1)):n.log2=a:=by
 have:=B1 a
 have hn:n≠0:=by omega
 have b1:=(Nat.le_log2 hn).2 h1
 have b2:=(Ayj hn).2 h2
 omega
theorem Aeu (M k:Nat) (E:Int) (hM:M≠0):B7 (M*2^k) (E-k)=B7 M E:=by
 unfold B7; rw [Oz M k hM]; congr 1; omega
theorem Lb {M k:Nat} (hM:M≠0):M*2^k≠0:=by
 have:=B1 k
 intro h
 rcases Nat.mul_eq_zero.1 h with h | h<;>omega
theorem Cp (M k:Nat) (E:Int):Bu (M*2^k) (E-k)=Bu M E∧flagsOf (M*2^k) (E-k)=flagsOf M E:=by
 by_cases hM:M=0
 ·subst hM; simp [Bu,flagsOf]
 ·have hl:=Aeu M k E hM
  have e:B7 M E-(E-k)=B7 M E-E+k:=by omega
  have h1:Bu (M*2^k) (E-k)=Bu M E:=by
   unfold Bu kept
   rw [Axp (Lb hM),Axp hM,hl,e,(Ub M k _).1]
  refine ⟨h1,?_⟩
  unfold flagsOf
  rw [Axp (Lb hM),Axp hM,h1]
  unfold exact
  rw [hl,e,(Ub M k _).2]
theorem Akk {V s d k:Nat} (hs:s%2=1) (h1:(s-1)*2^d<V) (h2:V<(s+1)*2^d) (hk:2≤k) :
 L8 V (d+k)=L8 s k∧V%2^(d+k)≠0∧s%2^k≠0:=by
 have hA:=B1 d
 obtain ⟨j,rfl⟩:∃ j,k=j+2:=⟨k-2,by omega⟩
 have hB:2^(j+2)=4*2^j:=by rw [Axs]; omega
 have hBp:=B1 (j+2)
 have hC:=B1 j
 have hsd:=Nat.div_add_mod s (2^(j+2))
 have hr2:s%2^(j+2)%2=1:=by
  rw [hB,show 4*2^j=2*(2*2^j) by omega,Nat.mod_mul_right_mod]; exact hs
 have hrlt:=Nat.mod_lt s hBp
 generalize hq:s / 2^(j+2)=q at *
 generalize hr:s%2^(j+2)=r at *
 have hAB:2^(d+(j+2))=2^d*2^(j+2):=Axs 2 d (j+2)
 generalize hBB:2^(j+2)=b at *
 generalize hAA:2^d=a at *
 have e1:(s-1)*a=q*(a*b)+(r-1)*a:=by
  have:s-1=b*q+(r-1):=by omega
  rw [this,Ax7,Axr b q,Axu,Axr b a]
 have e2:(s+1)*a=q*(a*b)+(r+1)*a:=by
  have:s+1=b*q+(r+1):=by omega
  rw [this,Ax7,Axr b q,Axu,Axr b a]
 have e3:(r+1)*a≤b*a:=Axf a (by omega)
 rw [Axr b a] at e3
 rw [e1] at h1
 rw [e2] at h2
 have hdiv:V / (a*b)=q:=Nat.div_eq_of_lt_le (by omega) (by rw [Ax7]; omega)
 have hmod:V%(a*b)=V-q*(a*b):=by
  have:=Nat.div_add_mod V (a*b)
  rw [hdiv,Axr (a*b) q] at this; omega
 have hb2:b=2*(2*2^j):=by omega
 generalize hc:2^j=c at *
 have hR1:(r-1)*a<V-q*(a*b):=by omega
 have hR2:V-q*(a*b)<(r+1)*a:=by omega
 generalize hR:V-q*(a*b)=R at *
 have hab:a*b=2*(2*c*a):=by rw [hb2,Axr a,Axu]
 have key:(a*b<2*R∨(2*R=a*b∧q%2=1))↔(b<2*r∨(2*r=b∧q%2=1)):=by
  rw [hab,hb2]
  rcases Ax0 r (2*c) with hlt | hge
  ·have:(r+1)*a≤2*c*a:=Axf a (by omega)
   constructor<;>(intro h; omega)
  ·have hgt:2*c+1≤r:=by omega
   have:2*c*a≤(r-1)*a:=Axf a (by omega)
   constructor
   ·intro _; left; omega
   ·intro _; left; omega
 refine ⟨?_,?_,?_⟩
 ·unfold L8
  rw [hAB,hdiv,hmod,hBB,hq,hr]
  simp only [key]
 ·rw [hAB,hmod]
  have:=Nat.zero_le ((r-1)*a)
  omega
 ·omega
theorem Om {V s d:Nat} {E:Int} (hs:s%2=1) (h1:(s-1)*2^d<V) (h2:V<(s+1)*2^d) (hl:B7 V E=B7 s (E+d)) (hk:E+d+2≤B7 s (E+d)) :
 Bu V E=Bu s (E+d)∧flagsOf V E=flagsOf s (E+d):=by
 have hV:V≠0:=by omega
 have hs0:s≠0:=by omega
 generalize hL:B7 s (E+d)=L at *
 obtain ⟨k,hk2⟩:∃ k:Nat,L-(E+d)=k+2:=⟨(L-(E+d)-2).toNat,by omega⟩
 obtain ⟨a1,a2,a3⟩:=Akk (k:=k+2) hs h1 h2 (by omega)
 have e1:(L-E).toNat=d+(k+2):=by omega
 have e2:(-(L-E)).toNat=0:=by omega
 have e3:(L-(E+d)).toNat=k+2:=by omega
 have e4:(-(L-(E+d))).toNat=0:=by omega
 have hr:Bu V E=Bu s (E+d):=by
  unfold Bu kept I4
  rw [Axp hV,Axp hs0,hl,hL,e1,e2,e3,e4]
  simp only [Ax1,Ayc]
  rw [a1]
 refine ⟨hr,?_⟩
 unfold flagsOf exact K2
 rw [Axp hV,Axp hs0,hr,hl,hL,e1,e2,e3,e4]
 simp only [Ax1,Ayc,a2,a3,decide_false]
theorem Oy {V s d:Nat} (hs:s%2=1) (hs3:3≤s) (h1:(s-1)*2^d<V) (h2:V<(s+1)*2^d):V.log2=s.log2+d:=by
 have hs0:s≠0:=by omega
 have a1:=Nat.log2_self_le hs0
 have a2:=Nat.lt_log2_self (n:=s)
 have hl:1≤s.log2:=by rw [Nat.le_log2 hs0]; omega
 obtain ⟨t,ht⟩:∃ t,s.log2=t+1:=⟨s.log2-1,by omega⟩
 rw [ht] at a1 a2 ⊢
 have ev1:2^(t+1)=2*2^t:=by rw [Nat.pow_succ]; omega
 have ev2:2^(t+1+1)=2*(2*2^t):=by rw [Nat.pow_succ,ev1]; omega
 refine Ve ?_ ?_
 ·rw [Axs]
  have:2^(t+1)*2^d≤(s-1)*2^d:=Axf _ (by omega)
  omega
 ·have e:t+1+d+1=(t+1+1)+d:=by omega
  rw [e,Axs]
  have:(s+1)*2^d≤2^(t+1+1)*2^d:=Axf _ (by omega)
  omega
end Go.Rnd
namespace Go.Rnd
def B5 (b:Nat):Bool:=decide (2^63≤b)
def Df (b:Nat):Nat:=b / 2^52%2048
def Co (b:Nat):Nat:=b%2^52
def Ag (b:Nat):Nat:=if Df b=2047 then (if Co b=0 then 3 else 4) else if 0<Df b then 2 else if 0<Co b then 1 else 0
def Gg (b:Nat):Bool:=decide (Df b<2047)
def El (b:Nat):Nat:=if 2^63≤b then b-2^63 else b+2^63
def Am (b:Nat):Nat:=if Df b=0 then Co b else Co b+2^52
def As (b:Nat):Int:=if Df b=0 then -1074 else (Df b:Int)-1075
def Bv (neg:Bool) (r:Nat):Nat:=if neg then 2^63+r else r
def Hr (neg:Bool) (m:Nat):Int:=if neg then -(m:Int) else m
def Fq (b:Nat) (e:Int):Int:=Hr (B5 b) (Am b*2^(As b-e).toNat)
def Pe:Nat:=0x7ff8000000000000
def Jb (z:Nat) (S:Int) (e:Int):Nat × Nat :=
 if S=0 then (z,0) else (Bv (decide (S<0)) (Bu S.natAbs e),flagsOf S.natAbs e)
def Ff (a b:Nat):Nat × Nat :=
 if Ag a=4∨Ag b=4 then (Pe,0)
 else if Ag a=3 then (if Ag b=3∧a≠b then (Pe,16) else (a,0))
 else if Ag b=3 then (b,0)
 else Jb (Bv (B5 a&&B5 b) 0) (Fq a (min (As a) (As b))+Fq b (min (As a) (As b))) (min (As a) (As b))
def Ag8 (a b:Nat):Nat × Nat:=Ff a (El b)
def F4 (neg:Bool) (m:Nat) (e:Int) (more:Bool):Nat × Nat :=
 (Bv neg (Bu (4*m+more.toNat) (e-2)),flagsOf (4*m+more.toNat) (e-2))
def Dm (x:Int):Bool:=B5 x.toNat
def Kf (x:Int):Int:=Df x.toNat
def Cg (x:Int):Int:=Co x.toNat
def Av (x:Int):Int:=Ag x.toNat
def Cq (x:Int):Bool:=Gg x.toNat
def Dk (x:Int):Int:=El x.toNat
def Bc (x:Int):Int:=Am x.toNat
def A3 (x:Int):Int:=As x.toNat
def Ee (neg:Bool) (m e:Int) (more:Bool):Int:=(F4 neg m.toNat e more).1
def Ed (neg:Bool) (m e:Int) (more:Bool):Int:=(F4 neg m.toNat e more).2
def I8 (a b:Int):Int:=(Ff a.toNat b.toNat).1
def Uu (a b:Int):Int:=(Ff a.toNat b.toNat).2
def Dl (a b:Int):Int:=(Ag8 a.toNat b.toNat).1
def Auk (a b:Int):Int:=(Ag8 a.toNat b.toNat).2
theorem Ir (b:Nat):Df b<2048:=Nat.mod_lt _ (by decide)
theorem J8 (b:Nat):Co b<4503599627370496:=Nat.mod_lt _ (by decide)
theorem Ft (b:Nat):Am b<9007199254740992:=by
 have:=J8 b
 unfold Am; split<;>omega
theorem Ce (b:Nat):-1074≤As b∧As b≤972:=by
 have:=Ir b
 unfold As; split<;>omega
theorem Pl {m:Nat} {e:Int} (h1:2^52≤m) (h2:m<2^53) (he:-1074≤e):Bu m e=min ((e+1074).toNat*2^52+m) Eg:=by
 have hl:m.log2=52:=Ve h1 h2
 have hm:m≠0:=by omega
 have hle:B7 m e=e:=by unfold B7; rw [hl]; omega
 unfold Bu kept
 rw [Axp hm,hle,Int.sub_self]
 unfold I4
 simp [Mn]
theorem V3 {m:Nat} (h2:m<2^52):Bu m (-1074)=m:=by
 by_cases hm:m=0
 ·subst hm; rfl
 ·have hl:m.log2<52:=(Ayj hm).2 h2
  have hle:B7 m (-1074)=-1074:=by unfold B7; omega
  unfold Bu kept
  rw [Axp hm,hle,Int.sub_self]
  unfold I4 Eg
  simp [Mn]
  omega
theorem Rr (m:Nat) (e:Int):Bu m e≤Eg:=by
 unfold Bu
 split
 ·exact Nat.zero_le _
 ·exact Nat.min_le_right _ _
theorem Em:Eg=9218868437227405312:=rfl
theorem Hw (m:Nat) (e:Int):Bu m e<2^63:=by
 have:=Rr m e
 rw [Em] at this
 omega
theorem Rl (n:Bool) (m:Nat) (e:Int):Bv n (Bu m e)<2^64:=by
 have:=Hw m e
 unfold Bv; split<;>omega
theorem Qy {r:Nat} (h:r<2^63):El r=2^63+r:=by
 unfold El; rw [Axp (by omega)]; omega
end Go.Rnd
namespace Go.Rnd
open Go.Den
def Js (m e:Int):Bool:=Cw (0≤m∧m≤9007199254740992∧-1074≤e∧e+m / 9007199254740992≤100000)
def Nf (m e:Int):Nat:=if 9007199254740992≤m then 1 else if m<4503599627370496 then 2+(e+1074).toNat else 0
def Rx (n:Bool) (m e:Int):Int:=Bv n (Bu m.toNat e)
def D1 (m e:Int) (r:Bool):Bool :=
 Cw (0≤m∧m<18446744073709551616∧e≤50000∧(-1137≤e∨(m<4611686018427387904∧-1140≤e))∧(r=true→4503599627370496≤m∨e≤-1074))
def Fe (n D:Nat):Nat:=if n%2^D=0 then n / 2^D else 2*(n / 2^D / 2)+1
def Eo (m d:Int):Int:=Fe m.toNat (min d.toNat 63)
def Dh (l:List Int):Bool:=Cw (l.length<4611686018427387904∧∀ x∈l,Ah x=true)
def N8 (x:Int):Bool:=Cw (0≤x)
theorem Ou (n:Nat):N8 (n:Int)=true:=At.2 (Int.natCast_nonneg n)
theorem Wh {x:Int} (h:N8 x=true):∃ n:Nat,x=n:=⟨x.toNat,by have:=At.1 h; omega⟩
end Go.Rnd
namespace Go.Rnd
theorem Aun (a c:Nat):(a+1)*c+c=a*c+(c+c):=by rw [Ax7,Nat.one_mul,Nat.add_assoc]
theorem Atl:2^52+2^52=2^53:=by decide
theorem Aum (a:Nat):(a+1)*2^52+2^52=a*2^52+2^53:=(Aun a (2^52)).trans (congrArg (fun x=>a*2^52+x) Atl)
theorem Arc:2^52*2^1=2^53:=by decide
theorem Aoc {E:Int}:Bu (2^53) E=Bu (2^52) (E+1):=by
 have:=(Cp (2^52) 1 (E+1)).1
 have e1:E+1-((1:Nat):Int)=E:=by omega
 rw [e1,Arc] at this
 exact this
theorem Akf {E:Int} (hE:-1074≤E):Bu (2^53) E=min ((E+1074).toNat*2^52+2^53) Eg:=by
 have e3:(E+1+1074).toNat=(E+1074).toNat+1:=by omega
 rw [Aoc,Pl (by decide) (by decide) (by omega),e3]
 exact congrArg (fun x=>min x Eg) (Aum _)
theorem Aho {q:Nat} {E:Int} (h1:q≤2^53) (hE:-1074≤E) (h2:2^52≤q∨E=-1074):Bu q E=min ((E+1074).toNat*2^52+q) Eg:=by
 by_cases ha:q=2^53
 ·rw [ha]; exact Akf hE
 ·by_cases hb:2^52≤q
  ·exact Pl hb (by omega) hE
  ·obtain rfl:E=-1074:=h2.resolve_left hb
   rw [V3 (by omega)]
   unfold Eg
   simp
   omega
theorem Ahu {M D s:Nat} (hs:s≤1):L8 (4*M+s) (D+2)=M / 2^D+(if 0<D∧(2^(D-1)<M%2^D∨(M%2^D=2^(D-1)∧(s=1∨M / 2^D%2=1))) then 1 else 0) ∧
 ((4*M+s)%2^(D+2)=0↔M%2^D=0∧s=0):=by
 have hp:2^(D+2)=2^D*4:=by rw [Axs]
 have hA:=B1 D
 have hdm:=Nat.div_add_mod M (2^D)
 have hlt:=Nat.mod_lt M hA
 have hdiv:(4*M+s) / (2^D*4)=M / 2^D:=by
  rw [Axr (2^D) 4,← Axw]
  congr 1; omega
 have hmod:(4*M+s)%(2^D*4)=4*(M%2^D)+s:=by
  have h:=Nat.div_add_mod (4*M+s) (2^D*4)
  rw [hdiv] at h
  have e:2^D*4*(M / 2^D)=4*(2^D*(M / 2^D)):=by rw [Axr (2^D) 4,Axu]
  rw [e] at h
  omega
 unfold L8
 rw [hp,hdiv,hmod]
 generalize M%2^D=r at *
 generalize M / 2^D=q at *
 refine ⟨?_,by omega⟩
 congr 1
 have key:(2^D*4<2*(4*r+s)∨2*(4*r+s)=2^D*4∧q%2=1)↔(0<D∧(2^(D-1)<r∨(r=2^(D-1)∧(s=1∨q%2=1)))):=by
  cases D with
  | zero=>simp only [Ax1] at hlt ⊢; omega
  | succ d =>
    rw [Nat.pow_succ] at hlt ⊢
    simp only [Nat.add_sub_cancel]
    generalize 2^d=c at *
    omega
 simp only [key]
structure Drop (M:Nat) (e:Int) (D:Nat):Prop where
 le:D≤63
 stop:D<63→M / 2^D<2^53∧-1074≤e+D
 least:∀ d,d<D→2^53≤M / 2^d∨e+d < -1074
def qOf (M D s:Nat):Nat:=M / 2^D+(if 0<D∧(2^(D-1)<M%2^D∨(M%2^D=2^(D-1)∧(s=1∨M / 2^D%2=1))) then 1 else 0)
theorem Akn {M D s:Nat} (h:M / 2^D<2^53):qOf M D s≤2^53:=by
 unfold qOf; split<;>omega
theorem Ako {M D s:Nat}:M / 2^D≤qOf M D s:=by unfold qOf; omega
theorem Asn {M D:Nat} {c:Nat} (h:M / 2^D<c):M<c*2^D:=(Nat.div_lt_iff_lt_mul (B1 D)).1 h
theorem Alu {M D:Nat} {c:Nat} (h:c≤M / 2^D):c*2^D≤M:=(Nat.le_div_iff_mul_le (B1 D)).1 h
theorem Ws {V:Nat} {E L:Int} (h:(E+V.log2-52=L∧-1074≤L)∨(E+V.log2-52≤L∧L=-1074)):B7 V E=L:=by unfold B7; omega
theorem Aii {M s:Nat} (hs:s≤1) (hM:M≠0):(4*M+s).log2=M.log2+2:=by
 have h1:=Nat.log2_self_le hM
 have h2:=Nat.lt_log2_self (n:=M)
 refine Ve ?_ ?_
 ·rw [Axs]; omega
 ·have e:2^(M.log2+2+1)=2^(M.log2+1)*4:=by rw [show M.log2+2+1=M.log2+1+2 by omega,Axs]
  omega
theorem Ah8 {M D s:Nat} {e:Int} (hD:Drop M e D) (hs:s≤1) (hV:4*M+s≠0) (hM:M<2^64) (he:-1137≤e∨(M<2^62∧-1140≤e)) (hr:s=1→2^52≤M∨e≤-1074) :
 Bu (4*M+s) (e-2)=Bu (if e+D < -1074 then 0 else qOf M D s) (max (e+D) (-1074)) ∧
 flagsOf (4*M+s) (e-2)=flags (Bu (4*M+s) (e-2)) (decide (M%2^D=0∧s=0)) ∧
 (if e+D < -1074 then 0 else qOf M D s)≤2^53:=by
 have hA:=B1 D
 by_cases hlow:e+D < -1074
 ·
  have hD63:D=63:=by
   rcases Ax0 D 63 with h | h
   ·have:=(hD.stop h).2; omega
   ·have:=hD.le; omega
  subst hD63
  have hM62:M<2^62:=by rcases he with h | h; omega; exact h.1
  have he2:-1140≤e:=by rcases he with h | h; omega; exact h.2
  have hV64:4*M+s<2^64:=by omega
  have hlog:(4*M+s).log2<64:=(Ayj hV).2 hV64
  have hl:B7 (4*M+s) (e-2)=-1074:=Ws (.inr ⟨by omega,rfl⟩)
  obtain ⟨k,hk⟩:∃ k:Nat,(-1074-(e-2)).toNat=66+k:=⟨(-1074-(e-2)).toNat-66,by omega⟩
  have e2:(-(-1074-(e-2))).toNat=0:=by omega
  have hp:2^66≤2^(66+k):=Axi (by decide) (by omega)
  have hsm:4*M+s<2^(66+k):=by omega
  have hz:I4 (4*M+s) (-1074-(e-2))=0:=by
   unfold I4 L8
   rw [e2,hk,Ax1,Ayc,Nat.div_eq_of_lt hsm,Axg hsm,Axp (by omega)]
  have hru:Bu (4*M+s) (e-2)=0:=by
   unfold Bu kept
   rw [Axp hV,hl,hz]
   simp
  refine ⟨?_,?_,?_⟩
  ·rw [hru,Axq hlow]; rfl
  ·unfold flagsOf exact K2
   rw [Axp hV,hl,e2,hk,Ax1,Ayc,Axg hsm]
   congr 1
   have h63:M%2^63=M:=Axg (by omega)
   rw [h63,Axj]
   simp only [Axa]
   omega
  ·rw [Axq hlow]; exact Nat.zero_le _
 ·have hmax:max (e+D) (-1074)=e+D:=by omega
  have hq:M / 2^D<2^53:=by
   rcases Ax0 D 63 with h | h
   ·exact (hD.stop h).1
   ·have:D=63:=by have:=hD.le; omega
    subst this
    exact Ax5 (Nat.div_le_of_le_mul (show M≤2^63*2 by omega)) (by decide)
  obtain ⟨c1,c2⟩:=Ahu (M:=M) (D:=D) hs
  rw [Axp hlow,hmax]
  refine ⟨?_,?_,Akn hq⟩
  all_goals
   by_cases hD0:D=0∧s=0
   ·obtain ⟨rfl,rfl⟩:=hD0
    have hM0:M≠0:=by omega
    obtain ⟨s1,s2⟩:=Cp M 2 e
    have e1:M*2^2=4*M+0:=by omega
    have e2:e-((2:Nat):Int)=e-2:=by omega
    rw [e1,e2] at s1 s2
    have hq0:qOf M 0 0=M:=by unfold qOf; simp
    have hle:B7 M e≤e:=by
     have:M.log2<53:=(Ayj hM0).2 (by simpa using hq)
     unfold B7; simp only [Int.natCast_zero,Int.add_zero] at hlow; omega
    first
    | (rw [s1,hq0]; simp; done)
    | (rw [s2,s1]
       unfold flagsOf exact K2
       have z:(B7 M e-e).toNat=0:=by omega
       rw [Axp hM0,z]
       simp [Nat.mod_one])
   ·
    have hl:B7 (4*M+s) (e-2)=e+D:=by
     by_cases hM0:M=0
     ·subst hM0
      have hs1:s=1:=by omega
      subst hs1
      have hle:e+D=-1074:=by
       rcases Nat.eq_zero_or_pos D with rfl | hpos
       ·have:=hr rfl; omega
       ·have h:=hD.least (D-1) (by omega)
        simp only [Nat.zero_div] at h
        omega
      refine Ws (.inr ⟨?_,hle⟩)
      have:(4*0+1:Nat).log2=0:=by decide
      rw [this]; omega
     ·have hlog:=Aii hs hM0
      have hub:M.log2<53+D:=by
       rw [Ayj hM0,Axs]; exact Asn hq
      have hcase:52+D≤M.log2∨e+D=-1074:=by
       rcases Nat.eq_zero_or_pos D with rfl | hpos
       ·have hs1:s=1:=by omega
        rcases hr hs1 with h | h
        ·left; rw [Nat.le_log2 hM0]; simpa using h
        ·right; simp only [Int.natCast_zero,Int.add_zero] at hlow ⊢; omega
       ·rcases hD.least (D-1) (by omega) with h | h
        ·left
         rw [Nat.le_log2 hM0]
         have:=Alu h
         have e1:2^(52+D)=2^53*2^(D-1):=by rw [← Axs]; congr 1; omega
         rw [e1]; exact this
        ·right; omega
      refine Ws ?_
      rw [hlog]
      rcases hcase with h | h
      ·left; omega
      ·right; omega
    have e1:(e+D-(e-2)).toNat=D+2:=by omega
    have e2:(-(e+(D:Int)-(e-2))).toNat=0:=by omega
    have hkept:kept (4*M+s) (e-2)=qOf M D s:=by
     unfold kept I4
     rw [hl,e1,e2,Ax1,Ayc,c1]; rfl
    first
    | (have hbig:2^52≤qOf M D s∨e+D=-1074:=by
        rcases Nat.eq_zero_or_pos D with rfl | hpos
        ·have hs1:s=1:=by omega
         rcases hr hs1 with h | h
         ·left; exact Aya (by simpa using h) Ako
         ·right; simp only [Int.natCast_zero,Int.add_zero] at hlow ⊢; omega
        ·rcases hD.least (D-1) (by omega) with h | h
         ·left
          refine Aya ?_ Ako
          rw [Nat.le_div_iff_mul_le hA]
          have:=Alu h
          have e1:2^52*2^D=2^53*2^(D-1):=by rw [← Axs,← Axs]; congr 1; omega
          rw [e1]; exact this
         ·right; omega
       rw [Aho (Akn hq) (by omega) hbig]
       unfold Bu
       rw [Axp hV,hl,hkept]; done)
    | (unfold flagsOf exact K2
       rw [Axp hV,hl,e1,e2,Ax1,Ayc]
       congr 1
       rw [Axj]
       simp only [Axa]
       exact c2)
theorem Tj (n:Bool) {r:Nat} (h:r<2^63):Df (Bv n r)=r / 2^52:=by
 unfold Df Bv; cases n
 ·simp only [Bool.false_eq_true,if_false]; omega
 ·simp only [if_true]; omega
theorem Q3 (n:Bool) (r:Nat):Co (Bv n r)=r%2^52:=by
 unfold Co Bv; cases n
 ·rfl
 ·simp only [if_true]; omega
theorem Ain (n:Bool) {r:Nat} (h:r≤Eg):Ag (Bv n r)=if r=Eg then 3 else if 2^52≤r then 2 else if 0<r then 1 else 0:=by
 rw [Em] at *
 unfold Ag
 rw [Tj n (by omega),Q3]
 by_cases h1:r=9218868437227405312
 ·subst h1; simp
 ·rw [Axp h1,Axp (by omega)]
  by_cases h2:2^52≤r
  ·rw [Axq h2,Axq (by omega)]
  ·rw [Axp h2,Axp (by omega)]
   by_cases h3:0<r
   ·rw [Axq h3,Axq (by omega)]
   ·rw [Axp h3,Axp (by omega)]
end Go.Rnd
namespace Go.Rnd
open Ieee
theorem H3 (b:Nat):(Df b=2047∧Co b=0∧Ag b=3)∨(Df b=2047∧Co b≠0∧Ag b=4)∨(Df b<2047∧Ag b≠3∧Ag b≠4):=by
 have:=Ir b
 unfold Ag
 by_cases h1:Df b=2047
 ·by_cases h2:Co b=0<;>simp [h1,h2]
 ·refine .inr (.inr ⟨by omega,?_⟩)
  rw [Axp h1]
  split
  ·decide
  ·split<;>decide
theorem Nd (b:Nat):b%2^63=Df b*2^52+Co b:=by unfold Df Co; omega
def Yd (b:Nat):Datum:=if Ag b=4 then .nan (B5 b) (Co b) else if Ag b=3 then .infinity (B5 b) else .number (B5 b) (Am b) (As b)
theorem Af1 {b:Nat} (h:b<2^64):Ieee.double.read b=Yd b:=by
 unfold Format.read Yd
 have e0:Ieee.double.signWeight=2^63:=rfl
 have e1:Ieee.double.leastPlace=-1074:=by decide
 have e2:Ieee.double.binade=2^52:=rfl
 have e3:Ieee.double.infRung=Eg:=rfl
 have hn:(b / 2^63%2==1)=B5 b:=by
  unfold B5
  rw [Axj]
  simp only [beq_iff_eq,Axa]
  omega
 dsimp only
 rw [e0,e1,e2,e3,hn,Nd,Em]
 have hf:Co b<2^52:=J8 b
 rcases H3 b with ⟨h1,h2,h3⟩ | ⟨h1,h2,h3⟩ | ⟨h1,h2,h3⟩
 ·rw [Axp (by omega),Axp (by omega),Axq (by omega),Axp (by omega),Axq h3]
 ·rw [Axp (by omega),Axp (by omega),Axp (by omega),Axq h3]
  have e:Df b*2^52+Co b-9218868437227405312=Co b:=by omega
  rw [e]
 ·rw [Axp h3,Axp h2]
  by_cases h0:Df b=0
  ·rw [Axq (by omega)]
   unfold Am As
   rw [Axq h0,Axq h0,h0,Nat.zero_mul,Ayd]
  ·rw [Axp (by omega),Axq (by omega)]
   unfold Am As
   rw [Axp h0,Axp h0]
   have m1:(Df b*2^52+Co b)%2^52=Co b:=by omega
   have m2:(Df b*2^52+Co b) / 2^52=Df b:=by omega
   have e:(-1074:Int)+((Df b-1:Nat):Int)=(Df b:Int)-1075:=by omega
   rw [m1,m2,Nat.add_comm (2^52),e]
theorem Aa7 {b:Nat} (h:b<2^64) (h3:Ag b=3):Bv (B5 b) Eg=b:=by
 rcases H3 b with ⟨h1,h2,_⟩ | ⟨_,_,h4⟩ | ⟨_,h4,_⟩
 ·have e:=Nd b
  rw [h1,h2] at e
  rw [Em]
  unfold Bv B5
  by_cases hb:2^63≤b
  ·simp [hb]; omega
  ·simp [hb]; omega
 ·omega
 ·omega
theorem X6 (s:Bool) (m up:Nat):Ieee.signed s m up=Hr s (m*2^up):=by
 unfold Ieee.signed Hr
 rw [Nat.shiftLeft_eq]
theorem Tg {b:Nat} (h:Ag b=3):Yd b=.infinity (B5 b):=by unfold Yd; rw [Axp (by omega),Axq h]
theorem Tf {b:Nat} (h3:Ag b≠3) (h4:Ag b≠4):Yd b=.number (B5 b) (Am b) (As b):=by unfold Yd; rw [Axp h4,Axp h3]
theorem Am3 {a b:Nat} (h4:¬ (Ag a=4∨Ag b=4)) (h:Ag a=3):Ff a b=(if Ag b=3∧a≠b then (Pe,16) else (a,0)):=by unfold Ff; rw [Axp h4,Axq h]
theorem Ajc {a b:Nat} (h4:¬ (Ag a=4∨Ag b=4)) (h:Ag a≠3) (h':Ag b=3):Ff a b=(b,0):=by unfold Ff; rw [Axp h4,Axp h,Axq h']
theorem Sv {a b:Nat} (h4:¬ (Ag a=4∨Ag b=4)) (h:Ag a≠3) (h':Ag b≠3) :
 Ff a b=Jb (Bv (B5 a&&B5 b) 0) (Fq a (min (As a) (As b))+Fq b (min (As a) (As b))) (min (As a) (As b)):=by
 unfold Ff; rw [Axp h4,Axp h,Axp h']
theorem Lv {b:Nat} (h:b<2^64):B5 (El b)=!(B5 b)∧Df (El b)=Df b∧Co (El b)=Co b:=by
 unfold B5 Df Co El
 by_cases hb:2^63≤b
 ·rw [Axq hb]
  refine ⟨?_,by omega,by omega⟩
  have:¬ 2^63≤b-2^63:=by omega
  simp [hb,this]
 ·rw [Axp hb]
  refine ⟨?_,by omega,by omega⟩
  have:2^63≤b+2^63:=by omega
  simp [hb,this]
theorem Aem {b:Nat} (h:b<2^64):El b<2^64:=by unfold El; split<;>omega
end Go.Rnd
namespace Go.Rnd
open Ieee
theorem Th {V W k:Nat} (h:V≤W):L8 V k≤L8 W k:=by
 unfold L8
 have hA:=B1 k
 have hq:V / 2^k≤W / 2^k:=Nat.div_le_div_right h
 rcases Ax0 (V / 2^k) (W / 2^k) with h1 | h1
 ·split<;>split<;>omega
 ·have he:V / 2^k=W / 2^k:=by omega
  have v:=Nat.div_add_mod V (2^k)
  have w:=Nat.div_add_mod W (2^k)
  rw [he] at v ⊢
  have hr:V%2^k≤W%2^k:=by omega
  by_cases hc:2^k<2*(V%2^k)∨2*(V%2^k)=2^k∧W / 2^k%2=1
  ·have hc':2^k<2*(W%2^k)∨2*(W%2^k)=2^k∧W / 2^k%2=1:=by
    rcases hc with hc | ⟨hc,hd⟩
    ·exact .inl (by omega)
    ·rcases Ax0 (2^k) (2*(W%2^k)) with h2 | h2
     ·exact .inl h2
     ·exact .inr ⟨by omega,hd⟩
   rw [Axq hc,Axq hc']
   exact Axx _
  ·rw [Axp hc]
   exact Nat.le_add_right _ _
theorem Aoh {V c k:Nat} (h:V≤c*2^k):L8 V k≤c:=by
 have h1:=Th (k:=k) h
 have:L8 (c*2^k) k=c:=by
  have:=Ru c k 0
  rw [Ayb,Mn] at this
  exact this
 omega
theorem Aph {V c k:Nat} (h:c*2^k≤V):c≤L8 V k:=by
 have h1:=Th (k:=k) h
 have:L8 (c*2^k) k=c:=by
  have:=Ru c k 0
  rw [Ayb,Mn] at this
  exact this
 omega
theorem Ad8 {V W:Nat} {s:Int} (h:V≤W):I4 V s≤I4 W s:=Th (Axf _ h)
theorem Aev {V W:Nat} {E:Int} (hV:V≠0) (h:V≤W):B7 V E≤B7 W E:=by
 have:V.log2≤W.log2:=(Nat.le_log2 (by omega)).2 (Aya (Nat.log2_self_le hV) h)
 unfold B7; omega
theorem Api {V:Nat} {E:Int}:kept V E≤2^53:=by
 have hV:V<2^(V.log2+1):=Nat.lt_log2_self
 unfold kept I4
 refine Aoh ?_
 have hl:E+V.log2-52≤B7 V E:=by unfold B7; omega
 rw [← Axs]
 have h1:V*2^(-(B7 V E-E)).toNat≤2^(V.log2+1)*2^(-(B7 V E-E)).toNat:=Axf _ (Nat.le_of_lt hV)
 rw [← Axs] at h1
 exact Aya h1 (Axi (by decide) (by omega))
theorem Agk {V:Nat} {E:Int} (hV:V≠0) (hl:B7 V E=E+V.log2-52):2^52≤kept V E:=by
 have h1:2^V.log2≤V:=Nat.log2_self_le hV
 unfold kept I4
 refine Aph ?_
 rw [← Axs]
 have h2:2^V.log2*2^(-(B7 V E-E)).toNat≤V*2^(-(B7 V E-E)).toNat:=Axf _ h1
 rw [← Axs] at h2
 exact Aya (Axi (by decide) (by omega)) h2
theorem E0 {V W:Nat} {E:Int} (h:V≤W):Bu V E≤Bu W E:=by
 unfold Bu
 by_cases hV:V=0
 ·rw [Axq hV]; exact Nat.zero_le _
 ·have hW:W≠0:=by omega
  rw [Axp hV,Axp hW]
  have hl:=Aev (E:=E) hV h
  have key:(B7 V E+1074).toNat*2^52+kept V E≤(B7 W E+1074).toNat*2^52+kept W E:=by
   rcases Int.lt_or_eq_of_le hl with h1 | h1
   ·have hb:-1074≤B7 V E:=by unfold B7; omega
    have hn:B7 W E=E+W.log2-52:=by unfold B7 at h1 hb ⊢; omega
    have k1:=Api (V:=V) (E:=E)
    have k2:=Agk hW hn
    have h2:(B7 V E+1074).toNat+1≤(B7 W E+1074).toNat:=by omega
    have h3:((B7 V E+1074).toNat+1)*2^52≤(B7 W E+1074).toNat*2^52:=Axf _ h2
    rw [Ax7 (B7 V E+1074).toNat 1 (2^52),Nat.one_mul] at h3
    omega
   ·unfold kept
    rw [h1]
    exact Nat.add_le_add_left (Ad8 h) _
  omega
theorem Tc {b:Nat} (h4:Ag b≠4):Bu (Am b) (As b)=b%2^63:=by
 have hf:Co b<2^52:=J8 b
 have hr:=Nd b
 rw [hr]
 unfold Am As
 by_cases h0:Df b=0
 ·rw [Axq h0,Axq h0,V3 hf,h0,Nat.zero_mul,Ayd]
 ·rw [Axp h0,Axp h0,Pl (by omega) (by omega) (by omega),Em]
  have e:((Df b:Int)-1075+1074).toNat=Df b-1:=by omega
  rw [e]
  have h5:(Df b-1)*2^52+(Co b+2^52)=Df b*2^52+Co b:=by omega
  rw [h5]
  rcases H3 b with ⟨h1,h2,_⟩ | ⟨_,_,h⟩ | ⟨h1,_,_⟩
  ·rw [h1,h2]; decide
  ·exact absurd h h4
  ·omega
def Hg (b:Nat):Int:=Hr (B5 b) (b%2^63)
def Ei (b:Nat) (f:Int):Nat:=Am b*2^(As b-f).toNat
theorem J3 {b:Nat} {f:Int} (h4:Ag b≠4) (hf:f≤As b):Bu (Ei b f) f=b%2^63:=by
 rw [← Tc h4]
 have h:=(Cp (Am b) (As b-f).toNat (As b)).1
 have e:As b-((As b-f).toNat:Int)=f:=by omega
 rw [e] at h
 exact h
theorem Alb {a b:Nat} (h:a%2^63=b%2^63) (f:Int):Ei a f=Ei b f:=by
 have h1:Df a=Df b:=by unfold Df; omega
 have h2:Co a=Co b:=by unfold Co; omega
 unfold Ei Am As
 rw [h1,h2]
theorem Wm {a b:Nat} {f:Int} (ha:Ag a≠4) (hb:Ag b≠4) (hfa:f≤As a) (hfb:f≤As b):Ei a f<Ei b f↔a%2^63<b%2^63:=by
 constructor
 ·intro h
  have h1:=E0 (E:=f) (Nat.le_of_lt h)
  rw [J3 ha hfa,J3 hb hfb] at h1
  rcases Nat.lt_or_eq_of_le h1 with h2 | h2
  ·exact h2
  ·have:=Alb h2 f; omega
 ·intro h
  rcases Ax0 (Ei a f) (Ei b f) with h1 | h1
  ·exact h1
  ·have h1:=E0 (E:=f) h1
   rw [J3 ha hfa,J3 hb hfb] at h1
   omega
theorem Ab8 (b:Nat) (f:Int):Ei b f=0↔b%2^63=0:=by
 have hp:=B1 (As b-f).toNat
 unfold Ei
 rw [Nat.mul_eq_zero,Nd]
 have h1:¬ (2^(As b-f).toNat=0):=by omega
 have h2:Am b=0↔Df b*2^52+Co b=0:=by unfold Am; split<;>omega
 rw [h2]
 exact ⟨fun h=>h.resolve_right h1,.inl⟩
theorem Arv {s t:Bool} {m n m' n':Nat} (h1:m<n↔m'<n') (h2:n<m↔n'<m') (h3:m=0↔m'=0) (h4:n=0↔n'=0):Hr s m<Hr t n↔Hr s m'<Hr t n':=by
 unfold Hr
 cases s<;>cases t<;>simp<;>omega
theorem Aji {a b:Nat} {f:Int} (ha:Ag a≠4) (hb:Ag b≠4) (hfa:f≤As a) (hfb:f≤As b):Fq a f<Fq b f↔Hg a<Hg b :=
 Arv (Wm ha hb hfa hfb) (Wm hb ha hfb hfa) (Ab8 a f) (Ab8 b f)
theorem Aiz {x y x' y':Int} (h1:x<y↔x'<y') (h2:y<x↔y'<x'):compare x y=compare x' y':=by
 show compareOfLessAndEq x y=compareOfLessAndEq x' y'
 unfold compareOfLessAndEq
 by_cases h:x<y
 ·rw [Axq h,Axq (h1.1 h)]
 ·rw [Axp h,Axp (fun k=>h (h1.2 k))]
  by_cases e:x=y
  ·rw [Axq e,Axq (by omega)]
  ·rw [Axp e,Axp (by omega)]
theorem Asc {b:Nat} (h4:Ag b≠4):b%2^63≤Eg:=by
 rw [← Tc h4]; exact Rr _ _
theorem Nm {b:Nat} (h:Ag b=3):b%2^63=Eg:=by
 rw [Nd]
 rcases H3 b with ⟨h1,h2,_⟩ | ⟨_,_,h4⟩ | ⟨_,h4,_⟩
 ·rw [h1,h2]; rfl
 ·omega
 ·omega
theorem Sc {b:Nat} (h3:Ag b≠3) (h4:Ag b≠4):b%2^63<Eg:=by
 have hf:Co b<2^52:=J8 b
 rw [Nd,Em]
 rcases H3 b with ⟨_,_,h⟩ | ⟨_,_,h⟩ | ⟨h1,_,_⟩
 ·exact absurd h h3
 ·exact absurd h h4
 ·omega
theorem Ae9 {x y:Int} (h:x<y):compare x y=.lt:=by
 show compareOfLessAndEq x y=_; unfold compareOfLessAndEq; rw [Axq h]
theorem Afa {x y:Int} (h:y<x):compare x y=.gt:=by
 show compareOfLessAndEq x y=_; unfold compareOfLessAndEq; rw [Axp (by omega),Axp (by omega)]
theorem Ahz {a b:Nat} (ha:a<2^64) (hb:b<2^64) (a4:Ag a≠4) (b4:Ag b≠4):Ieee.double.order a b=some (compare (Hg a) (Hg b)):=by
 unfold Format.order
 rw [Af1 ha,Af1 hb]
 have hpos:0<Eg:=by decide
 by_cases a3:Ag a=3
 ·have ka:=Nm a3
  rw [Tg a3]
  by_cases b3:Ag b=3
  ·have kb:=Nm b3
   rw [Tg b3]
   show some (compare (B5 b).toNat (B5 a).toNat)=_
   unfold Hg
   rw [ka,kb]
   cases B5 a<;>cases B5 b<;>decide
  ·have kb:=Sc b3 b4
   rw [Tf b3 b4]
   show some (if B5 a then Ordering.lt else .gt)=_
   unfold Hg Hr
   rw [ka]
   cases B5 a
   ·rw [Afa (by simp; split<;>omega)]; rfl
   ·rw [Ae9 (by simp; split<;>omega)]; rfl
 ·have ka:=Sc a3 a4
  rw [Tf a3 a4]
  by_cases b3:Ag b=3
  ·have kb:=Nm b3
   rw [Tg b3]
   show some (if B5 b then Ordering.gt else .lt)=_
   unfold Hg Hr
   rw [kb]
   cases B5 b
   ·rw [Ae9 (by simp; split<;>omega)]; rfl
   ·rw [Afa (by simp; split<;>omega)]; rfl
  ·rw [Tf b3 b4]
   show some (compare (Ieee.signed _ _ _) (Ieee.signed _ _ _))=_
   rw [X6,X6]
   congr 1
   exact Aiz (Aji a4 b4 (Int.min_le_left _ _) (Int.min_le_right _ _)) (Aji b4 a4 (Int.min_le_right _ _) (Int.min_le_left _ _))
def Xk (S:Int) (f:Int):Int:=if S<0 then -(Bu S.natAbs f:Int) else Bu S.natAbs f
theorem Ad6 (S:Int) (k:Nat) (f:Int):Xk (S*((2^k:Nat):Int)) (f-k)=Xk S f:=by
 have hp:=B1 k
 have h0:S*((2^k:Nat):Int)<0↔S<0:=by
  constructor
  ·intro h
   rcases Int.lt_or_le S 0 with h1 | h1
   ·exact h1
   ·have:=Int.mul_nonneg h1 (Int.natCast_nonneg (2^k)); omega
  ·intro h
   exact Int.mul_neg_of_neg_of_pos h (by omega)
 unfold Xk
 rw [Int.natAbs_mul,Int.natAbs_natCast,(Cp S.natAbs k f).1]
 by_cases h:S<0
 ·rw [Axq h,Axq (h0.2 h)]
 ·rw [Axp h,Axp (fun k=>h (h0.1 k))]
theorem Wu (s:Bool) {r:Nat} (h:r<2^63):Hg (Bv s r)=Hr s r:=by
 unfold Hg Bv B5
 cases s
 ·have h1:¬ 2^63≤r:=by omega
  have h2:r%2^63=r:=Axg h
  simp only [Bool.false_eq_true,if_false,Aw8 h1,h2]
 ·have h1:2^63≤2^63+r:=by omega
  have h2:(2^63+r)%2^63=r:=by omega
  simp only [if_true,Aw4 h1,h2]
theorem Aio (s:Bool) (S f:Int):Hg (Jb (Bv s 0) S f).1=Xk S f:=by
 unfold Jb Xk
 by_cases h:S=0
 ·subst h
  have e:Bu (Int.natAbs 0) f=0:=Axq rfl
  rw [Axq rfl,e,Wu s (by decide)]
  cases s<;>rfl
 ·rw [Axp h]
  show Hg (Bv _ _)=_
  rw [Wu _ (Hw _ _)]
  unfold Hr
  by_cases h1:S<0
  ·rw [Axq h1,Aw4 h1,Axq rfl]
  ·rw [Axp h1,Aw8 h1,Axp (by decide)]
theorem Xx {b:Nat} {f g:Int} {k:Nat} (hk:g=f-k) (hf:f≤As b):Fq b g=Fq b f*((2^k:Nat):Int):=by
 unfold Fq
 have e:(As b-g).toNat=(As b-f).toNat+k:=by omega
 rw [e,Axs,← Axu]
 generalize Am b*2^(As b-f).toNat=m
 generalize 2^k=p
 unfold Hr
 cases B5 b
 ·exact Axo m p
 ·show -((m*p:Nat):Int)=-(m:Int)*(p:Int)
  rw [Axo,Int.neg_mul]
theorem Vq {a c:Nat} (a3:Ag a≠3) (a4:Ag a≠4) (c3:Ag c≠3) (c4:Ag c≠4) {g:Int} (hg:g≤min (As a) (As c)) :
 Hg (Ff a c).1=Xk (Fq a g+Fq c g) g:=by
 rw [Sv (fun h=>h.elim a4 c4) a3 c3,Aio]
 obtain ⟨k,hk⟩:∃ k:Nat,g=min (As a) (As c)-k:=⟨(min (As a) (As c)-g).toNat,by omega⟩
 rw [Xx (b:=a) hk (Int.min_le_left _ _),Xx (b:=c) hk (Int.min_le_right _ _),← Int.add_mul,hk,Ad6]
end Go.Rnd
namespace Go.Rnd
def N9 (a b:Nat):Nat × Nat :=
 if Ag a=4∨Ag b=4 then (Pe,0)
 else if Ag a=3∨Ag b=3 then (if Ag a=0∨Ag b=0 then (Pe,16) else (Bv (B5 a !=B5 b) Eg,0))
 else (Bv (B5 a !=B5 b) (Bu (Am a*Am b) (As a+As b)),flagsOf (Am a*Am b) (As a+As b))
def F3 (X Y K:Nat):Nat:=2*(X*2^K / Y)+(if X*2^K%Y=0 then 0 else 1)
def Xu (a b:Nat):Nat × Nat :=
 if Ag a=4∨Ag b=4 then (Pe,0)
 else if Ag a=Ag b∧(Ag a=3∨Ag a=0) then (Pe,16)
 else if Ag a=3 then (Bv (B5 a !=B5 b) Eg,0)
 else if Ag b=3∨Ag a=0 then (Bv (B5 a !=B5 b) 0,0)
 else if Ag b=0 then (Bv (B5 a !=B5 b) Eg,8)
 else (Bv (B5 a !=B5 b) (Bu (F3 (Am a) (Am b) 120) (As a-As b-121)),flagsOf (F3 (Am a) (Am b) 120) (As a-As b-121))
theorem Aej {V k:Nat} {E:Int} (hm:1≤V / 2^k) (hc:2^53≤V / 2^k∨E+k+1≤-1074) :
 Bu (4*(V / 2^k)+(if V%2^k=0 then 0 else 1)) (E+k-2)=Bu V E∧flagsOf (4*(V / 2^k)+(if V%2^k=0 then 0 else 1)) (E+k-2)=flagsOf V E:=by
 have hA:=B1 k
 have h1:=Nat.div_add_mod V (2^k)
 have h2:=Nat.mod_lt V hA
 generalize hq:V / 2^k=q at *
 generalize hr:V%2^k=r at *
 by_cases h0:r=0
 ·rw [Axq h0]
  obtain ⟨a1,a2⟩:=Cp q k (E+k)
  obtain ⟨b1,b2⟩:=Cp q 2 (E+k)
  have e1:E+(k:Int)-k=E:=by omega
  have e2:V=q*2^k:=by rw [Axr]; omega
  have e3:q*2^2=4*q+0:=by omega
  have e4:E+(k:Int)-((2:Nat):Int)=E+k-2:=by omega
  rw [e1,← e2] at a1 a2
  rw [e3,e4] at b1 b2
  rw [a1,a2,b1,b2]
  exact ⟨rfl,rfl⟩
 ·rw [Axp h0]
  obtain ⟨d,rfl⟩:∃ d,k=d+1:=by
   cases k with
   | zero=>simp only [Ax1] at h2; omega
   | succ d=>exact ⟨d,rfl⟩
  have hD:2^(d+1)=2*2^d:=by rw [Nat.pow_succ]; omega
  rw [hD] at h1 h2
  generalize hc2:2^d=c at *
  have p1:(2*q+1-1)*c=2*c*q:=by rw [Nat.add_sub_cancel,Axr,Nat.mul_left_comm,Axu]
  have p2:(2*q+1+1)*c=2*c*q+2*c:=by
   rw [show 2*q+1+1=2*(q+1) by omega,Axu,Ax7,Nat.mul_add,Axr q c,Axu]; omega
  have lt1:(2*q+1-1)*2^d<V:=by rw [hc2,p1]; omega
  have lt2:V<(2*q+1+1)*2^d:=by rw [hc2,p2]; omega
  have od:(2*q+1)%2=1:=by omega
  have lV:=Oy od (by omega) lt1 lt2
  have l4:(4*q+1).log2=(2*q+1).log2+1:=Oy (d:=1) od (by omega) (by omega) (by omega)
  have hs:(2*q+1).log2≥54∨E+d+2≤-1074:=by
   rcases hc with h | h
   ·left; rw [ge_iff_le,Nat.le_log2 (by omega)]; omega
   ·right; omega
  have hk:E+d+2≤B7 (2*q+1) (E+d):=by unfold B7; omega
  obtain ⟨a1,a2⟩:=Om (E:=E) od lt1 lt2 (by unfold B7; rw [lV]; omega) hk
  have ee:E+((d+1:Nat):Int)-2+((1:Nat):Int)=E+d:=by omega
  obtain ⟨b1,b2⟩:=Om (V:=4*q+1) (d:=1) (E:=E+((d+1:Nat):Int)-2) od (by omega) (by omega) (by unfold B7; rw [l4]; omega) (by rw [ee]; unfold B7; omega)
  rw [ee] at b1 b2
  rw [a1,a2,b1,b2]
  exact ⟨rfl,rfl⟩
theorem R7 (n:Bool) {V k:Nat} {E e:Int} {s:Bool} (he:e=E+k) (hs:s=decide (V%2^k≠0)) (hm:1≤V / 2^k) (hc:2^53≤V / 2^k∨E+k+1≤-1074) :
 F4 n (V / 2^k) e s=(Bv n (Bu V E),flagsOf V E):=by
 obtain ⟨a,b⟩:=Aej hm hc
 have e1:s.toNat=if V%2^k=0 then 0 else 1:=by
  rw [hs]
  by_cases h:V%2^k=0
  ·rw [Aw8 (by omega),Axq h]; rfl
  ·rw [Aw4 h,Axp h]; rfl
 unfold F4
 rw [he,e1,a,b]
theorem Vw {X Y K:Nat} (d:Nat) (E:Int) (hY:0<Y) (h:2^53≤X*2^K / Y) :
 Bu (F3 X Y (K+d)) (E-d)=Bu (F3 X Y K) E∧flagsOf (F3 X Y (K+d)) (E-d)=flagsOf (F3 X Y K) E:=by
 have hA:=B1 d
 unfold F3
 have e:X*2^(K+d)=X*2^K*2^d:=by rw [Axs,Axu]
 rw [e]
 generalize X*2^K=Z at *
 have h1:=Nat.div_add_mod Z Y
 have h2:=Nat.mod_lt Z hY
 by_cases h0:Z%Y=0
 ·obtain ⟨q,rfl⟩:=Nat.dvd_of_mod_eq_zero h0
  have e1:Y*q*2^d=Y*(q*2^d):=Axu _ _ _
  rw [e1,Nat.mul_mod_right,Nat.mul_mod_right,Nat.mul_div_cancel_left _ hY,Nat.mul_div_cancel_left _ hY,Axq rfl]
  have:=Cp (2*q+0) d E
  rw [show (2*q+0)*2^d=2*(q*2^d)+0 by rw [Ayb,Ayb,Axu]] at this
  exact this
 ·have h3:=Nat.div_add_mod (Z*2^d) Y
  have h4:=Nat.mod_lt (Z*2^d) hY
  rw [Axp h0]
  generalize hq:Z / Y=q at *
  generalize hr:Z%Y=r at *
  generalize hc:2^d=c at *
  have hz:Z*c=Y*(q*c)+r*c:=by rw [← h1,Ax7,Axu]
  have hrc:r*c<Y*c:=(Nat.mul_lt_mul_right hA).2 h2
  have hrc0:0<r*c:=Nat.mul_pos (by omega) hA
  have q1:q*c≤Z*c / Y:=by rw [Nat.le_div_iff_mul_le hY,Axr (q*c)]; omega
  have q2:Z*c / Y<(q+1)*c:=by
   rw [Nat.div_lt_iff_lt_mul hY,Ax7,Ax7,Nat.one_mul,Axr (q*c),Axr c Y]; omega
  have q3:Z*c / Y=q*c→Z*c%Y≠0:=fun h5 h6=>by rw [h5,h6] at h3; omega
  generalize hQ:Z*c / Y=Q at *
  have p1:(2*q+1-1)*c=2*(q*c):=by rw [Nat.add_sub_cancel,Axu]
  have p2:(2*q+1+1)*c=2*((q+1)*c):=by rw [show 2*q+1+1=2*(q+1) by omega,Axu]
  have od:(2*q+1)%2=1:=by omega
  generalize hV:2*Q+(if Z*c%Y=0 then 0 else 1)=V
  have v1:(2*q+1-1)*2^d<V:=by
   rw [hc,p1,← hV]
   by_cases h5:Q=q*c
   ·rw [Axp (q3 h5)]; omega
   ·split<;>omega
  have v2:V<(2*q+1+1)*2^d:=by
   rw [hc,p2,← hV]
   split<;>omega
  have lV:=Oy od (by omega) v1 v2
  have hs:54≤(2*q+1).log2:=by rw [Nat.le_log2 (by omega)]; omega
  have ee:E-(d:Int)+d=E:=by omega
  have:=Om (E:=E-d) od v1 v2 (by unfold B7; rw [lV]; omega) (by unfold B7; omega)
  rw [ee] at this
  exact this
theorem Adw {X Y K L:Nat} {E F:Int} (hY:0<Y) (h1:2^53≤X*2^K / Y) (h2:2^53≤X*2^L / Y) (he:E+K=F+L) :
 Bu (F3 X Y K) E=Bu (F3 X Y L) F∧flagsOf (F3 X Y K) E=flagsOf (F3 X Y L) F:=by
 rcases Nat.le_total K L with h | h
 ·obtain ⟨d,rfl⟩:=Nat.exists_eq_add_of_le h
  have:=Vw d E hY h1
  rw [show E-(d:Int)=F by omega] at this
  exact ⟨this.1.symm,this.2.symm⟩
 ·obtain ⟨d,rfl⟩:=Nat.exists_eq_add_of_le h
  have:=Vw d F hY h2
  rw [show F-(d:Int)=E by omega] at this
  exact this
theorem Adx (X Y a K:Nat):F3 (X*2^a) Y K=F3 X Y (K+a):=by
 unfold F3
 have:X*2^a*2^K=X*2^(K+a):=by rw [Axu,← Axs,Nat.add_comm a K]
 rw [this]
theorem Abf (X Y b K:Nat):F3 X (Y*2^b) (K+b)=F3 X Y K:=by
 have hp:=B1 b
 unfold F3
 have:X*2^(K+b)=X*2^K*2^b:=by rw [Axs,Axu]
 rw [this,Nat.mul_div_mul_right _ _ hp,Nat.mul_mod_mul_right]
 have:(X*2^K%Y*2^b=0)↔(X*2^K%Y=0):=by
  constructor
  ·intro h
   rcases Nat.mul_eq_zero.1 h with h | h
   ·exact h
   ·omega
  ·intro h; rw [h,Nat.zero_mul]
 simp only [this]
theorem Ary {X Y K t:Nat} (hX:0<X) (hY0:0<Y) (hY:Y<2^t) (hK:53+t≤K):2^53≤X*2^K / Y:=by
 rw [Nat.le_div_iff_mul_le hY0]
 have h1:2^53*Y≤2^53*2^t:=Nat.mul_le_mul_left _ (by omega)
 have h2:2^(53+t)≤2^K:=Axi (by decide) hK
 have h3:1*2^K≤X*2^K:=Axf _ (by omega)
 rw [Axs] at h2
 omega
theorem Ah9 (n:Bool) {X Y K:Nat} {e E:Int} {s:Bool} (hs:s=decide (X*2^K%Y≠0)) (he:E=e-1) (hq:2^53≤X*2^K / Y) :
 F4 n (X*2^K / Y) e s=(Bv n (Bu (F3 X Y K) E),flagsOf (F3 X Y K) E):=by
 have e1:F3 X Y K / 2^1=X*2^K / Y:=by
  unfold F3
  split<;>omega
 have e2:decide (F3 X Y K%2^1≠0)=decide (X*2^K%Y≠0):=by
  unfold F3
  by_cases h:X*2^K%Y=0
  ·rw [Axq h,Aw8 (by omega),Aw8 (by omega)]
  ·rw [Axp h,Aw4 (by omega),Aw4 h]
 have:=R7 n (V:=F3 X Y K) (k:=1) (E:=E) (e:=e) (s:=s) (by omega) (by rw [e2]; exact hs) (by omega) (.inl (by omega))
 rw [e1] at this
 exact this
end Go.Rnd
namespace Go.Rnd
open Go.Den
def E3:List Int→Nat
 | []=>0
 | x::l=>x.toNat+4294967296*E3 l
def digits:Nat→Nat→List Int
 | 0,_=>[]
 | k+1,v=>((v%4294967296:Nat):Int)::digits k (v / 4294967296)
def E5 (n:Nat):Nat:=if n=0 then 0 else n.log2 / 32+1
def O0 (n:Nat):List Int:=digits (E5 n) n
def A2 (v:Int):List Int:=O0 v.natAbs
def Ck (v:Int):Bool:=decide (v<0)
def wv (n:Bool) (l:List Int):Int:=Hr n (E3 l)
def inL (l:List Int):Prop:=∀ x∈l,0≤x∧x<4294967296
def Zz (l:List Int):Bool:=Cw (l.length<1073741824∧inL l)
def Xh (n:Bool) (l:List Int):Bool:=Cw (l.length<268435456∧l=O0 (E3 l)∧(n=true→l≠[]))
def okV (n:Bool) (l:List Int):Bool:=Cw (l.length<134217728∧l=O0 (E3 l)∧(n=true→l≠[]))
def Awk (k:Int):Bool:=Cw (-1000000≤k∧k≤1000000)
def Agl (k:Int):Bool:=Cw (-9223372036854775808≤k∧k≤9223372036854775807)
def O1 (l:List Int) (i:Int):Int:=if 0≤i then l.getD i.toNat 0 else 0
def Ls (v:Int) (j:Nat):Int:=Hr (Ck v) (v.natAbs / 2^j)
def Aad (v:Int):Int:=if v=0 then 0 else (v.natAbs.log2:Int)+1
def Ah0 (v:Int):Bool:=decide (v%2=1)
theorem two32:2^32=4294967296:=by decide
theorem Yf (k:Nat):2^(32*(k+1))=4294967296*2^(32*k):=by
 rw [Nat.mul_add,Ayc,Axs,Axr,two32]
theorem Hu:∀ (k v:Nat),(digits k v).length=k
 | 0,_=>rfl
 | k+1,v=>by rw [digits,List.length_cons,Hu k]
theorem Tx:∀ (k v:Nat),inL (digits k v)
 | 0,_=>fun x h=>by cases h
 | k+1,v=>fun x h=>by
   rw [digits,List.mem_cons] at h
   rcases h with rfl | h
   ·omega
   ·exact Tx k _ x h
theorem Oh:∀ (k v:Nat),E3 (digits k v)=v%2^(32*k)
 | 0,v=>by rw [digits,E3,Nat.mul_zero,Ax1,Nat.mod_one]
 | k+1,v=>by
   rw [digits,E3,Oh k,Aw5,Yf,Nat.mod_mul]
theorem Uz:∀ {l:List Int},inL l→E3 l<2^(32*l.length)
 | [],_=>by decide
 | x::l,h=>by
   have h1:=h x (Ayi ..)
   have h2:=Uz (l:=l) (fun y hy=>h y (Ax8 _ hy))
   rw [E3,List.length_cons,Yf]
   omega
theorem O7:∀ {l:List Int},inL l→digits l.length (E3 l)=l
 | [],_=>rfl
 | x::l,h=>by
   have h1:=h x (Ayi ..)
   have h2:=O7 (l:=l) (fun y hy=>h y (Ax8 _ hy))
   rw [E3,List.length_cons,digits]
   have e1:(x.toNat+4294967296*E3 l)%4294967296=x.toNat:=by omega
   have e2:(x.toNat+4294967296*E3 l) / 4294967296=E3 l:=by omega
   rw [e1,e2,h2]
   congr 1
   omega
theorem Vd (n:Nat):n<2^(32*E5 n):=by
 unfold E5
 by_cases h:n=0
 ·rw [Axq h,h]; decide
 ·rw [Axp h]
  exact Aye Nat.lt_log2_self (Axi (by decide) (by omega))
theorem Vg {n k:Nat} (h:n<2^(32*k)):E5 n≤k:=by
 unfold E5
 by_cases h0:n=0
 ·rw [Axq h0]; exact Nat.zero_le _
 ·rw [Axp h0]
  have:=(Ayj h0).2 h
  omega
theorem Ape {n k:Nat} (h:2^(32*k)≤n):k+1≤E5 n:=by
 have hp:=B1 (32*k)
 unfold E5
 rw [Axp (by omega)]
 have:=(Nat.le_log2 (by omega)).2 h
 omega
theorem Yr {n m:Nat} (h:n≤m):E5 n≤E5 m:=Vg (Ax5 h (Vd m))
theorem Qm (n:Nat):E3 (O0 n)=n:=by
 unfold O0
 rw [Oh,Axg (Vd n)]
theorem Hf (n:Nat):(O0 n).length=E5 n:=Hu _ _
theorem Ach (n:Nat):inL (O0 n):=Tx _ _
theorem W8:∀ (k v i:Nat),i<k→(digits k v).getD i 0=((v / 2^(32*i)%4294967296:Nat):Int)
 | k+1,v,0,_=>by rw [digits,List.getD_cons_zero,Nat.mul_zero,Ax1,Nat.div_one]
 | k+1,v,i+1,h=>by
   rw [digits,List.getD_cons_succ,W8 k _ i (by omega),Yf,Axw]
theorem P0 {l:List Int} (h:inL l) (i:Nat):l.getD i 0=((E3 l / 2^(32*i)%4294967296:Nat):Int):=by
 by_cases hi:i<l.length
 ·have:=W8 l.length (E3 l) i hi
  rw [O7 h] at this
  exact this
 ·have h1:=Uz h
  have h2:2^(32*l.length)≤2^(32*i):=Axi (by decide) (by omega)
  rw [Nat.div_eq_of_lt (by omega),Axd,Ayl (by omega)]
  rfl
theorem Q2 {l:List Int} (h:inL l) (i:Nat):O1 l (i:Int)=((E3 l / 2^(32*i)%4294967296:Nat):Int):=by
 unfold O1
 rw [Axq (by omega),Aw5,P0 h]
theorem Uo:∀ (k v:Nat),digits (k+1) v=digits k v++[((v / 2^(32*k)%4294967296:Nat):Int)]
 | 0,v=>by rw [digits,digits,digits,Nat.mul_zero,Ax1,Nat.div_one]; rfl
 | k+1,v=>by
   rw [digits,Uo k,Yf,← Axw]
   rfl
theorem Un:∀ (j k v:Nat),j≤k→(digits k v).take j=digits j v
 | 0,_,_,_=>by rw [List.take_zero,digits]
 | j+1,k+1,v,h=>by rw [digits,List.take_succ_cons,Un j k _ (by omega),digits]
theorem Aes {l:List Int} (h:inL l):l.take (E5 (E3 l))=O0 (E3 l):=by
 have h1:=Un (E5 (E3 l)) l.length (E3 l) (Vg (Uz h))
 rw [O7 h] at h1
 exact h1
theorem J6 {n:Nat} (h:n≠0):0<E5 n:=by unfold E5; rw [Axp h]; omega
theorem Re (v:Int):wv (Ck v) (A2 v)=v:=by
 unfold wv Ck A2 Hr
 rw [Qm]
 by_cases h:v<0
 ·rw [Aw4 h,Axq rfl]; omega
 ·rw [Aw8 h,Axp (by decide)]; omega
theorem Zy {l:List Int} (h:l.length<1073741824) (hi:inL l):Zz l=true:=At.2 ⟨h,hi⟩
theorem Af7 {l:List Int} (h:Zz l=true):l.length<1073741824∧inL l:=At.1 h
theorem Ac3 (v:Int):A2 v=O0 (E3 (A2 v))∧(Ck v=true→A2 v≠[]):=by
 unfold A2
 rw [Qm]
 refine ⟨rfl,fun h e=>?_⟩
 have h1:v<0:=Axt h
 have h2:=Hf v.natAbs
 rw [e] at h2
 have:=J6 (n:=v.natAbs) (by omega)
 rw [← h2] at this
 exact absurd this (by decide)
theorem Zx {v:Int} (h:E5 v.natAbs<268435456):Xh (Ck v) (A2 v)=true :=
 At.2 ⟨by unfold A2; rw [Hf]; exact h,Ac3 v⟩
theorem Ar4 {v:Int} (h:E5 v.natAbs<134217728):okV (Ck v) (A2 v)=true :=
 At.2 ⟨by unfold A2; rw [Hf]; exact h,Ac3 v⟩
theorem Ai3 {n:Bool} {l:List Int} (h1:l=O0 (E3 l)) (h2:n=true→l≠[]):n=Ck (wv n l)∧l=A2 (wv n l):=by
 have e:(wv n l).natAbs=E3 l:=by unfold wv Hr; split<;>omega
 refine ⟨?_,by unfold A2; rw [e]; exact h1⟩
 unfold Ck wv Hr
 cases n
 ·simp
 ·have h3:=h2 rfl
  have h4:E3 l≠0:=fun h=>by
   rw [h] at h1
   exact h3 h1
  simp; omega
theorem Pp {n:Bool} {l:List Int} (h:Xh n l=true):∃ v,n=Ck v∧l=A2 v∧E5 v.natAbs<268435456:=by
 obtain ⟨h0,h1,h2⟩:=At.1 h
 obtain ⟨e1,e2⟩:=Ai3 h1 h2
 refine ⟨_,e1,e2,?_⟩
 have:=congrArg length e2
 unfold A2 at this
 rw [Hf] at this
 omega
theorem Yk {v:Int} (h:E5 v.natAbs<1073741824):Zz (A2 v)=true :=
 Zy (by unfold A2; rw [Hf]; exact h) (Ach _)
theorem Jv (v:Int):E3 (A2 v)=v.natAbs:=Qm _
theorem D9 (v:Int):(A2 v).length=E5 v.natAbs:=Hf _
theorem Aq5 (n:Bool) (l:List Int):wv (!n) l=- wv n l:=by
 unfold wv Hr
 cases n<;>simp
theorem Pk (v:Int) (j:Nat):(Ls v j).natAbs=v.natAbs / 2^j:=by
 unfold Ls
 generalize v.natAbs / 2^j=m
 unfold Hr; split<;>omega
theorem U4 {v:Int} (h:v<0) (m:Nat):Hr (Ck v) m=-(m:Int):=by
 unfold Hr Ck; rw [Aw4 h,Axq rfl]
theorem U3 {v:Int} (h:¬ v<0) (m:Nat):Hr (Ck v) m=(m:Int):=by
 unfold Hr Ck; rw [Aw8 h,Axp (by decide)]
theorem An9 (v:Int) (i j:Nat):Ls (Ls v i) j=Ls v (i+j):=by
 have e:v.natAbs / 2^(i+j)=v.natAbs / 2^i / 2^j:=by rw [Axs,Axw]
 have h1:=Pk v i
 by_cases hv:v<0
 ·have h2:Ls v i=-((v.natAbs / 2^i:Nat):Int):=U4 hv _
  rw [show Ls v (i+j)=-((v.natAbs / 2^(i+j):Nat):Int) from U4 hv _,e]
  by_cases h0:v.natAbs / 2^i=0
  ·rw [h2,h0]
   show Ls 0 j=_
   rw [Nat.zero_div]
   show Hr (Ck 0) (0 / 2^j)=_
   rw [Nat.zero_div]; rfl
  ·have h3:Ls v i<0:=by omega
   rw [show Ls (Ls v i) j=-(((Ls v i).natAbs / 2^j:Nat):Int) from U4 h3 _,h1]
 ·have h2:Ls v i=((v.natAbs / 2^i:Nat):Int):=U3 hv _
  have h3:¬ Ls v i<0:=by omega
  rw [show Ls (Ls v i) j=(((Ls v i).natAbs / 2^j:Nat):Int) from U3 h3 _,h1,show Ls v (i+j)=((v.natAbs / 2^(i+j):Nat):Int) from U3 hv _,e]
theorem Aka (v:Int):Ls v 0=v:=by
 unfold Ls Hr Ck
 rw [Ax1,Nat.div_one]
 by_cases h:v<0
 ·rw [Aw4 h,Axq rfl]; omega
 ·rw [Aw8 h,Axp (by decide)]; omega
theorem Zu (j:Nat):Ls 0 j=0:=by
 unfold Ls
 rw [show (Int.natAbs 0)=0 from rfl,Nat.zero_div]
 rfl
theorem Ag0 {l:List Int} (h:inL l):E3 (l.drop 1)=E3 l / 4294967296:=by
 cases l with
 | nil=>rfl
 | cons x l =>
   have:=h x (Ayi ..)
   show E3 l=_
   rw [E3]; omega
theorem Alz {l:List Int} (h:inL l):inL (l.drop 1):=fun x hx=>h x (List.mem_of_mem_drop hx)
theorem Acd {n m:Nat} (h:2^m≤n):(n / 2^m).log2+m=n.log2:=by
 have hp:=B1 m
 have h0:n≠0:=by omega
 have hm:m≤n.log2:=(Nat.le_log2 h0).2 h
 have e:(n / 2^m).log2=n.log2-m:=by
  refine Ve ?_ ?_
  ·rw [Nat.le_div_iff_mul_le hp,← Axs]
   exact Aya (Axi (by decide) (by omega)) (Nat.log2_self_le h0)
  ·rw [Nat.div_lt_iff_lt_mul hp,← Axs]
   exact Aye Nat.lt_log2_self (Axi (by decide) (by omega))
 omega
end Go.Rnd
namespace Go.Rnd
open Go.Den
def Rh (n:Nat):Nat:=if h:n=0∨n%2=1 then 0 else Rh (n / 2)+1
termination_by n
decreasing_by omega
def mD (v:Int):Int:=Ls v (Rh v.natAbs)
def eD (v e:Int):Int:=if v=0 then 0 else e+Rh v.natAbs
def Ag5 (v e:Int):Int:=if v=0 then 0 else Aad v+e
def Aef (e:Int):Bool:=Cw (-2000000≤e∧e≤2000000)
def okE (e:Int):Bool:=Cw (-400000≤e∧e≤400000)
theorem Adn {n:Nat} (h:n=0∨n%2=1):Rh n=0:=by rw [Rh,dif_pos h]
theorem Afs {n:Nat} (h0:n≠0) (h:n%2=0):Rh n=Rh (n / 2)+1:=by rw [Rh,dif_neg (by omega)]
theorem Zi {n:Nat} (h:n≠0):∀ k,Rh (n*2^k)=k+Rh n
 | 0=>by rw [Ax1,Ayc,Ayd]
 | k+1=>by
   have hp:=B1 k
   have h1:n*2^k≠0:=by
    intro e
    rcases Nat.mul_eq_zero.1 e with e | e<;>omega
   have e:n*2^(k+1)=n*2^k*2:=by rw [Nat.pow_succ,Axu]
   rw [e,Afs (by omega) (by omega),Nat.mul_div_cancel _ (by decide),Zi h k]
   omega
theorem Afr (n:Nat) (h:n≠0):∃ m,n=m*2^Rh n∧m%2=1:=by
 induction n using Nat.strongRecOn with
 | _ n ih =>
   by_cases h2:n%2=1
   ·refine ⟨n,?_,h2⟩
    rw [Adn (.inr h2),Ax1,Ayc]
   ·obtain ⟨m,h3,h4⟩:=ih (n / 2) (by omega) (by omega)
    refine ⟨m,?_,h4⟩
    rw [Afs h (by omega),Nat.pow_succ,← Axu,← h3]
    omega
theorem Aqo {n:Nat} (h:n≠0):Rh n≤n.log2:=by
 obtain ⟨m,h1,h2⟩:=Afr n h
 refine (Nat.le_log2 h).2 ?_
 have:1*2^Rh n≤m*2^Rh n:=Axf _ (by omega)
 omega
theorem Yo {n:Nat}:n.log2<32*E5 n+1:=by
 unfold E5
 by_cases h:n=0
 ·rw [h]; decide
 ·rw [Axp h]; omega
theorem Ald {v:Int} {k:Nat} (h:v.natAbs%2^k=0):mD (Ls v k)=mD v:=by
 unfold mD
 by_cases h0:v=0
 ·rw [h0,Zu]
 ·have hp:=B1 k
  have hv:=Nat.div_add_mod v.natAbs (2^k)
  rw [h,Ayb,Axr] at hv
  have hq:v.natAbs / 2^k≠0:=by
   intro e; rw [e] at hv; omega
  have:=Zi hq k
  rw [hv] at this
  rw [Pk,An9,this]
theorem Amf {v e:Int} {k:Nat} (h:v.natAbs%2^k=0) (h0:v≠0):eD (Ls v k) (e+k)=eD v e:=by
 unfold eD
 have hp:=B1 k
 have hv:=Nat.div_add_mod v.natAbs (2^k)
 rw [h,Ayb,Axr] at hv
 have hq:v.natAbs / 2^k≠0:=by
  intro e; rw [e] at hv; omega
 have ht:=Zi hq k
 rw [hv] at ht
 have ha:=Pk v k
 rw [Axp h0,Axp (by omega),ha,ht]
 omega
theorem Ar8 {v:Int} (h:v%2=1):mD v=v:=by
 unfold mD
 rw [Adn (.inr (by omega)),Aka]
theorem Asl {v:Int} (h:v%2=1) (e:Int):eD v e=e:=by
 unfold eD
 rw [Adn (.inr (by omega)),Axp (by omega)]
 omega
theorem Agc (v:Int):v=mD v*((2^Rh v.natAbs:Nat):Int):=by
 by_cases h:v=0
 ·rw [h]
  show (0:Int)=Ls 0 _*_
  rw [Zu,Int.zero_mul]
 ·obtain ⟨m,h1,h2⟩:=Afr v.natAbs (by omega)
  have hp:=B1 (Rh v.natAbs)
  have hq:v.natAbs / 2^Rh v.natAbs=m:=Nat.div_eq_of_eq_mul_left hp h1
  unfold mD Ls
  rw [hq]
  by_cases hv:v<0
  ·rw [U4 hv,Int.neg_mul,← Axo,← h1]; omega
  ·rw [U3 hv,← Axo,← h1]; omega
theorem Vc {v:Int}:mD v=0↔v=0:=by
 constructor
 ·intro h
  have:=Agc v
  rw [h,Int.zero_mul] at this
  exact this
 ·intro h
  rw [h]
  exact Zu _
theorem Aid (v:Int):(mD v).natAbs≤v.natAbs:=by
 unfold mD
 rw [Pk]
 exact Nat.div_le_self _ _
end Go.Rnd
namespace Go.Rnd
open Go.Den
def Af (l:List Int):Bool:=Cw (∀ x∈l,Ah x=true)
def Hb (x:Int):Int:=Hr (B5 x.toNat) (Am x.toNat)
def Qb (n:Bool) (b:Int):Int:=if n then Dk b else b
end Go.Rnd
namespace Go.Rnd
open Go.Den
theorem Adi (s:Bool) {q:Nat} {L:Int} (hq:q<2^53) (hL:-1074≤L) (h:2^52≤q∨L=-1074) (hr:(L+1074).toNat*2^52+q<Eg) :
 Am (Bv s ((L+1074).toNat*2^52+q))=q∧As (Bv s ((L+1074).toNat*2^52+q))=L:=by
 rw [Em] at hr
 obtain ⟨t,ht⟩:∃ t:Nat,L=t-1074:=⟨(L+1074).toNat,by omega⟩
 have et:(L+1074).toNat=t:=by omega
 rw [et] at hr ⊢
 have hp:=Tj s (r:=t*2^52+q) (by omega)
 have hf:=Q3 s (t*2^52+q)
 unfold Am As
 by_cases h52:2^52≤q
 ·have e1:Df (Bv s (t*2^52+q))=t+1:=by rw [hp]; omega
  rw [e1,hf,Axp (by omega),Axp (by omega)]
  omega
 ·have t0:t=0:=by omega
  subst t0
  have e1:Df (Bv s (0*2^52+q))=0:=by rw [hp]; omega
  rw [e1,hf,Axq rfl,Axq rfl]
  omega
theorem sign_neg (s:Bool) {r:Nat} (h:r<2^63):B5 (Bv s r)=s:=by
 unfold B5 Bv
 cases s
 ·simp only [Bool.false_eq_true,if_false,Axm]; omega
 ·simp only [if_true,Axa]; omega
theorem W4 (s:Bool) {V:Nat} {E:Int} (h0:V≠0) (hE:B7 V E≤E) (hi:Bu V E<Eg) :
 flagsOf V E=0∧∃ k:Nat,Am (Bv s (Bu V E))=V*2^k∧As (Bv s (Bu V E))=E-k:=by
 have hl2:V.log2=V.log2:=rfl
 have ek:kept V E=V*2^(E-B7 V E).toNat:=by
  unfold kept I4
  have e1:(B7 V E-E).toNat=0:=by omega
  have e2:(-(B7 V E-E)).toNat=(E-B7 V E).toNat:=by omega
  rw [e1,e2,Mn]
 have eex:exact V E=true:=by
  unfold exact K2
  have e1:(B7 V E-E).toNat=0:=by omega
  rw [e1,Ax1,Nat.mod_one]; rfl
 constructor
 ·unfold flagsOf flags
  rw [Axp h0,Axp (by omega),eex]; rfl
 ·have hr:Bu V E=(B7 V E+1074).toNat*2^52+kept V E:=by
   unfold Bu at hi ⊢
   rw [Axp h0] at hi ⊢
   omega
  have hk:kept V E<2^53:=by
   rw [ek,← Ayj (Lb h0),Oz V _ h0]
   unfold B7 at hE ⊢
   omega
  have hb:2^52≤kept V E∨B7 V E=-1074:=by
   by_cases h:B7 V E=-1074
   ·exact .inr h
   ·left
    refine Agk h0 ?_
    unfold B7 at h ⊢
    omega
  rw [hr] at hi
  obtain ⟨p1,p2⟩:=Adi s hk (by unfold B7; omega) hb hi
  refine ⟨(E-B7 V E).toNat,?_,?_⟩
  ·rw [hr,p1,ek]
  ·rw [hr,p2]; omega
theorem Uj {V:Nat} {E:Int} (h:V<2^53) (hE:-1074≤E):B7 V E≤E:=by
 by_cases h0:V=0
 ·subst h0; unfold B7; rw [Nat.log2_zero]; omega
 ·have:=(Ayj h0).2 h
  unfold B7; omega
end Go.Rnd
namespace Go.Rnd
open Go.Den
def Ef (x:Int):Int:=if x=0 then 0 else (x.toNat.log2:Int)+1
def Qe (x y:Int):Int:=((x.toNat*y.toNat / 18446744073709551616:Nat):Int)
def Lu (x y:Int):Int:=((x.toNat*y.toNat%18446744073709551616:Nat):Int)
def Ak4 (a b:Int):Bool:=decide (Av a=4)||decide (Av b=4)
def Bx (b:Nat):Nat:=52-(Am b).log2
def Cj (b:Int):Int:=((Am b.toNat*2^Bx b.toNat:Nat):Int)
def Gs (b:Int):Int:=As b.toNat-Bx b.toNat
def Kt (b:Int):Bool:=Cw (Am b.toNat≠0)
def M7 (m e:Int):Bool:=Cw (1152921504606846976≤m∧m<4611686018427387904∧-6000≤e∧e≤6000)
def Eh (a b:Int):Int:=(N9 a.toNat b.toNat).1
def Aur (a b:Int):Int:=(N9 a.toNat b.toNat).2
def Fp (a b:Int):Int:=(Xu a.toNat b.toNat).1
def Au0 (a b:Int):Int:=(Xu a.toNat b.toNat).2
end Go.Rnd
namespace Go.Rnd
theorem Ajd (a b:Nat):Ff a b=Ff b a:=by
 unfold Ff
 by_cases ha:Ag a=4
 ·simp only [ha,true_or,or_true,if_true]
 ·by_cases hb:Ag b=4
  ·simp only [hb,true_or,or_true,if_true]
  ·simp only [ha,hb,or_self,if_false]
   by_cases ha3:Ag a=3
   ·by_cases hb3:Ag b=3
    ·simp only [ha3,hb3,if_true,true_and]
     by_cases e:a=b
     ·subst e; rfl
     ·rw [Axq e,Axq (fun h=>e h.symm)]
    ·simp only [ha3,hb3,if_true,if_false,false_and]
   ·by_cases hb3:Ag b=3
    ·simp only [ha3,hb3,if_true,if_false,false_and]
    ·simp only [ha3,hb3,if_false]
     rw [Bool.and_comm,Int.min_comm,Int.add_comm]
theorem Abq {Y D:Nat} (h:Y%2^D=0):Fe Y D=Y / 2^D:=by unfold Fe; rw [Axq h]
theorem Ad7 {Y D:Nat} (h:Y%2^D≠0):Fe Y D%2=1:=by unfold Fe; rw [Axp h]; omega
theorem Abr {Y d:Nat} (hY:Y<2^62) (h:Y%2^d≠0):(Fe Y (min d 63)-1)*2^d<Y∧Y<(Fe Y (min d 63)+1)*2^d∧Fe Y (min d 63)%2=1:=by
 have hA:=B1 d
 by_cases hd:d≤63
 ·rw [Nat.min_eq_left hd]
  refine ⟨?_,?_,Ad7 h⟩
  all_goals
   unfold Fe
   rw [Axp h]
   have h1:=Nat.div_add_mod Y (2^d)
   have h2:=Nat.mod_lt Y hA
   generalize Y / 2^d=q at *
   generalize Y%2^d=r at *
   generalize 2^d=c at *
   rw [Axr] at h1
  ·have h3:(2*(q / 2)+1-1)*c≤q*c:=Axf c (by omega)
   omega
  ·have h3:(q+1)*c≤(2*(q / 2)+1+1)*c:=Axf c (by omega)
   rw [Ax7,Nat.one_mul] at h3
   omega
 ·rw [Nat.min_eq_right (by omega)]
  have h63:Y%2^63=Y:=Axg (by omega)
  have hd0:Y / 2^63=0:=Nat.div_eq_of_lt (by omega)
  have hY0:Y≠0:=by intro e; rw [e] at h; simp at h
  have hr:Fe Y 63=1:=by unfold Fe; rw [h63,Axp hY0,hd0]
  have hp:2^62≤2^d:=Axi (by decide) (by omega)
  rw [hr]
  refine ⟨by simp; omega,by omega,rfl⟩
theorem Awi {d M:Nat} (h:(M*2^9)%2^d≠0):10≤d:=by
 refine Nat.lt_of_not_le fun hle=>h ?_
 obtain ⟨k,hk⟩:∃ k,9=d+k:=⟨9-d,by omega⟩
 rw [hk,Axs,Axr (2^d),← Axu,Nat.mul_mod_left]
theorem M5 {V m d:Nat} {e f:Int} (hd:e=f+d) (h:V=m*2^d∨(m%2=1∧(m-1)*2^d<V∧V<(m+1)*2^d∧2^60≤m)) :
 Bu m (e-9)=Bu V (f-9)∧flagsOf m (e-9)=flagsOf V (f-9):=by
 rcases h with rfl | ⟨h1,h2,h3,h4⟩
 ·have:=Cp m d (e-9)
  have e1:e-9-(d:Int)=f-9:=by omega
  rw [e1] at this
  exact ⟨this.1.symm,this.2.symm⟩
 ·have hm0:m≠0:=by omega
  have hlog:=Oy h1 (by omega) h2 h3
  have hl60:60≤m.log2:=(Nat.le_log2 hm0).2 h4
  have e1:f-9+(d:Int)=e-9:=by omega
  have hle:B7 V (f-9)=B7 m (f-9+d):=by unfold B7; rw [hlog]; congr 1; omega
  have hk:f-9+d+2≤B7 m (f-9+d):=by unfold B7; omega
  obtain ⟨a1,a2⟩:=Om h1 h2 h3 hle hk
  rw [e1] at a1 a2
  exact ⟨a1.symm,a2.symm⟩
theorem Ad0 (V:Nat) (f:Int):Bu (V*2^9) (f-9)=Bu V f∧flagsOf (V*2^9) (f-9)=flagsOf V f:=Cp V 9 f
structure Aqm (Mx My d:Nat) (e f:Int) (X r:Nat):Prop where
 plus:Bu (X+r) (e-9)=Bu (Mx*2^d+My) f∧flagsOf (X+r) (e-9)=flagsOf (Mx*2^d+My) f
 less:r<X→My<Mx*2^d∧Bu (X-r) (e-9)=Bu (Mx*2^d-My) f∧flagsOf (X-r) (e-9)=flagsOf (Mx*2^d-My) f
 more:X<r→Mx*2^d<My∧Bu (r-X) (e-9)=Bu (My-Mx*2^d) f∧flagsOf (r-X) (e-9)=flagsOf (My-Mx*2^d) f
 same:X=r→Mx*2^d=My
 small:r≤2^62
theorem Aqh {X My r d p:Nat} {e f:Int} (hd:e=f+d) (comm:X*2^d=p*2^9) (n1:(r-1)*2^d<My*2^9) (n2:My*2^9<r*2^d+2^d) (n3:r%2=1) (hX2:X%2=0) (hX:2^61≤X) (hr:r≤2^53) :
 (Bu (X+r) (e-9)=Bu (p+My) f∧flagsOf (X+r) (e-9)=flagsOf (p+My) f)∧My<p∧Bu (X-r) (e-9)=Bu (p-My) f∧flagsOf (X-r) (e-9)=flagsOf (p-My) f:=by
 have e1:(r-1)*2^d+2^d=r*2^d:=by
  obtain ⟨k,rfl⟩:∃ k,r=k+1:=⟨r-1,by omega⟩
  rw [Nat.add_sub_cancel,Ax7,Nat.one_mul]
 have e2:(r+1)*2^d=r*2^d+2^d:=by rw [Ax7,Nat.one_mul]
 have hXd:(r+1)*2^d≤X*2^d:=Axf _ (by omega)
 have hlt:My<p:=by rw [e2,comm] at hXd; omega
 have a1:Bu (X+r) (e-9)=Bu ((p+My)*2^9) (f-9)∧flagsOf (X+r) (e-9)=flagsOf ((p+My)*2^9) (f-9):=by
  refine M5 hd (.inr ⟨by omega,?_,?_,by omega⟩)
  ·have h1:X+r-1=X+(r-1):=by omega
   rw [h1,Ax7 X (r-1) (2^d),Ax7 p My (2^9),comm]
   exact Nat.add_lt_add_left n1 _
  ·have h1:X+r+1=X+(r+1):=by omega
   rw [h1,Ax7 X (r+1) (2^d),Ax7 p My (2^9),comm,e2]
   exact Nat.add_lt_add_left n2 _
 have a2:Bu (X-r) (e-9)=Bu ((p-My)*2^9) (f-9)∧flagsOf (X-r) (e-9)=flagsOf ((p-My)*2^9) (f-9):=by
  rw [e2,comm] at hXd
  refine M5 hd (.inr ⟨by omega,?_,?_,by omega⟩)
  ·have h1:X-r-1=X-(r+1):=by omega
   rw [h1,Nat.sub_mul X (r+1) (2^d),Nat.sub_mul p My (2^9),comm,e2]
   omega
  ·have h1:X-r+1=X-(r-1):=by omega
   rw [h1,Nat.sub_mul X (r-1) (2^d),Nat.sub_mul p My (2^9),comm]
   omega
 rw [(Ad0 _ f).1,(Ad0 _ f).2] at a1 a2
 exact ⟨a1,hlt,a2⟩
theorem Adb {Mx My d:Nat} {e f:Int} (hd:e=f+d) (hx:Mx<2^53) (hy:My<2^53) (hbig:10≤d→2^52≤Mx) :
 Aqm Mx My d e f (Mx*2^9) (Fe (My*2^9) (min d 63)):=by
 have hA:=B1 d
 have hY:My*2^9<2^62:=by omega
 have comm:Mx*2^9*2^d=Mx*2^d*2^9:=by rw [Axu,Axr (2^9),← Axu]
 have s9:=fun V=>Ad0 V f
 by_cases hz:(My*2^9)%2^d=0
 ·
  have hr:∃ r,Fe (My*2^9) (min d 63)=r∧My*2^9=r*2^d:=by
   by_cases hd63:d≤63
   ·rw [Nat.min_eq_left hd63]
    exact ⟨_,rfl,by rw [Abq hz]; exact (Nat.div_mul_cancel (Nat.dvd_of_mod_eq_zero hz)).symm⟩
   ·have hp:2^62≤2^d:=Axi (by decide) (by omega)
    have:My*2^9=0:=by rw [Axg (by omega)] at hz; exact hz
    rw [Nat.min_eq_right (by omega),this]
    exact ⟨0,by decide,by omega⟩
  obtain ⟨r,hr,hYr⟩:=hr
  rw [hr]
  have hle:r≤2^62:=by
   have:r*1≤r*2^d:=Nat.mul_le_mul_left r hA
   omega
  have cmp:∀ x y:Nat,x*2^d<y*2^d↔x<y:=fun x y=>Nat.mul_lt_mul_right hA
  refine ⟨?_,fun h=>?_,fun h=>?_,fun h=>?_,hle⟩
  ·rw [← (s9 _).1,← (s9 _).2]
   exact M5 hd (.inl (by rw [Ax7 (Mx*2^d) My (2^9),Ax7 (Mx*2^9) r (2^d),comm,hYr]))
  ·have h1:=(cmp r (Mx*2^9)).2 h
   refine ⟨by omega,?_⟩
   rw [← (s9 _).1,← (s9 _).2]
   exact M5 hd (.inl (by first | rw [Nat.sub_mul (Mx*2^d) My (2^9),Nat.sub_mul (Mx*2^9) r (2^d),comm,hYr] | rw [Nat.sub_mul My (Mx*2^d) (2^9),Nat.sub_mul r (Mx*2^9) (2^d),comm,hYr]))
  ·have h1:=(cmp (Mx*2^9) r).2 h
   refine ⟨by omega,?_⟩
   rw [← (s9 _).1,← (s9 _).2]
   exact M5 hd (.inl (by first | rw [Nat.sub_mul (Mx*2^d) My (2^9),Nat.sub_mul (Mx*2^9) r (2^d),comm,hYr] | rw [Nat.sub_mul My (Mx*2^d) (2^9),Nat.sub_mul r (Mx*2^9) (2^d),comm,hYr]))
  ·rw [← h] at hYr
   omega
 ·
  have hd10:=Awi hz
  have hMx:=hbig hd10
  obtain ⟨n1,n2,n3⟩:=Abr hY hz
  have hrle:Fe (My*2^9) (min d 63)≤2^53:=by
   refine Nat.le_of_not_lt fun h=>?_
   have h1:2^53*2^d≤(Fe (My*2^9) (min d 63)-1)*2^d:=Axf _ (by omega)
   have h2:2^10≤2^d:=Axi (by decide) hd10
   have h3:2^53*2^10≤2^53*2^d:=Nat.mul_le_mul_left _ h2
   omega
  generalize Fe (My*2^9) (min d 63)=r at *
  have hr1:1≤r:=by omega
  have e1:(r-1)*2^d+2^d=r*2^d:=by
   obtain ⟨k,rfl⟩:∃ k,r=k+1:=⟨r-1,by omega⟩
   rw [Nat.add_sub_cancel,Ax7,Nat.one_mul]
  have e2:(r+1)*2^d=r*2^d+2^d:=by rw [Ax7,Nat.one_mul]
  rw [e2] at n2
  have hXr:r<Mx*2^9:=by omega
  have hXd:(r+1)*2^d≤Mx*2^9*2^d:=Axf _ (by omega)
  rw [e2,comm] at hXd
  obtain ⟨p1,p2,p3⟩:=Aqh hd comm n1 n2 n3 (by omega) (by omega) hrle
  exact ⟨p1,fun _=>⟨p2,p3⟩,fun h=>by omega,fun h=>by omega,by omega⟩
theorem Ue (n:Bool) (m:Nat) (e:Int):F4 n m e false=(Bv n (Bu m e),flagsOf m e):=by
 unfold F4
 have:=Cp m 2 e
 have e1:m*2^2=4*m+false.toNat:=by simp; omega
 have e2:e-((2:Nat):Int)=e-2:=by omega
 rw [e1,e2] at this
 rw [this.1,this.2]
theorem Ya (E:Int):Bu 0 E=0:=Axq rfl
theorem Sg (E:Int):flagsOf 0 E=0:=Axq rfl
theorem Fv {b:Nat} (h:Gg b=true):Ag b≠4∧Ag b≠3:=by
 unfold Gg at h
 simp only [Axa] at h
 unfold Ag
 rw [Axp (by omega)]
 split
 ·omega
 ·split<;>omega
theorem Yi {b:Nat} (h:-1064≤As b):2^52≤Am b:=by
 unfold As at h
 unfold Am
 split at h
 ·omega
 ·rw [Axp (by assumption)]; omega
theorem Qq (z:Nat) (s:Bool) {V:Nat} (hV:V≠0) (f:Int):Jb z (Hr s V) f=(Bv s (Bu V f),flagsOf V f):=by
 unfold Jb Hr
 cases s
 ·have h1:¬ (V:Int)=0:=by omega
  have h2:¬ (V:Int)<0:=by omega
  simp only [Bool.false_eq_true,if_false,h1,h2,decide_false,Int.natAbs_natCast]
 ·have h1:¬ -(V:Int)=0:=by omega
  have h2:-(V:Int)<0:=by omega
  simp only [if_true,h1,if_false,h2,decide_true,Int.natAbs_neg,Int.natAbs_natCast]
theorem Aqj {p q X r:Nat} {e f:Int} (s t:Bool)
 (plus:Bu (X+r) e=Bu (p+q) f∧flagsOf (X+r) e=flagsOf (p+q) f)
 (less:r<X→q<p∧Bu (X-r) e=Bu (p-q) f∧flagsOf (X-r) e=flagsOf (p-q) f)
 (more:X<r→p<q∧Bu (r-X) e=Bu (q-p) f∧flagsOf (r-X) e=flagsOf (q-p) f)
 (same:X=r→p=q) :
 Jb (Bv (s&&t) 0) (Hr s p+Hr t q) f=(if s=t then F4 s (X+r) e false
  else if r<X then F4 s (X-r) e false
  else if X<r then F4 t (r-X) e false
  else (0,0)):=by
 simp only [Ue]
 by_cases hs:s=t
 ·rw [Axq hs,← hs]
  have hsum:Hr s p+Hr s q=Hr s (p+q):=by unfold Hr; cases s<;>simp<;>omega
  rw [hsum,plus.1,plus.2]
  by_cases h0:p+q=0
  ·rw [h0,Ya,Sg]
   unfold Jb
   have:Hr s 0=0:=by unfold Hr; cases s<;>rfl
   rw [Axq this,Aw9]
  ·exact Qq _ _ h0 _
 ·rw [Axp hs]
  by_cases h1:r<X
  ·obtain ⟨c1,c2,c3⟩:=less h1
   rw [Axq h1,c2,c3]
   have hsum:Hr s p+Hr t q=Hr s (p-q):=by
    unfold Hr; cases s<;>cases t<;>simp at hs ⊢<;>omega
   rw [hsum]
   exact Qq _ _ (by omega) _
  ·rw [Axp h1]
   by_cases h2:X<r
   ·obtain ⟨c1,c2,c3⟩:=more h2
    rw [Axq h2,c2,c3]
    have hsum:Hr s p+Hr t q=Hr t (q-p):=by
     unfold Hr; cases s<;>cases t<;>simp at hs ⊢<;>omega
    rw [hsum]
    exact Qq _ _ (by omega) _
   ·rw [Axp h2]
    have c:=same (by omega)
    have hsum:Hr s p+Hr t q=0:=by
     unfold Hr; cases s<;>cases t<;>simp at hs ⊢<;>omega
    have hz:(s&&t)=false:=by cases s<;>cases t<;>simp at hs ⊢
    rw [hsum,hz]
    rfl
theorem Am4 {a b:Nat} (ha:Gg a=true) (hb:Gg b=true) :
 Ff a b=Jb (Bv (B5 a&&B5 b) 0) (Fq a (min (As a) (As b))+Fq b (min (As a) (As b))) (min (As a) (As b)):=by
 have k1:=Fv ha
 have k2:=Fv hb
 unfold Ff
 rw [Axp (fun h=>h.elim k1.1 k2.1),Axp k1.2,Axp k2.2]
theorem Adl (b:Nat):Fq b (As b)=Hr (B5 b) (Am b):=by
 unfold Fq; rw [Int.sub_self,Int.toNat_zero,Ax1,Ayc]
theorem Ajk {b:Nat} {f:Int} {d:Nat} (h:As b=f+d):Fq b f=Hr (B5 b) (Am b*2^d):=by
 unfold Fq
 have:(As b-f).toNat=d:=by omega
 rw [this]
theorem Ada {a b:Nat} (ha:Gg a=true) (hb:Gg b=true) {d:Nat} (hd:As a=As b+d) :
 Ff a b=(if B5 a=B5 b then F4 (B5 a) (Am a*2^9+Fe (Am b*2^9) (min d 63)) (As a-9) false
  else if Fe (Am b*2^9) (min d 63)<Am a*2^9 then F4 (B5 a) (Am a*2^9-Fe (Am b*2^9) (min d 63)) (As a-9) false
  else if Am a*2^9<Fe (Am b*2^9) (min d 63) then F4 (B5 b) (Fe (Am b*2^9) (min d 63)-Am a*2^9) (As a-9) false
  else (0,0)):=by
 have hx:=Ft a
 have hy:=Ft b
 have C:=Adb (Mx:=Am a) (My:=Am b) hd hx hy (fun h=>Yi (by have:=Ce b; omega))
 rw [Am4 ha hb,Int.min_eq_right (by omega),Adl,Ajk hd]
 exact Aqj _ _ C.plus C.less C.more C.same
theorem To {b:Nat} (h:b<2^64):El b<2^64:=by unfold El; split<;>omega
theorem Ae1 (m:Nat) (e:Int):flagsOf m e<32:=by
 unfold flagsOf flags
 split
 ·decide
 ·split
  ·decide
  ·split
   ·decide
   ·split<;>decide
theorem Sw {a b:Nat} (ha:a<2^64) (hb:b<2^64):(Ff a b).1<2^64∧(Ff a b).2<32:=by
 unfold Ff
 split
 ·exact ⟨by decide,by decide⟩
 ·split
  ·split
   ·decide
   ·exact ⟨ha,(by decide:0<32)⟩
  ·split
   ·exact ⟨hb,(by decide:0<32)⟩
   ·unfold Jb
    split
    ·refine ⟨?_,(by decide:0<32)⟩
     unfold Bv; split<;>decide
    ·exact ⟨Rl _ _ _,Ae1 _ _⟩
end Go.Rnd
namespace Go.Rnd
open Go.Den
def Cd (r c:Nat) (f:Nat→Nat→Int):List Int:=(List.range (r*c)).map fun j=>f (j / c) (j%c)
theorem Br (r c:Nat) (f:Nat→Nat→Int):(Cd r c f).length=r*c:=by unfold Cd; rw [Ax9,Ax6]
theorem H9 {r c i k:Nat} (hi:i<r) (hk:k<c):i*c+k<r*c:=by
 have:(i+1)*c≤r*c:=Axf c hi
 rw [Ax7,Nat.one_mul] at this
 omega
theorem Tk {c i k:Nat} (hk:k<c):(i*c+k) / c=i∧(i*c+k)%c=k:=by
 constructor
 ·rw [Axr,Nat.mul_add_div (by omega),Nat.div_eq_of_lt hk,Ayb]
 ·rw [Axr,Nat.mul_add_mod,Axg hk]
theorem G2 {r c:Nat} {f:Nat→Nat→Int} {j:Nat} (h:j<r*c):(Cd r c f)[j]?=some (f (j / c) (j%c)):=by
 unfold Cd
 rw [Ayk,List.getElem?_range h]
 rfl
theorem Al3 {r c i k:Nat} {f:Nat→Nat→Int} (hi:i<r) (hk:k<c):(Cd r c f).getD (i*c+k) 0=f i k:=by
 obtain ⟨d1,d2⟩:=Tk (i:=i) hk
 rw [Axd,G2 (H9 hi hk),d1,d2]
 rfl
theorem Sb {l m:List Int} (h:l.length=m.length) (he:∀ j,j<l.length→l[j]?=m[j]?):l=m:=by
 refine List.ext_getElem? fun j=>?_
 by_cases hj:j<l.length
 ·exact he j hj
 ·rw [Ayl (by omega),Ayl (by omega)]
theorem Dq {r c:Nat} {f g:Nat→Nat→Int} (h:∀ i k,i<r→k<c→f i k=g i k):Cd r c f=Cd r c g:=by
 refine Sb (by rw [Br,Br]) fun j hj=>?_
 rw [Br] at hj
 have hc:0<c:=by
  rcases Nat.eq_zero_or_pos c with h0 | h0
  ·subst h0; rw [Nat.mul_zero] at hj; omega
  ·exact h0
 rw [G2 hj,G2 hj,h (j / c) (j%c) ((Nat.div_lt_iff_lt_mul hc).2 hj) (Nat.mod_lt _ hc)]
theorem Air {r c:Nat} {l:List Int} (h:l.length=r*c):l=Cd r c fun i k=>l.getD (i*c+k) 0:=by
 refine Sb (by rw [Br,h]) fun j hj=>?_
 rw [G2 (by omega)]
 have e:j / c*c+j%c=j:=by rw [Axr]; exact Nat.div_add_mod j c
 rw [e,Axd,Axk hj]
 rfl
theorem Se {r c i k:Nat} {f:Nat→Nat→Int} (hk:k<c) (x:Int) :
 (Cd r c f).set (i*c+k) x=Cd r c fun a b=>if a=i∧b=k then x else f a b:=by
 refine Sb (by rw [List.length_set,Br,Br]) fun j hj=>?_
 rw [List.length_set,Br] at hj
 obtain ⟨d1,d2⟩:=Tk (i:=i) hk
 rw [G2 hj,List.getElem?_set]
 by_cases h:i*c+k=j
 ·subst h
  rw [Axq rfl,Axq (by rw [Br]; exact hj),d1,d2,Axq ⟨rfl,rfl⟩]
 ·rw [Axp h,G2 hj,Axp]
  rintro ⟨h1,h2⟩
  exact h (by rw [← h1,← h2,Axr]; exact Nat.div_add_mod j c)
theorem Jl (r c:Nat) (f:Nat→Nat→Int):Cd (r+1) c f=Cd r c f++(List.range c).map (f r):=by
 unfold Cd
 rw [Ax7,Nat.one_mul,List.range_add,List.map_append,List.map_map]
 congr 1
 refine List.map_congr_left fun k hk=>?_
 have hk:=List.mem_range.1 hk
 obtain ⟨d1,d2⟩:=Tk (i:=r) hk
 show f ((r*c+k) / c) ((r*c+k)%c)=f r k
 rw [d1,d2]
theorem Jk (c:Nat) (f:Nat→Nat→Int):Cd 0 c f=[]:=by
 unfold Cd; rw [Nat.zero_mul]; rfl
theorem Hs (k:Nat) (g:Nat→Int):(List.range (k+1)).map g=(List.range k).map g++[g k]:=by
 rw [List.range_succ,List.map_append]; rfl
def Xt:Nat→List Int→List Int→Nat
 | s,x::xs,y::ys=>Xt (Ff s (N9 x.toNat y.toNat).1).1 xs ys
 | s,_,_=>s
def Oc (x y:List Int):Int:=Xt 0 x y
theorem U9 {a b:Nat}:(N9 a b).1<2^64:=by
 unfold N9
 split
 ·decide
 ·split
  ·split
   ·decide
   ·unfold Bv; split<;>decide
  ·exact Rl _ _ _
theorem Aan:∀ (x y:List Int) (s:Nat),s<2^64→Xt s x y<2^64
 | x::xs,y::ys,s,h=>Aan xs ys _ (Sw h U9).1
 | [],_,_,h=>by unfold Xt; exact h
 | _::_,[],_,h=>by unfold Xt; exact h
end Go.Rnd
namespace Go.Rnd
open Go.Den
def Bj (n:Int):Bool:=decide (0≤n)&&decide (n≤6)
def Ak (r c:Int) (l:List Int):Bool:=(Bj r&&Bj c)&&decide ((l.length:Int)=r*c)
def Jo (r c:Int) (l:List Int):Int:=if Ak r c l=true then 0 else 1
def S3 (r c:Int) (l:List Int) (p q:Int) (m:List Int):Int:=if (Ak r c l&&Ak p q m)=true then 0 else 1
def D4 (_r c:Int) (l:List Int) (i k:Int):Bool:=Cw (0≤i∧i<10∧0≤k∧k<10∧0≤c∧c<10∧i*c+k<l.length∧l.length<1000)
def Di (c:Int) (l:List Int) (i k:Int):Int:=l.getD (i*c+k).toNat 0
def Sk (i k:Int):Int:=if i=k then 4607182418800017408 else 0
def Tb (x y i k:Int):Bool:=Cw (0≤x∧x<10∧0≤y∧y<10∧0≤i∧i<10∧0≤k∧k<10)
def La (r c x y a b:Int):Bool:=decide (0≤x∧0≤y∧0≤a∧0≤b∧x≤r∧y≤c∧a≤r-x∧b≤c-y)
def K6 (r c:Int) (l:List Int) (p q:Int) (m:List Int) (i k:Int):Bool:=Cw (0≤r∧r<10∧0≤i∧i<20∧(if i<r then D4 r c l i k=true else D4 p q m (i-r) k=true))
def Hm (r c:Int) (l:List Int) (q:Int) (m:List Int) (i k:Int):Int:=if i<r then Di c l i k else Di q m (i-r) k
def V6 (r c:Int) (l:List Int) (i:Int):Bool:=Ak r c l&&Cw (0≤i∧i<r)
def Lg (r c:Int) (l:List Int) (k:Int):Bool:=Ak r c l&&Cw (0≤k∧k<c)
def Qx (r c:Int) (l:List Int) (p q:Int) (m:List Int) (i k:Int):Bool:=(V6 r c l i&&Lg p q m k)&&((Af l&&Af m)&&Cw (c=p))
def Jy (c:Int) (l:List Int) (i:Int):List Int:=List.drop (i*c).toNat (List.take ((i+1)*c).toNat l)
def P9 (r c:Int) (l:List Int) (k:Int):List Int:=(List.range r.toNat).map fun j:Nat=>Di c l (j:Int) k
abbrev MX:=Int × Int × List Int × Int
def Ij (e:Int):MX:=(0,0,[],e)
def Le (n:Int):MX:=if Bj n=true then (n,n,Cd n.toNat n.toNat fun i k=>Sk i k,0) else Ij 3
def Cb (r c:Int) (l:List Int):MX:=if Ak r c l=true then (c,r,Cd c.toNat r.toNat fun i k=>Di c l k i,0) else Ij 1
def Fk (r c:Int) (l:List Int) (x y a b:Int):MX :=
 if Ak r c l=true then (if La r c x y a b=true then (a,b,Cd a.toNat b.toNat fun i k=>Di c l (x+i) (y+k),0) else Ij 3) else Ij 1
def Ek (r c:Int) (l:List Int) (p q:Int) (m:List Int):MX :=
 if (Ak r c l&&Ak p q m)=true then (if c=p then (r,q,Cd r.toNat q.toNat fun i k=>Oc (Jy c l i) (P9 p q m k),0) else Ij 3) else Ij 1
def Im (r c:Int) (l:List Int) (p q:Int) (m:List Int):MX :=
 if (Ak r c l&&Ak p q m)=true then (if r=p∧c=q then (r,c,Cd r.toNat c.toNat fun i k=>Dl (Di c l i k) (Di q m i k),0) else Ij 3) else Ij 1
def Bz (r c:Int) (l:List Int) (p q:Int) (m:List Int):MX :=
 if (Ak r c l&&Ak p q m)=true then (if c=q∧r+p≤6 then (r+p,c,Cd (r+p).toNat c.toNat fun i k=>Hm r c l q m i k,0) else Ij 3) else Ij 1
def Tu (x y:List Int):Bool:=decide (x.length=y.length)&&decide (x.length≤64)
def Rq (x y:List Int):Bool:=decide (x=y)
def Ua (r c:Int) (l:List Int) (p q:Int) (m:List Int):Bool:=(decide (r=p)&&decide (c=q))&&decide (l=m)
def R3 (l:List Int):Bool:=Cw (l.length≤17592186044416)
theorem G6 {n:Int}:Bj n=true↔0≤n∧n≤6:=by unfold Bj; simp
theorem Hc {r c:Int} {l:List Int}:Ak r c l=true↔(0≤r∧r≤6)∧(0≤c∧c≤6)∧(l.length:Int)=r*c:=by
 unfold Ak
 rw [Axe,Axe,G6,G6,Axa,and_assoc]
theorem C2 {r c:Int} {l:List Int} (h:Ak r c l=true):∃ R C:Nat,r=R∧c=C∧R≤6∧C≤6∧l.length=R*C:=by
 obtain ⟨h1,h2,h3⟩:=Hc.1 h
 refine ⟨r.toNat,c.toNat,by omega,by omega,by omega,by omega,?_⟩
 have:(((r.toNat*c.toNat:Nat)):Int)=r*c:=by rw [Axo,Int.toNat_of_nonneg h1.1,Int.toNat_of_nonneg h2.1]
 omega
theorem F6 {n:Int} (h:Bj n=true):∃ R:Nat,n=R∧R≤6:=by
 have:=G6.1 h
 exact ⟨n.toNat,by omega,by omega⟩
theorem An7 {n:Nat} (h:n≤6):Bj (n:Int)=true:=G6.2 ⟨by omega,by omega⟩
theorem K8 {r c:Nat} {l:List Int} (hr:r≤6) (hc:c≤6) (hl:l.length=r*c):Ak (r:Int) (c:Int) l=true :=
 Hc.2 ⟨⟨by omega,by omega⟩,⟨by omega,by omega⟩,by rw [hl,Axo]⟩
theorem Nz (c:Nat) (l:List Int) (i k:Nat):Di (c:Int) l (i:Int) (k:Int)=l.getD (i*c+k) 0:=by
 unfold Di
 have:((i:Int)*(c:Int)+(k:Int)).toNat=i*c+k:=by
  rw [← Axo,← Int.natCast_add,Aw5]
 rw [this]
theorem F8 {r c i k:Nat} {R:Int} {l:List Int} (hr:r≤6) (hc:c≤6) (hl:l.length=r*c) (hi:i<r) (hk:k<c):D4 R (c:Int) l (i:Int) (k:Int)=true:=by
 have:=H9 hi hk
 have h36:=Axz hr hc
 refine At.2 ⟨by omega,by omega,by omega,by omega,by omega,by omega,?_,by omega⟩
 rw [← Axo]
 omega
theorem Pz {r c i k:Nat} {f:Nat→Nat→Int} (hi:i<r) (hk:k<c):Di (c:Int) (Cd r c f) (i:Int) (k:Int)=f i k:=by
 rw [Nz,Al3 hi hk]
theorem Py {r c:Nat} {l:List Int} (h:l.length=r*c):(Cd r c fun i k=>Di (c:Int) l (i:Int) (k:Int))=l:=by
 conv=>rhs; rw [Air h]
 exact Dq fun i k _ _=>Nz c l i k
theorem Vp {l:List Int} (h:Af l=true) {j:Nat} (hj:j<l.length):Ah (l.getD j 0)=true:=by
 have h:=At.1 h
 rw [Axd,Axk hj]
 exact h _ (List.getElem_mem hj)
end Go.Rnd
namespace Go.Rnd
theorem Ahf {b:Nat} (h:b<2^64):Bv (B5 b) (b%2^63)=b:=by
 unfold Bv B5
 by_cases hb:2^63≤b
 ·simp only [hb,decide_true,if_true]; omega
 ·simp only [hb,decide_false,Bool.false_eq_true,if_false]; omega
end Go.Rnd
namespace Go.Rnd
def O3 (n:Nat):Nat:=Ieee.Datum.rootFrom n (n.log2 / 2+1) 0
theorem An8 (k:Nat):1 <<< k=2^k:=by rw [Nat.shiftLeft_eq,Nat.one_mul]
theorem Td {n:Nat}:∀ (todo root:Nat),root*root≤n→n<(root+2^todo)*(root+2^todo) →
 Ieee.Datum.rootFrom n todo root*Ieee.Datum.rootFrom n todo root≤n∧n<(Ieee.Datum.rootFrom n todo root+1)*(Ieee.Datum.rootFrom n todo root+1)
 | 0,root,h1,h2=>⟨h1,h2⟩
 | todo+1,root,h1,h2=>by
   unfold Ieee.Datum.rootFrom
   simp only [An8]
   have hp:2^(todo+1)=2^todo+2^todo:=by rw [Nat.pow_succ]; omega
   rw [hp] at h2
   by_cases h:(root+2^todo)*(root+2^todo)≤n
   ·rw [Axq h]
    exact Td todo _ h (by rw [Nat.add_assoc]; exact h2)
   ·rw [Axp h]
    exact Td todo _ h1 (by omega)
theorem Mw (n:Nat):O3 n*O3 n≤n∧n<(O3 n+1)*(O3 n+1):=by
 refine Td _ _ (by simp) ?_
 rw [Ayd,← Axs]
 rcases Nat.eq_zero_or_pos n with rfl | hn
 ·decide
 ·refine (Ayj (by omega)).1 ?_
  omega
theorem Abl {a b:Nat} (h:a*a<b*b):a<b:=by
 rcases Ax0 a b with h1 | h1
 ·exact h1
 ·have:=Axz h1 h1; omega
theorem Ww {n w:Nat} (h1:w*w≤n) (h2:n<(w+1)*(w+1)):w=O3 n:=by
 obtain ⟨a,b⟩:=Mw n
 have c1:=Abl (Ax5 h1 b)
 have c2:=Abl (Ax5 a h2)
 omega
theorem Aew {n w:Nat} (h:w*w≤n):w≤O3 n:=by
 have:=Abl (Ax5 h (Mw n).2)
 omega
def Fc (n:Nat):Nat:=2*O3 n+(if O3 n*O3 n=n then 0 else 1)
theorem Ta (a c:Nat):a*c*(a*c)=a*a*(c*c):=by
 rw [Axu,Nat.mul_left_comm c,← Axu a a]
theorem Yb {n:Nat} (d:Nat) (E:Int) (h:2^53≤O3 n) :
 Bu (Fc (n*(2^d*2^d))) (E-d)=Bu (Fc n) E∧flagsOf (Fc (n*(2^d*2^d))) (E-d)=flagsOf (Fc n) E:=by
 have hA:=B1 d
 obtain ⟨h1,h2⟩:=Mw n
 unfold Fc
 generalize hw:O3 n=w at *
 generalize hc:2^d=c at *
 have hcc:0<c*c:=Nat.mul_pos hA hA
 by_cases h0:w*w=n
 ·have e1:O3 (n*(c*c))=w*c:=by
   refine (Ww ?_ ?_).symm
   ·rw [Ta,h0]; exact Axx _
   ·have:=Ta w c
    rw [h0] at this
    rw [Ax7,Nat.mul_add,this]; omega
  rw [e1,Ta,h0,Axq rfl,Axq rfl]
  have:=Cp (2*w+0) d E
  rw [hc,show (2*w+0)*c=2*(w*c)+0 by rw [Ayb,Ayb,Axu]] at this
  exact this
 ·rw [Axp h0]
  obtain ⟨g1,g2⟩:=Mw (n*(c*c))
  have q1:w*c≤O3 (n*(c*c)):=Aew (by rw [Ta]; exact Axf _ h1)
  have q2:O3 (n*(c*c))<(w+1)*c:=by
   refine Abl (Ax5 g1 ?_)
   rw [Ta]
   exact (Nat.mul_lt_mul_right hcc).2 h2
  have q3:O3 (n*(c*c))=w*c→O3 (n*(c*c))*O3 (n*(c*c))≠n*(c*c):=fun h5 h6=>by
   rw [h5,Ta] at h6
   exact h0 (Nat.eq_of_mul_eq_mul_right hcc h6)
  generalize hQ:O3 (n*(c*c))=Q at *
  have p1:(2*w+1-1)*c=2*(w*c):=by rw [Nat.add_sub_cancel,Axu]
  have p2:(2*w+1+1)*c=2*((w+1)*c):=by rw [show 2*w+1+1=2*(w+1) by omega,Axu]
  have od:(2*w+1)%2=1:=by omega
  generalize hV:2*Q+(if Q*Q=n*(c*c) then 0 else 1)=V
  have v1:(2*w+1-1)*2^d<V:=by
   rw [hc,p1,← hV]
   by_cases h5:Q=w*c
   ·rw [Axp (q3 h5)]; omega
   ·split<;>omega
  have v2:V<(2*w+1+1)*2^d:=by
   rw [hc,p2,← hV]
   split<;>omega
  have lV:=Oy od (by omega) v1 v2
  have hs:54≤(2*w+1).log2:=by rw [Nat.le_log2 (by omega)]; omega
  have ee:E-(d:Int)+d=E:=by omega
  have:=Om (E:=E-d) od v1 v2 (by unfold B7; rw [lV]; omega) (by unfold B7; omega)
  rw [ee] at this
  exact this
theorem Vh {n t:Nat} (h:2^(t+t)≤n):2^t≤O3 n:=Aew (by rw [← Axs]; exact h)
theorem pow_two (k d:Nat):2^(k+2*d)=2^k*(2^d*2^d):=by rw [Axs,Nat.two_mul,Axs]
theorem Ahr {m k l:Nat} {E F:Int} (h1:2^106≤m*2^k) (h2:2^106≤m*2^l) (he:2*E+k=2*F+l) :
 Bu (Fc (m*2^k)) E=Bu (Fc (m*2^l)) F∧flagsOf (Fc (m*2^k)) E=flagsOf (Fc (m*2^l)) F:=by
 rcases Nat.le_total k l with h | h
 ·obtain ⟨d,rfl⟩:∃ d,l=k+2*d:=⟨(l-k) / 2,by omega⟩
  have:=Yb (n:=m*2^k) d E (Vh (t:=53) h1)
  rw [Axu,← pow_two,show E-(d:Int)=F by omega] at this
  exact ⟨this.1.symm,this.2.symm⟩
 ·obtain ⟨d,rfl⟩:∃ d,k=l+2*d:=⟨(k-l) / 2,by omega⟩
  have:=Yb (n:=m*2^l) d F (Vh (t:=53) h2)
  rw [Axu,← pow_two,show F-(d:Int)=E by omega] at this
  exact this
def Gf (b:Nat):Nat:=128+(As b%2).toNat
def Io (b:Nat):Nat × Nat :=
 if Ag b=4 then (Pe,0)
 else if Ag b=0∨b=Eg then (b,0)
 else if B5 b=true then (Pe,16)
 else (Bu (Fc (Am b*2^Gf b)) ((As b-Gf b) / 2-1),flagsOf (Fc (Am b*2^Gf b)) ((As b-Gf b) / 2-1))
theorem Dp {b:Nat} (h3:Ag b≠3) (h4:Ag b≠4):Am b=0↔Ag b=0:=by
 have:=J8 b
 have:=Ir b
 unfold Am
 unfold Ag at *
 split at h3<;>split<;>(try split)<;>(try split)<;>simp_all<;>omega
theorem Vz {b:Nat} (h:Ag b=4):Io b=(Pe,0):=Axq h
theorem Mj {b:Nat} (h4:Ag b≠4) (h:Ag b=0∨b=Eg):Io b=(b,0):=by unfold Io; rw [Axp h4,Axq h]
theorem Abk {b:Nat} (h4:Ag b≠4) (h:¬ (Ag b=0∨b=Eg)) (hn:B5 b=true):Io b=(Pe,16):=by unfold Io; rw [Axp h4,Axp h,Axq hn]
theorem Vy {b:Nat} (h4:Ag b≠4) (h:¬ (Ag b=0∨b=Eg)) (hn:B5 b=false) :
 Io b=(Bu (Fc (Am b*2^Gf b)) ((As b-Gf b) / 2-1),flagsOf (Fc (Am b*2^Gf b)) ((As b-Gf b) / 2-1)):=by
 unfold Io; rw [Axp h4,Axp h,Axp (by rw [hn]; decide)]
theorem Aly:Ag Eg=3:=by decide
theorem Hq (r:Nat):Bv false r=r:=rfl
theorem V7 {b:Nat} (hm:Am b≠0):2^106≤Am b*2^Gf b∧2*((As b-(Gf b:Int)) / 2-1)+Gf b=As b-2:=by
 refine ⟨?_,by unfold Gf; omega⟩
 have:2^128≤2^Gf b:=Axi (by decide) (by unfold Gf; omega)
 have h5:=Axz (show 1≤Am b by omega) this
 omega
theorem Acb {b:Nat} (hm:Am b≠0):(Am b).log2≤52:=by
 have:=(Ayj hm).2 (show Am b<2^53 from Ft b)
 omega
end Go.Rnd
namespace Go.Rnd
def Dz (b:Nat) (n:Int):Nat × Nat :=
 if Ag b=4 then (Pe,0)
 else if Ag b=3∨Ag b=0 then (b,0)
 else (Bv (B5 b) (Bu (Am b) (As b+n)),flagsOf (Am b) (As b+n))
theorem Aj1 {V:Nat} {E:Int} (h0:V≠0) (h:E+V.log2+1≤-1075):Bu V E=0∧flagsOf V E=3:=by
 have hl:B7 V E=-1074:=by unfold B7; omega
 obtain ⟨k,hk⟩:∃ k:Nat,(-1074:Int)-E=((k:Nat):Int):=⟨(-1074-E).toNat,by omega⟩
 have hV:V<2^(V.log2+1):=(Ayj h0).1 (by omega)
 have hp:2^(V.log2+1)*2≤2^k:=by rw [← Nat.pow_succ]; exact Axi (by decide) (by omega)
 have e1:V*2^(-((-1074:Int)-E)).toNat=V:=by rw [hk]; simp
 have e2:((-1074:Int)-E).toNat=k:=by rw [hk]; rfl
 have hk2:kept V E=0:=by
  unfold kept I4
  rw [hl,e1,e2]
  unfold L8
  rw [Nat.div_eq_of_lt (by omega),Axg (by omega),Axp (by omega)]
 have hx:exact V E=false:=by
  unfold exact K2
  rw [hl,e1,e2,Axg (by omega)]
  exact Aw8 h0
 have hr:Bu V E=0:=by
  unfold Bu
  rw [Axp h0,hl,hk2]
  rfl
 refine ⟨hr,?_⟩
 unfold flagsOf
 rw [Axp h0,hr,hx]
 rfl
theorem Ah4 (n:Bool) {m:Nat} {e:Int} {more:Bool} (hm:m<2^53) (h0:m≠0∨more=true) (he:e≤-1130) :
 F4 n m e more=(Bv n 0,3):=by
 have h1:more.toNat≤1:=by cases more<;>decide
 have hV:4*m+more.toNat≠0:=by
  rcases h0 with h | h
  ·omega
  ·rw [h]; simp
 have hl:(4*m+more.toNat).log2≤54:=by
  have:=(Ayj hV).2 (show 4*m+more.toNat<2^55 by omega); omega
 have:=Aj1 hV (E:=e-2) (by omega)
 unfold F4
 rw [this.1,this.2]
theorem Ak2 (n:Bool):F4 n 0 (-1074) true=(Bv n 0,3):=by
 cases n<;>decide +kernel
theorem Ad1 {b:Nat} {n:Int} (h4:Ag b≠4) (h:¬ (Ag b=3∨Ag b=0)) (hn:As b+n≤-1130):Dz b n=(Bv (B5 b) 0,3):=by
 have hm:Am b≠0:=fun h5=>h (.inr ((Dp (by omega) h4).1 h5))
 have:=Aj1 hm (E:=As b+n) (by have:=Acb hm; omega)
 unfold Dz
 rw [Axp h4,Axp h,this.1,this.2]
theorem H8 {b:Nat} {n:Int} (h4:Ag b≠4) (h:¬ (Ag b=3∨Ag b=0)):Dz b n=(Bv (B5 b) (Bu (Am b) (As b+n)),flagsOf (Am b) (As b+n)):=by
 unfold Dz; rw [Axp h4,Axp h]
def H4 (b:Nat):Int:=if Gg b=true∧Ag b≠0 then ((Am b).log2:Int)+As b else 0
def Dg (b:Nat):Nat:=b%2^63
def Aom (a b:Nat):Int:=if Ag a=4∨Ag b=4 then 0 else if Hg a<Hg b then -1 else if Hg b<Hg a then 1 else 0
def Ar2 (a b:Nat):Bool:=!(decide (Ag a=4∨Ag b=4))
end Go.Rnd
namespace Go.Rnd
open Go.Den
def Ye (b:Int):Int:=Hg b.toNat
def Xm (a b:Int):Int:=Aom a.toNat b.toNat
def Auo (a b:Int):Bool:=Ar2 a.toNat b.toNat
def Tp (x:Int):Int:=Dg x.toNat
def B4 (x n:Int):Int:=(Dz x.toNat n).1
def Aob (x n:Int):Int:=(Dz x.toNat n).2
def E6 (x n:Int):Bool:=Ah x&&Cw (-2300≤n∧n≤2300)
def Bi (x:Int):Int:=H4 x.toNat
def Kl:List Int→Nat→Nat
 | [],m=>m
 | x::l,m=>if Ag x.toNat=4 then Pe else Kl l (max m (Dg x.toNat))
def A6 (l:List Int):Int:=Kl l 0
def Da (l:List Int):Bool:=l.all Cq
def Bo (r c:Int) (l:List Int):Int:=if Ak r c l=true then (if Da l=true then 0 else 4) else 1
def R5 (c:Int) (l:List Int) (n:Nat):Bool:=(List.range n).any fun i:Nat=>decide (Av (Di c l (i:Int) (i:Int))=0)
def Nw (r c:Int) (l:List Int) (p q:Int) (m:List Int):Int :=
 if Bo r c l≠0 then Bo r c l else if Bo p q m≠0 then Bo p q m
 else if r≠c∨r≠p then 3 else if R5 c l r.toNat=true then 5 else 0
def Mt (c:Int) (l:List Int) (i:Int):Int→Int→List Int→Int
 | s,_,[]=>s
 | s,j,x::xs=>Mt c l i (Dl s (Eh (Di c l i j) x)) (j+1) xs
def Zh (c:Int) (l:List Int) (b:Nat→Int) (n:Nat):Nat→List Int
 | 0=>[]
 | k+1=>Fp (Mt c l ((n-1-k:Nat):Int) (b (n-1-k)) ((n-k:Nat):Int) (Zh c l b n k)) (Di c l ((n-1-k:Nat):Int) ((n-1-k:Nat):Int))::Zh c l b n k
def Xi (c:Int) (l:List Int) (b:Nat→Int):Nat→List Int
 | 0=>[]
 | k+1=>Xi c l b k++[Fp (Mt c l (k:Int) (b k) 0 (Xi c l b k)) (Di c l (k:Int) (k:Int))]
def upG (c:Int) (l:List Int) (q:Int) (m:List Int) (n w:Nat):List Int:=Cd n w fun i j=>(Zh c l (fun i=>Di q m (i:Int) (j:Int)) n n).getD i 0
def loG (c:Int) (l:List Int) (q:Int) (m:List Int) (n w:Nat):List Int:=Cd n w fun i j=>(Xi c l (fun i=>Di q m (i:Int) (j:Int)) n).getD i 0
def Jn (r c:Int) (l:List Int):MX:=if Da l=true then (r,c,l,0) else Ij 2
def upX (r c:Int) (l:List Int) (p q:Int) (m:List Int):MX :=
 if Nw r c l p q m≠0 then Ij (Nw r c l p q m) else Jn r q (upG c l q m r.toNat q.toNat)
def Uh (r c:Int) (l:List Int) (p q:Int) (m:List Int):MX :=
 if Nw r c l p q m≠0 then Ij (Nw r c l p q m) else Jn r q (loG c l q m r.toNat q.toNat)
def Fx (c:Int) (l:List Int) (n:Nat):List Int:=(List.range n).map fun i:Nat=>Tp (Di c l (i:Int) (i:Int))
def Agm (d:List Int):Bool:=d.any fun x=>!(decide (Xm (B4 (A6 d) (-40)) x<0))
def Aah (r c:Int) (l:List Int):Bool:=Agm (Fx c l (min r.toNat c.toNat))
def I6 (r c:Int) (l:List Int):Bool × Int:=if Bo r c l≠0 then (false,Bo r c l) else (Aah r c l,0)
def Oj (r c:Int) (l:List Int) (p q:Int) (m:List Int):Bool:=(Ak r c l&&Ak p q m)&&((Af l&&Af m)&&Cw (r=c∧r=p))
def Ob (n:Nat):List Int:=Cd n n fun i k=>Sk (i:Int) (k:Int)
def De (r c:Int) (l:List Int) (p q:Int) (m:List Int):MX :=
 if (Cb r c l).2.2.2≠0 then Ij (Cb r c l).2.2.2 else Ek (Cb r c l).1 (Cb r c l).2.1 (Cb r c l).2.2.1 p q m
end Go.Rnd
namespace Go.Rnd
open Go.Den
theorem Apy {a b:Nat}:(Xu a b).1<2^64:=by
 have h1:Eg<2^63:=by decide
 have hs:∀ (s:Bool) {r:Nat},r<2^63→Bv s r<2^64:=by
  intro s r h
  unfold Bv
  cases s
  ·rw [Axp (by decide)]; omega
  ·rw [Axq rfl]; omega
 have hN:Pe<2^64:=by decide
 unfold Xu
 by_cases c1:Ag a=4∨Ag b=4
 ·rw [Axq c1]; exact hN
 rw [Axp c1]
 by_cases c2:Ag a=Ag b∧(Ag a=3∨Ag a=0)
 ·rw [Axq c2]; exact hN
 rw [Axp c2]
 by_cases c3:Ag a=3
 ·rw [Axq c3]; exact hs _ h1
 rw [Axp c3]
 by_cases c4:Ag b=3∨Ag a=0
 ·rw [Axq c4]; exact hs _ (by decide)
 rw [Axp c4]
 by_cases c5:Ag b=0
 ·rw [Axq c5]; exact hs _ h1
 rw [Axp c5]
 exact hs _ (Hw _ _)
theorem Aap (a b:Int):Ah (Fp a b)=true:=B3 Apy
theorem Nc {a b:Int} (ha:Ah a=true) (hb:Ah b=true):Ah (Dl a b)=true:=by
 obtain ⟨x,rfl,hx⟩:=Bt ha
 obtain ⟨y,rfl,hy⟩:=Bt hb
 exact B3 (Sw (by rw [Aw5]; exact hx) (To (by rw [Aw5]; exact hy))).1
theorem Gv {r c:Nat} {f:Nat→Nat→Int} (h:∀ i k,Ah (f i k)=true):Af (Cd r c f)=true:=At.2 fun x hx=>by
 obtain ⟨j,_,rfl⟩:=List.mem_map.1 hx
 exact h _ _
theorem Kj (a b:Int):Ah (Eh a b)=true:=B3 U9
theorem Qn (c:Int) (l:List Int) (b:Nat→Int) (n:Nat):∀ k,(Zh c l b n k).length=k
 | 0=>rfl
 | k+1=>by rw [Zh,List.length_cons,Qn c l b n k]
theorem Adm (c:Int) (l:List Int) (b:Nat→Int) (n:Nat):∀ k,∀ x∈Zh c l b n k,Ah x=true
 | 0,x,h=>by cases h
 | k+1,x,h=>by
   rw [Zh] at h
   rcases List.mem_cons.1 h with rfl | h
   ·exact Aap _ _
   ·exact Adm c l b n k x h
theorem Aba (c:Int) (l:List Int) (b:Nat→Int) (n k:Nat):∀ d,(Zh c l b n (k+d)).drop d=Zh c l b n k
 | 0=>rfl
 | d+1=>by
   rw [← Nat.add_assoc,Zh,List.drop_succ_cons]
   exact Aba c l b n k d
theorem Aa9 {c:Int} {l:List Int} {b:Nat→Int} {n k:Nat} (h:k≤n):(Zh c l b n n).drop (n-k)=Zh c l b n k:=by
 have:=Aba c l b n k (n-k)
 rw [Nat.add_sub_cancel' h] at this
 exact this
theorem Anp {c:Int} {l:List Int} {b:Nat→Int} {n i:Nat} (h:i<n) :
 (Zh c l b n n).getD i 0=Fp (Mt c l (i:Int) (b i) ((i+1:Nat):Int) ((Zh c l b n n).drop (i+1))) (Di c l (i:Int) (i:Int)):=by
 have e1:=Aa9 (c:=c) (l:=l) (b:=b) (n:=n) (k:=n-i) (by omega)
 have e2:=Aa9 (c:=c) (l:=l) (b:=b) (n:=n) (k:=n-i-1) (by omega)
 rw [show n-(n-i)=i by omega] at e1
 rw [show n-(n-i-1)=i+1 by omega] at e2
 rw [e2]
 have e3:(Zh c l b n n).getD i 0=((Zh c l b n n).drop i).getD 0 0:=by
  rw [Axd,Axd,List.getElem?_drop,Ayb]
 rw [e3,e1,show n-i=(n-i-1)+1 by omega,Zh]
 have e4:n-1-(n-i-1)=i:=by omega
 have e5:n-(n-i-1)=i+1:=by omega
 rw [e4,e5]
 rfl
theorem Sf {l:List Int} (h:∀ x∈l,Ah x=true) (i:Nat):Ah (l.getD i 0)=true:=by
 rw [Axd]
 cases hi:l[i]? with
 | none=>exact B3 (n:=0) (by decide)
 | some x=>exact h x (List.mem_of_getElem? hi)
theorem Yq {c:Int} {l:List Int} {i s j:Int} {xs:List Int} {t:Nat} (h:t<xs.length):Mt c l i s j (xs.drop t)=Mt c l i (Dl s (Eh (Di c l i j) (xs.getD t 0))) (j+1) (xs.drop (t+1)):=by
 rw [List.drop_eq_getElem_cons h,Mt,Axd,Axk h]; rfl
theorem G8 (c:Int) (l:List Int) (b:Nat→Int):∀ k,(Xi c l b k).length=k
 | 0=>rfl
 | k+1=>by rw [Xi,Axv,G8 c l b k]; rfl
theorem Aeq (c:Int) (l:List Int) (b:Nat→Int):∀ k,∀ x∈Xi c l b k,Ah x=true
 | 0,x,h=>by cases h
 | k+1,x,h=>by
   rw [Xi] at h
   rcases List.mem_append.1 h with h | h
   ·exact Aeq c l b k x h
   ·rw [List.mem_singleton.1 h]; exact Aap _ _
theorem Acf {c:Int} {l:List Int} {b:Nat→Int} {k:Nat}:∀ d,(Xi c l b (k+d)).take k=Xi c l b k
 | 0=>by rw [Ayb]; exact List.take_of_length_le (by rw [G8]; omega)
 | d+1=>by
   rw [← Nat.add_assoc,Xi,List.take_append_of_le_length (by rw [G8]; omega)]
   exact Acf d
theorem Acg {c:Int} {l:List Int} {b:Nat→Int} {n k:Nat} (h:k≤n):(Xi c l b n).take k=Xi c l b k:=by
 have:=Acf (c:=c) (l:=l) (b:=b) (k:=k) (n-k)
 rw [Nat.add_sub_cancel' h] at this
 exact this
theorem Apc {c:Int} {l:List Int} {b:Nat→Int} {n i:Nat} (h:i<n) :
 (Xi c l b n).getD i 0=Fp (Mt c l (i:Int) (b i) 0 ((Xi c l b n).take i)) (Di c l (i:Int) (i:Int)):=by
 have e1:=Acg (c:=c) (l:=l) (b:=b) (n:=n) (k:=i+1) (by omega)
 have e2:=Acg (c:=c) (l:=l) (b:=b) (n:=n) (k:=i) (by omega)
 have e3:(Xi c l b n).getD i 0=((Xi c l b n).take (i+1)).getD i 0:=by
  rw [Axd,Axd,List.getElem?_take_of_lt (by omega)]
 rw [e3,e1,e2,Xi,Axd,Ayh (by rw [G8]; omega),G8,Nat.sub_self]
 rfl
end Go.Rnd
namespace Go.Rnd
open Go.Den
def Aoo:Int:=4607182418800017408
def G5 (x:Int):Int:=(Io x.toNat).1
def Ok (x:Int):Int:=(Io x.toNat).2
def S9 (k:Int):Int→List Int→Int
 | s,[]=>s
 | s,x::l=>S9 k (I8 s (Eh (B4 x k) (B4 x k))) l
def D0 (x:List Int):Int :=
 if A6 x=0∨Cq (A6 x)=false then A6 x else B4 (G5 (S9 (-Bi (A6 x)) 0 x)) (Bi (A6 x))
def F7 (l:List Int):Bool:=l.all fun x=>decide (Av x=0)
def Mu:List Int→Int
 | []=>0
 | x::l=>if Av x=0 then Mu l else x
def Bb (l:List Int) (k:Int):List Int:=l.map fun x=>B4 x k
def I3 (n:Nat) (f:Nat→Int):List Int:=Aoo::(List.range (n-1)).map fun j=>f (j+1)
def Uf (x:List Int):Int:=if Dm (Mu x)=true then D0 (Bb x (-Bi (A6 x))) else Dk (D0 (Bb x (-Bi (A6 x))))
def Gy (x:List Int):Int:=B4 (Uf x) (Bi (A6 x))
def Jm (x:List Int):Int:=B4 (x.getD 0 0) (-Bi (A6 x))
def Abz (x:List Int):List Int:=I3 x.length fun j=>Fp (B4 (x.getD j 0) (-Bi (A6 x))) (Dl (Jm x) (Uf x))
def Ab0 (x:List Int):Int:=Fp (Dl (Uf x) (Jm x)) (Uf x)
def Aia (x:List Int):List Int × Int × Int × Int :=
 if F7 (x.drop 1)=true then (I3 x.length fun _=>0,0,x.getD 0 0,0)
 else if Cq (Gy x)=true then (Abz x,Ab0 x,Gy x,0) else ([],0,0,2)
def Bw (x:List Int):List Int × Int × Int × Int :=
 if x.length=0∨64<x.length then ([],0,0,3) else if Da x=true then Aia x else ([],0,0,4)
def Ds (c:Int) (l:List Int) (b i:Int) (n:Nat):List Int:=(List.range n).map fun j:Nat=>Di c l (i+(j:Int)) b
def T0 (c:Int) (l:List Int) (i:Int) (v:List Int) (t b:Int):Int:=Eh t (Oc v (Ds c l b i v.length))
def Li (c:Int) (l:List Int) (i k:Int) (v:List Int) (t a b:Int):Int :=
 if k≤b∧i≤a∧a<i+v.length then Dl (Di c l a b) (Eh (T0 c l i v t b) (v.getD (a-i).toNat 0)) else Di c l a b
def F0 (r c:Nat) (l:List Int) (i k:Int) (v:List Int) (t:Int):List Int:=Cd r c fun a b=>Li (c:Int) l i k v t (a:Int) (b:Int)
def Md (r c i k:Int) (v:List Int):Bool:=decide (0≤i∧(v.length:Int)≤r∧i≤r-v.length∧0≤k∧k≤c)
def Nv (r c:Nat) (l:List Int) (j:Nat) (x:Int):List Int:=Cd r c fun a b=>if b=j∧j≤a then (if a=j then x else 0) else Di (c:Int) l (a:Int) (b:Int)
def En (r c:Nat) (l:List Int) (j:Nat):List Int:=Ds (c:Int) l (j:Int) (j:Int) (r-j)
def P7 (r c:Nat) (l:List Int) (j:Nat):List Int:=Nv r c (F0 r c l (j:Int) (j:Int) (Bw (En r c l j)).1 (Bw (En r c l j)).2.1) j (Bw (En r c l j)).2.2.1
def Kb (r c:Nat):Nat→Nat→List Int→Option (List Int × List (List Int × Int))
 | 0,_,l=>some (l,[])
 | n+1,j,l=>if (Bw (En r c l j)).2.2.2=0 then
  (Kb r c n (j+1) (P7 r c l j)).map fun x=>(x.1,((Bw (En r c l j)).1,(Bw (En r c l j)).2.1)::x.2) else none
def Hk (r c:Nat):Nat:=min c (r-1)
def I7 (n:Nat):Nat→List (List Int × Int)→List Int→List Int
 | _,[],q=>q
 | j,m::ms,q=>F0 n n (I7 n (j+1) ms q) (j:Int) 0 m.1 m.2
def Ht (r c:Nat) (l:List Int):Option (List Int × List (List Int × Int)):=Kb r c (Hk r c) 0 l
def Oa (r c:Nat) (l:List Int):List Int:=match Ht r c l with
 | some x=>I7 r 0 x.2 (Ob r)
 | none=>[]
def J9 (r c:Nat) (l:List Int):List Int:=match Ht r c l with
 | some x=>x.1
 | none=>[]
def Fo (r c:Int) (l:List Int):MX:=if (Ht r.toNat c.toNat l).isSome=true then (r,c,J9 r.toNat c.toNat l,0) else Ij 2
def Wj (ms:List (List Int × Int)):List (List DV):=ms.map fun m=>[.ints .arg .u64 m.1,.int .u64 m.2]
def Jg (r c:Int) (l:List Int):List (List DV):=match Ht r.toNat c.toNat l with
 | some x=>Wj x.2
 | none=>[]
def R9 (m:Int):Int:=O3 (m.toNat*2^64)
def Sa (m:Int):Bool:=decide (O3 (m.toNat*2^64)*O3 (m.toNat*2^64)=m.toNat*2^64)
def Qj (r c:Nat) (l:List Int):Bool:=(Ht r c l).isSome&&(Da (Oa r c l)&&Da (J9 r c l))
def Ey (r c:Int) (l:List Int):Int:=if Bo r c l≠0 then Bo r c l else if Qj r.toNat c.toNat l=true then 0 else 2
def qX (r c:Int) (l:List Int):MX:=if Ey r c l≠0 then Ij (Ey r c l) else (r,r,Oa r.toNat c.toNat l,0)
def rX (r c:Int) (l:List Int):MX:=if Ey r c l≠0 then Ij (Ey r c l) else (r,c,J9 r.toNat c.toNat l,0)
def Hp (r c:Int) (l:List Int):MX:=if Ey r c l≠0 then Ij (Ey r c l) else (r,min r c,(Fk r r (Oa r.toNat c.toNat l) 0 0 r (min r c)).2.2.1,0)
def Mf (r c:Int) (l:List Int):MX:=if Ey r c l≠0 then Ij (Ey r c l) else (min r c,c,(Fk r c (J9 r.toNat c.toNat l) 0 0 (min r c) c).2.2.1,0)
def Anl (a b:MX) (p q:Int) (m:List Int):MX :=
 if (De a.1 a.2.1 a.2.2.1 p q m).2.2.2≠0 then Ij (De a.1 a.2.1 a.2.2.1 p q m).2.2.2
 else upX b.1 b.2.1 b.2.2.1 (De a.1 a.2.1 a.2.2.1 p q m).1 (De a.1 a.2.1 a.2.2.1 p q m).2.1 (De a.1 a.2.1 a.2.2.1 p q m).2.2.1
def It (r c:Int) (l:List Int) (p q:Int) (m:List Int):MX :=
 if Bo r c l≠0 then Ij (Bo r c l) else if Bo p q m≠0 then Ij (Bo p q m) else if r<c∨r≠p then Ij 3
 else if Ey r c l≠0 then Ij (Ey r c l)
 else if (I6 (Mf r c l).1 (Mf r c l).2.1 (Mf r c l).2.2.1).1=true then Ij 5
 else Anl (Hp r c l) (Mf r c l) p q m
end Go.Rnd
namespace Go.Rnd
open Go.Den
def mulM (x y:MX):MX:=Ek x.1 x.2.1 x.2.2.1 y.1 y.2.1 y.2.2.1
def Lp (x:MX):MX:=Cb x.1 x.2.1 x.2.2.1
def Hz (x:MX) (i k a b:Int):MX:=Fk x.1 x.2.1 x.2.2.1 i k a b
def Ky (r c:Int) (l:List Int) (e:Int):MX:=if e≠0 then Ij e else if Bo r c l≠0 then Ij 2 else (r,c,l,0)
def Xr (x:MX):MX:=Ky x.1 x.2.1 x.2.2.1 x.2.2.2
def D5 (r c:Int) (l:List Int) (p q:Int) (m:List Int) (a b:Int) (g:List Int) (u v:Int) (h:List Int):Int :=
 if Bo r c l≠0 then Bo r c l else if Bo p q m≠0 then Bo p q m else if Bo a b g≠0 then Bo a b g else if Bo u v h≠0 then Bo u v h
 else if q≠c∨a≠r∨u≠p∨b≠1∨v≠1∨c<p∨r+p<c then 3 else 0
def Ll (l m g h:List Int):Bool:=(Af l&&Af m)&&(Af g&&Af h)
def Sz (p q:Int) (m:List Int):List Int:=(Cb p q m).2.2.1
def eqR (p q:Int) (m:List Int):MX:=rX q p (Sz p q m)
def Ns (p q:Int) (m:List Int):MX:=Lp (Hz (eqR p q m) 0 0 p p)
def hY (p q:Int) (m:List Int) (u v:Int) (h:List Int):MX :=
 if Ey q p (Sz p q m)≠0 then Ij (Ey q p (Sz p q m)) else if (I6 (Ns p q m).1 (Ns p q m).2.1 (Ns p q m).2.2.1).1=true then Ij 5
 else Uh (Ns p q m).1 (Ns p q m).2.1 (Ns p q m).2.2.1 u v h
def hQ (p q:Int) (m:List Int):MX :=
 if Ey q p (Sz p q m)≠0 then Ij (Ey q p (Sz p q m)) else if (I6 (Ns p q m).1 (Ns p q m).2.1 (Ns p q m).2.2.1).1=true then Ij 5
 else qX q p (Sz p q m)
def Auu (r c:Int) (l:List Int) (p q:Int) (m:List Int):MX:=Xr (mulM (r,c,l,0) (hQ p q m))
def Aeo (w y:MX) (r p:Int):MX:=mulM (Hz w 0 0 r p) y
def Ao4 (a b:Int) (g:List Int) (d:MX):MX:=Xr (Im a b g d.1 d.2.1 d.2.2.1)
def Ts (x y:MX):MX:=It x.1 x.2.1 x.2.2.1 y.1 y.2.1 y.2.2.1
def S8 (x y:MX):MX:=Bz x.1 x.2.1 x.2.2.1 y.1 y.2.1 y.2.2.1
def Yn (q y z:MX):MX:=if z.2.2.2≠0 then Ij z.2.2.2 else if (S8 y z).2.2.2≠0 then Ij (S8 y z).2.2.2 else Xr (mulM q (S8 y z))
def Agd (q y w f:MX) (r c p:Int):MX:=if f.2.2.2≠0 then Ij f.2.2.2 else Yn q y (Ts (Hz w 0 p r (c-p)) f)
def Ab9 (q y w:MX) (r c p a b:Int) (g:List Int):MX:=if w.2.2.2≠0 then Ij w.2.2.2 else Agd q y w (Ao4 a b g (Aeo w y r p)) r c p
def C4 (r c:Int) (l:List Int) (p q:Int) (m:List Int) (a b:Int) (g:List Int) (u v:Int) (h:List Int):MX :=
 if D5 r c l p q m a b g u v h≠0 then Ij (D5 r c l p q m a b g u v h)
 else if (hY p q m u v h).2.2.2≠0 then Ij (hY p q m u v h).2.2.2
 else Ab9 (hQ p q m) (hY p q m u v h) (Auu r c l p q m) r c p a b g
end Go.Rnd
namespace Go.Rnd
open Go.Den
def upM (x y:MX):MX:=upX x.1 x.2.1 x.2.2.1 y.1 y.2.1 y.2.2.1
def loM (x y:MX):MX:=Uh x.1 x.2.1 x.2.2.1 y.1 y.2.1 y.2.2.1
def Adv (x y:MX):MX:=Im x.1 x.2.1 x.2.2.1 y.1 y.2.1 y.2.2.1
def Au1 (x:MX):Int:=Bo x.1 x.2.1 x.2.2.1
end Go.Rnd
namespace Go.Rnd
open Go.Den
def X4 (k b:Int):Bool:=Cq b&&(decide (Av b=0)||(decide (-k≤Bi b)&&decide (Bi b<k)))
def A9 (x:List Int) (k:Int):Bool:=x.all (X4 k)
end Go.Rnd
end
