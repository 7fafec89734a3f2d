/- A verified evaluator of the program's form and its use for this seat: S1Env, Rnd, Flt, Words, NearL, IeeL, OrdL, MulL, Limb, DyL, DyV, ExactL, MulW, SumL, MatL, MatW, PowL, RootL, ScaleL, SolW, TriL, HouW, LseW, GgW, RidW, WhoW. -/
import Derived.Test.YtjbokjpbiobjpaaGreatProg
import Derived.Test.YtjbokjpbiobjpaaGreatTD
set_option linter.unusedVariables false
set_option linter.unusedSimpArgs false
noncomputable section
open Int (toNat)
open List (length getD)
namespace Go.Proofs.S1
open Go Go.Den Go.Proofs
set_option maxRecDepth 100000
abbrev tB:Nat:=37
abbrev tMR:Nat:=214
abbrev tW:Nat:=173
def tys:List (Nat × TI):=[
 (2,⟨1,8,(.int .i64),[.int .i64 (0:Int)]⟩),
 (3,⟨1,8,(.int .i64),[.int .i64 (0:Int)]⟩),
 (4,⟨1,1,.bool,[.bool false]⟩),
 (5,⟨1,1,(.int .u8),[.int .u8 (0:Int)]⟩),
 (22,⟨1,24,(.slice 37),[.nil]⟩),
 (24,⟨3,40,(.struct [(0,3),(1,3),(2,22)]),[.int .i64 (0:Int),.int .i64 (0:Int),.nil]⟩),
 (25,⟨1,8,(.int .i64),[.int .i64 (0:Int)]⟩),
 (36,⟨1,8,(.int .u64),[.int .u64 (0:Int)]⟩),
 (37,⟨1,8,(.int .u64),[.int .u64 (0:Int)]⟩),
 (38,⟨1,24,(.slice 41),[.nil]⟩),
 (41,⟨1,1,(.int .i8),[.int .i8 (0:Int)]⟩),
 (43,⟨1,24,(.slice 173),[.nil]⟩),
 (45,⟨2,32,(.struct [(0,4),(1,43)]),[.bool false,.nil]⟩),
 (47,⟨3,40,(.struct [(0,45),(2,3)]),[.bool false,.nil,.int .i64 (0:Int)]⟩),
 (57,⟨12,160,(.struct [(0,24),(3,24),(6,24),(9,24)]),[.int .i64 (0:Int),.int .i64 (0:Int),.nil,.int .i64 (0:Int),.int .i64 (0:Int),.nil,.int .i64 (0:Int),.int .i64 (0:Int),.nil,.int .i64 (0:Int),.int .i64 (0:Int),.nil]⟩),
 (60,⟨12,160,(.struct [(0,24),(3,24),(6,24),(9,24)]),[.int .i64 (0:Int),.int .i64 (0:Int),.nil,.int .i64 (0:Int),.int .i64 (0:Int),.nil,.int .i64 (0:Int),.int .i64 (0:Int),.nil,.int .i64 (0:Int),.int .i64 (0:Int),.nil]⟩),
 (71,⟨9,120,(.struct [(0,24),(3,24),(6,24)]),[.int .i64 (0:Int),.int .i64 (0:Int),.nil,.int .i64 (0:Int),.int .i64 (0:Int),.nil,.int .i64 (0:Int),.int .i64 (0:Int),.nil]⟩),
 (74,⟨9,120,(.struct [(0,24),(3,24),(6,24)]),[.int .i64 (0:Int),.int .i64 (0:Int),.nil,.int .i64 (0:Int),.int .i64 (0:Int),.nil,.int .i64 (0:Int),.int .i64 (0:Int),.nil]⟩),
 (80,⟨7,88,(.struct [(0,24),(3,24),(6,25)]),[.int .i64 (0:Int),.int .i64 (0:Int),.nil,.int .i64 (0:Int),.int .i64 (0:Int),.nil,.int .i64 (0:Int)]⟩),
 (88,⟨9,120,(.struct [(0,24),(3,24),(6,24)]),[.int .i64 (0:Int),.int .i64 (0:Int),.nil,.int .i64 (0:Int),.int .i64 (0:Int),.nil,.int .i64 (0:Int),.int .i64 (0:Int),.nil]⟩),
 (91,⟨1,24,(.slice 24),[.nil]⟩),
 (102,⟨1,8,(.int .i64),[.int .i64 (0:Int)]⟩),
 (114,⟨6,80,(.array 2 24),[.int .i64 (0:Int),.int .i64 (0:Int),.nil,.int .i64 (0:Int),.int .i64 (0:Int),.nil]⟩),
 (118,⟨7,88,(.struct [(0,24),(3,24),(6,4)]),[.int .i64 (0:Int),.int .i64 (0:Int),.nil,.int .i64 (0:Int),.int .i64 (0:Int),.nil,.bool false]⟩),
 (121,⟨1,8,.fl,[.fl 0]⟩),
 (131,⟨1,24,(.slice 47),[.nil]⟩),
 (134,⟨1,24,(.slice 135),[.nil]⟩),
 (135,⟨1,24,(.slice 45),[.nil]⟩),
 (145,⟨9,120,(.array 3 24),[.int .i64 (0:Int),.int .i64 (0:Int),.nil,.int .i64 (0:Int),.int .i64 (0:Int),.nil,.int .i64 (0:Int),.int .i64 (0:Int),.nil]⟩),
 (147,⟨15,200,(.struct [(0,24),(3,24),(6,24),(9,24),(12,24)]),[.int .i64 (0:Int),.int .i64 (0:Int),.nil,.int .i64 (0:Int),.int .i64 (0:Int),.nil,.int .i64 (0:Int),.int .i64 (0:Int),.nil,.int .i64 (0:Int),.int .i64 (0:Int),.nil,.int .i64 (0:Int),.int .i64 (0:Int),.nil]⟩),
 (155,⟨3,40,(.struct [(0,3),(1,3),(2,131)]),[.int .i64 (0:Int),.int .i64 (0:Int),.nil]⟩),
 (166,⟨1,1,(.int .u8),[.int .u8 (0:Int)]⟩),
 (173,⟨1,4,(.int .u32),[.int .u32 (0:Int)]⟩),
 (183,⟨12,160,(.array 4 24),[.int .i64 (0:Int),.int .i64 (0:Int),.nil,.int .i64 (0:Int),.int .i64 (0:Int),.nil,.int .i64 (0:Int),.int .i64 (0:Int),.nil,.int .i64 (0:Int),.int .i64 (0:Int),.nil]⟩),
 (188,⟨2,16,(.array 2 3),[.int .i64 (0:Int),.int .i64 (0:Int)]⟩),
 (189,⟨1,24,(.slice 191),[.nil]⟩),
 (191,⟨3,40,(.struct [(0,22),(1,37),(2,37)]),[.nil,.int .u64 (0:Int),.int .u64 (0:Int)]⟩),
 (199,⟨3,24,(.struct [(0,4),(1,3),(2,36)]),[.bool false,.int .i64 (0:Int),.int .u64 (0:Int)]⟩),
 (208,⟨1,24,(.slice 214),[.nil]⟩),
 (214,⟨2,32,(.struct [(0,22),(1,37)]),[.nil,.int .u64 (0:Int)]⟩)]
theorem ty2:Bu Tryz.prog 2 ⟨1,8,(.int .i64),[.int .i64 (0:Int)]⟩:=Bw (z:=.int .i64 (0:Int)) (by kernel_rfl) (fun c w=>by simp [A5,Aj,Value.cells]) rfl (by simp [Value.cells,Value.oneCell']) (by simp only [B1]; exact Tryz.underlying2)
theorem ty3:Bu Tryz.prog 3 ⟨1,8,(.int .i64),[.int .i64 (0:Int)]⟩:=Bw (z:=.int .i64 (0:Int)) (by kernel_rfl) (fun c w=>by simp [A5,Aj,Value.cells]) rfl (by simp [Value.cells,Value.oneCell']) (by simp only [B1]; exact Tryz.underlying3)
theorem ty4:Bu Tryz.prog 4 ⟨1,1,.bool,[.bool false]⟩:=Bw (z:=.bool false) (by kernel_rfl) (fun c w=>by simp [A5,Aj,Value.cells]) rfl (by simp [Value.cells,Value.oneCell']) (by simp only [B1]; exact Tryz.underlying4)
theorem ty5:Bu Tryz.prog 5 ⟨1,1,(.int .u8),[.int .u8 (0:Int)]⟩:=Bw (z:=.int .u8 (0:Int)) (by kernel_rfl) (fun c w=>by simp [A5,Aj,Value.cells]) rfl (by simp [Value.cells,Value.oneCell']) (by simp only [B1]; exact Tryz.underlying5)
theorem Aty:Bu Tryz.prog 22 ⟨1,24,(.slice 37),[.nil]⟩:=Bw (z:=.slice none 0 0) (by kernel_rfl) (fun c w=>by simp [A5,Aj,Value.cells]) rfl (by simp [Value.cells,Value.oneCell']) (by simp only [B1]; exact Tryz.underlying22)
theorem Atx:Bu Tryz.prog 24 ⟨3,40,(.struct [(0,3),(1,3),(2,22)]),[.int .i64 (0:Int),.int .i64 (0:Int),.nil]⟩:=Bw (z:=.agg #[.int .i64 (0:Int),.int .i64 (0:Int),.slice none 0 0]) (by kernel_rfl) (fun c w=>by simp [A5,Aj,Value.cells]) rfl (by simp [Value.cells,Value.oneCell']) (by simp only [B1]; exact ⟨_,Tryz.underlying24,by kernel_rfl⟩)
theorem Atw:Bu Tryz.prog 25 ⟨1,8,(.int .i64),[.int .i64 (0:Int)]⟩:=Bw (z:=.int .i64 (0:Int)) (by kernel_rfl) (fun c w=>by simp [A5,Aj,Value.cells]) rfl (by simp [Value.cells,Value.oneCell']) (by simp only [B1]; exact Tryz.underlying25)
theorem Aq9:Bu Tryz.prog 36 ⟨1,8,(.int .u64),[.int .u64 (0:Int)]⟩:=Bw (z:=.int .u64 (0:Int)) (by kernel_rfl) (fun c w=>by simp [A5,Aj,Value.cells]) rfl (by simp [Value.cells,Value.oneCell']) (by simp only [B1]; exact Tryz.underlying36)
theorem Atv:Bu Tryz.prog 37 ⟨1,8,(.int .u64),[.int .u64 (0:Int)]⟩:=Bw (z:=.int .u64 (0:Int)) (by kernel_rfl) (fun c w=>by simp [A5,Aj,Value.cells]) rfl (by simp [Value.cells,Value.oneCell']) (by simp only [B1]; exact Tryz.underlying37)
theorem Atu:Bu Tryz.prog 38 ⟨1,24,(.slice 41),[.nil]⟩:=Bw (z:=.slice none 0 0) (by kernel_rfl) (fun c w=>by simp [A5,Aj,Value.cells]) rfl (by simp [Value.cells,Value.oneCell']) (by simp only [B1]; exact Tryz.underlying38)
theorem Att:Bu Tryz.prog 41 ⟨1,1,(.int .i8),[.int .i8 (0:Int)]⟩:=Bw (z:=.int .i8 (0:Int)) (by kernel_rfl) (fun c w=>by simp [A5,Aj,Value.cells]) rfl (by simp [Value.cells,Value.oneCell']) (by simp only [B1]; exact Tryz.underlying41)
theorem Ats:Bu Tryz.prog 43 ⟨1,24,(.slice 173),[.nil]⟩:=Bw (z:=.slice none 0 0) (by kernel_rfl) (fun c w=>by simp [A5,Aj,Value.cells]) rfl (by simp [Value.cells,Value.oneCell']) (by simp only [B1]; exact Tryz.underlying43)
theorem Atr:Bu Tryz.prog 45 ⟨2,32,(.struct [(0,4),(1,43)]),[.bool false,.nil]⟩:=Bw (z:=.agg #[.bool false,.slice none 0 0]) (by kernel_rfl) (fun c w=>by simp [A5,Aj,Value.cells]) rfl (by simp [Value.cells,Value.oneCell']) (by simp only [B1]; exact ⟨_,Tryz.underlying45,by kernel_rfl⟩)
theorem Atq:Bu Tryz.prog 47 ⟨3,40,(.struct [(0,45),(2,3)]),[.bool false,.nil,.int .i64 (0:Int)]⟩:=Bw (z:=.agg #[.bool false,.slice none 0 0,.int .i64 (0:Int)]) (by kernel_rfl) (fun c w=>by simp [A5,Aj,Value.cells]) rfl (by simp [Value.cells,Value.oneCell']) (by simp only [B1]; exact ⟨_,Tryz.underlying47,by kernel_rfl⟩)
theorem Atp:Bu Tryz.prog 57 ⟨12,160,(.struct [(0,24),(3,24),(6,24),(9,24)]),[.int .i64 (0:Int),.int .i64 (0:Int),.nil,.int .i64 (0:Int),.int .i64 (0:Int),.nil,.int .i64 (0:Int),.int .i64 (0:Int),.nil,.int .i64 (0:Int),.int .i64 (0:Int),.nil]⟩:=Bw (z:=.agg #[.int .i64 (0:Int),.int .i64 (0:Int),.slice none 0 0,.int .i64 (0:Int),.int .i64 (0:Int),.slice none 0 0,.int .i64 (0:Int),.int .i64 (0:Int),.slice none 0 0,.int .i64 (0:Int),.int .i64 (0:Int),.slice none 0 0]) (by kernel_rfl) (fun c w=>by simp [A5,Aj,Value.cells]) rfl (by simp [Value.cells,Value.oneCell']) (by simp only [B1]; exact ⟨_,Tryz.underlying57,by kernel_rfl⟩)
theorem Ato:Bu Tryz.prog 60 ⟨12,160,(.struct [(0,24),(3,24),(6,24),(9,24)]),[.int .i64 (0:Int),.int .i64 (0:Int),.nil,.int .i64 (0:Int),.int .i64 (0:Int),.nil,.int .i64 (0:Int),.int .i64 (0:Int),.nil,.int .i64 (0:Int),.int .i64 (0:Int),.nil]⟩:=Bw (z:=.agg #[.int .i64 (0:Int),.int .i64 (0:Int),.slice none 0 0,.int .i64 (0:Int),.int .i64 (0:Int),.slice none 0 0,.int .i64 (0:Int),.int .i64 (0:Int),.slice none 0 0,.int .i64 (0:Int),.int .i64 (0:Int),.slice none 0 0]) (by kernel_rfl) (fun c w=>by simp [A5,Aj,Value.cells]) rfl (by simp [Value.cells,Value.oneCell']) (by simp only [B1]; exact ⟨_,Tryz.underlying60,by kernel_rfl⟩)
theorem Atn:Bu Tryz.prog 71 ⟨9,120,(.struct [(0,24),(3,24),(6,24)]),[.int .i64 (0:Int),.int .i64 (0:Int),.nil,.int .i64 (0:Int),.int .i64 (0:Int),.nil,.int .i64 (0:Int),.int .i64 (0:Int),.nil]⟩:=Bw (z:=.agg #[.int .i64 (0:Int),.int .i64 (0:Int),.slice none 0 0,.int .i64 (0:Int),.int .i64 (0:Int),.slice none 0 0,.int .i64 (0:Int),.int .i64 (0:Int),.slice none 0 0]) (by kernel_rfl) (fun c w=>by simp [A5,Aj,Value.cells]) rfl (by simp [Value.cells,Value.oneCell']) (by simp only [B1]; exact ⟨_,Tryz.underlying71,by kernel_rfl⟩)
theorem Atm:Bu Tryz.prog 74 ⟨9,120,(.struct [(0,24),(3,24),(6,24)]),[.int .i64 (0:Int),.int .i64 (0:Int),.nil,.int .i64 (0:Int),.int .i64 (0:Int),.nil,.int .i64 (0:Int),.int .i64 (0:Int),.nil]⟩:=Bw (z:=.agg #[.int .i64 (0:Int),.int .i64 (0:Int),.slice none 0 0,.int .i64 (0:Int),.int .i64 (0:Int),.slice none 0 0,.int .i64 (0:Int),.int .i64 (0:Int),.slice none 0 0]) (by kernel_rfl) (fun c w=>by simp [A5,Aj,Value.cells]) rfl (by simp [Value.cells,Value.oneCell']) (by simp only [B1]; exact ⟨_,Tryz.underlying74,by kernel_rfl⟩)
theorem Atl:Bu Tryz.prog 80 ⟨7,88,(.struct [(0,24),(3,24),(6,25)]),[.int .i64 (0:Int),.int .i64 (0:Int),.nil,.int .i64 (0:Int),.int .i64 (0:Int),.nil,.int .i64 (0:Int)]⟩:=Bw (z:=.agg #[.int .i64 (0:Int),.int .i64 (0:Int),.slice none 0 0,.int .i64 (0:Int),.int .i64 (0:Int),.slice none 0 0,.int .i64 (0:Int)]) (by kernel_rfl) (fun c w=>by simp [A5,Aj,Value.cells]) rfl (by simp [Value.cells,Value.oneCell']) (by simp only [B1]; exact ⟨_,Tryz.underlying80,by kernel_rfl⟩)
theorem Atk:Bu Tryz.prog 88 ⟨9,120,(.struct [(0,24),(3,24),(6,24)]),[.int .i64 (0:Int),.int .i64 (0:Int),.nil,.int .i64 (0:Int),.int .i64 (0:Int),.nil,.int .i64 (0:Int),.int .i64 (0:Int),.nil]⟩:=Bw (z:=.agg #[.int .i64 (0:Int),.int .i64 (0:Int),.slice none 0 0,.int .i64 (0:Int),.int .i64 (0:Int),.slice none 0 0,.int .i64 (0:Int),.int .i64 (0:Int),.slice none 0 0]) (by kernel_rfl) (fun c w=>by simp [A5,Aj,Value.cells]) rfl (by simp [Value.cells,Value.oneCell']) (by simp only [B1]; exact ⟨_,Tryz.underlying88,by kernel_rfl⟩)
theorem Atj:Bu Tryz.prog 91 ⟨1,24,(.slice 24),[.nil]⟩:=Bw (z:=.slice none 0 0) (by kernel_rfl) (fun c w=>by simp [A5,Aj,Value.cells]) rfl (by simp [Value.cells,Value.oneCell']) (by simp only [B1]; exact Tryz.underlying91)
theorem Art:Bu Tryz.prog 102 ⟨1,8,(.int .i64),[.int .i64 (0:Int)]⟩:=Bw (z:=.int .i64 (0:Int)) (by kernel_rfl) (fun c w=>by simp [A5,Aj,Value.cells]) rfl (by simp [Value.cells,Value.oneCell']) (by simp only [B1]; exact Tryz.underlying102)
theorem Ars:Bu Tryz.prog 114 ⟨6,80,(.array 2 24),[.int .i64 (0:Int),.int .i64 (0:Int),.nil,.int .i64 (0:Int),.int .i64 (0:Int),.nil]⟩:=Bw (z:=.agg #[.int .i64 (0:Int),.int .i64 (0:Int),.slice none 0 0,.int .i64 (0:Int),.int .i64 (0:Int),.slice none 0 0]) (by kernel_rfl) (fun c w=>by simp [A5,Aj,Value.cells]) rfl (by simp [Value.cells,Value.oneCell']) (by simp only [B1]; exact Tryz.underlying114)
theorem Arr:Bu Tryz.prog 118 ⟨7,88,(.struct [(0,24),(3,24),(6,4)]),[.int .i64 (0:Int),.int .i64 (0:Int),.nil,.int .i64 (0:Int),.int .i64 (0:Int),.nil,.bool false]⟩:=Bw (z:=.agg #[.int .i64 (0:Int),.int .i64 (0:Int),.slice none 0 0,.int .i64 (0:Int),.int .i64 (0:Int),.slice none 0 0,.bool false]) (by kernel_rfl) (fun c w=>by simp [A5,Aj,Value.cells]) rfl (by simp [Value.cells,Value.oneCell']) (by simp only [B1]; exact ⟨_,Tryz.underlying118,by kernel_rfl⟩)
theorem Arq:Bu Tryz.prog 121 ⟨1,8,.fl,[.fl 0]⟩:=Bw (z:=.float .f64 0) (by kernel_rfl) (fun c w=>by simp [A5,Aj,Value.cells,Nq]) rfl (by simp [Value.cells,Value.oneCell']) (by simp only [B1]; exact Tryz.underlying121)
theorem Arp:Bu Tryz.prog 131 ⟨1,24,(.slice 47),[.nil]⟩:=Bw (z:=.slice none 0 0) (by kernel_rfl) (fun c w=>by simp [A5,Aj,Value.cells]) rfl (by simp [Value.cells,Value.oneCell']) (by simp only [B1]; exact Tryz.underlying131)
theorem Aro:Bu Tryz.prog 134 ⟨1,24,(.slice 135),[.nil]⟩:=Bw (z:=.slice none 0 0) (by kernel_rfl) (fun c w=>by simp [A5,Aj,Value.cells]) rfl (by simp [Value.cells,Value.oneCell']) (by simp only [B1]; exact Tryz.underlying134)
theorem Arn:Bu Tryz.prog 135 ⟨1,24,(.slice 45),[.nil]⟩:=Bw (z:=.slice none 0 0) (by kernel_rfl) (fun c w=>by simp [A5,Aj,Value.cells]) rfl (by simp [Value.cells,Value.oneCell']) (by simp only [B1]; exact Tryz.underlying135)
theorem Arm:Bu Tryz.prog 145 ⟨9,120,(.array 3 24),[.int .i64 (0:Int),.int .i64 (0:Int),.nil,.int .i64 (0:Int),.int .i64 (0:Int),.nil,.int .i64 (0:Int),.int .i64 (0:Int),.nil]⟩:=Bw (z:=.agg #[.int .i64 (0:Int),.int .i64 (0:Int),.slice none 0 0,.int .i64 (0:Int),.int .i64 (0:Int),.slice none 0 0,.int .i64 (0:Int),.int .i64 (0:Int),.slice none 0 0]) (by kernel_rfl) (fun c w=>by simp [A5,Aj,Value.cells]) rfl (by simp [Value.cells,Value.oneCell']) (by simp only [B1]; exact Tryz.underlying145)
theorem Arl:Bu Tryz.prog 147 ⟨15,200,(.struct [(0,24),(3,24),(6,24),(9,24),(12,24)]),[.int .i64 (0:Int),.int .i64 (0:Int),.nil,.int .i64 (0:Int),.int .i64 (0:Int),.nil,.int .i64 (0:Int),.int .i64 (0:Int),.nil,.int .i64 (0:Int),.int .i64 (0:Int),.nil,.int .i64 (0:Int),.int .i64 (0:Int),.nil]⟩:=Bw (z:=.agg #[.int .i64 (0:Int),.int .i64 (0:Int),.slice none 0 0,.int .i64 (0:Int),.int .i64 (0:Int),.slice none 0 0,.int .i64 (0:Int),.int .i64 (0:Int),.slice none 0 0,.int .i64 (0:Int),.int .i64 (0:Int),.slice none 0 0,.int .i64 (0:Int),.int .i64 (0:Int),.slice none 0 0]) (by kernel_rfl) (fun c w=>by simp [A5,Aj,Value.cells]) rfl (by simp [Value.cells,Value.oneCell']) (by simp only [B1]; exact ⟨_,Tryz.underlying147,by kernel_rfl⟩)
theorem Ark:Bu Tryz.prog 155 ⟨3,40,(.struct [(0,3),(1,3),(2,131)]),[.int .i64 (0:Int),.int .i64 (0:Int),.nil]⟩:=Bw (z:=.agg #[.int .i64 (0:Int),.int .i64 (0:Int),.slice none 0 0]) (by kernel_rfl) (fun c w=>by simp [A5,Aj,Value.cells]) rfl (by simp [Value.cells,Value.oneCell']) (by simp only [B1]; exact ⟨_,Tryz.underlying155,by kernel_rfl⟩)
theorem Arj:Bu Tryz.prog 166 ⟨1,1,(.int .u8),[.int .u8 (0:Int)]⟩:=Bw (z:=.int .u8 (0:Int)) (by kernel_rfl) (fun c w=>by simp [A5,Aj,Value.cells]) rfl (by simp [Value.cells,Value.oneCell']) (by simp only [B1]; exact Tryz.underlying166)
theorem Ari:Bu Tryz.prog 173 ⟨1,4,(.int .u32),[.int .u32 (0:Int)]⟩:=Bw (z:=.int .u32 (0:Int)) (by kernel_rfl) (fun c w=>by simp [A5,Aj,Value.cells]) rfl (by simp [Value.cells,Value.oneCell']) (by simp only [B1]; exact Tryz.underlying173)
theorem Arh:Bu Tryz.prog 183 ⟨12,160,(.array 4 24),[.int .i64 (0:Int),.int .i64 (0:Int),.nil,.int .i64 (0:Int),.int .i64 (0:Int),.nil,.int .i64 (0:Int),.int .i64 (0:Int),.nil,.int .i64 (0:Int),.int .i64 (0:Int),.nil]⟩:=Bw (z:=.agg #[.int .i64 (0:Int),.int .i64 (0:Int),.slice none 0 0,.int .i64 (0:Int),.int .i64 (0:Int),.slice none 0 0,.int .i64 (0:Int),.int .i64 (0:Int),.slice none 0 0,.int .i64 (0:Int),.int .i64 (0:Int),.slice none 0 0]) (by kernel_rfl) (fun c w=>by simp [A5,Aj,Value.cells]) rfl (by simp [Value.cells,Value.oneCell']) (by simp only [B1]; exact Tryz.underlying183)
theorem Arf:Bu Tryz.prog 188 ⟨2,16,(.array 2 3),[.int .i64 (0:Int),.int .i64 (0:Int)]⟩:=Bw (z:=.agg #[.int .i64 (0:Int),.int .i64 (0:Int)]) (by kernel_rfl) (fun c w=>by simp [A5,Aj,Value.cells]) rfl (by simp [Value.cells,Value.oneCell']) (by simp only [B1]; exact Tryz.underlying188)
theorem Are:Bu Tryz.prog 189 ⟨1,24,(.slice 191),[.nil]⟩:=Bw (z:=.slice none 0 0) (by kernel_rfl) (fun c w=>by simp [A5,Aj,Value.cells]) rfl (by simp [Value.cells,Value.oneCell']) (by simp only [B1]; exact Tryz.underlying189)
theorem Ard:Bu Tryz.prog 191 ⟨3,40,(.struct [(0,22),(1,37),(2,37)]),[.nil,.int .u64 (0:Int),.int .u64 (0:Int)]⟩:=Bw (z:=.agg #[.slice none 0 0,.int .u64 (0:Int),.int .u64 (0:Int)]) (by kernel_rfl) (fun c w=>by simp [A5,Aj,Value.cells]) rfl (by simp [Value.cells,Value.oneCell']) (by simp only [B1]; exact ⟨_,Tryz.underlying191,by kernel_rfl⟩)
theorem Arc:Bu Tryz.prog 199 ⟨3,24,(.struct [(0,4),(1,3),(2,36)]),[.bool false,.int .i64 (0:Int),.int .u64 (0:Int)]⟩:=Bw (z:=.agg #[.bool false,.int .i64 (0:Int),.int .u64 (0:Int)]) (by kernel_rfl) (fun c w=>by simp [A5,Aj,Value.cells]) rfl (by simp [Value.cells,Value.oneCell']) (by simp only [B1]; exact ⟨_,Tryz.underlying199,by kernel_rfl⟩)
theorem Arb:Bu Tryz.prog 208 ⟨1,24,(.slice 214),[.nil]⟩:=Bw (z:=.slice none 0 0) (by kernel_rfl) (fun c w=>by simp [A5,Aj,Value.cells]) rfl (by simp [Value.cells,Value.oneCell']) (by simp only [B1]; exact Tryz.underlying208)
theorem Ara:Bu Tryz.prog 214 ⟨2,32,(.struct [(0,22),(1,37)]),[.nil,.int .u64 (0:Int)]⟩:=Bw (z:=.agg #[.slice none 0 0,.int .u64 (0:Int)]) (by kernel_rfl) (fun c w=>by simp [A5,Aj,Value.cells]) rfl (by simp [Value.cells,Value.oneCell']) (by simp only [B1]; exact ⟨_,Tryz.underlying214,by kernel_rfl⟩)
theorem Aph:Pe Tryz.prog tys:=.cons ty2 <| .cons ty3 <| .cons ty4 <| .cons ty5 <| .cons Aty <| .cons Atx <| .cons Atw <| .cons Aq9 <| .cons Atv <| .cons Atu <| .cons Att <| .cons Ats <| .cons Atr <| .cons Atq <| .cons Atp <| .cons Ato <| .cons Atn <| .cons Atm <| .cons Atl <| .cons Atk <| .cons Atj <| .cons Art <| .cons Ars <| .cons Arr <| .cons Arq <| .cons Arp <| .cons Aro <| .cons Arn <| .cons Arm <| .cons Arl <| .cons Ark <| .cons Arj <| .cons Ari <| .cons Arh <| .cons Arf <| .cons Are <| .cons Ard <| .cons Arc <| .cons Arb <| .cons Ara <| .nil
def exts:List (Nat × Ext):=[(169,.bits),(210,.frombits),(263,.sqrt),(266,.sub64)]
def Abt:List (Nat × Ext)→Nat→Option Ext
 | [],_=>none
 | (m,e)::l,n=>bif Nat.beq m n then some e else Abt l n
theorem Ak2 (args:Array Value) (w:World):(callFunc 169 args).run Tryz.prog w=((Qf .bits args).run Tryz.prog w).andThen fun v w'=>.ok (.value v) w':=run_callFunc_extern (e:=Extern.MathFloatBits.float64bits) Tryz.func169 (by kernel_rfl) (by kernel_rfl) (by kernel_rfl) (by kernel_rfl) args w
theorem Ak1 (args:Array Value) (w:World):(callFunc 210 args).run Tryz.prog w=((Qf .frombits args).run Tryz.prog w).andThen fun v w'=>.ok (.value v) w':=run_callFunc_extern (e:=Extern.MathFloatBits.float64frombits) Tryz.func210 (by kernel_rfl) (by kernel_rfl) (by kernel_rfl) (by kernel_rfl) args w
theorem Ak0 (args:Array Value) (w:World):(callFunc 263 args).run Tryz.prog w=((Qf .sqrt args).run Tryz.prog w).andThen fun v w'=>.ok (.value v) w':=run_callFunc_extern (e:=Extern.MathSqrt.sqrt) Tryz.func263 (by kernel_rfl) (by kernel_rfl) (by kernel_rfl) (by kernel_rfl) args w
theorem Akz (args:Array Value) (w:World):(callFunc 266 args).run Tryz.prog w=((Qf .sub64 args).run Tryz.prog w).andThen fun v w'=>.ok (.value v) w':=run_callFunc_extern (e:=Ur) Tryz.func266 (by kernel_rfl) (by kernel_rfl) (by kernel_rfl) (by kernel_rfl) args w
def Aqr:List Nat:=[199,188]
theorem As4:Z4 Tryz.prog 199 ⟨3,24,(.struct [(0,4),(1,3),(2,36)]),[.bool false,.int .i64 (0:Int),.int .u64 (0:Int)]⟩ where
 guard:=by kernel_rfl
 eq:=by
  intro w c x y xs ys hx hy hlx hly
  obtain ⟨a0,x1,rfl,hx1⟩:=Uv hx
  obtain ⟨a1,x2,rfl,hx2⟩:=Hq hx1
  obtain ⟨a2,x3,rfl,hx3⟩:=Hq hx2
  obtain rfl:=O1 hx3
  obtain ⟨b0,y1,rfl,hy1⟩:=Uv hy
  obtain ⟨b1,y2,rfl,hy2⟩:=Hq hy1
  obtain ⟨b2,y3,rfl,hy3⟩:=Hq hy2
  obtain rfl:=O1 hy3
  obtain ⟨xs⟩:=xs
  obtain ⟨ys⟩:=ys
  simp only [A5.Ce,A5.Ff,Aj] at hlx hly
  obtain ⟨_,_,rfl,rfl,_,_,rfl,rfl,_,_,rfl,rfl,rfl⟩:=hlx
  obtain ⟨_,_,rfl,rfl,_,_,rfl,rfl,_,_,rfl,rfl,rfl⟩:=hly
  have hu:Tryz.prog.underlying 199=some (.struct (Tryz.prog.fieldsOf 199)):=by kernel_rfl
  have hp:Tryz.prog.stoodInHeld 199=false:=by kernel_rfl
  unfold Op.equal Op.maxDepth
  rw [run_equalIn_struct w 9999 199 _ _ hu hp]
  have hfs:Tryz.prog.fieldsOf 199=(match Tryz.prog.underlying 199 with | some (.struct fs)=>fs | _=>#[]):=rfl
  rw [hfs,Tryz.underlying199]
  simp [Op.eqFields,J4 w ty3 rfl,J4 w ty4 rfl,J4 w Aq9 rfl,run_equalIn_int w _ _ _ _ _ _ Tryz.underlying3,run_equalIn_bool w _ _ _ _ Tryz.underlying4,run_equalIn_int w _ _ _ _ _ _ Tryz.underlying36,Xz,V3]
  by_cases h0:a0=b0<;>by_cases h1:a1=b1<;>by_cases h2:a2=b2<;>simp [h0,h1,h2]
theorem As5:Z4 Tryz.prog 188 ⟨2,16,(.array 2 3),[.int .i64 (0:Int),.int .i64 (0:Int)]⟩ where
 guard:=by kernel_rfl
 eq:=by
  intro w c x y xs ys hx hy hlx hly
  obtain ⟨a0,x1,rfl,hx1⟩:=Hq hx
  obtain ⟨a1,x2,rfl,hx2⟩:=Hq hx1
  obtain rfl:=O1 hx2
  obtain ⟨b0,y1,rfl,hy1⟩:=Hq hy
  obtain ⟨b1,y2,rfl,hy2⟩:=Hq hy1
  obtain rfl:=O1 hy2
  obtain ⟨xs⟩:=xs
  obtain ⟨ys⟩:=ys
  simp only [A5.Ce,A5.Ff,Aj] at hlx hly
  obtain ⟨_,_,rfl,rfl,_,_,rfl,rfl,rfl⟩:=hlx
  obtain ⟨_,_,rfl,rfl,_,_,rfl,rfl,rfl⟩:=hly
  obtain ⟨i,_,hi,_⟩:=ty3.info
  have hc:Tryz.prog.cellsOf 3=1:=by kernel_rfl
  unfold Op.equal Op.maxDepth
  rw [run_equalIn_array w 9999 _ _ Tryz.underlying188 hi,hc]
  simp [Op.eqItems,List.range,List.range.loop,J4 w ty3 rfl,run_equalIn_int w _ _ _ _ _ _ Tryz.underlying3,Xz,V3]
  by_cases h0:a0=b0<;>by_cases h1:a1=b1<;>simp [h0,h1]
def Bg (Bf:Nat→Option Entry) (adopt:Nat→Bool) (hint:Nat→Option A9) (live:Nat→Option (List Nat)):Env:={ ty:=Aik tys,Bf:=Bf,ext:=Abt exts,eqs:=fun t=>J9 t Aqr,adopt:=adopt,live:=live,hint:=hint }
theorem A3 {l:List (Nat × Entry)} (h:A1 Tryz.prog l) (adopt:Nat→Bool) (hint:Nat→Option A9) (live:Nat→Option (List Nat)):Hy Tryz.prog (Bg (Be l) adopt hint live) where
 ty:=fun t ti ht=>Aph.get ht
 Bf:=fun g e hg=>(h.get hg).meets
 call:=fun g e hg=>(h.get hg).call
 ext:=by
  intro g x hx args w
  simp only [Bg,exts,Abt] at hx
  cases hb:Nat.beq 169 g with
  | true =>
    rw [hb] at hx
    cases hx
    obtain rfl:=Avp hb
    exact Ak2 args w
  | false =>
  rw [hb,Avb] at hx
  clear hb
  cases hb:Nat.beq 210 g with
  | true =>
    rw [hb] at hx
    cases hx
    obtain rfl:=Avp hb
    exact Ak1 args w
  | false =>
  rw [hb,Avb] at hx
  clear hb
  cases hb:Nat.beq 263 g with
  | true =>
    rw [hb] at hx
    cases hx
    obtain rfl:=Avp hb
    exact Ak0 args w
  | false =>
  rw [hb,Avb] at hx
  clear hb
  cases hb:Nat.beq 266 g with
  | true =>
    rw [hb] at hx
    cases hx
    obtain rfl:=Avp hb
    exact Akz args w
  | false =>
  rw [hb,Avb] at hx
  clear hb
  cases hx
 eqs:=by
  intro t ti ht hti
  simp only [Bg,Aqr,J9] at ht hti
  cases hb:Nat.beq t 199 with
  | true =>
    obtain rfl:=Avp hb
    cases hti
    exact As4
  | false =>
  rw [hb,Avb] at ht
  clear hb
  cases hb:Nat.beq t 188 with
  | true =>
    obtain rfl:=Avp hb
    cases hti
    exact As5
  | false =>
  rw [hb,Avb] at ht
  clear hb
  cases ht
 mixed:=by kernel_rfl
def Ao7:List (Nat × Ext):=[(169,.bitsN),(210,.frombits),(263,.sqrt),(266,.sub64)]
def Ao9:List (Nat × List CK)→Nat→List CK
 | [],_=>[]
 | (m,e)::l,n=>bif Nat.beq m n then e else Ao9 l n
def Ads (Bf:Nat→Option Entry) (adopt:Nat→Bool) (hint:Nat→Option A9) (live:Nat→Option (List Nat)) (adv:Nat→List CK):Env:={ ty:=Aik tys,Bf:=Bf,ext:=Abt Ao7,eqs:=fun t=>J9 t Aqr,adopt:=adopt,live:=live,hint:=hint,adv:=adv }
theorem An8 {l:List (Nat × Entry)} (h:A1 Tryz.prog l) (adopt:Nat→Bool) (hint:Nat→Option A9) (live:Nat→Option (List Nat)) (adv:Nat→List CK):Hy Tryz.prog (Ads (Be l) adopt hint live adv) :=
 have k:=A3 h adopt hint live
 ⟨k.ty,k.Bf,k.call,(by
  intro g x hx args w
  simp only [Ads,Ao7,Abt] at hx
  cases hb:Nat.beq 169 g with
  | true =>
    rw [hb] at hx
    cases hx
    obtain rfl:=Avp hb
    exact Ak2 args w
  | false =>
  rw [hb,Avb] at hx
  clear hb
  cases hb:Nat.beq 210 g with
  | true =>
    rw [hb] at hx
    cases hx
    obtain rfl:=Avp hb
    exact Ak1 args w
  | false =>
  rw [hb,Avb] at hx
  clear hb
  cases hb:Nat.beq 263 g with
  | true =>
    rw [hb] at hx
    cases hx
    obtain rfl:=Avp hb
    exact Ak0 args w
  | false =>
  rw [hb,Avb] at hx
  clear hb
  cases hb:Nat.beq 266 g with
  | true =>
    rw [hb] at hx
    cases hx
    obtain rfl:=Avp hb
    exact Akz args w
  | false =>
  rw [hb,Avb] at hx
  clear hb
  cases hx),k.eqs,k.mixed,k.spoil⟩
end Go.Proofs.S1
namespace Go.C4
def Kp (V k:Nat):Nat:=V / 2^k+(if 2^k<2*(V%2^k)∨(2*(V%2^k)=2^k∧V / 2^k%2=1) then 1 else 0)
def H9 (V:Nat) (s:Int):Nat:=Kp (V*2^(-s).toNat) s.toNat
def Kl (V:Nat) (s:Int):Bool:=decide (V*2^(-s).toNat%2^s.toNat=0)
def Ca (M:Nat) (E:Int):Int:=max (E+M.log2-52) (-1074)
def kept (M:Nat) (E:Int):Nat:=H9 M (Ca M E-E)
def F2:Nat:=2047*2^52
def B3 (M:Nat) (E:Int):Nat:=if M=0 then 0 else min ((Ca M E+1074).toNat*2^52+kept M E) F2
def exact (M:Nat) (E:Int):Bool:=Kl M (Ca M E-E)
def flags (r:Nat) (ex:Bool):Nat:=if r=F2 then 5 else if ex then 0 else if 2^52≤r then 1 else 3
def flagsOf (M:Nat) (E:Int):Nat:=if M=0 then 0 else flags (B3 M E) (exact M E)
theorem B4 (k:Nat):0<2^k:=Nat.pow_pos (by decide)
theorem Ly (V:Nat):Kp V 0=V:=by
 unfold Kp; simp [Nat.mod_one]
theorem Q4 (V a k:Nat):Kp (V*2^a) (a+k)=Kp V k:=by
 unfold Kp
 have hA:=B4 a
 have e:2^(a+k)=2^a*2^k:=Avw 2 a k
 have hd:V*2^a / 2^(a+k)=V / 2^k:=by
  rw [e,Avv V,Nat.mul_div_mul_left _ _ hA]
 have hm:V*2^a%2^(a+k)=2^a*(V%2^k):=by
  rw [e,Avv V,Nat.mul_mod_mul_left]
 rw [hd,hm,e]
 have h1:(2^a*2^k<2*(2^a*(V%2^k)))↔(2^k<2*(V%2^k)):=by
  rw [Nat.mul_left_comm 2]
  exact Nat.mul_lt_mul_left hA
 have h2:(2*(2^a*(V%2^k))=2^a*2^k)↔(2*(V%2^k)=2^k):=by
  rw [Nat.mul_left_comm 2]
  exact Nat.mul_right_inj (by omega)
 simp only [h1,h2]
theorem mod_mul (V a k:Nat):(V*2^a%2^(a+k)=0)↔(V%2^k=0):=by
 have hA:=B4 a
 rw [Avw,Avv V,Nat.mul_mod_mul_left]
 constructor
 ·intro h
  rcases Nat.mul_eq_zero.1 h with h | h
  ·omega
  ·exact h
 ·intro h; rw [h]; rfl
theorem Tf (V k:Nat) (s:Int):H9 (V*2^k) (s+k)=H9 V s∧Kl (V*2^k) (s+k)=Kl V s:=by
 unfold H9 Kl
 by_cases h0:0≤s
 ·have e1:(-(s+k)).toNat=0:=by omega
  have e2:(-s).toNat=0:=by omega
  have e3:(s+k).toNat=k+s.toNat:=by omega
  rw [e1,e2,e3,Av5,Awg,Awg]
  exact ⟨Q4 V k _,by simp only [mod_mul]⟩
 ·by_cases h1:0≤s+k
  ·have e1:(-(s+k)).toNat=0:=by omega
   have e2:s.toNat=0:=by omega
   have e3:k=(s+k).toNat+(-s).toNat:=by omega
   rw [e1,e2,Av5,Awg]
   have e4:V*2^k=V*2^(-s).toNat*2^(s+k).toNat:=by
    rw [Avy,← Avw,Nat.add_comm (-s).toNat,← e3]
   rw [e4]
   refine ⟨?_,?_⟩
   ·have:=Q4 (V*2^(-s).toNat) (s+k).toNat 0
    rw [Awf] at this; exact this
   ·have:=mod_mul (V*2^(-s).toNat) (s+k).toNat 0
    rw [Awf,Av5] at this
    simp only [this]
  ·have e1:(s+k).toNat=0:=by omega
   have e2:s.toNat=0:=by omega
   have e3:(-s).toNat=k+(-(s+k)).toNat:=by omega
   rw [e1,e2,e3,Avw,Avy]
   exact ⟨rfl,rfl⟩
theorem Rj (M k:Nat) (hM:M≠0):(M*2^k).log2=M.log2+k:=by
 have hk:=B4 k
 have hne:M*2^k≠0:=by
  intro h
  rcases Nat.mul_eq_zero.1 h with h | h<;>omega
 have h1:=Nat.log2_self_le hM
 have h2:=Nat.lt_log2_self (n:=M)
 have a:M.log2+k≤(M*2^k).log2:=by
  rw [Nat.le_log2 hne,Avw]
  exact Avj _ h1
 have b:(M*2^k).log2<M.log2+k+1:=by
  rw [Awn hne,Nat.add_right_comm,Avw]
  exact (Nat.mul_lt_mul_right hk).2 h2
 omega
theorem Y8 {n a:Nat} (h1:2^a≤n) (h2:n<2^(a+1)):n.log2=a:=by
 have:=B4 a
 have hn:n≠0:=by omega
 have b1:=(Nat.le_log2 hn).2 h1
 have b2:=(Awn hn).2 h2
 omega
theorem Adm (M k:Nat) (E:Int) (hM:M≠0):Ca (M*2^k) (E-k)=Ca M E:=by
 unfold Ca; rw [Rj M k hM]; congr 1; omega
theorem Ku {M k:Nat} (hM:M≠0):M*2^k≠0:=by
 have:=B4 k
 intro h
 rcases Nat.mul_eq_zero.1 h with h | h<;>omega
theorem C1 (M k:Nat) (E:Int):B3 (M*2^k) (E-k)=B3 M E∧flagsOf (M*2^k) (E-k)=flagsOf M E:=by
 by_cases hM:M=0
 ·subst hM; simp [B3,flagsOf]
 ·have hl:=Adm M k E hM
  have e:Ca M E-(E-k)=Ca M E-E+k:=by omega
  have h1:B3 (M*2^k) (E-k)=B3 M E:=by
   unfold B3 kept
   rw [Avt (Ku hM),Avt hM,hl,e,(Tf M k _).1]
  refine ⟨h1,?_⟩
  unfold flagsOf
  rw [Avt (Ku hM),Avt hM,h1]
  unfold exact
  rw [hl,e,(Tf M k _).2]
theorem Ai7 {V s d k:Nat} (hs:s%2=1) (h1:(s-1)*2^d<V) (h2:V<(s+1)*2^d) (hk:2≤k) :
 Kp V (d+k)=Kp s k∧V%2^(d+k)≠0∧s%2^k≠0:=by
 have hA:=B4 d
 obtain ⟨j,rfl⟩:∃ j,k=j+2:=⟨k-2,by omega⟩
 have hB:2^(j+2)=4*2^j:=by rw [Avw]; omega
 have hBp:=B4 (j+2)
 have hC:=B4 j
 have hsd:=Nat.div_add_mod s (2^(j+2))
 have hr2:s%2^(j+2)%2=1:=by
  rw [hB,show 4*2^j=2*(2*2^j) by omega,Nat.mod_mul_right_mod]; exact hs
 have hrlt:=Nat.mod_lt s hBp
 generalize hq:s / 2^(j+2)=q at *
 generalize hr:s%2^(j+2)=r at *
 have hAB:2^(d+(j+2))=2^d*2^(j+2):=Avw 2 d (j+2)
 generalize hBB:2^(j+2)=b at *
 generalize hAA:2^d=a at *
 have e1:(s-1)*a=q*(a*b)+(r-1)*a:=by
  have:s-1=b*q+(r-1):=by omega
  rw [this,Awb,Avv b q,Avy,Avv b a]
 have e2:(s+1)*a=q*(a*b)+(r+1)*a:=by
  have:s+1=b*q+(r+1):=by omega
  rw [this,Awb,Avv b q,Avy,Avv b a]
 have e3:(r+1)*a≤b*a:=Avj a (by omega)
 rw [Avv b a] at e3
 rw [e1] at h1
 rw [e2] at h2
 have hdiv:V / (a*b)=q:=Nat.div_eq_of_lt_le (by omega) (by rw [Awb]; omega)
 have hmod:V%(a*b)=V-q*(a*b):=by
  have:=Nat.div_add_mod V (a*b)
  rw [hdiv,Avv (a*b) q] at this; omega
 have hb2:b=2*(2*2^j):=by omega
 generalize hc:2^j=c at *
 have hR1:(r-1)*a<V-q*(a*b):=by omega
 have hR2:V-q*(a*b)<(r+1)*a:=by omega
 generalize hR:V-q*(a*b)=R at *
 have hab:a*b=2*(2*c*a):=by rw [hb2,Avv a,Avy]
 have key:(a*b<2*R∨(2*R=a*b∧q%2=1))↔(b<2*r∨(2*r=b∧q%2=1)):=by
  rw [hab,hb2]
  rcases Av4 r (2*c) with hlt | hge
  ·have:(r+1)*a≤2*c*a:=Avj a (by omega)
   constructor<;>(intro h; omega)
  ·have hgt:2*c+1≤r:=by omega
   have:2*c*a≤(r-1)*a:=Avj a (by omega)
   constructor
   ·intro _; left; omega
   ·intro _; left; omega
 refine ⟨?_,?_,?_⟩
 ·unfold Kp
  rw [hAB,hdiv,hmod,hBB,hq,hr]
  simp only [key]
 ·rw [hAB,hmod]
  have:=Nat.zero_le ((r-1)*a)
  omega
 ·omega
theorem N0 {V s d:Nat} {E:Int} (hs:s%2=1) (h1:(s-1)*2^d<V) (h2:V<(s+1)*2^d) (hl:Ca V E=Ca s (E+d)) (hk:E+d+2≤Ca s (E+d)) :
 B3 V E=B3 s (E+d)∧flagsOf V E=flagsOf s (E+d):=by
 have hV:V≠0:=by omega
 have hs0:s≠0:=by omega
 generalize hL:Ca s (E+d)=L at *
 obtain ⟨k,hk2⟩:∃ k:Nat,L-(E+d)=k+2:=⟨(L-(E+d)-2).toNat,by omega⟩
 obtain ⟨a1,a2,a3⟩:=Ai7 (k:=k+2) hs h1 h2 (by omega)
 have e1:(L-E).toNat=d+(k+2):=by omega
 have e2:(-(L-E)).toNat=0:=by omega
 have e3:(L-(E+d)).toNat=k+2:=by omega
 have e4:(-(L-(E+d))).toNat=0:=by omega
 have hr:B3 V E=B3 s (E+d):=by
  unfold B3 kept H9
  rw [Avt hV,Avt hs0,hl,hL,e1,e2,e3,e4]
  simp only [Av5,Awg]
  rw [a1]
 refine ⟨hr,?_⟩
 unfold flagsOf exact Kl
 rw [Avt hV,Avt hs0,hr,hl,hL,e1,e2,e3,e4]
 simp only [Av5,Awg,a2,a3,decide_false]
theorem Ob {V s d:Nat} (hs:s%2=1) (hs3:3≤s) (h1:(s-1)*2^d<V) (h2:V<(s+1)*2^d):V.log2=s.log2+d:=by
 have hs0:s≠0:=by omega
 have a1:=Nat.log2_self_le hs0
 have a2:=Nat.lt_log2_self (n:=s)
 have hl:1≤s.log2:=by rw [Nat.le_log2 hs0]; omega
 obtain ⟨t,ht⟩:∃ t,s.log2=t+1:=⟨s.log2-1,by omega⟩
 rw [ht] at a1 a2 ⊢
 have ev1:2^(t+1)=2*2^t:=by rw [Nat.pow_succ]; omega
 have ev2:2^(t+1+1)=2*(2*2^t):=by rw [Nat.pow_succ,ev1]; omega
 refine Y8 ?_ ?_
 ·rw [Avw]
  have:2^(t+1)*2^d≤(s-1)*2^d:=Avj _ (by omega)
  omega
 ·have e:t+1+d+1=(t+1+1)+d:=by omega
  rw [e,Avw]
  have:(s+1)*2^d≤2^(t+1+1)*2^d:=Avj _ (by omega)
  omega
end Go.C4
namespace Go.C4
def Db (b:Nat):Bool:=decide (2^63≤b)
def Eb (b:Nat):Nat:=b / 2^52%2048
def Dr (b:Nat):Nat:=b%2^52
def As (b:Nat):Nat:=if Eb b=2047 then (if Dr b=0 then 3 else 4) else if 0<Eb b then 2 else if 0<Dr b then 1 else 0
def I1 (b:Nat):Bool:=decide (Eb b<2047)
def Gy (b:Nat):Nat:=if 2^63≤b then b-2^63 else b+2^63
def Aw (b:Nat):Nat:=if Eb b=0 then Dr b else Dr b+2^52
def A2 (b:Nat):Int:=if Eb b=0 then -1074 else (Eb b:Int)-1075
def B5 (neg:Bool) (r:Nat):Nat:=if neg then 2^63+r else r
def Gv (neg:Bool) (m:Nat):Int:=if neg then -(m:Int) else m
def Gu (b:Nat) (e:Int):Int:=Gv (Db b) (Aw b*2^(A2 b-e).toNat)
def Wi:Nat:=0x7ff8000000000000
def Lk (z:Nat) (S:Int) (e:Int):Nat × Nat :=
 if S=0 then (z,0) else (B5 (decide (S<0)) (B3 S.natAbs e),flagsOf S.natAbs e)
def Ni (a b:Nat):Nat × Nat :=
 if As a=4∨As b=4 then (Wi,0)
 else if As a=3 then (if As b=3∧a≠b then (Wi,16) else (a,0))
 else if As b=3 then (b,0)
 else Lk (B5 (Db a&&Db b) 0) (Gu a (min (A2 a) (A2 b))+Gu b (min (A2 a) (A2 b))) (min (A2 a) (A2 b))
def Ap0 (a b:Nat):Nat × Nat:=Ni a (Gy b)
def Fi (neg:Bool) (m:Nat) (e:Int) (more:Bool):Nat × Nat :=
 (B5 neg (B3 (4*m+more.toNat) (e-2)),flagsOf (4*m+more.toNat) (e-2))
def Dk (x:Int):Bool:=Db x.toNat
def Jr (x:Int):Int:=Eb x.toNat
def Cl (x:Int):Int:=Dr x.toNat
def Bd (x:Int):Int:=As x.toNat
def Dd (x:Int):Bool:=I1 x.toNat
def C6 (x:Int):Int:=Gy x.toNat
def Bk (x:Int):Int:=Aw x.toNat
def Az (x:Int):Int:=A2 x.toNat
def D5 (neg:Bool) (m e:Int) (more:Bool):Int:=(Fi neg m.toNat e more).1
def D4 (neg:Bool) (m e:Int) (more:Bool):Int:=(Fi neg m.toNat e more).2
def Hx (a b:Int):Int:=(Ni a.toNat b.toNat).1
def Tv (a b:Int):Int:=(Ni a.toNat b.toNat).2
def El (a b:Int):Int:=(Ap0 a.toNat b.toNat).1
def Ass (a b:Int):Int:=(Ap0 a.toNat b.toNat).2
theorem Ia (b:Nat):Eb b<2048:=Nat.mod_lt _ (by decide)
theorem K0 (b:Nat):Dr b<4503599627370496:=Nat.mod_lt _ (by decide)
theorem Fm (b:Nat):Aw b<9007199254740992:=by
 have:=K0 b
 unfold Aw; split<;>omega
theorem Em (b:Nat):-1074≤A2 b∧A2 b≤972:=by
 have:=Ia b
 unfold A2; split<;>omega
theorem O2 {m:Nat} {e:Int} (h1:2^52≤m) (h2:m<2^53) (he:-1074≤e):B3 m e=min ((e+1074).toNat*2^52+m) F2:=by
 have hl:m.log2=52:=Y8 h1 h2
 have hm:m≠0:=by omega
 have hle:Ca m e=e:=by unfold Ca; rw [hl]; omega
 unfold B3 kept
 rw [Avt hm,hle,Int.sub_self]
 unfold H9
 simp [Ly]
theorem Ux {m:Nat} (h2:m<2^52):B3 m (-1074)=m:=by
 by_cases hm:m=0
 ·subst hm; rfl
 ·have hl:m.log2<52:=(Awn hm).2 h2
  have hle:Ca m (-1074)=-1074:=by unfold Ca; omega
  unfold B3 kept
  rw [Avt hm,hle,Int.sub_self]
  unfold H9 F2
  simp [Ly]
  omega
theorem T5 (m:Nat) (e:Int):B3 m e≤F2:=by
 unfold B3
 split
 ·exact Nat.zero_le _
 ·exact Nat.min_le_right _ _
theorem Ig:F2=9218868437227405312:=rfl
theorem Q0 (m:Nat) (e:Int):B3 m e<2^63:=by
 have:=T5 m e
 rw [Ig] at this
 omega
theorem Nz (n:Bool) (m:Nat) (e:Int):B5 n (B3 m e)<2^64:=by
 have:=Q0 m e
 unfold B5; split<;>omega
theorem Ve {r:Nat} (h:r<2^63):Gy r=2^63+r:=by
 unfold Gy; rw [Avt (by omega)]; omega
end Go.C4
namespace Go.C4
open Go.Den
def I6 (m e:Int):Bool:=Cf (0≤m∧m≤9007199254740992∧-1074≤e∧e+m / 9007199254740992≤100000)
def Mr (m e:Int):Nat:=if 9007199254740992≤m then 1 else if m<4503599627370496 then 2+(e+1074).toNat else 0
def Q6 (n:Bool) (m e:Int):Int:=B5 n (B3 m.toNat e)
def Du (m e:Int) (r:Bool):Bool :=
 Cf (0≤m∧m<18446744073709551616∧e≤50000∧(-1137≤e∨(m<4611686018427387904∧-1140≤e))∧(r=true→4503599627370496≤m∨e≤-1074))
def Ez (n D:Nat):Nat:=if n%2^D=0 then n / 2^D else 2*(n / 2^D / 2)+1
def Ea (m d:Int):Int:=Ez m.toNat (min d.toNat 63)
def Dq (l:List Int):Bool:=Cf (l.length<4611686018427387904∧∀ x∈l,Ah x=true)
def On (x:Nat):Nat:=if As x=4 then Wi else x
def Wb (x:Int):Int:=On x.toNat
def Na (x:Nat):Int:=On x
def Pk (x:Int):Bool:=Cf (0≤x)
theorem N6 (n:Nat):Pk (n:Int)=true:=Ao.2 (Int.natCast_nonneg n)
theorem Rf {x:Int} (h:Pk x=true):∃ n:Nat,x=n:=⟨x.toNat,by have:=Ao.1 h; omega⟩
end Go.C4
namespace Go.C4
theorem Asv (a c:Nat):(a+1)*c+c=a*c+(c+c):=by rw [Awb,Nat.one_mul,Nat.add_assoc]
theorem Aru:2^52+2^52=2^53:=by decide
theorem Asu (a:Nat):(a+1)*2^52+2^52=a*2^52+2^53:=(Asv a (2^52)).trans (congrArg (fun x=>a*2^52+x) Aru)
theorem Apj:2^52*2^1=2^53:=by decide
theorem Amz {E:Int}:B3 (2^53) E=B3 (2^52) (E+1):=by
 have:=(C1 (2^52) 1 (E+1)).1
 have e1:E+1-((1:Nat):Int)=E:=by omega
 rw [e1,Apj] at this
 exact this
theorem Ai1 {E:Int} (hE:-1074≤E):B3 (2^53) E=min ((E+1074).toNat*2^52+2^53) F2:=by
 have e3:(E+1+1074).toNat=(E+1074).toNat+1:=by omega
 rw [Amz,O2 (by decide) (by decide) (by omega),e3]
 exact congrArg (fun x=>min x F2) (Asu _)
theorem Agc {q:Nat} {E:Int} (h1:q≤2^53) (hE:-1074≤E) (h2:2^52≤q∨E=-1074):B3 q E=min ((E+1074).toNat*2^52+q) F2:=by
 by_cases ha:q=2^53
 ·rw [ha]; exact Ai1 hE
 ·by_cases hb:2^52≤q
  ·exact O2 hb (by omega) hE
  ·obtain rfl:E=-1074:=h2.resolve_left hb
   rw [Ux (by omega)]
   unfold F2
   simp
   omega
theorem Agj {M D s:Nat} (hs:s≤1):Kp (4*M+s) (D+2)=M / 2^D+(if 0<D∧(2^(D-1)<M%2^D∨(M%2^D=2^(D-1)∧(s=1∨M / 2^D%2=1))) then 1 else 0) ∧
 ((4*M+s)%2^(D+2)=0↔M%2^D=0∧s=0):=by
 have hp:2^(D+2)=2^D*4:=by rw [Avw]
 have hA:=B4 D
 have hdm:=Nat.div_add_mod M (2^D)
 have hlt:=Nat.mod_lt M hA
 have hdiv:(4*M+s) / (2^D*4)=M / 2^D:=by
  rw [Avv (2^D) 4,← Av0]
  congr 1; omega
 have hmod:(4*M+s)%(2^D*4)=4*(M%2^D)+s:=by
  have h:=Nat.div_add_mod (4*M+s) (2^D*4)
  rw [hdiv] at h
  have e:2^D*4*(M / 2^D)=4*(2^D*(M / 2^D)):=by rw [Avv (2^D) 4,Avy]
  rw [e] at h
  omega
 unfold Kp
 rw [hp,hdiv,hmod]
 generalize M%2^D=r at *
 generalize M / 2^D=q at *
 refine ⟨?_,by omega⟩
 congr 1
 have key:(2^D*4<2*(4*r+s)∨2*(4*r+s)=2^D*4∧q%2=1)↔(0<D∧(2^(D-1)<r∨(r=2^(D-1)∧(s=1∨q%2=1)))):=by
  cases D with
  | zero=>simp only [Av5] at hlt ⊢; omega
  | succ d =>
    rw [Nat.pow_succ] at hlt ⊢
    simp only [Nat.add_sub_cancel]
    generalize 2^d=c at *
    omega
 simp only [key]
structure Drop (M:Nat) (e:Int) (D:Nat):Prop where
 le:D≤63
 stop:D<63→M / 2^D<2^53∧-1074≤e+D
 least:∀ d,d<D→2^53≤M / 2^d∨e+d < -1074
def qOf (M D s:Nat):Nat:=M / 2^D+(if 0<D∧(2^(D-1)<M%2^D∨(M%2^D=2^(D-1)∧(s=1∨M / 2^D%2=1))) then 1 else 0)
theorem Aja {M D s:Nat} (h:M / 2^D<2^53):qOf M D s≤2^53:=by
 unfold qOf; split<;>omega
theorem Ajb {M D s:Nat}:M / 2^D≤qOf M D s:=by unfold qOf; omega
theorem Aqu {M D:Nat} {c:Nat} (h:M / 2^D<c):M<c*2^D:=(Nat.div_lt_iff_lt_mul (B4 D)).1 h
theorem Akl {M D:Nat} {c:Nat} (h:c≤M / 2^D):c*2^D≤M:=(Nat.le_div_iff_mul_le (B4 D)).1 h
theorem Vq {V:Nat} {E L:Int} (h:(E+V.log2-52=L∧-1074≤L)∨(E+V.log2-52≤L∧L=-1074)):Ca V E=L:=by unfold Ca; omega
theorem Ag3 {M s:Nat} (hs:s≤1) (hM:M≠0):(4*M+s).log2=M.log2+2:=by
 have h1:=Nat.log2_self_le hM
 have h2:=Nat.lt_log2_self (n:=M)
 refine Y8 ?_ ?_
 ·rw [Avw]; omega
 ·have e:2^(M.log2+2+1)=2^(M.log2+1)*4:=by rw [show M.log2+2+1=M.log2+1+2 by omega,Avw]
  omega
theorem Agu {M D s:Nat} {e:Int} (hD:Drop M e D) (hs:s≤1) (hV:4*M+s≠0) (hM:M<2^64) (he:-1137≤e∨(M<2^62∧-1140≤e)) (hr:s=1→2^52≤M∨e≤-1074) :
 B3 (4*M+s) (e-2)=B3 (if e+D < -1074 then 0 else qOf M D s) (max (e+D) (-1074)) ∧
 flagsOf (4*M+s) (e-2)=flags (B3 (4*M+s) (e-2)) (decide (M%2^D=0∧s=0)) ∧
 (if e+D < -1074 then 0 else qOf M D s)≤2^53:=by
 have hA:=B4 D
 by_cases hlow:e+D < -1074
 ·
  have hD63:D=63:=by
   rcases Av4 D 63 with h | h
   ·have:=(hD.stop h).2; omega
   ·have:=hD.le; omega
  subst hD63
  have hM62:M<2^62:=by rcases he with h | h; omega; exact h.1
  have he2:-1140≤e:=by rcases he with h | h; omega; exact h.2
  have hV64:4*M+s<2^64:=by omega
  have hlog:(4*M+s).log2<64:=(Awn hV).2 hV64
  have hl:Ca (4*M+s) (e-2)=-1074:=Vq (.inr ⟨by omega,rfl⟩)
  obtain ⟨k,hk⟩:∃ k:Nat,(-1074-(e-2)).toNat=66+k:=⟨(-1074-(e-2)).toNat-66,by omega⟩
  have e2:(-(-1074-(e-2))).toNat=0:=by omega
  have hp:2^66≤2^(66+k):=Avm (by decide) (by omega)
  have hsm:4*M+s<2^(66+k):=by omega
  have hz:H9 (4*M+s) (-1074-(e-2))=0:=by
   unfold H9 Kp
   rw [e2,hk,Av5,Awg,Nat.div_eq_of_lt hsm,Avk hsm,Avt (by omega)]
  have hru:B3 (4*M+s) (e-2)=0:=by
   unfold B3 kept
   rw [Avt hV,hl,hz]
   simp
  refine ⟨?_,?_,?_⟩
  ·rw [hru,Avu hlow]; rfl
  ·unfold flagsOf exact Kl
   rw [Avt hV,hl,e2,hk,Av5,Awg,Avk hsm]
   congr 1
   have h63:M%2^63=M:=Avk (by omega)
   rw [h63,Avn]
   simp only [Ave]
   omega
  ·rw [Avu hlow]; exact Nat.zero_le _
 ·have hmax:max (e+D) (-1074)=e+D:=by omega
  have hq:M / 2^D<2^53:=by
   rcases Av4 D 63 with h | h
   ·exact (hD.stop h).1
   ·have:D=63:=by have:=hD.le; omega
    subst this
    exact Av9 (Nat.div_le_of_le_mul (show M≤2^63*2 by omega)) (by decide)
  obtain ⟨c1,c2⟩:=Agj (M:=M) (D:=D) hs
  rw [Avt hlow,hmax]
  refine ⟨?_,?_,Aja hq⟩
  all_goals
   by_cases hD0:D=0∧s=0
   ·obtain ⟨rfl,rfl⟩:=hD0
    have hM0:M≠0:=by omega
    obtain ⟨s1,s2⟩:=C1 M 2 e
    have e1:M*2^2=4*M+0:=by omega
    have e2:e-((2:Nat):Int)=e-2:=by omega
    rw [e1,e2] at s1 s2
    have hq0:qOf M 0 0=M:=by unfold qOf; simp
    have hle:Ca M e≤e:=by
     have:M.log2<53:=(Awn hM0).2 (by simpa using hq)
     unfold Ca; simp only [Int.natCast_zero,Int.add_zero] at hlow; omega
    first
    | (rw [s1,hq0]; simp; done)
    | (rw [s2,s1]
       unfold flagsOf exact Kl
       have z:(Ca M e-e).toNat=0:=by omega
       rw [Avt hM0,z]
       simp [Nat.mod_one])
   ·
    have hl:Ca (4*M+s) (e-2)=e+D:=by
     by_cases hM0:M=0
     ·subst hM0
      have hs1:s=1:=by omega
      subst hs1
      have hle:e+D=-1074:=by
       rcases Nat.eq_zero_or_pos D with rfl | hpos
       ·have:=hr rfl; omega
       ·have h:=hD.least (D-1) (by omega)
        simp only [Nat.zero_div] at h
        omega
      refine Vq (.inr ⟨?_,hle⟩)
      have:(4*0+1:Nat).log2=0:=by decide
      rw [this]; omega
     ·have hlog:=Ag3 hs hM0
      have hub:M.log2<53+D:=by
       rw [Awn hM0,Avw]; exact Aqu hq
      have hcase:52+D≤M.log2∨e+D=-1074:=by
       rcases Nat.eq_zero_or_pos D with rfl | hpos
       ·have hs1:s=1:=by omega
        rcases hr hs1 with h | h
        ·left; rw [Nat.le_log2 hM0]; simpa using h
        ·right; simp only [Int.natCast_zero,Int.add_zero] at hlow ⊢; omega
       ·rcases hD.least (D-1) (by omega) with h | h
        ·left
         rw [Nat.le_log2 hM0]
         have:=Akl h
         have e1:2^(52+D)=2^53*2^(D-1):=by rw [← Avw]; congr 1; omega
         rw [e1]; exact this
        ·right; omega
      refine Vq ?_
      rw [hlog]
      rcases hcase with h | h
      ·left; omega
      ·right; omega
    have e1:(e+D-(e-2)).toNat=D+2:=by omega
    have e2:(-(e+(D:Int)-(e-2))).toNat=0:=by omega
    have hkept:kept (4*M+s) (e-2)=qOf M D s:=by
     unfold kept H9
     rw [hl,e1,e2,Av5,Awg,c1]; rfl
    first
    | (have hbig:2^52≤qOf M D s∨e+D=-1074:=by
        rcases Nat.eq_zero_or_pos D with rfl | hpos
        ·have hs1:s=1:=by omega
         rcases hr hs1 with h | h
         ·left; exact Awe (by simpa using h) Ajb
         ·right; simp only [Int.natCast_zero,Int.add_zero] at hlow ⊢; omega
        ·rcases hD.least (D-1) (by omega) with h | h
         ·left
          refine Awe ?_ Ajb
          rw [Nat.le_div_iff_mul_le hA]
          have:=Akl h
          have e1:2^52*2^D=2^53*2^(D-1):=by rw [← Avw,← Avw]; congr 1; omega
          rw [e1]; exact this
         ·right; omega
       rw [Agc (Aja hq) (by omega) hbig]
       unfold B3
       rw [Avt hV,hl,hkept]; done)
    | (unfold flagsOf exact Kl
       rw [Avt hV,hl,e1,e2,Av5,Awg]
       congr 1
       rw [Avn]
       simp only [Ave]
       exact c2)
theorem Sh (n:Bool) {r:Nat} (h:r<2^63):Eb (B5 n r)=r / 2^52:=by
 unfold Eb B5; cases n
 ·simp only [Bool.false_eq_true,if_false]; omega
 ·simp only [if_true]; omega
theorem Qd (n:Bool) (r:Nat):Dr (B5 n r)=r%2^52:=by
 unfold Dr B5; cases n
 ·rfl
 ·simp only [if_true]; omega
theorem Xq (n:Bool) {r:Nat} (h:r≤F2):As (B5 n r)=if r=F2 then 3 else if 2^52≤r then 2 else if 0<r then 1 else 0:=by
 rw [Ig] at *
 unfold As
 rw [Sh n (by omega),Qd]
 by_cases h1:r=9218868437227405312
 ·subst h1; simp
 ·rw [Avt h1,Avt (by omega)]
  by_cases h2:2^52≤r
  ·rw [Avu h2,Avu (by omega)]
  ·rw [Avt h2,Avt (by omega)]
   by_cases h3:0<r
   ·rw [Avu h3,Avu (by omega)]
   ·rw [Avt h3,Avt (by omega)]
end Go.C4
namespace Go.C4
open Ieee
theorem Aqv (neg:Bool) (V k:Nat):Toward.even.cut neg V k=Kp V k:=by
 unfold Toward.cut Kp
 simp only [Nat.shiftLeft_eq,Nat.one_mul]
 by_cases h:k≤V.log2+2
 ·rw [Nat.min_eq_left h]
  congr 1
  by_cases h1:2^k<2*(V%2^k)
  ·simp [h1]
  ·by_cases h2:2*(V%2^k)=2^k∧V / 2^k%2=1
   ·simp [h2.1,h2.2]
   ·simp [h1,h2]
    intro h3
    have:=Nat.mod_lt (V / 2^k) (show 0<2 by decide)
    omega
 ·rw [Nat.min_eq_right (by omega)]
  have hV:V<2^(V.log2+1):=Nat.lt_log2_self
  have e:2^(V.log2+2)=2*2^(V.log2+1):=by rw [Nat.pow_succ,Avv]
  have hk:2^(V.log2+2)≤2^k:=Avm (by decide) (by omega)
  have d1:V / 2^(V.log2+2)=0:=Nat.div_eq_of_lt (by omega)
  have d2:V / 2^k=0:=Nat.div_eq_of_lt (by omega)
  have m1:V%2^(V.log2+2)=V:=Avk (by omega)
  have m2:V%2^k=V:=Avk (by omega)
  rw [d1,d2,m1,m2]
  have c1:¬ (2^(V.log2+2)<2*V):=by omega
  have c2:¬ (2^k<2*V):=by omega
  simp [c1,c2]
theorem Al8 (neg:Bool) (r:Nat):Ieee.double.word neg r=B5 neg r:=rfl
theorem Ac6 (neg:Bool) (M:Nat) (E:Int):Ieee.double.nearest neg M E=B5 neg (B3 M E):=by
 unfold Format.nearest B3
 by_cases h:M=0
 ·rw [Avu h,Avu h]; rfl
 ·rw [Avt h,Avt h,Al8]
  have e1:Ieee.double.leastPlace=-1074:=by decide
  have e2:max (E+(M.log2:Int)-(Ieee.double.fractionBits:Int)) Ieee.double.leastPlace=Ca M E:=by rw [e1]; rfl
  rw [e2,e1,Aqv,Nat.shiftLeft_eq]
  unfold kept H9
  have e3:(-(Ca M E-E)).toNat=(E-Ca M E).toNat:=by congr 1; omega
  have e4:Ca M E - -1074=Ca M E+1074:=by omega
  rw [e3,e4]
  rfl
theorem Ky (b:Nat):(Eb b=2047∧Dr b=0∧As b=3)∨(Eb b=2047∧Dr b≠0∧As b=4)∨(Eb b<2047∧As b≠3∧As b≠4):=by
 have:=Ia b
 unfold As
 by_cases h1:Eb b=2047
 ·by_cases h2:Dr b=0<;>simp [h1,h2]
 ·refine .inr (.inr ⟨by omega,?_⟩)
  rw [Avt h1]
  split
  ·decide
  ·split<;>decide
theorem Qz (b:Nat):b%2^63=Eb b*2^52+Dr b:=by unfold Eb Dr; omega
theorem Afr (s:Bool) (m:Nat) (e:Int):Ieee.double.write (.number s m e)=B5 s (B3 m e):=Ac6 s m e
theorem Ad2 (s:Bool) {r:Nat} (h:r≤F2):On (B5 s r)=B5 s r:=by
 unfold On
 rw [Avt]
 rw [Xq s h]
 split
 ·decide
 ·split
  ·decide
  ·split<;>decide
theorem Al1 {a b:Nat} (h4:¬ (As a=4∨As b=4)) (h:As a≠3) (h':As b≠3) :
 Ni a b=Lk (B5 (Db a&&Db b) 0) (Gu a (min (A2 a) (A2 b))+Gu b (min (A2 a) (A2 b))) (min (A2 a) (A2 b)):=by
 unfold Ni; rw [Avt h4,Avt h,Avt h']
theorem Aa3 {b:Nat} (h:b<2^64):Db (Gy b)=!(Db b)∧Eb (Gy b)=Eb b∧Dr (Gy b)=Dr b:=by
 unfold Db Eb Dr Gy
 by_cases hb:2^63≤b
 ·rw [Avu hb]
  refine ⟨?_,by omega,by omega⟩
  have:¬ 2^63≤b-2^63:=by omega
  simp [hb,this]
 ·rw [Avt hb]
  refine ⟨?_,by omega,by omega⟩
  have:2^63≤b+2^63:=by omega
  simp [hb,this]
theorem Aaz (b:Nat):(Ieee.double.read b).isNaN=decide (As b=4):=by
 unfold Format.read
 have e0:Ieee.double.signWeight=2^63:=rfl
 have e2:Ieee.double.binade=2^52:=rfl
 have e3:Ieee.double.infRung=F2:=rfl
 dsimp only
 rw [e0,e2,e3,Qz,Ig]
 have hf:Dr b<2^52:=K0 b
 rcases Ky b with ⟨h1,h2,h3⟩ | ⟨h1,h2,h3⟩ | ⟨h1,h2,h3⟩
 ·rw [Avt (by omega),Avt (by omega),Avu (by omega),Avc (by omega)]; rfl
 ·rw [Avt (by omega),Avt (by omega),Avt (by omega),Au8 h3]; rfl
 ·rw [Avc h3]
  by_cases h0:Eb b=0
  ·rw [Avu (by omega)]; rfl
  ·rw [Avt (by omega),Avu (by omega)]; rfl
end Go.C4
namespace Go.C4
open Ieee
theorem Sf {V W k:Nat} (h:V≤W):Kp V k≤Kp W k:=by
 unfold Kp
 have hA:=B4 k
 have hq:V / 2^k≤W / 2^k:=Nat.div_le_div_right h
 rcases Av4 (V / 2^k) (W / 2^k) with h1 | h1
 ·split<;>split<;>omega
 ·have he:V / 2^k=W / 2^k:=by omega
  have v:=Nat.div_add_mod V (2^k)
  have w:=Nat.div_add_mod W (2^k)
  rw [he] at v ⊢
  have hr:V%2^k≤W%2^k:=by omega
  by_cases hc:2^k<2*(V%2^k)∨2*(V%2^k)=2^k∧W / 2^k%2=1
  ·have hc':2^k<2*(W%2^k)∨2*(W%2^k)=2^k∧W / 2^k%2=1:=by
    rcases hc with hc | ⟨hc,hd⟩
    ·exact .inl (by omega)
    ·rcases Av4 (2^k) (2*(W%2^k)) with h2 | h2
     ·exact .inl h2
     ·exact .inr ⟨by omega,hd⟩
   rw [Avu hc,Avu hc']
   exact Av1 _
  ·rw [Avt hc]
   exact Nat.le_add_right _ _
theorem Am3 {V c k:Nat} (h:V≤c*2^k):Kp V k≤c:=by
 have h1:=Sf (k:=k) h
 have:Kp (c*2^k) k=c:=by
  have:=Q4 c k 0
  rw [Awf,Ly] at this
  exact this
 omega
theorem Anv {V c k:Nat} (h:c*2^k≤V):c≤Kp V k:=by
 have h1:=Sf (k:=k) h
 have:Kp (c*2^k) k=c:=by
  have:=Q4 c k 0
  rw [Awf,Ly] at this
  exact this
 omega
theorem Acy {V W:Nat} {s:Int} (h:V≤W):H9 V s≤H9 W s:=Sf (Avj _ h)
theorem Adn {V W:Nat} {E:Int} (hV:V≠0) (h:V≤W):Ca V E≤Ca W E:=by
 have:V.log2≤W.log2:=(Nat.le_log2 (by omega)).2 (Awe (Nat.log2_self_le hV) h)
 unfold Ca; omega
theorem Anz {V:Nat} {E:Int}:kept V E≤2^53:=by
 have hV:V<2^(V.log2+1):=Nat.lt_log2_self
 unfold kept H9
 refine Am3 ?_
 have hl:E+V.log2-52≤Ca V E:=by unfold Ca; omega
 rw [← Avw]
 have h1:V*2^(-(Ca V E-E)).toNat≤2^(V.log2+1)*2^(-(Ca V E-E)).toNat:=Avj _ (Nat.le_of_lt hV)
 rw [← Avw] at h1
 exact Awe h1 (Avm (by decide) (by omega))
theorem Afd {V:Nat} {E:Int} (hV:V≠0) (hl:Ca V E=E+V.log2-52):2^52≤kept V E:=by
 have h1:2^V.log2≤V:=Nat.log2_self_le hV
 unfold kept H9
 refine Anv ?_
 rw [← Avw]
 have h2:2^V.log2*2^(-(Ca V E-E)).toNat≤V*2^(-(Ca V E-E)).toNat:=Avj _ h1
 rw [← Avw] at h2
 exact Awe (Avm (by decide) (by omega)) h2
theorem Sb {V W:Nat} {E:Int} (h:V≤W):B3 V E≤B3 W E:=by
 unfold B3
 by_cases hV:V=0
 ·rw [Avu hV]; exact Nat.zero_le _
 ·have hW:W≠0:=by omega
  rw [Avt hV,Avt hW]
  have hl:=Adn (E:=E) hV h
  have key:(Ca V E+1074).toNat*2^52+kept V E≤(Ca W E+1074).toNat*2^52+kept W E:=by
   rcases Int.lt_or_eq_of_le hl with h1 | h1
   ·have hb:-1074≤Ca V E:=by unfold Ca; omega
    have hn:Ca W E=E+W.log2-52:=by unfold Ca at h1 hb ⊢; omega
    have k1:=Anz (V:=V) (E:=E)
    have k2:=Afd hW hn
    have h2:(Ca V E+1074).toNat+1≤(Ca W E+1074).toNat:=by omega
    have h3:((Ca V E+1074).toNat+1)*2^52≤(Ca W E+1074).toNat*2^52:=Avj _ h2
    rw [Awb (Ca V E+1074).toNat 1 (2^52),Nat.one_mul] at h3
    omega
   ·unfold kept
    rw [h1]
    exact Nat.add_le_add_left (Acy h) _
  omega
theorem Sa {b:Nat} (h4:As b≠4):B3 (Aw b) (A2 b)=b%2^63:=by
 have hf:Dr b<2^52:=K0 b
 have hr:=Qz b
 rw [hr]
 unfold Aw A2
 by_cases h0:Eb b=0
 ·rw [Avu h0,Avu h0,Ux hf,h0,Nat.zero_mul,Awh]
 ·rw [Avt h0,Avt h0,O2 (by omega) (by omega) (by omega),Ig]
  have e:((Eb b:Int)-1075+1074).toNat=Eb b-1:=by omega
  rw [e]
  have h5:(Eb b-1)*2^52+(Dr b+2^52)=Eb b*2^52+Dr b:=by omega
  rw [h5]
  rcases Ky b with ⟨h1,h2,_⟩ | ⟨_,_,h⟩ | ⟨h1,_,_⟩
  ·rw [h1,h2]; decide
  ·exact absurd h h4
  ·omega
def Vs (b:Nat):Int:=Gv (Db b) (b%2^63)
def Xn (b:Nat) (f:Int):Nat:=Aw b*2^(A2 b-f).toNat
theorem Ajz {b:Nat} {f:Int} (h4:As b≠4) (hf:f≤A2 b):B3 (Xn b f) f=b%2^63:=by
 rw [← Sa h4]
 have h:=(C1 (Aw b) (A2 b-f).toNat (A2 b)).1
 have e:A2 b-((A2 b-f).toNat:Int)=f:=by omega
 rw [e] at h
 exact h
theorem Ajy (b:Nat) (f:Int):Xn b f=0↔b%2^63=0:=by
 have hp:=B4 (A2 b-f).toNat
 unfold Xn
 rw [Nat.mul_eq_zero,Qz]
 have h1:¬ (2^(A2 b-f).toNat=0):=by omega
 have h2:Aw b=0↔Eb b*2^52+Dr b=0:=by unfold Aw; split<;>omega
 rw [h2]
 exact ⟨fun h=>h.resolve_right h1,.inl⟩
theorem Anw {b:Nat} (h:As b=3):b%2^63=F2:=by
 rw [Qz]
 rcases Ky b with ⟨h1,h2,_⟩ | ⟨_,_,h4⟩ | ⟨_,h4,_⟩
 ·rw [h1,h2]; rfl
 ·omega
 ·omega
theorem Anx {b:Nat} (h3:As b≠3) (h4:As b≠4):b%2^63<F2:=by
 have hf:Dr b<2^52:=K0 b
 rw [Qz,Ig]
 rcases Ky b with ⟨_,_,h⟩ | ⟨_,_,h⟩ | ⟨h1,_,_⟩
 ·exact absurd h h3
 ·exact absurd h h4
 ·omega
theorem Wz {b:Nat} {f g:Int} {k:Nat} (hk:g=f-k) (hf:f≤A2 b):Gu b g=Gu b f*((2^k:Nat):Int):=by
 unfold Gu
 have e:(A2 b-g).toNat=(A2 b-f).toNat+k:=by omega
 rw [e,Avw,← Avy]
 generalize Aw b*2^(A2 b-f).toNat=m
 generalize 2^k=p
 unfold Gv
 cases Db b
 ·exact Avs m p
 ·show -((m*p:Nat):Int)=-(m:Int)*(p:Int)
  rw [Avs,Int.neg_mul]
end Go.C4
namespace Go.C4
def Vc (a b:Nat):Nat × Nat :=
 if As a=4∨As b=4 then (Wi,0)
 else if As a=3∨As b=3 then (if As a=0∨As b=0 then (Wi,16) else (B5 (Db a !=Db b) F2,0))
 else (B5 (Db a !=Db b) (B3 (Aw a*Aw b) (A2 a+A2 b)),flagsOf (Aw a*Aw b) (A2 a+A2 b))
def Fh (X Y K:Nat):Nat:=2*(X*2^K / Y)+(if X*2^K%Y=0 then 0 else 1)
def Wv (a b:Nat):Nat × Nat :=
 if As a=4∨As b=4 then (Wi,0)
 else if As a=As b∧(As a=3∨As a=0) then (Wi,16)
 else if As a=3 then (B5 (Db a !=Db b) F2,0)
 else if As b=3∨As a=0 then (B5 (Db a !=Db b) 0,0)
 else if As b=0 then (B5 (Db a !=Db b) F2,8)
 else (B5 (Db a !=Db b) (B3 (Fh (Aw a) (Aw b) 120) (A2 a-A2 b-121)),flagsOf (Fh (Aw a) (Aw b) 120) (A2 a-A2 b-121))
theorem Ac7 {V k:Nat} {E:Int} (hm:1≤V / 2^k) (hc:2^53≤V / 2^k∨E+k+1≤-1074) :
 B3 (4*(V / 2^k)+(if V%2^k=0 then 0 else 1)) (E+k-2)=B3 V E∧flagsOf (4*(V / 2^k)+(if V%2^k=0 then 0 else 1)) (E+k-2)=flagsOf V E:=by
 have hA:=B4 k
 have h1:=Nat.div_add_mod V (2^k)
 have h2:=Nat.mod_lt V hA
 generalize hq:V / 2^k=q at *
 generalize hr:V%2^k=r at *
 by_cases h0:r=0
 ·rw [Avu h0]
  obtain ⟨a1,a2⟩:=C1 q k (E+k)
  obtain ⟨b1,b2⟩:=C1 q 2 (E+k)
  have e1:E+(k:Int)-k=E:=by omega
  have e2:V=q*2^k:=by rw [Avv]; omega
  have e3:q*2^2=4*q+0:=by omega
  have e4:E+(k:Int)-((2:Nat):Int)=E+k-2:=by omega
  rw [e1,← e2] at a1 a2
  rw [e3,e4] at b1 b2
  rw [a1,a2,b1,b2]
  exact ⟨rfl,rfl⟩
 ·rw [Avt h0]
  obtain ⟨d,rfl⟩:∃ d,k=d+1:=by
   cases k with
   | zero=>simp only [Av5] at h2; omega
   | succ d=>exact ⟨d,rfl⟩
  have hD:2^(d+1)=2*2^d:=by rw [Nat.pow_succ]; omega
  rw [hD] at h1 h2
  generalize hc2:2^d=c at *
  have p1:(2*q+1-1)*c=2*c*q:=by rw [Nat.add_sub_cancel,Avv,Nat.mul_left_comm,Avy]
  have p2:(2*q+1+1)*c=2*c*q+2*c:=by
   rw [show 2*q+1+1=2*(q+1) by omega,Avy,Awb,Nat.mul_add,Avv q c,Avy]; omega
  have lt1:(2*q+1-1)*2^d<V:=by rw [hc2,p1]; omega
  have lt2:V<(2*q+1+1)*2^d:=by rw [hc2,p2]; omega
  have od:(2*q+1)%2=1:=by omega
  have lV:=Ob od (by omega) lt1 lt2
  have l4:(4*q+1).log2=(2*q+1).log2+1:=Ob (d:=1) od (by omega) (by omega) (by omega)
  have hs:(2*q+1).log2≥54∨E+d+2≤-1074:=by
   rcases hc with h | h
   ·left; rw [ge_iff_le,Nat.le_log2 (by omega)]; omega
   ·right; omega
  have hk:E+d+2≤Ca (2*q+1) (E+d):=by unfold Ca; omega
  obtain ⟨a1,a2⟩:=N0 (E:=E) od lt1 lt2 (by unfold Ca; rw [lV]; omega) hk
  have ee:E+((d+1:Nat):Int)-2+((1:Nat):Int)=E+d:=by omega
  obtain ⟨b1,b2⟩:=N0 (V:=4*q+1) (d:=1) (E:=E+((d+1:Nat):Int)-2) od (by omega) (by omega) (by unfold Ca; rw [l4]; omega) (by rw [ee]; unfold Ca; omega)
  rw [ee] at b1 b2
  rw [a1,a2,b1,b2]
  exact ⟨rfl,rfl⟩
theorem Re (n:Bool) {V k:Nat} {E e:Int} {s:Bool} (he:e=E+k) (hs:s=decide (V%2^k≠0)) (hm:1≤V / 2^k) (hc:2^53≤V / 2^k∨E+k+1≤-1074) :
 Fi n (V / 2^k) e s=(B5 n (B3 V E),flagsOf V E):=by
 obtain ⟨a,b⟩:=Ac7 hm hc
 have e1:s.toNat=if V%2^k=0 then 0 else 1:=by
  rw [hs]
  by_cases h:V%2^k=0
  ·rw [Avc (by omega),Avu h]; rfl
  ·rw [Au8 h,Avt h]; rfl
 unfold Fi
 rw [he,e1,a,b]
theorem Us {X Y K:Nat} (d:Nat) (E:Int) (hY:0<Y) (h:2^53≤X*2^K / Y) :
 B3 (Fh X Y (K+d)) (E-d)=B3 (Fh X Y K) E∧flagsOf (Fh X Y (K+d)) (E-d)=flagsOf (Fh X Y K) E:=by
 have hA:=B4 d
 unfold Fh
 have e:X*2^(K+d)=X*2^K*2^d:=by rw [Avw,Avy]
 rw [e]
 generalize X*2^K=Z at *
 have h1:=Nat.div_add_mod Z Y
 have h2:=Nat.mod_lt Z hY
 by_cases h0:Z%Y=0
 ·obtain ⟨q,rfl⟩:=Nat.dvd_of_mod_eq_zero h0
  have e1:Y*q*2^d=Y*(q*2^d):=Avy _ _ _
  rw [e1,Nat.mul_mod_right,Nat.mul_mod_right,Nat.mul_div_cancel_left _ hY,Nat.mul_div_cancel_left _ hY,Avu rfl]
  have:=C1 (2*q+0) d E
  rw [show (2*q+0)*2^d=2*(q*2^d)+0 by rw [Awf,Awf,Avy]] at this
  exact this
 ·have h3:=Nat.div_add_mod (Z*2^d) Y
  have h4:=Nat.mod_lt (Z*2^d) hY
  rw [Avt h0]
  generalize hq:Z / Y=q at *
  generalize hr:Z%Y=r at *
  generalize hc:2^d=c at *
  have hz:Z*c=Y*(q*c)+r*c:=by rw [← h1,Awb,Avy]
  have hrc:r*c<Y*c:=(Nat.mul_lt_mul_right hA).2 h2
  have hrc0:0<r*c:=Nat.mul_pos (by omega) hA
  have q1:q*c≤Z*c / Y:=by rw [Nat.le_div_iff_mul_le hY,Avv (q*c)]; omega
  have q2:Z*c / Y<(q+1)*c:=by
   rw [Nat.div_lt_iff_lt_mul hY,Awb,Awb,Nat.one_mul,Avv (q*c),Avv c Y]; omega
  have q3:Z*c / Y=q*c→Z*c%Y≠0:=fun h5 h6=>by rw [h5,h6] at h3; omega
  generalize hQ:Z*c / Y=Q at *
  have p1:(2*q+1-1)*c=2*(q*c):=by rw [Nat.add_sub_cancel,Avy]
  have p2:(2*q+1+1)*c=2*((q+1)*c):=by rw [show 2*q+1+1=2*(q+1) by omega,Avy]
  have od:(2*q+1)%2=1:=by omega
  generalize hV:2*Q+(if Z*c%Y=0 then 0 else 1)=V
  have v1:(2*q+1-1)*2^d<V:=by
   rw [hc,p1,← hV]
   by_cases h5:Q=q*c
   ·rw [Avt (q3 h5)]; omega
   ·split<;>omega
  have v2:V<(2*q+1+1)*2^d:=by
   rw [hc,p2,← hV]
   split<;>omega
  have lV:=Ob od (by omega) v1 v2
  have hs:54≤(2*q+1).log2:=by rw [Nat.le_log2 (by omega)]; omega
  have ee:E-(d:Int)+d=E:=by omega
  have:=N0 (E:=E-d) od v1 v2 (by unfold Ca; rw [lV]; omega) (by unfold Ca; omega)
  rw [ee] at this
  exact this
theorem Acm {X Y K L:Nat} {E F:Int} (hY:0<Y) (h1:2^53≤X*2^K / Y) (h2:2^53≤X*2^L / Y) (he:E+K=F+L) :
 B3 (Fh X Y K) E=B3 (Fh X Y L) F∧flagsOf (Fh X Y K) E=flagsOf (Fh X Y L) F:=by
 rcases Nat.le_total K L with h | h
 ·obtain ⟨d,rfl⟩:=Nat.exists_eq_add_of_le h
  have:=Us d E hY h1
  rw [show E-(d:Int)=F by omega] at this
  exact ⟨this.1.symm,this.2.symm⟩
 ·obtain ⟨d,rfl⟩:=Nat.exists_eq_add_of_le h
  have:=Us d F hY h2
  rw [show F-(d:Int)=E by omega] at this
  exact this
theorem Acn (X Y a K:Nat):Fh (X*2^a) Y K=Fh X Y (K+a):=by
 unfold Fh
 have:X*2^a*2^K=X*2^(K+a):=by rw [Avy,← Avw,Nat.add_comm a K]
 rw [this]
theorem Aac (X Y b K:Nat):Fh X (Y*2^b) (K+b)=Fh X Y K:=by
 have hp:=B4 b
 unfold Fh
 have:X*2^(K+b)=X*2^K*2^b:=by rw [Avw,Avy]
 rw [this,Nat.mul_div_mul_right _ _ hp,Nat.mul_mod_mul_right]
 have:(X*2^K%Y*2^b=0)↔(X*2^K%Y=0):=by
  constructor
  ·intro h
   rcases Nat.mul_eq_zero.1 h with h | h
   ·exact h
   ·omega
  ·intro h; rw [h,Nat.zero_mul]
 simp only [this]
theorem Ap7 {X Y K t:Nat} (hX:0<X) (hY0:0<Y) (hY:Y<2^t) (hK:53+t≤K):2^53≤X*2^K / Y:=by
 rw [Nat.le_div_iff_mul_le hY0]
 have h1:2^53*Y≤2^53*2^t:=Nat.mul_le_mul_left _ (by omega)
 have h2:2^(53+t)≤2^K:=Avm (by decide) hK
 have h3:1*2^K≤X*2^K:=Avj _ (by omega)
 rw [Avw] at h2
 omega
theorem Agv (n:Bool) {X Y K:Nat} {e E:Int} {s:Bool} (hs:s=decide (X*2^K%Y≠0)) (he:E=e-1) (hq:2^53≤X*2^K / Y) :
 Fi n (X*2^K / Y) e s=(B5 n (B3 (Fh X Y K) E),flagsOf (Fh X Y K) E):=by
 have e1:Fh X Y K / 2^1=X*2^K / Y:=by
  unfold Fh
  split<;>omega
 have e2:decide (Fh X Y K%2^1≠0)=decide (X*2^K%Y≠0):=by
  unfold Fh
  by_cases h:X*2^K%Y=0
  ·rw [Avu h,Avc (by omega),Avc (by omega)]
  ·rw [Avt h,Au8 (by omega),Au8 h]
 have:=Re n (V:=Fh X Y K) (k:=1) (E:=E) (e:=e) (s:=s) (by omega) (by rw [e2]; exact hs) (by omega) (.inl (by omega))
 rw [e1] at this
 exact this
end Go.C4
namespace Go.C4
open Go.Den
def Bv:List Int→Nat
 | []=>0
 | x::l=>x.toNat+4294967296*Bv l
def digits:Nat→Nat→List Int
 | 0,_=>[]
 | k+1,v=>((v%4294967296:Nat):Int)::digits k (v / 4294967296)
def Di (n:Nat):Nat:=if n=0 then 0 else n.log2 / 32+1
def Nn (n:Nat):List Int:=digits (Di n) n
def Ac (v:Int):List Int:=Nn v.natAbs
def Ar (v:Int):Bool:=decide (v<0)
def wv (n:Bool) (l:List Int):Int:=Gv n (Bv l)
def Rn (l:List Int):Prop:=∀ x∈l,0≤x∧x<4294967296
def Fa (l:List Int):Bool:=Cf (l.length<1073741824∧Rn l)
def Ml (n:Bool) (l:List Int):Bool:=Cf (l.length<268435456∧l=Nn (Bv l)∧(n=true→l≠[]))
def Je (n:Bool) (l:List Int):Bool:=Cf (l.length<134217728∧l=Nn (Bv l)∧(n=true→l≠[]))
def Aqd (k:Int):Bool:=Cf (-1000000≤k∧k≤1000000)
def Aff (k:Int):Bool:=Cf (-9223372036854775808≤k∧k≤9223372036854775807)
def F1 (l:List Int) (i:Int):Int:=if 0≤i then l.getD i.toNat 0 else 0
def G7 (a b:List Int):List Int:=digits (max a.length b.length+1) (Bv a+Bv b)
def Gg (a b:List Int):List Int:=digits a.length (Bv a-Bv b)
def leL (a b:List Int):Bool:=Cf (Bv a≤Bv b)
def Sy (a b:Nat):Int:=if a<b then -1 else if b<a then 1 else 0
def H2 (v:Int) (j:Nat):Int:=Gv (Ar v) (v.natAbs / 2^j)
def Gs (v k:Int):Int:=if 0≤k then v*((2^k.toNat:Nat):Int) else H2 v (-k).toNat
def Agm (v:Int):Bool:=decide (v%2=1)
theorem two32:2^32=4294967296:=by decide
theorem Jy (k:Nat):2^(32*(k+1))=4294967296*2^(32*k):=by
 rw [Nat.mul_add,Awg,Avw,Avv,two32]
theorem Dj:∀ (k v:Nat),(digits k v).length=k
 | 0,_=>rfl
 | k+1,v=>by rw [digits,List.length_cons,Dj k]
theorem Kj:∀ (k v:Nat),Rn (digits k v)
 | 0,_=>fun x h=>by cases h
 | k+1,v=>fun x h=>by
   rw [digits,List.mem_cons] at h
   rcases h with rfl | h
   ·omega
   ·exact Kj k _ x h
theorem Hp:∀ (k v:Nat),Bv (digits k v)=v%2^(32*k)
 | 0,v=>by rw [digits,Bv,Nat.mul_zero,Av5,Nat.mod_one]
 | k+1,v=>by
   rw [digits,Bv,Hp k,Au9,Jy,Nat.mod_mul]
theorem H5:∀ {l:List Int},Rn l→Bv l<2^(32*l.length)
 | [],_=>by decide
 | x::l,h=>by
   have h1:=h x (Awm ..)
   have h2:=H5 (l:=l) (fun y hy=>h y (Awc _ hy))
   rw [Bv,List.length_cons,Jy]
   omega
theorem Ok:∀ {l:List Int},Rn l→digits l.length (Bv l)=l
 | [],_=>rfl
 | x::l,h=>by
   have h1:=h x (Awm ..)
   have h2:=Ok (l:=l) (fun y hy=>h y (Awc _ hy))
   rw [Bv,List.length_cons,digits]
   have e1:(x.toNat+4294967296*Bv l)%4294967296=x.toNat:=by omega
   have e2:(x.toNat+4294967296*Bv l) / 4294967296=Bv l:=by omega
   rw [e1,e2,h2]
   congr 1
   omega
theorem I7 (n:Nat):n<2^(32*Di n):=by
 unfold Di
 by_cases h:n=0
 ·rw [Avu h,h]; decide
 ·rw [Avt h]
  exact Awi Nat.lt_log2_self (Avm (by decide) (by omega))
theorem Ka {n k:Nat} (h:n<2^(32*k)):Di n≤k:=by
 unfold Di
 by_cases h0:n=0
 ·rw [Avu h0]; exact Nat.zero_le _
 ·rw [Avt h0]
  have:=(Awn h0).2 h
  omega
theorem Ans {n k:Nat} (h:2^(32*k)≤n):k+1≤Di n:=by
 have hp:=B4 (32*k)
 unfold Di
 rw [Avt (by omega)]
 have:=(Nat.le_log2 (by omega)).2 h
 omega
theorem L9 {n m:Nat} (h:n≤m):Di n≤Di m:=Ka (Av9 h (I7 m))
theorem P1 (n:Nat):Bv (Nn n)=n:=by
 unfold Nn
 rw [Hp,Avk (I7 n)]
theorem Gi (n:Nat):(Nn n).length=Di n:=Dj _ _
theorem Abc (n:Nat):Rn (Nn n):=Kj _ _
theorem V8:∀ (k v i:Nat),i<k→(digits k v).getD i 0=((v / 2^(32*i)%4294967296:Nat):Int)
 | k+1,v,0,_=>by rw [digits,List.getD_cons_zero,Nat.mul_zero,Av5,Nat.div_one]
 | k+1,v,i+1,h=>by
   rw [digits,List.getD_cons_succ,V8 k _ i (by omega),Jy,Av0]
theorem M3 {l:List Int} (h:Rn l) (i:Nat):l.getD i 0=((Bv l / 2^(32*i)%4294967296:Nat):Int):=by
 by_cases hi:i<l.length
 ·have:=V8 l.length (Bv l) i hi
  rw [Ok h] at this
  exact this
 ·have h1:=H5 h
  have h2:2^(32*l.length)≤2^(32*i):=Avm (by decide) (by omega)
  rw [Nat.div_eq_of_lt (by omega),Avh,Awp (by omega)]
  rfl
theorem Gj {l:List Int} (h:Rn l) (i:Nat):F1 l (i:Int)=((Bv l / 2^(32*i)%4294967296:Nat):Int):=by
 unfold F1
 rw [Avu (by omega),Au9,M3 h]
theorem Hw:∀ (k v:Nat),digits (k+1) v=digits k v++[((v / 2^(32*k)%4294967296:Nat):Int)]
 | 0,v=>by rw [digits,digits,digits,Nat.mul_zero,Av5,Nat.div_one]; rfl
 | k+1,v=>by
   rw [digits,Hw k,Jy,← Av0]
   rfl
theorem To:∀ (j k v:Nat),j≤k→(digits k v).take j=digits j v
 | 0,_,_,_=>by rw [List.take_zero,digits]
 | j+1,k+1,v,h=>by rw [digits,List.take_succ_cons,To j k _ (by omega),digits]
theorem Adl {l:List Int} (h:Rn l):l.take (Di (Bv l))=Nn (Bv l):=by
 have h1:=To (Di (Bv l)) l.length (Bv l) (Ka (H5 h))
 rw [Ok h] at h1
 exact h1
theorem Jj {n:Nat} (h:n≠0):0<Di n:=by unfold Di; rw [Avt h]; omega
theorem Fl (v:Int):wv (Ar v) (Ac v)=v:=by
 unfold wv Ar Ac Gv
 rw [P1]
 by_cases h:v<0
 ·rw [Au8 h,Avu rfl]; omega
 ·rw [Avc h,Avt (by decide)]; omega
theorem Ib {l:List Int} (h:l.length<1073741824) (hi:Rn l):Fa l=true:=Ao.2 ⟨h,hi⟩
theorem Ic {l:List Int} (h:Fa l=true):l.length<1073741824∧Rn l:=Ao.1 h
theorem Wa (v:Int):Ac v=Nn (Bv (Ac v))∧(Ar v=true→Ac v≠[]):=by
 unfold Ac
 rw [P1]
 refine ⟨rfl,fun h e=>?_⟩
 have h1:v<0:=Avx h
 have h2:=Gi v.natAbs
 rw [e] at h2
 have:=Jj (n:=v.natAbs) (by omega)
 rw [← h2] at this
 exact absurd this (by decide)
theorem Js {v:Int} (h:Di v.natAbs<268435456):Ml (Ar v) (Ac v)=true :=
 Ao.2 ⟨by unfold Ac; rw [Gi]; exact h,Wa v⟩
theorem Mv {v:Int} (h:Di v.natAbs<134217728):Je (Ar v) (Ac v)=true :=
 Ao.2 ⟨by unfold Ac; rw [Gi]; exact h,Wa v⟩
theorem S3 {n:Bool} {l:List Int} (h1:l=Nn (Bv l)) (h2:n=true→l≠[]):n=Ar (wv n l)∧l=Ac (wv n l):=by
 have e:(wv n l).natAbs=Bv l:=by unfold wv Gv; split<;>omega
 refine ⟨?_,by unfold Ac; rw [e]; exact h1⟩
 unfold Ar wv Gv
 cases n
 ·simp
 ·have h3:=h2 rfl
  have h4:Bv l≠0:=fun h=>by
   rw [h] at h1
   exact h3 h1
  simp; omega
theorem J5 {n:Bool} {l:List Int} (h:Ml n l=true):∃ v,n=Ar v∧l=Ac v∧Di v.natAbs<268435456:=by
 obtain ⟨h0,h1,h2⟩:=Ao.1 h
 obtain ⟨e1,e2⟩:=S3 h1 h2
 refine ⟨_,e1,e2,?_⟩
 have:=congrArg length e2
 unfold Ac at this
 rw [Gi] at this
 omega
theorem Rb {n:Bool} {l:List Int} (h:Je n l=true):∃ v,n=Ar v∧l=Ac v∧Di v.natAbs<134217728:=by
 obtain ⟨h0,h1,h2⟩:=Ao.1 h
 obtain ⟨e1,e2⟩:=S3 h1 h2
 refine ⟨_,e1,e2,?_⟩
 have:=congrArg length e2
 unfold Ac at this
 rw [Gi] at this
 omega
theorem L6 {v:Int} (h:Di v.natAbs<1073741824):Fa (Ac v)=true :=
 Ib (by unfold Ac; rw [Gi]; exact h) (Abc _)
theorem Dg (v:Int):Bv (Ac v)=v.natAbs:=P1 _
theorem B9 (v:Int):(Ac v).length=Di v.natAbs:=Gi _
theorem Apc (n:Bool) (l:List Int):wv (!n) l=- wv n l:=by
 unfold wv Gv
 cases n<;>simp
theorem Xf {a b:List Int} (ha:Rn a) (hb:Rn b):Bv (G7 a b)=Bv a+Bv b:=by
 unfold G7
 rw [Hp,Avk]
 have h1:=H5 ha
 have h2:=H5 hb
 have h3:2^(32*a.length)≤2^(32*max a.length b.length):=Avm (by decide) (by omega)
 have h4:2^(32*b.length)≤2^(32*max a.length b.length):=Avm (by decide) (by omega)
 rw [Jy]
 omega
theorem Mq (a b:List Int):(G7 a b).length=max a.length b.length+1:=Dj _ _
theorem U4 (a b:List Int):Rn (G7 a b):=Kj _ _
theorem Adc {a:List Int} (b:List Int) (ha:Rn a):Bv (Gg a b)=Bv a-Bv b:=by
 unfold Gg
 rw [Hp,Avk]
 have h1:=H5 ha
 omega
theorem Ps (a b:List Int):(Gg a b).length=a.length:=Dj _ _
theorem Xm (a b:List Int):Rn (Gg a b):=Kj _ _
theorem J3 (v:Int) (j:Nat):(H2 v j).natAbs=v.natAbs / 2^j:=by
 unfold H2
 generalize v.natAbs / 2^j=m
 unfold Gv; split<;>omega
theorem Lb {v:Int} (h:v<0) (m:Nat):Gv (Ar v) m=-(m:Int):=by
 unfold Gv Ar; rw [Au8 h,Avu rfl]
theorem La {v:Int} (h:¬ v<0) (m:Nat):Gv (Ar v) m=(m:Int):=by
 unfold Gv Ar; rw [Avc h,Avt (by decide)]
theorem Yt (v:Int) (i j:Nat):H2 (H2 v i) j=H2 v (i+j):=by
 have e:v.natAbs / 2^(i+j)=v.natAbs / 2^i / 2^j:=by rw [Avw,Av0]
 have h1:=J3 v i
 by_cases hv:v<0
 ·have h2:H2 v i=-((v.natAbs / 2^i:Nat):Int):=Lb hv _
  rw [show H2 v (i+j)=-((v.natAbs / 2^(i+j):Nat):Int) from Lb hv _,e]
  by_cases h0:v.natAbs / 2^i=0
  ·rw [h2,h0]
   show H2 0 j=_
   rw [Nat.zero_div]
   show Gv (Ar 0) (0 / 2^j)=_
   rw [Nat.zero_div]; rfl
  ·have h3:H2 v i<0:=by omega
   rw [show H2 (H2 v i) j=-(((H2 v i).natAbs / 2^j:Nat):Int) from Lb h3 _,h1]
 ·have h2:H2 v i=((v.natAbs / 2^i:Nat):Int):=La hv _
  have h3:¬ H2 v i<0:=by omega
  rw [show H2 (H2 v i) j=(((H2 v i).natAbs / 2^j:Nat):Int) from La h3 _,h1,show H2 v (i+j)=((v.natAbs / 2^(i+j):Nat):Int) from La hv _,e]
theorem Aam (v:Int):H2 v 0=v:=by
 unfold H2 Gv Ar
 rw [Av5,Nat.div_one]
 by_cases h:v<0
 ·rw [Au8 h,Avu rfl]; omega
 ·rw [Avc h,Avt (by decide)]; omega
theorem Mp (j:Nat):H2 0 j=0:=by
 unfold H2
 rw [show (Int.natAbs 0)=0 from rfl,Nat.zero_div]
 rfl
theorem Afv {l:List Int} (h:Rn l):Bv (l.drop 1)=Bv l / 4294967296:=by
 cases l with
 | nil=>rfl
 | cons x l =>
   have:=h x (Awm ..)
   show Bv l=_
   rw [Bv]; omega
theorem Abh {l:List Int} (h:Rn l):Rn (l.drop 1):=fun x hx=>h x (List.mem_of_mem_drop hx)
theorem Abg {l:List Int} (h:Rn l):Rn ([(0:Int)]++l):=fun x hx=>by
 rcases List.mem_cons.1 hx with rfl | hx
 ·omega
 ·exact h x hx
theorem Ake (n:Nat):Di (2*n)≤Di n+1:=by
 refine Ka ?_
 have h:=I7 n
 rw [Jy]
 omega
theorem Anr (n:Nat):Di (n*4294967296)≤Di n+1:=by
 refine Ka ?_
 have h:=I7 n
 rw [Jy]
 omega
end Go.C4
namespace Go.C4
open Go.Den
def Mk (n:Nat):Nat:=if h:n=0∨n%2=1 then 0 else Mk (n / 2)+1
termination_by n
decreasing_by omega
def mD (v:Int):Int:=H2 v (Mk v.natAbs)
def eD (v e:Int):Int:=if v=0 then 0 else e+Mk v.natAbs
def Cz (v e w f:Int):Int:=if v=0 then f else if w=0 then e else min e f
def Al0 (v e w f:Int):Int:=Gs v (e-Cz v e w f)+Gs w (f-Cz v e w f)
def Hm (v e w f:Int):Int:=mD (Al0 v e w f)
def K6 (v e w f:Int):Int:=eD (Al0 v e w f) (Cz v e w f)
def Sk (e:Int):Bool:=Cf (-2000000≤e∧e≤2000000)
def H3 (e:Int):Bool:=Cf (-400000≤e∧e≤400000)
def Aax (v e f:Int):Bool:=Cf (v=0∨(-1000000≤e-f∧e-f≤1000000))&&Cf (-400000≤e∧e≤400000∧-1000000≤f∧f≤1000000)
theorem Acj {n:Nat} (h:n=0∨n%2=1):Mk n=0:=by rw [Mk,dif_pos h]
theorem Aej {n:Nat} (h0:n≠0) (h:n%2=0):Mk n=Mk (n / 2)+1:=by rw [Mk,dif_neg (by omega)]
theorem Yk {n:Nat} (h:n≠0):∀ k,Mk (n*2^k)=k+Mk n
 | 0=>by rw [Av5,Awg,Awh]
 | k+1=>by
   have hp:=B4 k
   have h1:n*2^k≠0:=by
    intro e
    rcases Nat.mul_eq_zero.1 e with e | e<;>omega
   have e:n*2^(k+1)=n*2^k*2:=by rw [Nat.pow_succ,Avy]
   rw [e,Aej (by omega) (by omega),Nat.mul_div_cancel _ (by decide),Yk h k]
   omega
theorem Aei (n:Nat) (h:n≠0):∃ m,n=m*2^Mk n∧m%2=1:=by
 induction n using Nat.strongRecOn with
 | _ n ih =>
   by_cases h2:n%2=1
   ·refine ⟨n,?_,h2⟩
    rw [Acj (.inr h2),Av5,Awg]
   ·obtain ⟨m,h3,h4⟩:=ih (n / 2) (by omega) (by omega)
    refine ⟨m,?_,h4⟩
    rw [Aej h (by omega),Nat.pow_succ,← Avy,← h3]
    omega
theorem Aox {n:Nat} (h:n≠0):Mk n≤n.log2:=by
 obtain ⟨m,h1,h2⟩:=Aei n h
 refine (Nat.le_log2 h).2 ?_
 have:1*2^Mk n≤m*2^Mk n:=Avj _ (by omega)
 omega
theorem Ag4 {n:Nat}:n.log2<32*Di n+1:=by
 unfold Di
 by_cases h:n=0
 ·rw [h]; decide
 ·rw [Avt h]; omega
theorem Adf {v:Int} {k:Nat} (h:v.natAbs%2^k=0):mD (H2 v k)=mD v:=by
 unfold mD
 by_cases h0:v=0
 ·rw [h0,Mp]
 ·have hp:=B4 k
  have hv:=Nat.div_add_mod v.natAbs (2^k)
  rw [h,Awf,Avv] at hv
  have hq:v.natAbs / 2^k≠0:=by
   intro e; rw [e] at hv; omega
  have:=Yk hq k
  rw [hv] at this
  rw [J3,Yt,this]
theorem Adt {v e:Int} {k:Nat} (h:v.natAbs%2^k=0) (h0:v≠0):eD (H2 v k) (e+k)=eD v e:=by
 unfold eD
 have hp:=B4 k
 have hv:=Nat.div_add_mod v.natAbs (2^k)
 rw [h,Awf,Avv] at hv
 have hq:v.natAbs / 2^k≠0:=by
  intro e; rw [e] at hv; omega
 have ht:=Yk hq k
 rw [hv] at ht
 have ha:=J3 v k
 rw [Avt h0,Avt (by omega),ha,ht]
 omega
theorem Aqj {v:Int} (h:v%2=1):mD v=v:=by
 unfold mD
 rw [Acj (.inr (by omega)),Aam]
theorem Aqs {v:Int} (h:v%2=1) (e:Int):eD v e=e:=by
 unfold eD
 rw [Acj (.inr (by omega)),Avt (by omega)]
 omega
theorem Aen (v:Int) (k:Nat):H2 (v*((2^k:Nat):Int)) k=v:=by
 have hp:=B4 k
 unfold H2
 rw [Int.natAbs_mul,Int.natAbs_natCast,Nat.mul_div_cancel _ hp]
 by_cases h:v<0
 ·have h1:v*((2^k:Nat):Int)<0:=Int.mul_neg_of_neg_of_pos h (by omega)
  rw [Lb h1]; omega
 ·have h1:¬ v*((2^k:Nat):Int)<0:=by
   have:=Int.mul_nonneg (show (0:Int)≤v by omega) (Int.natCast_nonneg (2^k))
   omega
  rw [La h1]; omega
theorem Rg (v:Int) (k:Nat):(v*((2^k:Nat):Int)).natAbs%2^k=0:=by
 rw [Int.natAbs_mul,Int.natAbs_natCast,Nat.mul_mod_left]
theorem Adg (v:Int) (k:Nat):mD (v*((2^k:Nat):Int))=mD v:=by
 rw [← Adf (Rg v k),Aen]
theorem Aqi {v:Int} (h:v≠0) (k:Nat):v*((2^k:Nat):Int)≠0:=by
 have hp:=B4 k
 intro e
 rcases Int.mul_eq_zero.1 e with e | e
 ·exact h e
 ·omega
theorem Adu (v e:Int) (k:Nat):eD (v*((2^k:Nat):Int)) (e-k)=eD v e:=by
 by_cases h:v=0
 ·rw [h,Int.zero_mul]; rfl
 ·rw [← Adt (Rg v k) (Aqi h k),Aen]
  congr 1
  omega
theorem Ub (v:Int):v=mD v*((2^Mk v.natAbs:Nat):Int):=by
 by_cases h:v=0
 ·rw [h]
  show (0:Int)=H2 0 _*_
  rw [Mp,Int.zero_mul]
 ·obtain ⟨m,h1,h2⟩:=Aei v.natAbs (by omega)
  have hp:=B4 (Mk v.natAbs)
  have hq:v.natAbs / 2^Mk v.natAbs=m:=Nat.div_eq_of_eq_mul_left hp h1
  unfold mD H2
  rw [hq]
  by_cases hv:v<0
  ·rw [Lb hv,Int.neg_mul,← Avs,← h1]; omega
  ·rw [La hv,← Avs,← h1]; omega
theorem Mw {v:Int}:mD v=0↔v=0:=by
 constructor
 ·intro h
  have:=Ub v
  rw [h,Int.zero_mul] at this
  exact this
 ·intro h
  rw [h]
  exact Mp _
theorem Agz (v:Int):(mD v).natAbs≤v.natAbs:=by
 unfold mD
 rw [J3]
 exact Nat.div_le_self _ _
end Go.C4
namespace Go.C4
open Go.Den
def Tz (v e g:Int):Int:=v*((2^(e-g).toNat:Nat):Int)
theorem H6 (e g:Int):Tz 0 e g=0:=Int.zero_mul _
theorem Ul (v e:Int):Tz v e e=v:=by
 unfold Tz
 rw [Int.sub_self,Int.toNat_zero,Av5]
 exact Int.mul_one v
theorem R1 {v e g h:Int} (h1:h≤e) (h2:g≤h):Tz v e g=Tz v e h*((2^(h-g).toNat:Nat):Int):=by
 unfold Tz
 rw [Int.mul_assoc,← Avs,← Avw]
 have:(e-h).toNat+(h-g).toNat=(e-g).toNat:=by omega
 rw [this]
theorem Aeg {S l g:Int} (h:g≤l):Tz (mD S) (eD S l) g=Tz S l g:=by
 by_cases h0:S=0
 ·rw [h0,Mw.2 rfl,H6,H6]
 ·have e:eD S l=l+Mk S.natAbs:=by unfold eD; rw [Avt h0]
  rw [e]
  unfold Tz
  have e1:(l+(Mk S.natAbs:Int)-g).toNat=Mk S.natAbs+(l-g).toNat:=by omega
  rw [e1,Avw,Avs,← Int.mul_assoc,← Ub]
theorem T4 {v e l:Int} (h:v≠0→l≤e):Gs v (e-l)=Tz v e l:=by
 by_cases h0:v=0
 ·rw [h0,H6]
  unfold Gs
  split
  ·exact Int.zero_mul _
  ·exact Mp _
 ·unfold Gs Tz
  rw [Avu (by have:=h h0; omega)]
theorem Aqk {v e w f:Int}:(v≠0→Cz v e w f≤e)∧(w≠0→Cz v e w f≤f):=by
 unfold Cz
 constructor
 ·intro h
  rw [Avt h]
  split<;>omega
 ·intro h
  split
  ·omega
  ·omega
theorem Akk {v e w f g:Int} (h1:g≤e) (h2:g≤f):g≤Cz v e w f:=by
 unfold Cz
 split
 ·exact h2
 ·split<;>omega
theorem Alz {v e w f g:Int} (h1:g≤e) (h2:g≤f):Tz (Al0 v e w f) (Cz v e w f) g=Tz v e g+Tz w f g:=by
 obtain ⟨l1,l2⟩:=Aqk (v:=v) (e:=e) (w:=w) (f:=f)
 have hg:=Akk (v:=v) (w:=w) h1 h2
 unfold Al0
 rw [T4 l1,T4 l2]
 have e1:Tz v e g=Tz v e (Cz v e w f)*((2^(Cz v e w f-g).toNat:Nat):Int):=by
  by_cases h0:v=0
  ·rw [h0,H6,H6,Int.zero_mul]
  ·exact R1 (l1 h0) hg
 have e2:Tz w f g=Tz w f (Cz v e w f)*((2^(Cz v e w f-g).toNat:Nat):Int):=by
  by_cases h0:w=0
  ·rw [h0,H6,H6,Int.zero_mul]
  ·exact R1 (l2 h0) hg
 rw [e1,e2,← Int.add_mul]
 rfl
theorem Yc (e f:Int):Hm 0 e 0 f=0:=by
 unfold Hm Al0
 rw [Mw,T4 (fun h=>absurd rfl h),T4 (fun h=>absurd rfl h),H6,H6]
 rfl
def Ap (l:List Int):Bool:=Cf (∀ x∈l,Ah x=true)
def Ba (x:Int):Int:=Gv (Db x.toNat) (Aw x.toNat)
def Po (n:Bool) (b:Int):Int:=if n then C6 b else b
end Go.C4
namespace Go.C4
open Go.Den
theorem Acg (s:Bool) {q:Nat} {L:Int} (hq:q<2^53) (hL:-1074≤L) (h:2^52≤q∨L=-1074) (hr:(L+1074).toNat*2^52+q<F2) :
 Aw (B5 s ((L+1074).toNat*2^52+q))=q∧A2 (B5 s ((L+1074).toNat*2^52+q))=L:=by
 rw [Ig] at hr
 obtain ⟨t,ht⟩:∃ t:Nat,L=t-1074:=⟨(L+1074).toNat,by omega⟩
 have et:(L+1074).toNat=t:=by omega
 rw [et] at hr ⊢
 have hp:=Sh s (r:=t*2^52+q) (by omega)
 have hf:=Qd s (t*2^52+q)
 unfold Aw A2
 by_cases h52:2^52≤q
 ·have e1:Eb (B5 s (t*2^52+q))=t+1:=by rw [hp]; omega
  rw [e1,hf,Avt (by omega),Avt (by omega)]
  omega
 ·have t0:t=0:=by omega
  subst t0
  have e1:Eb (B5 s (0*2^52+q))=0:=by rw [hp]; omega
  rw [e1,hf,Avu rfl,Avu rfl]
  omega
theorem sign_neg (s:Bool) {r:Nat} (h:r<2^63):Db (B5 s r)=s:=by
 unfold Db B5
 cases s
 ·simp only [Bool.false_eq_true,if_false,Avq]; omega
 ·simp only [if_true,Ave]; omega
theorem V2 (s:Bool) {V:Nat} {E:Int} (h0:V≠0) (hE:Ca V E≤E) (hi:B3 V E<F2) :
 flagsOf V E=0∧∃ k:Nat,Aw (B5 s (B3 V E))=V*2^k∧A2 (B5 s (B3 V E))=E-k:=by
 have hl2:V.log2=V.log2:=rfl
 have ek:kept V E=V*2^(E-Ca V E).toNat:=by
  unfold kept H9
  have e1:(Ca V E-E).toNat=0:=by omega
  have e2:(-(Ca V E-E)).toNat=(E-Ca V E).toNat:=by omega
  rw [e1,e2,Ly]
 have eex:exact V E=true:=by
  unfold exact Kl
  have e1:(Ca V E-E).toNat=0:=by omega
  rw [e1,Av5,Nat.mod_one]; rfl
 constructor
 ·unfold flagsOf flags
  rw [Avt h0,Avt (by omega),eex]; rfl
 ·have hr:B3 V E=(Ca V E+1074).toNat*2^52+kept V E:=by
   unfold B3 at hi ⊢
   rw [Avt h0] at hi ⊢
   omega
  have hk:kept V E<2^53:=by
   rw [ek,← Awn (Ku h0),Rj V _ h0]
   unfold Ca at hE ⊢
   omega
  have hb:2^52≤kept V E∨Ca V E=-1074:=by
   by_cases h:Ca V E=-1074
   ·exact .inr h
   ·left
    refine Afd h0 ?_
    unfold Ca at h ⊢
    omega
  rw [hr] at hi
  obtain ⟨p1,p2⟩:=Acg s hk (by unfold Ca; omega) hb hi
  refine ⟨(E-Ca V E).toNat,?_,?_⟩
  ·rw [hr,p1,ek]
  ·rw [hr,p2]; omega
theorem Tj {V:Nat} {E:Int} (h:V<2^53) (hE:-1074≤E):Ca V E≤E:=by
 by_cases h0:V=0
 ·subst h0; unfold Ca; rw [Nat.log2_zero]; omega
 ·have:=(Awn h0).2 h
  unfold Ca; omega
end Go.C4
namespace Go.C4
open Go.Den
def D6 (x:Int):Int:=if x=0 then 0 else (x.toNat.log2:Int)+1
def Pr (x y:Int):Int:=((x.toNat*y.toNat / 18446744073709551616:Nat):Int)
def Lc (x y:Int):Int:=((x.toNat*y.toNat%18446744073709551616:Nat):Int)
def Ajs (a b:Int):Bool:=decide (Bd a=4)||decide (Bd b=4)
def Bz (b:Nat):Nat:=52-(Aw b).log2
def Co (b:Int):Int:=((Aw b.toNat*2^Bz b.toNat:Nat):Int)
def Gf (b:Int):Int:=A2 b.toNat-Bz b.toNat
def J7 (b:Int):Bool:=Cf (Aw b.toNat≠0)
def Mm (m e:Int):Bool:=Cf (1152921504606846976≤m∧m<4611686018427387904∧-6000≤e∧e≤6000)
def Ej (a b:Int):Int:=(Vc a.toNat b.toNat).1
def Asz (a b:Int):Int:=(Vc a.toNat b.toNat).2
def Ek (a b:Int):Int:=(Wv a.toNat b.toNat).1
def As6 (a b:Int):Int:=(Wv a.toNat b.toNat).2
def Afe (x:Int):Bool:=Cf (0≤x∧x<4294967296)
def singleL (l:List Int) (x:Int):List Int:=digits (l.length+1) (Bv l*x.toNat)
def Pj (n:Bool) (l:List Int):Bool:=Cf (l.length<33554432∧l=Nn (Bv l)∧(n=true→l≠[]))
end Go.C4
namespace Go.C4
theorem Ahz (a b:Nat):Ni a b=Ni b a:=by
 unfold Ni
 by_cases ha:As a=4
 ·simp only [ha,true_or,or_true,if_true]
 ·by_cases hb:As b=4
  ·simp only [hb,true_or,or_true,if_true]
  ·simp only [ha,hb,or_self,if_false]
   by_cases ha3:As a=3
   ·by_cases hb3:As b=3
    ·simp only [ha3,hb3,if_true,true_and]
     by_cases e:a=b
     ·subst e; rfl
     ·rw [Avu e,Avu (fun h=>e h.symm)]
    ·simp only [ha3,hb3,if_true,if_false,false_and]
   ·by_cases hb3:As b=3
    ·simp only [ha3,hb3,if_true,if_false,false_and]
    ·simp only [ha3,hb3,if_false]
     rw [Bool.and_comm,Int.min_comm,Int.add_comm]
theorem Aar {Y D:Nat} (h:Y%2^D=0):Ez Y D=Y / 2^D:=by unfold Ez; rw [Avu h]
theorem Acx {Y D:Nat} (h:Y%2^D≠0):Ez Y D%2=1:=by unfold Ez; rw [Avt h]; omega
theorem Aas {Y d:Nat} (hY:Y<2^62) (h:Y%2^d≠0):(Ez Y (min d 63)-1)*2^d<Y∧Y<(Ez Y (min d 63)+1)*2^d∧Ez Y (min d 63)%2=1:=by
 have hA:=B4 d
 by_cases hd:d≤63
 ·rw [Nat.min_eq_left hd]
  refine ⟨?_,?_,Acx h⟩
  all_goals
   unfold Ez
   rw [Avt h]
   have h1:=Nat.div_add_mod Y (2^d)
   have h2:=Nat.mod_lt Y hA
   generalize Y / 2^d=q at *
   generalize Y%2^d=r at *
   generalize 2^d=c at *
   rw [Avv] at h1
  ·have h3:(2*(q / 2)+1-1)*c≤q*c:=Avj c (by omega)
   omega
  ·have h3:(q+1)*c≤(2*(q / 2)+1+1)*c:=Avj c (by omega)
   rw [Awb,Nat.one_mul] at h3
   omega
 ·rw [Nat.min_eq_right (by omega)]
  have h63:Y%2^63=Y:=Avk (by omega)
  have hd0:Y / 2^63=0:=Nat.div_eq_of_lt (by omega)
  have hY0:Y≠0:=by intro e; rw [e] at h; simp at h
  have hr:Ez Y 63=1:=by unfold Ez; rw [h63,Avt hY0,hd0]
  have hp:2^62≤2^d:=Avm (by decide) (by omega)
  rw [hr]
  refine ⟨by simp; omega,by omega,rfl⟩
theorem Aun {d M:Nat} (h:(M*2^9)%2^d≠0):10≤d:=by
 refine Nat.lt_of_not_le fun hle=>h ?_
 obtain ⟨k,hk⟩:∃ k,9=d+k:=⟨9-d,by omega⟩
 rw [hk,Avw,Avv (2^d),← Avy,Nat.mul_mod_left]
theorem Mj {V m d:Nat} {e f:Int} (hd:e=f+d) (h:V=m*2^d∨(m%2=1∧(m-1)*2^d<V∧V<(m+1)*2^d∧2^60≤m)) :
 B3 m (e-9)=B3 V (f-9)∧flagsOf m (e-9)=flagsOf V (f-9):=by
 rcases h with rfl | ⟨h1,h2,h3,h4⟩
 ·have:=C1 m d (e-9)
  have e1:e-9-(d:Int)=f-9:=by omega
  rw [e1] at this
  exact ⟨this.1.symm,this.2.symm⟩
 ·have hm0:m≠0:=by omega
  have hlog:=Ob h1 (by omega) h2 h3
  have hl60:60≤m.log2:=(Nat.le_log2 hm0).2 h4
  have e1:f-9+(d:Int)=e-9:=by omega
  have hle:Ca V (f-9)=Ca m (f-9+d):=by unfold Ca; rw [hlog]; congr 1; omega
  have hk:f-9+d+2≤Ca m (f-9+d):=by unfold Ca; omega
  obtain ⟨a1,a2⟩:=N0 h1 h2 h3 hle hk
  rw [e1] at a1 a2
  exact ⟨a1.symm,a2.symm⟩
theorem Acq (V:Nat) (f:Int):B3 (V*2^9) (f-9)=B3 V f∧flagsOf (V*2^9) (f-9)=flagsOf V f:=C1 V 9 f
structure Aov (Mx My d:Nat) (e f:Int) (X r:Nat):Prop where
 plus:B3 (X+r) (e-9)=B3 (Mx*2^d+My) f∧flagsOf (X+r) (e-9)=flagsOf (Mx*2^d+My) f
 less:r<X→My<Mx*2^d∧B3 (X-r) (e-9)=B3 (Mx*2^d-My) f∧flagsOf (X-r) (e-9)=flagsOf (Mx*2^d-My) f
 more:X<r→Mx*2^d<My∧B3 (r-X) (e-9)=B3 (My-Mx*2^d) f∧flagsOf (r-X) (e-9)=flagsOf (My-Mx*2^d) f
 same:X=r→Mx*2^d=My
 small:r≤2^62
theorem Aos {X My r d p:Nat} {e f:Int} (hd:e=f+d) (comm:X*2^d=p*2^9) (n1:(r-1)*2^d<My*2^9) (n2:My*2^9<r*2^d+2^d) (n3:r%2=1) (hX2:X%2=0) (hX:2^61≤X) (hr:r≤2^53) :
 (B3 (X+r) (e-9)=B3 (p+My) f∧flagsOf (X+r) (e-9)=flagsOf (p+My) f)∧My<p∧B3 (X-r) (e-9)=B3 (p-My) f∧flagsOf (X-r) (e-9)=flagsOf (p-My) f:=by
 have e1:(r-1)*2^d+2^d=r*2^d:=by
  obtain ⟨k,rfl⟩:∃ k,r=k+1:=⟨r-1,by omega⟩
  rw [Nat.add_sub_cancel,Awb,Nat.one_mul]
 have e2:(r+1)*2^d=r*2^d+2^d:=by rw [Awb,Nat.one_mul]
 have hXd:(r+1)*2^d≤X*2^d:=Avj _ (by omega)
 have hlt:My<p:=by rw [e2,comm] at hXd; omega
 have a1:B3 (X+r) (e-9)=B3 ((p+My)*2^9) (f-9)∧flagsOf (X+r) (e-9)=flagsOf ((p+My)*2^9) (f-9):=by
  refine Mj hd (.inr ⟨by omega,?_,?_,by omega⟩)
  ·have h1:X+r-1=X+(r-1):=by omega
   rw [h1,Awb X (r-1) (2^d),Awb p My (2^9),comm]
   exact Nat.add_lt_add_left n1 _
  ·have h1:X+r+1=X+(r+1):=by omega
   rw [h1,Awb X (r+1) (2^d),Awb p My (2^9),comm,e2]
   exact Nat.add_lt_add_left n2 _
 have a2:B3 (X-r) (e-9)=B3 ((p-My)*2^9) (f-9)∧flagsOf (X-r) (e-9)=flagsOf ((p-My)*2^9) (f-9):=by
  rw [e2,comm] at hXd
  refine Mj hd (.inr ⟨by omega,?_,?_,by omega⟩)
  ·have h1:X-r-1=X-(r+1):=by omega
   rw [h1,Nat.sub_mul X (r+1) (2^d),Nat.sub_mul p My (2^9),comm,e2]
   omega
  ·have h1:X-r+1=X-(r-1):=by omega
   rw [h1,Nat.sub_mul X (r-1) (2^d),Nat.sub_mul p My (2^9),comm]
   omega
 rw [(Acq _ f).1,(Acq _ f).2] at a1 a2
 exact ⟨a1,hlt,a2⟩
theorem Ab7 {Mx My d:Nat} {e f:Int} (hd:e=f+d) (hx:Mx<2^53) (hy:My<2^53) (hbig:10≤d→2^52≤Mx) :
 Aov Mx My d e f (Mx*2^9) (Ez (My*2^9) (min d 63)):=by
 have hA:=B4 d
 have hY:My*2^9<2^62:=by omega
 have comm:Mx*2^9*2^d=Mx*2^d*2^9:=by rw [Avy,Avv (2^9),← Avy]
 have s9:=fun V=>Acq V f
 by_cases hz:(My*2^9)%2^d=0
 ·
  have hr:∃ r,Ez (My*2^9) (min d 63)=r∧My*2^9=r*2^d:=by
   by_cases hd63:d≤63
   ·rw [Nat.min_eq_left hd63]
    exact ⟨_,rfl,by rw [Aar hz]; exact (Nat.div_mul_cancel (Nat.dvd_of_mod_eq_zero hz)).symm⟩
   ·have hp:2^62≤2^d:=Avm (by decide) (by omega)
    have:My*2^9=0:=by rw [Avk (by omega)] at hz; exact hz
    rw [Nat.min_eq_right (by omega),this]
    exact ⟨0,by decide,by omega⟩
  obtain ⟨r,hr,hYr⟩:=hr
  rw [hr]
  have hle:r≤2^62:=by
   have:r*1≤r*2^d:=Nat.mul_le_mul_left r hA
   omega
  have cmp:∀ x y:Nat,x*2^d<y*2^d↔x<y:=fun x y=>Nat.mul_lt_mul_right hA
  refine ⟨?_,fun h=>?_,fun h=>?_,fun h=>?_,hle⟩
  ·rw [← (s9 _).1,← (s9 _).2]
   exact Mj hd (.inl (by rw [Awb (Mx*2^d) My (2^9),Awb (Mx*2^9) r (2^d),comm,hYr]))
  ·have h1:=(cmp r (Mx*2^9)).2 h
   refine ⟨by omega,?_⟩
   rw [← (s9 _).1,← (s9 _).2]
   exact Mj hd (.inl (by first | rw [Nat.sub_mul (Mx*2^d) My (2^9),Nat.sub_mul (Mx*2^9) r (2^d),comm,hYr] | rw [Nat.sub_mul My (Mx*2^d) (2^9),Nat.sub_mul r (Mx*2^9) (2^d),comm,hYr]))
  ·have h1:=(cmp (Mx*2^9) r).2 h
   refine ⟨by omega,?_⟩
   rw [← (s9 _).1,← (s9 _).2]
   exact Mj hd (.inl (by first | rw [Nat.sub_mul (Mx*2^d) My (2^9),Nat.sub_mul (Mx*2^9) r (2^d),comm,hYr] | rw [Nat.sub_mul My (Mx*2^d) (2^9),Nat.sub_mul r (Mx*2^9) (2^d),comm,hYr]))
  ·rw [← h] at hYr
   omega
 ·
  have hd10:=Aun hz
  have hMx:=hbig hd10
  obtain ⟨n1,n2,n3⟩:=Aas hY hz
  have hrle:Ez (My*2^9) (min d 63)≤2^53:=by
   refine Nat.le_of_not_lt fun h=>?_
   have h1:2^53*2^d≤(Ez (My*2^9) (min d 63)-1)*2^d:=Avj _ (by omega)
   have h2:2^10≤2^d:=Avm (by decide) hd10
   have h3:2^53*2^10≤2^53*2^d:=Nat.mul_le_mul_left _ h2
   omega
  generalize Ez (My*2^9) (min d 63)=r at *
  have hr1:1≤r:=by omega
  have e1:(r-1)*2^d+2^d=r*2^d:=by
   obtain ⟨k,rfl⟩:∃ k,r=k+1:=⟨r-1,by omega⟩
   rw [Nat.add_sub_cancel,Awb,Nat.one_mul]
  have e2:(r+1)*2^d=r*2^d+2^d:=by rw [Awb,Nat.one_mul]
  rw [e2] at n2
  have hXr:r<Mx*2^9:=by omega
  have hXd:(r+1)*2^d≤Mx*2^9*2^d:=Avj _ (by omega)
  rw [e2,comm] at hXd
  obtain ⟨p1,p2,p3⟩:=Aos hd comm n1 n2 n3 (by omega) (by omega) hrle
  exact ⟨p1,fun _=>⟨p2,p3⟩,fun h=>by omega,fun h=>by omega,by omega⟩
theorem Th (n:Bool) (m:Nat) (e:Int):Fi n m e false=(B5 n (B3 m e),flagsOf m e):=by
 unfold Fi
 have:=C1 m 2 e
 have e1:m*2^2=4*m+false.toNat:=by simp; omega
 have e2:e-((2:Nat):Int)=e-2:=by omega
 rw [e1,e2] at this
 rw [this.1,this.2]
theorem W9 (E:Int):B3 0 E=0:=Avu rfl
theorem M5 (E:Int):flagsOf 0 E=0:=Avu rfl
theorem Me {b:Nat} (h:I1 b=true):As b≠4∧As b≠3:=by
 unfold I1 at h
 simp only [Ave] at h
 unfold As
 rw [Avt (by omega)]
 split
 ·omega
 ·split<;>omega
theorem Xi {b:Nat} (h:-1064≤A2 b):2^52≤Aw b:=by
 unfold A2 at h
 unfold Aw
 split at h
 ·omega
 ·rw [Avt (by assumption)]; omega
theorem P4 (z:Nat) (s:Bool) {V:Nat} (hV:V≠0) (f:Int):Lk z (Gv s V) f=(B5 s (B3 V f),flagsOf V f):=by
 unfold Lk Gv
 cases s
 ·have h1:¬ (V:Int)=0:=by omega
  have h2:¬ (V:Int)<0:=by omega
  simp only [Bool.false_eq_true,if_false,h1,h2,decide_false,Int.natAbs_natCast]
 ·have h1:¬ -(V:Int)=0:=by omega
  have h2:-(V:Int)<0:=by omega
  simp only [if_true,h1,if_false,h2,decide_true,Int.natAbs_neg,Int.natAbs_natCast]
theorem Aot {p q X r:Nat} {e f:Int} (s t:Bool)
 (plus:B3 (X+r) e=B3 (p+q) f∧flagsOf (X+r) e=flagsOf (p+q) f)
 (less:r<X→q<p∧B3 (X-r) e=B3 (p-q) f∧flagsOf (X-r) e=flagsOf (p-q) f)
 (more:X<r→p<q∧B3 (r-X) e=B3 (q-p) f∧flagsOf (r-X) e=flagsOf (q-p) f)
 (same:X=r→p=q) :
 Lk (B5 (s&&t) 0) (Gv s p+Gv t q) f=(if s=t then Fi s (X+r) e false
  else if r<X then Fi s (X-r) e false
  else if X<r then Fi t (r-X) e false
  else (0,0)):=by
 simp only [Th]
 by_cases hs:s=t
 ·rw [Avu hs,← hs]
  have hsum:Gv s p+Gv s q=Gv s (p+q):=by unfold Gv; cases s<;>simp<;>omega
  rw [hsum,plus.1,plus.2]
  by_cases h0:p+q=0
  ·rw [h0,W9,M5]
   unfold Lk
   have:Gv s 0=0:=by unfold Gv; cases s<;>rfl
   rw [Avu this,Avd]
  ·exact P4 _ _ h0 _
 ·rw [Avt hs]
  by_cases h1:r<X
  ·obtain ⟨c1,c2,c3⟩:=less h1
   rw [Avu h1,c2,c3]
   have hsum:Gv s p+Gv t q=Gv s (p-q):=by
    unfold Gv; cases s<;>cases t<;>simp at hs ⊢<;>omega
   rw [hsum]
   exact P4 _ _ (by omega) _
  ·rw [Avt h1]
   by_cases h2:X<r
   ·obtain ⟨c1,c2,c3⟩:=more h2
    rw [Avu h2,c2,c3]
    have hsum:Gv s p+Gv t q=Gv t (q-p):=by
     unfold Gv; cases s<;>cases t<;>simp at hs ⊢<;>omega
    rw [hsum]
    exact P4 _ _ (by omega) _
   ·rw [Avt h2]
    have c:=same (by omega)
    have hsum:Gv s p+Gv t q=0:=by
     unfold Gv; cases s<;>cases t<;>simp at hs ⊢<;>omega
    have hz:(s&&t)=false:=by cases s<;>cases t<;>simp at hs ⊢
    rw [hsum,hz]
    rfl
theorem Al2 {a b:Nat} (ha:I1 a=true) (hb:I1 b=true) :
 Ni a b=Lk (B5 (Db a&&Db b) 0) (Gu a (min (A2 a) (A2 b))+Gu b (min (A2 a) (A2 b))) (min (A2 a) (A2 b)):=by
 have k1:=Me ha
 have k2:=Me hb
 unfold Ni
 rw [Avt (fun h=>h.elim k1.1 k2.1),Avt k1.2,Avt k2.2]
theorem Ach (b:Nat):Gu b (A2 b)=Gv (Db b) (Aw b):=by
 unfold Gu; rw [Int.sub_self,Int.toNat_zero,Av5,Awg]
theorem Aia {b:Nat} {f:Int} {d:Nat} (h:A2 b=f+d):Gu b f=Gv (Db b) (Aw b*2^d):=by
 unfold Gu
 have:(A2 b-f).toNat=d:=by omega
 rw [this]
theorem Ab6 {a b:Nat} (ha:I1 a=true) (hb:I1 b=true) {d:Nat} (hd:A2 a=A2 b+d) :
 Ni a b=(if Db a=Db b then Fi (Db a) (Aw a*2^9+Ez (Aw b*2^9) (min d 63)) (A2 a-9) false
  else if Ez (Aw b*2^9) (min d 63)<Aw a*2^9 then Fi (Db a) (Aw a*2^9-Ez (Aw b*2^9) (min d 63)) (A2 a-9) false
  else if Aw a*2^9<Ez (Aw b*2^9) (min d 63) then Fi (Db b) (Ez (Aw b*2^9) (min d 63)-Aw a*2^9) (A2 a-9) false
  else (0,0)):=by
 have hx:=Fm a
 have hy:=Fm b
 have C:=Ab7 (Mx:=Aw a) (My:=Aw b) hd hx hy (fun h=>Xi (by have:=Em b; omega))
 rw [Al2 ha hb,Int.min_eq_right (by omega),Ach,Aia hd]
 exact Aot _ _ C.plus C.less C.more C.same
theorem So {b:Nat} (h:b<2^64):Gy b<2^64:=by unfold Gy; split<;>omega
theorem Adp (m:Nat) (e:Int):flagsOf m e<32:=by
 unfold flagsOf flags
 split
 ·decide
 ·split
  ·decide
  ·split
   ·decide
   ·split<;>decide
theorem Ui {a b:Nat} (ha:a<2^64) (hb:b<2^64):(Ni a b).1<2^64∧(Ni a b).2<32:=by
 unfold Ni
 split
 ·exact ⟨by decide,by decide⟩
 ·split
  ·split
   ·decide
   ·exact ⟨ha,(by decide:0<32)⟩
  ·split
   ·exact ⟨hb,(by decide:0<32)⟩
   ·unfold Lk
    split
    ·refine ⟨?_,(by decide:0<32)⟩
     unfold B5; split<;>decide
    ·exact ⟨Nz _ _ _,Adp _ _⟩
end Go.C4
namespace Go.C4
open Go.Den
def Cj (r c:Nat) (f:Nat→Nat→Int):List Int:=(List.range (r*c)).map fun j=>f (j / c) (j%c)
theorem B6 (r c:Nat) (f:Nat→Nat→Int):(Cj r c f).length=r*c:=by unfold Cj; rw [Awd,Awa]
theorem Gq {r c i k:Nat} (hi:i<r) (hk:k<c):i*c+k<r*c:=by
 have:(i+1)*c≤r*c:=Avj c hi
 rw [Awb,Nat.one_mul] at this
 omega
theorem Lz {c i k:Nat} (hk:k<c):(i*c+k) / c=i∧(i*c+k)%c=k:=by
 constructor
 ·rw [Avv,Nat.mul_add_div (by omega),Nat.div_eq_of_lt hk,Awf]
 ·rw [Avv,Nat.mul_add_mod,Avk hk]
theorem Gr {r c:Nat} {f:Nat→Nat→Int} {j:Nat} (h:j<r*c):(Cj r c f)[j]?=some (f (j / c) (j%c)):=by
 unfold Cj
 rw [Awo,List.getElem?_range h]
 rfl
theorem Abi {r c i k:Nat} {f:Nat→Nat→Int} (hi:i<r) (hk:k<c):(Cj r c f).getD (i*c+k) 0=f i k:=by
 obtain ⟨d1,d2⟩:=Lz (i:=i) hk
 rw [Avh,Gr (Gq hi hk),d1,d2]
 rfl
theorem Rk {l m:List Int} (h:l.length=m.length) (he:∀ j,j<l.length→l[j]?=m[j]?):l=m:=by
 refine List.ext_getElem? fun j=>?_
 by_cases hj:j<l.length
 ·exact he j hj
 ·rw [Awp (by omega),Awp (by omega)]
theorem C8 {r c:Nat} {f g:Nat→Nat→Int} (h:∀ i k,i<r→k<c→f i k=g i k):Cj r c f=Cj r c g:=by
 refine Rk (by rw [B6,B6]) fun j hj=>?_
 rw [B6] at hj
 have hc:0<c:=by
  rcases Nat.eq_zero_or_pos c with h0 | h0
  ·subst h0; rw [Nat.mul_zero] at hj; omega
  ·exact h0
 rw [Gr hj,Gr hj,h (j / c) (j%c) ((Nat.div_lt_iff_lt_mul hc).2 hj) (Nat.mod_lt _ hc)]
theorem Ahc {r c:Nat} {l:List Int} (h:l.length=r*c):l=Cj r c fun i k=>l.getD (i*c+k) 0:=by
 refine Rk (by rw [B6,h]) fun j hj=>?_
 rw [Gr (by omega)]
 have e:j / c*c+j%c=j:=by rw [Avv]; exact Nat.div_add_mod j c
 rw [e,Avh,Avo hj]
 rfl
theorem Ro {r c i k:Nat} {f:Nat→Nat→Int} (hk:k<c) (x:Int) :
 (Cj r c f).set (i*c+k) x=Cj r c fun a b=>if a=i∧b=k then x else f a b:=by
 refine Rk (by rw [List.length_set,B6,B6]) fun j hj=>?_
 rw [List.length_set,B6] at hj
 obtain ⟨d1,d2⟩:=Lz (i:=i) hk
 rw [Gr hj,List.getElem?_set]
 by_cases h:i*c+k=j
 ·subst h
  rw [Avu rfl,Avu (by rw [B6]; exact hj),d1,d2,Avu ⟨rfl,rfl⟩]
 ·rw [Avt h,Gr hj,Avt]
  rintro ⟨h1,h2⟩
  exact h (by rw [← h1,← h2,Avv]; exact Nat.div_add_mod j c)
theorem Mc (r c:Nat) (f:Nat→Nat→Int):Cj (r+1) c f=Cj r c f++(List.range c).map (f r):=by
 unfold Cj
 rw [Awb,Nat.one_mul,List.range_add,List.map_append,List.map_map]
 congr 1
 refine List.map_congr_left fun k hk=>?_
 have hk:=List.mem_range.1 hk
 obtain ⟨d1,d2⟩:=Lz (i:=r) hk
 show f ((r*c+k) / c) ((r*c+k)%c)=f r k
 rw [d1,d2]
theorem Mb (c:Nat) (f:Nat→Nat→Int):Cj 0 c f=[]:=by
 unfold Cj; rw [Nat.zero_mul]; rfl
theorem Jc (k:Nat) (g:Nat→Int):(List.range (k+1)).map g=(List.range k).map g++[g k]:=by
 rw [List.range_succ,List.map_append]; rfl
theorem Vx (r c:Nat):Cj r c (fun _ _=>0)=List.replicate (r*c) 0:=by
 unfold Cj
 rw [List.map_const',Awa]
def Aby:Nat→List Int→List Int→Nat
 | s,x::xs,y::ys=>Aby (Ni s (Vc x.toNat y.toNat).1).1 xs ys
 | s,_,_=>s
def Pl (x y:List Int):Int:=Aby 0 x y
theorem T9 {a b:Nat}:(Vc a b).1<2^64:=by
 unfold Vc
 split
 ·decide
 ·split
  ·split
   ·decide
   ·unfold B5; split<;>decide
  ·exact Nz _ _ _
theorem Zl:∀ (x y:List Int) (s:Nat),s<2^64→Aby s x y<2^64
 | x::xs,y::ys,s,h=>Zl xs ys _ (Ui h T9).1
 | [],_,_,h=>by unfold Aby; exact h
 | _::_,[],_,h=>by unfold Aby; exact h
end Go.C4
namespace Go.C4
open Go.Den
def Bn (n:Int):Bool:=decide (0≤n)&&decide (n≤6)
def Bj (r c:Int) (l:List Int):Bool:=(Bn r&&Bn c)&&decide ((l.length:Int)=r*c)
def I2 (r c:Int) (l:List Int):Int:=if Bj r c l=true then 0 else 1
def Yl (r c:Int) (l:List Int) (p q:Int) (m:List Int):Int:=if (Bj r c l&&Bj p q m)=true then 0 else 1
def Ds (_r c:Int) (l:List Int) (i k:Int):Bool:=Cf (0≤i∧i<10∧0≤k∧k<10∧0≤c∧c<10∧i*c+k<l.length∧l.length<1000)
def Cv (c:Int) (l:List Int) (i k:Int):Int:=l.getD (i*c+k).toNat 0
def Ln (i k:Int):Int:=if i=k then 4607182418800017408 else 0
def R7 (x y i k:Int):Bool:=Cf (0≤x∧x<10∧0≤y∧y<10∧0≤i∧i<10∧0≤k∧k<10)
def Nl (r c x y a b:Int):Bool:=decide (0≤x∧0≤y∧0≤a∧0≤b∧x≤r∧y≤c∧a≤r-x∧b≤c-y)
def Jq (r c:Int) (l:List Int) (i:Int):Bool:=Bj r c l&&Cf (0≤i∧i<r)
def Gk (r c:Int) (l:List Int) (k:Int):Bool:=Bj r c l&&Cf (0≤k∧k<c)
def P9 (r c:Int) (l:List Int) (p q:Int) (m:List Int) (i k:Int):Bool:=(Jq r c l i&&Gk p q m k)&&((Ap l&&Ap m)&&Cf (c=p))
def Dh (c:Int) (l:List Int) (i:Int):List Int:=List.drop (i*c).toNat (List.take ((i+1)*c).toNat l)
def Qj (r c:Int) (l:List Int) (k:Int):List Int:=(List.range r.toNat).map fun j:Nat=>Cv c l (j:Int) k
abbrev MX:=Int × Int × List Int × Int
def Nm (e:Int):MX:=(0,0,[],e)
def K1 (n:Int):MX:=if Bn n=true then (n,n,Cj n.toNat n.toNat fun i k=>Ln i k,0) else Nm 3
def E6 (r c:Int) (l:List Int):MX:=if Bj r c l=true then (c,r,Cj c.toNat r.toNat fun i k=>Cv c l k i,0) else Nm 1
def Hd (r c:Int) (l:List Int) (x y a b:Int):MX :=
 if Bj r c l=true then (if Nl r c x y a b=true then (a,b,Cj a.toNat b.toNat fun i k=>Cv c l (x+i) (y+k),0) else Nm 3) else Nm 1
def Sn (r c:Int) (l:List Int) (p q:Int) (m:List Int):MX :=
 if (Bj r c l&&Bj p q m)=true then (if c=p then (r,q,Cj r.toNat q.toNat fun i k=>Pl (Dh c l i) (Qj p q m k),0) else Nm 3) else Nm 1
def Ss (x y:List Int):Bool:=decide (x.length=y.length)&&decide (x.length≤64)
def Aut (l:List Int):Bool:=Cf (l.length≤17592186044416)
theorem Hc {n:Int}:Bn n=true↔0≤n∧n≤6:=by unfold Bn; simp
theorem Ki {r c:Int} {l:List Int}:Bj r c l=true↔(0≤r∧r≤6)∧(0≤c∧c≤6)∧(l.length:Int)=r*c:=by
 unfold Bj
 rw [Avi,Avi,Hc,Hc,Ave,and_assoc]
theorem Dc {r c:Int} {l:List Int} (h:Bj r c l=true):∃ R C:Nat,r=R∧c=C∧R≤6∧C≤6∧l.length=R*C:=by
 obtain ⟨h1,h2,h3⟩:=Ki.1 h
 refine ⟨r.toNat,c.toNat,by omega,by omega,by omega,by omega,?_⟩
 have:(((r.toNat*c.toNat:Nat)):Int)=r*c:=by rw [Avs,Int.toNat_of_nonneg h1.1,Int.toNat_of_nonneg h2.1]
 omega
theorem E7 {n:Int} (h:Bn n=true):∃ R:Nat,n=R∧R≤6:=by
 have:=Hc.1 h
 exact ⟨n.toNat,by omega,by omega⟩
theorem O0 {n:Nat} (h:n≤6):Bn (n:Int)=true:=Hc.2 ⟨by omega,by omega⟩
theorem E8 {r c:Nat} {l:List Int} (hr:r≤6) (hc:c≤6) (hl:l.length=r*c):Bj (r:Int) (c:Int) l=true :=
 Ki.2 ⟨⟨by omega,by omega⟩,⟨by omega,by omega⟩,by rw [hl,Avs]⟩
theorem Ii (c:Nat) (l:List Int) (i k:Nat):Cv (c:Int) l (i:Int) (k:Int)=l.getD (i*c+k) 0:=by
 unfold Cv
 have:((i:Int)*(c:Int)+(k:Int)).toNat=i*c+k:=by
  rw [← Avs,← Int.natCast_add,Au9]
 rw [this]
theorem D7 {r c i k:Nat} {R:Int} {l:List Int} (hr:r≤6) (hc:c≤6) (hl:l.length=r*c) (hi:i<r) (hk:k<c):Ds R (c:Int) l (i:Int) (k:Int)=true:=by
 have:=Gq hi hk
 have h36:=Av3 hr hc
 refine Ao.2 ⟨by omega,by omega,by omega,by omega,by omega,by omega,?_,by omega⟩
 rw [← Avs]
 omega
theorem Ud {r c i k:Nat} {f:Nat→Nat→Int} (hi:i<r) (hk:k<c):Cv (c:Int) (Cj r c f) (i:Int) (k:Int)=f i k:=by
 rw [Ii,Abi hi hk]
theorem Xu {r c:Nat} {l:List Int} (h:l.length=r*c):(Cj r c fun i k=>Cv (c:Int) l (i:Int) (k:Int))=l:=by
 conv=>rhs; rw [Ahc h]
 exact C8 fun i k _ _=>Ii c l i k
theorem Zz {l:List Int} (h:Ap l=true) {j:Nat} (hj:j<l.length):Ah (l.getD j 0)=true:=by
 have h:=Ao.1 h
 rw [Avh,Avo hj]
 exact h _ (List.getElem_mem hj)
end Go.C4
namespace Go.C4
theorem W7 {b:Nat} (h:b<2^64):B5 (Db b) (b%2^63)=b:=by
 unfold B5 Db
 by_cases hb:2^63≤b
 ·simp only [hb,decide_true,if_true]; omega
 ·simp only [hb,decide_false,Bool.false_eq_true,if_false]; omega
theorem Akw {b:Nat} (h:b<2^64) (h4:As b≠4):B5 (Db b) (B3 (Aw b) (A2 b))=b:=by
 rw [Sa h4,W7 h]
theorem Ahf {b:Nat} (h3:As b≠3) (h4:As b≠4):flagsOf (Aw b) (A2 b)=0:=by
 by_cases h0:Aw b=0
 ·rw [h0]; exact M5 _
 ·have h1:=Fm b
  have h2:=Em b
  have h5:=Anx h3 h4
  exact (V2 false h0 (Tj (by omega) h2.1) (by rw [Sa h4]; exact h5)).1
theorem Af3 (M:Nat):Fh M (2^52) 120=M*2^69:=by
 unfold Fh
 have e:M*2^120=M*2^68*2^52:=by rw [Avy,← Avw]
 rw [e,Nat.mul_div_cancel _ (B4 52),Nat.mul_mod_left,Avu rfl,Awf,Nat.mul_left_comm]
theorem div_pow {a p:Nat} (a0:As a≠0) (a3:As a≠3) (a4:As a≠4) (p0:As p≠0) (p3:As p≠3) (p4:As p≠4) (hp:Aw p=2^52) (hn:Db p=false) :
 Wv a p=(B5 (Db a) (B3 (Aw a) (A2 a-A2 p-52)),flagsOf (Aw a) (A2 a-A2 p-52)):=by
 obtain ⟨s1,s2⟩:=C1 (Aw a) 69 (A2 a-A2 p-52)
 have e:A2 a-A2 p-52-((69:Nat):Int)=A2 a-A2 p-121:=by omega
 rw [e] at s1 s2
 have e2:(Db a !=false)=Db a:=by cases Db a<;>rfl
 unfold Wv
 rw [Avt (by omega),Avt (by omega),Avt a3,Avt (by omega),Avt p0,hp,hn,Af3,s1,s2,e2]
theorem Ajf:Aw 4607182418800017408=2^52∧A2 4607182418800017408=-52∧As 4607182418800017408=2∧Db 4607182418800017408=false:=by decide +kernel
theorem div_one {a:Nat} (h:a<2^64) (a0:As a≠0) (a3:As a≠3) (a4:As a≠4):Wv a 4607182418800017408=(a,0):=by
 obtain ⟨o1,o2,o3,o4⟩:=Ajf
 have e:A2 a - -52-52=A2 a:=by omega
 rw [div_pow a0 a3 a4 (by omega) (by omega) (by omega) o1 o4,o2,e,Akw h a4,Ahf a3 a4]
end Go.C4
namespace Go.C4
def Qq (n:Nat):Nat:=Ieee.Datum.rootFrom n (n.log2 / 2+1) 0
theorem Amt (k:Nat):1 <<< k=2^k:=by rw [Nat.shiftLeft_eq,Nat.one_mul]
theorem Sd {n:Nat}:∀ (todo root:Nat),root*root≤n→n<(root+2^todo)*(root+2^todo) →
 Ieee.Datum.rootFrom n todo root*Ieee.Datum.rootFrom n todo root≤n∧n<(Ieee.Datum.rootFrom n todo root+1)*(Ieee.Datum.rootFrom n todo root+1)
 | 0,root,h1,h2=>⟨h1,h2⟩
 | todo+1,root,h1,h2=>by
   unfold Ieee.Datum.rootFrom
   simp only [Amt]
   have hp:2^(todo+1)=2^todo+2^todo:=by rw [Nat.pow_succ]; omega
   rw [hp] at h2
   by_cases h:(root+2^todo)*(root+2^todo)≤n
   ·rw [Avu h]
    exact Sd todo _ h (by rw [Nat.add_assoc]; exact h2)
   ·rw [Avt h]
    exact Sd todo _ h1 (by omega)
theorem Oe (n:Nat):Qq n*Qq n≤n∧n<(Qq n+1)*(Qq n+1):=by
 refine Sd _ _ (by simp) ?_
 rw [Awh,← Avw]
 rcases Nat.eq_zero_or_pos n with rfl | hn
 ·decide
 ·refine (Awn (by omega)).1 ?_
  omega
theorem Aaj {a b:Nat} (h:a*a<b*b):a<b:=by
 rcases Av4 a b with h1 | h1
 ·exact h1
 ·have:=Av3 h1 h1; omega
theorem Vu {n w:Nat} (h1:w*w≤n) (h2:n<(w+1)*(w+1)):w=Qq n:=by
 obtain ⟨a,b⟩:=Oe n
 have c1:=Aaj (Av9 h1 b)
 have c2:=Aaj (Av9 a h2)
 omega
theorem Akm {n w:Nat} (h:w*w≤n):w≤Qq n:=by
 have:=Aaj (Av9 h (Oe n).2)
 omega
def F0 (n:Nat):Nat:=2*Qq n+(if Qq n*Qq n=n then 0 else 1)
theorem R6 (a c:Nat):a*c*(a*c)=a*a*(c*c):=by
 rw [Avy,Nat.mul_left_comm c,← Avy a a]
theorem Xa {n:Nat} (d:Nat) (E:Int) (h:2^53≤Qq n) :
 B3 (F0 (n*(2^d*2^d))) (E-d)=B3 (F0 n) E∧flagsOf (F0 (n*(2^d*2^d))) (E-d)=flagsOf (F0 n) E:=by
 have hA:=B4 d
 obtain ⟨h1,h2⟩:=Oe n
 unfold F0
 generalize hw:Qq n=w at *
 generalize hc:2^d=c at *
 have hcc:0<c*c:=Nat.mul_pos hA hA
 by_cases h0:w*w=n
 ·have e1:Qq (n*(c*c))=w*c:=by
   refine (Vu ?_ ?_).symm
   ·rw [R6,h0]; exact Av1 _
   ·have:=R6 w c
    rw [h0] at this
    rw [Awb,Nat.mul_add,this]; omega
  rw [e1,R6,h0,Avu rfl,Avu rfl]
  have:=C1 (2*w+0) d E
  rw [hc,show (2*w+0)*c=2*(w*c)+0 by rw [Awf,Awf,Avy]] at this
  exact this
 ·rw [Avt h0]
  obtain ⟨g1,g2⟩:=Oe (n*(c*c))
  have q1:w*c≤Qq (n*(c*c)):=Akm (by rw [R6]; exact Avj _ h1)
  have q2:Qq (n*(c*c))<(w+1)*c:=by
   refine Aaj (Av9 g1 ?_)
   rw [R6]
   exact (Nat.mul_lt_mul_right hcc).2 h2
  have q3:Qq (n*(c*c))=w*c→Qq (n*(c*c))*Qq (n*(c*c))≠n*(c*c):=fun h5 h6=>by
   rw [h5,R6] at h6
   exact h0 (Nat.eq_of_mul_eq_mul_right hcc h6)
  generalize hQ:Qq (n*(c*c))=Q at *
  have p1:(2*w+1-1)*c=2*(w*c):=by rw [Nat.add_sub_cancel,Avy]
  have p2:(2*w+1+1)*c=2*((w+1)*c):=by rw [show 2*w+1+1=2*(w+1) by omega,Avy]
  have od:(2*w+1)%2=1:=by omega
  generalize hV:2*Q+(if Q*Q=n*(c*c) then 0 else 1)=V
  have v1:(2*w+1-1)*2^d<V:=by
   rw [hc,p1,← hV]
   by_cases h5:Q=w*c
   ·rw [Avt (q3 h5)]; omega
   ·split<;>omega
  have v2:V<(2*w+1+1)*2^d:=by
   rw [hc,p2,← hV]
   split<;>omega
  have lV:=Ob od (by omega) v1 v2
  have hs:54≤(2*w+1).log2:=by rw [Nat.le_log2 (by omega)]; omega
  have ee:E-(d:Int)+d=E:=by omega
  have:=N0 (E:=E-d) od v1 v2 (by unfold Ca; rw [lV]; omega) (by unfold Ca; omega)
  rw [ee] at this
  exact this
theorem Zb {n t:Nat} (h:2^(t+t)≤n):2^t≤Qq n:=Akm (by rw [← Avw]; exact h)
theorem pow_two (k d:Nat):2^(k+2*d)=2^k*(2^d*2^d):=by rw [Avw,Nat.two_mul,Avw]
theorem Agf {m k l:Nat} {E F:Int} (h1:2^106≤m*2^k) (h2:2^106≤m*2^l) (he:2*E+k=2*F+l) :
 B3 (F0 (m*2^k)) E=B3 (F0 (m*2^l)) F∧flagsOf (F0 (m*2^k)) E=flagsOf (F0 (m*2^l)) F:=by
 rcases Nat.le_total k l with h | h
 ·obtain ⟨d,rfl⟩:∃ d,l=k+2*d:=⟨(l-k) / 2,by omega⟩
  have:=Xa (n:=m*2^k) d E (Zb (t:=53) h1)
  rw [Avy,← pow_two,show E-(d:Int)=F by omega] at this
  exact ⟨this.1.symm,this.2.symm⟩
 ·obtain ⟨d,rfl⟩:∃ d,k=l+2*d:=⟨(k-l) / 2,by omega⟩
  have:=Xa (n:=m*2^l) d F (Zb (t:=53) h2)
  rw [Avy,← pow_two,show F-(d:Int)=E by omega] at this
  exact this
def Jx (b:Nat):Nat:=128+(A2 b%2).toNat
def Nj (b:Nat):Nat × Nat :=
 if As b=4 then (Wi,0)
 else if As b=0∨b=F2 then (b,0)
 else if Db b=true then (Wi,16)
 else (B3 (F0 (Aw b*2^Jx b)) ((A2 b-Jx b) / 2-1),flagsOf (F0 (Aw b*2^Jx b)) ((A2 b-Jx b) / 2-1))
theorem Ks {b:Nat} (h3:As b≠3) (h4:As b≠4):Aw b=0↔As b=0:=by
 have:=K0 b
 have:=Ia b
 unfold Aw
 unfold As at *
 split at h3<;>split<;>(try split)<;>(try split)<;>simp_all<;>omega
theorem Aai {b:Nat} (h:As b=4):Nj b=(Wi,0):=Avu h
theorem R5 {b:Nat} (h4:As b≠4) (h:As b=0∨b=F2):Nj b=(b,0):=by unfold Nj; rw [Avt h4,Avu h]
theorem Aah {b:Nat} (h4:As b≠4) (h:¬ (As b=0∨b=F2)) (hn:Db b=true):Nj b=(Wi,16):=by unfold Nj; rw [Avt h4,Avt h,Avu hn]
theorem Aiu {b:Nat} (h4:As b≠4) (h:¬ (As b=0∨b=F2)) (hn:Db b=false) :
 Nj b=(B3 (F0 (Aw b*2^Jx b)) ((A2 b-Jx b) / 2-1),flagsOf (F0 (Aw b*2^Jx b)) ((A2 b-Jx b) / 2-1)):=by
 unfold Nj; rw [Avt h4,Avt h,Avt (by rw [hn]; decide)]
theorem Aiw (r:Nat):B5 false r=r:=rfl
theorem Ai4 {b:Nat} (hm:Aw b≠0):2^106≤Aw b*2^Jx b∧2*((A2 b-(Jx b:Int)) / 2-1)+Jx b=A2 b-2:=by
 refine ⟨?_,by unfold Jx; omega⟩
 have:2^128≤2^Jx b:=Avm (by decide) (by unfold Jx; omega)
 have h5:=Av3 (show 1≤Aw b by omega) this
 omega
theorem Aj4 {b:Nat} (hm:Aw b≠0):(Aw b).log2≤52:=by
 have:=(Awn hm).2 (show Aw b<2^53 from Fm b)
 omega
end Go.C4
namespace Go.C4
def Hk (b:Nat) (n:Int):Nat × Nat :=
 if As b=4 then (Wi,0)
 else if As b=3∨As b=0 then (b,0)
 else (B5 (Db b) (B3 (Aw b) (A2 b+n)),flagsOf (Aw b) (A2 b+n))
theorem Aiq {V:Nat} {E:Int} (h0:V≠0) (h:E+V.log2+1≤-1075):B3 V E=0∧flagsOf V E=3:=by
 have hl:Ca V E=-1074:=by unfold Ca; omega
 obtain ⟨k,hk⟩:∃ k:Nat,(-1074:Int)-E=((k:Nat):Int):=⟨(-1074-E).toNat,by omega⟩
 have hV:V<2^(V.log2+1):=(Awn h0).1 (by omega)
 have hp:2^(V.log2+1)*2≤2^k:=by rw [← Nat.pow_succ]; exact Avm (by decide) (by omega)
 have e1:V*2^(-((-1074:Int)-E)).toNat=V:=by rw [hk]; simp
 have e2:((-1074:Int)-E).toNat=k:=by rw [hk]; rfl
 have hk2:kept V E=0:=by
  unfold kept H9
  rw [hl,e1,e2]
  unfold Kp
  rw [Nat.div_eq_of_lt (by omega),Avk (by omega),Avt (by omega)]
 have hx:exact V E=false:=by
  unfold exact Kl
  rw [hl,e1,e2,Avk (by omega)]
  exact Avc h0
 have hr:B3 V E=0:=by
  unfold B3
  rw [Avt h0,hl,hk2]
  rfl
 refine ⟨hr,?_⟩
 unfold flagsOf
 rw [Avt h0,hr,hx]
 rfl
theorem Agq (n:Bool) {m:Nat} {e:Int} {more:Bool} (hm:m<2^53) (h0:m≠0∨more=true) (he:e≤-1130) :
 Fi n m e more=(B5 n 0,3):=by
 have h1:more.toNat≤1:=by cases more<;>decide
 have hV:4*m+more.toNat≠0:=by
  rcases h0 with h | h
  ·omega
  ·rw [h]; simp
 have hl:(4*m+more.toNat).log2≤54:=by
  have:=(Awn hV).2 (show 4*m+more.toNat<2^55 by omega); omega
 have:=Aiq hV (E:=e-2) (by omega)
 unfold Fi
 rw [this.1,this.2]
theorem Ajp (n:Bool):Fi n 0 (-1074) true=(B5 n 0,3):=by
 cases n<;>decide +kernel
theorem Acr {b:Nat} {n:Int} (h4:As b≠4) (h:¬ (As b=3∨As b=0)) (hn:A2 b+n≤-1130):Hk b n=(B5 (Db b) 0,3):=by
 have hm:Aw b≠0:=fun h5=>h (.inr ((Ks (by omega) h4).1 h5))
 have:=Aiq hm (E:=A2 b+n) (by have:=Aj4 hm; omega)
 unfold Hk
 rw [Avt h4,Avt h,this.1,this.2]
theorem Aga {b:Nat} {n:Int} (h4:As b≠4) (h:¬ (As b=3∨As b=0)):Hk b n=(B5 (Db b) (B3 (Aw b) (A2 b+n)),flagsOf (Aw b) (A2 b+n)):=by
 unfold Hk; rw [Avt h4,Avt h]
def Ak4 (b:Nat):Int:=if I1 b=true∧As b≠0 then ((Aw b).log2:Int)+A2 b else 0
def Ah0 (b:Nat):Nat:=b%2^63
def Aqa (a b:Nat):Int:=if As a=4∨As b=4 then 0 else if Vs a<Vs b then -1 else if Vs b<Vs a then 1 else 0
def Aqb (a b:Nat):Bool:=!(decide (As a=4∨As b=4))
end Go.C4
namespace Go.C4
open Go.Den
def Xd (b:Int):Int:=Vs b.toNat
def Ac4 (a b:Int):Int:=Aqa a.toNat b.toNat
def Asw (a b:Int):Bool:=Aqb a.toNat b.toNat
def Aa7 (x:Int):Int:=Ah0 x.toNat
def Ck (x n:Int):Int:=(Hk x.toNat n).1
def Amx (x n:Int):Int:=(Hk x.toNat n).2
def Eu (x n:Int):Bool:=Ah x&&Cf (-2300≤n∧n≤2300)
def B8 (x:Int):Int:=Ak4 x.toNat
def Zt:List Int→Nat→Nat
 | [],m=>m
 | x::l,m=>if As x.toNat=4 then Wi else Zt l (max m (Ah0 x.toNat))
def Bq (l:List Int):Int:=Zt l 0
def Fg (l:List Int):Bool:=l.all Dd
def Bt (r c:Int) (l:List Int):Int:=if Bj r c l=true then (if Fg l=true then 0 else 4) else 1
def Y1 (c:Int) (l:List Int) (n:Nat):Bool:=(List.range n).any fun i:Nat=>decide (Bd (Cv c l (i:Int) (i:Int))=0)
def Om (r c:Int) (l:List Int) (p q:Int) (m:List Int):Int :=
 if Bt r c l≠0 then Bt r c l else if Bt p q m≠0 then Bt p q m
 else if r≠c∨r≠p then 3 else if Y1 c l r.toNat=true then 5 else 0
def Iq (c:Int) (l:List Int) (i:Int):Int→Int→List Int→Int
 | s,_,[]=>s
 | s,j,x::xs=>Iq c l i (El s (Ej (Cv c l i j) x)) (j+1) xs
def Rz (c:Int) (l:List Int) (b:Nat→Int) (n:Nat):Nat→List Int
 | 0=>[]
 | k+1=>Ek (Iq c l ((n-1-k:Nat):Int) (b (n-1-k)) ((n-k:Nat):Int) (Rz c l b n k)) (Cv c l ((n-1-k:Nat):Int) ((n-1-k:Nat):Int))::Rz c l b n k
def R0 (c:Int) (l:List Int) (b:Nat→Int):Nat→List Int
 | 0=>[]
 | k+1=>R0 c l b k++[Ek (Iq c l (k:Int) (b k) 0 (R0 c l b k)) (Cv c l (k:Int) (k:Int))]
def upG (c:Int) (l:List Int) (q:Int) (m:List Int) (n w:Nat):List Int:=Cj n w fun i j=>(Rz c l (fun i=>Cv q m (i:Int) (j:Int)) n n).getD i 0
def loG (c:Int) (l:List Int) (q:Int) (m:List Int) (n w:Nat):List Int:=Cj n w fun i j=>(R0 c l (fun i=>Cv q m (i:Int) (j:Int)) n).getD i 0
def Kc (r c:Int) (l:List Int):MX:=if Fg l=true then (r,c,l,0) else Nm 2
def Wj (r c:Int) (l:List Int) (p q:Int) (m:List Int):MX :=
 if Om r c l p q m≠0 then Nm (Om r c l p q m) else Kc r q (upG c l q m r.toNat q.toNat)
def loX (r c:Int) (l:List Int) (p q:Int) (m:List Int):MX :=
 if Om r c l p q m≠0 then Nm (Om r c l p q m) else Kc r q (loG c l q m r.toNat q.toNat)
def Tp (c:Int) (l:List Int) (n:Nat):List Int:=(List.range n).map fun i:Nat=>Aa7 (Cv c l (i:Int) (i:Int))
def Ao6 (d:List Int):Bool:=d.any fun x=>!(decide (Ac4 (Ck (Bq d) (-40)) x<0))
def Akt (r c:Int) (l:List Int):Bool:=Ao6 (Tp c l (min r.toNat c.toNat))
def Oj (r c:Int) (l:List Int):Bool × Int:=if Bt r c l≠0 then (false,Bt r c l) else (Akt r c l,0)
def Nw (r c:Int) (l:List Int) (p q:Int) (m:List Int):Bool:=(Bj r c l&&Bj p q m)&&((Ap l&&Ap m)&&Cf (r=c∧r=p))
def Jv (n:Nat):List Int:=Cj n n fun i k=>Ln (i:Int) (k:Int)
def De (r c:Int) (l:List Int) (p q:Int) (m:List Int):MX :=
 if (E6 r c l).2.2.2≠0 then Nm (E6 r c l).2.2.2 else Sn (E6 r c l).1 (E6 r c l).2.1 (E6 r c l).2.2.1 p q m
end Go.C4
namespace Go.C4
open Go.Den
theorem Aoa {a b:Nat}:(Wv a b).1<2^64:=by
 have h1:F2<2^63:=by decide
 have hs:∀ (s:Bool) {r:Nat},r<2^63→B5 s r<2^64:=by
  intro s r h
  unfold B5
  cases s
  ·rw [Avt (by decide)]; omega
  ·rw [Avu rfl]; omega
 have hN:Wi<2^64:=by decide
 unfold Wv
 by_cases c1:As a=4∨As b=4
 ·rw [Avu c1]; exact hN
 rw [Avt c1]
 by_cases c2:As a=As b∧(As a=3∨As a=0)
 ·rw [Avu c2]; exact hN
 rw [Avt c2]
 by_cases c3:As a=3
 ·rw [Avu c3]; exact hs _ h1
 rw [Avt c3]
 by_cases c4:As b=3∨As a=0
 ·rw [Avu c4]; exact hs _ (by decide)
 rw [Avt c4]
 by_cases c5:As b=0
 ·rw [Avu c5]; exact hs _ h1
 rw [Avt c5]
 exact hs _ (Q0 _ _)
theorem Zn (a b:Int):Ah (Ek a b)=true:=B2 Aoa
theorem P2 {a b:Int} (ha:Ah a=true) (hb:Ah b=true):Ah (El a b)=true:=by
 obtain ⟨x,rfl,hx⟩:=B0 ha
 obtain ⟨y,rfl,hy⟩:=B0 hb
 exact B2 (Ui (by rw [Au9]; exact hx) (So (by rw [Au9]; exact hy))).1
theorem Le {r c:Nat} {f:Nat→Nat→Int} (h:∀ i k,Ah (f i k)=true):Ap (Cj r c f)=true:=Ao.2 fun x hx=>by
 obtain ⟨j,_,rfl⟩:=List.mem_map.1 hx
 exact h _ _
theorem Ll (a b:Int):Ah (Ej a b)=true:=B2 T9
theorem Hi (c:Int) (l:List Int) (b:Nat→Int) (n:Nat):∀ k,(Rz c l b n k).length=k
 | 0=>rfl
 | k+1=>by rw [Rz,List.length_cons,Hi c l b n k]
theorem Aig (c:Int) (l:List Int) (b:Nat→Int) (n:Nat):∀ k,∀ x∈Rz c l b n k,Ah x=true
 | 0,x,h=>by cases h
 | k+1,x,h=>by
   rw [Rz] at h
   rcases List.mem_cons.1 h with rfl | h
   ·exact Zn _ _
   ·exact Aig c l b n k x h
theorem Z9 (c:Int) (l:List Int) (b:Nat→Int) (n k:Nat):∀ d,(Rz c l b n (k+d)).drop d=Rz c l b n k
 | 0=>rfl
 | d+1=>by
   rw [← Nat.add_assoc,Rz,List.drop_succ_cons]
   exact Z9 c l b n k d
theorem Um {c:Int} {l:List Int} {b:Nat→Int} {n k:Nat} (h:k≤n):(Rz c l b n n).drop (n-k)=Rz c l b n k:=by
 have:=Z9 c l b n k (n-k)
 rw [Nat.add_sub_cancel' h] at this
 exact this
theorem Aeh {c:Int} {l:List Int} {b:Nat→Int} {n i:Nat} (h:i<n) :
 (Rz c l b n n).getD i 0=Ek (Iq c l (i:Int) (b i) ((i+1:Nat):Int) ((Rz c l b n n).drop (i+1))) (Cv c l (i:Int) (i:Int)):=by
 have e1:=Um (c:=c) (l:=l) (b:=b) (n:=n) (k:=n-i) (by omega)
 have e2:=Um (c:=c) (l:=l) (b:=b) (n:=n) (k:=n-i-1) (by omega)
 rw [show n-(n-i)=i by omega] at e1
 rw [show n-(n-i-1)=i+1 by omega] at e2
 rw [e2]
 have e3:(Rz c l b n n).getD i 0=((Rz c l b n n).drop i).getD 0 0:=by
  rw [Avh,Avh,List.getElem?_drop,Awf]
 rw [e3,e1,show n-i=(n-i-1)+1 by omega,Rz]
 have e4:n-1-(n-i-1)=i:=by omega
 have e5:n-(n-i-1)=i+1:=by omega
 rw [e4,e5]
 rfl
theorem Ze {l:List Int} (h:∀ x∈l,Ah x=true) (i:Nat):Ah (l.getD i 0)=true:=by
 rw [Avh]
 cases hi:l[i]? with
 | none=>exact B2 (n:=0) (by decide)
 | some x=>exact h x (List.mem_of_getElem? hi)
theorem Xp {c:Int} {l:List Int} {i s j:Int} {xs:List Int} {t:Nat} (h:t<xs.length):Iq c l i s j (xs.drop t)=Iq c l i (El s (Ej (Cv c l i j) (xs.getD t 0))) (j+1) (xs.drop (t+1)):=by
 rw [List.drop_eq_getElem_cons h,Iq,Avh,Avo h]; rfl
theorem Fc (c:Int) (l:List Int) (b:Nat→Int):∀ k,(R0 c l b k).length=k
 | 0=>rfl
 | k+1=>by rw [R0,Avz,Fc c l b k]; rfl
theorem Akb (c:Int) (l:List Int) (b:Nat→Int):∀ k,∀ x∈R0 c l b k,Ah x=true
 | 0,x,h=>by cases h
 | k+1,x,h=>by
   rw [R0] at h
   rcases List.mem_append.1 h with h | h
   ·exact Akb c l b k x h
   ·rw [List.mem_singleton.1 h]; exact Zn _ _
theorem Aba {c:Int} {l:List Int} {b:Nat→Int} {k:Nat}:∀ d,(R0 c l b (k+d)).take k=R0 c l b k
 | 0=>by rw [Awf]; exact List.take_of_length_le (by rw [Fc]; omega)
 | d+1=>by
   rw [← Nat.add_assoc,R0,List.take_append_of_le_length (by rw [Fc]; omega)]
   exact Aba d
theorem Vk {c:Int} {l:List Int} {b:Nat→Int} {n k:Nat} (h:k≤n):(R0 c l b n).take k=R0 c l b k:=by
 have:=Aba (c:=c) (l:=l) (b:=b) (k:=k) (n-k)
 rw [Nat.add_sub_cancel' h] at this
 exact this
theorem Ae9 {c:Int} {l:List Int} {b:Nat→Int} {n i:Nat} (h:i<n) :
 (R0 c l b n).getD i 0=Ek (Iq c l (i:Int) (b i) 0 ((R0 c l b n).take i)) (Cv c l (i:Int) (i:Int)):=by
 have e1:=Vk (c:=c) (l:=l) (b:=b) (n:=n) (k:=i+1) (by omega)
 have e2:=Vk (c:=c) (l:=l) (b:=b) (n:=n) (k:=i) (by omega)
 have e3:(R0 c l b n).getD i 0=((R0 c l b n).take (i+1)).getD i 0:=by
  rw [Avh,Avh,List.getElem?_take_of_lt (by omega)]
 rw [e3,e1,e2,R0,Avh,Awl (by rw [Fc]; omega),Fc,Nat.sub_self]
 rfl
end Go.C4
namespace Go.C4
open Go.Den
def Wo:Int:=4607182418800017408
def G9 (x:Int):Int:=(Nj x.toNat).1
def Nx (x:Int):Int:=(Nj x.toNat).2
def Aco (k:Int):Int→List Int→Int
 | s,[]=>s
 | s,x::l=>Aco k (Hx s (Ej (Ck x k) (Ck x k))) l
def Ei (x:List Int):Int :=
 if Bq x=0∨Dd (Bq x)=false then Bq x else Ck (G9 (Aco (-B8 (Bq x)) 0 x)) (B8 (Bq x))
def Jf (l:List Int):Bool:=l.all fun x=>decide (Bd x=0)
def Pu:List Int→Int
 | []=>0
 | x::l=>if Bd x=0 then Pu l else x
def Bo (l:List Int) (k:Int):List Int:=l.map fun x=>Ck x k
def It (n:Nat) (f:Nat→Int):List Int:=Wo::(List.range (n-1)).map fun j=>f (j+1)
def muI (x:List Int):Int:=if Dk (Pu x)=true then Ei (Bo x (-B8 (Bq x))) else C6 (Ei (Bo x (-B8 (Bq x))))
def He (x:List Int):Int:=Ck (muI x) (B8 (Bq x))
def Akv (x:List Int):Int:=Ck (x.getD 0 0) (-B8 (Bq x))
def Aa0 (x:List Int):List Int:=It x.length fun j=>Ek (Ck (x.getD j 0) (-B8 (Bq x))) (El (Akv x) (muI x))
def Ada (x:List Int):Int:=Ek (El (muI x) (Akv x)) (muI x)
def Anh (x:List Int):List Int × Int × Int × Int :=
 if Jf (x.drop 1)=true then (It x.length fun _=>0,0,x.getD 0 0,0)
 else if Dd (He x)=true then (Aa0 x,Ada x,He x,0) else ([],0,0,2)
def Ch (x:List Int):List Int × Int × Int × Int :=
 if x.length=0∨64<x.length then ([],0,0,3) else if Fg x=true then Anh x else ([],0,0,4)
def Cb (c:Int) (l:List Int) (b i:Int) (n:Nat):List Int:=(List.range n).map fun j:Nat=>Cv c l (i+(j:Int)) b
def Zv (c:Int) (l:List Int) (i:Int) (v:List Int) (t b:Int):Int:=Ej t (Pl v (Cb c l b i v.length))
def Oq (c:Int) (l:List Int) (i k:Int) (v:List Int) (t a b:Int):Int :=
 if k≤b∧i≤a∧a<i+v.length then El (Cv c l a b) (Ej (Zv c l i v t b) (v.getD (a-i).toNat 0)) else Cv c l a b
def F4 (r c:Nat) (l:List Int) (i k:Int) (v:List Int) (t:Int):List Int:=Cj r c fun a b=>Oq (c:Int) l i k v t (a:Int) (b:Int)
def Ls (r c i k:Int) (v:List Int):Bool:=decide (0≤i∧(v.length:Int)≤r∧i≤r-v.length∧0≤k∧k≤c)
def Sz (r c:Nat) (l:List Int) (j:Nat) (x:Int):List Int:=Cj r c fun a b=>if b=j∧j≤a then (if a=j then x else 0) else Cv (c:Int) l (a:Int) (b:Int)
def Gc (r c:Nat) (l:List Int) (j:Nat):List Int:=Cb (c:Int) l (j:Int) (j:Int) (r-j)
def Wp (r c:Nat) (l:List Int) (j:Nat):List Int:=Sz r c (F4 r c l (j:Int) (j:Int) (Ch (Gc r c l j)).1 (Ch (Gc r c l j)).2.1) j (Ch (Gc r c l j)).2.2.1
def Np (r c:Nat):Nat→Nat→List Int→Option (List Int × List (List Int × Int))
 | 0,_,l=>some (l,[])
 | n+1,j,l=>if (Ch (Gc r c l j)).2.2.2=0 then
  (Np r c n (j+1) (Wp r c l j)).map fun x=>(x.1,((Ch (Gc r c l j)).1,(Ch (Gc r c l j)).2.1)::x.2) else none
def Is (r c:Nat):Nat:=min c (r-1)
def J0 (n:Nat):Nat→List (List Int × Int)→List Int→List Int
 | _,[],q=>q
 | j,m::ms,q=>F4 n n (J0 n (j+1) ms q) (j:Int) 0 m.1 m.2
def Ir (r c:Nat) (l:List Int):Option (List Int × List (List Int × Int)):=Np r c (Is r c) 0 l
def Qe (r c:Nat) (l:List Int):List Int:=match Ir r c l with
 | some x=>J0 r 0 x.2 (Jv r)
 | none=>[]
def M7 (r c:Nat) (l:List Int):List Int:=match Ir r c l with
 | some x=>x.1
 | none=>[]
def E5 (r c:Int) (l:List Int):MX:=if (Ir r.toNat c.toNat l).isSome=true then (r,c,M7 r.toNat c.toNat l,0) else Nm 2
def Vd (ms:List (List Int × Int)):List (List DV):=ms.map fun m=>[.ints .arg .u64 m.1,.int .u64 m.2]
def Iy (r c:Int) (l:List Int):List (List DV):=match Ir r.toNat c.toNat l with
 | some x=>Vd x.2
 | none=>[]
def Rh (m:Int):Int:=Qq (m.toNat*2^64)
def Ri (m:Int):Bool:=decide (Qq (m.toNat*2^64)*Qq (m.toNat*2^64)=m.toNat*2^64)
def Pz (r c:Nat) (l:List Int):Bool:=(Ir r c l).isSome&&(Fg (Qe r c l)&&Fg (M7 r c l))
def F3 (r c:Int) (l:List Int):Int:=if Bt r c l≠0 then Bt r c l else if Pz r.toNat c.toNat l=true then 0 else 2
def qX (r c:Int) (l:List Int):MX:=if F3 r c l≠0 then Nm (F3 r c l) else (r,r,Qe r.toNat c.toNat l,0)
def rX (r c:Int) (l:List Int):MX:=if F3 r c l≠0 then Nm (F3 r c l) else (r,c,M7 r.toNat c.toNat l,0)
def Hg (r c:Int) (l:List Int):MX:=if F3 r c l≠0 then Nm (F3 r c l) else (r,min r c,(Hd r r (Qe r.toNat c.toNat l) 0 0 r (min r c)).2.2.1,0)
def Lw (r c:Int) (l:List Int):MX:=if F3 r c l≠0 then Nm (F3 r c l) else (min r c,c,(Hd r c (M7 r.toNat c.toNat l) 0 0 (min r c) c).2.2.1,0)
def Aq8 (a b:MX) (p q:Int) (m:List Int):MX :=
 if (De a.1 a.2.1 a.2.2.1 p q m).2.2.2≠0 then Nm (De a.1 a.2.1 a.2.2.1 p q m).2.2.2
 else Wj b.1 b.2.1 b.2.2.1 (De a.1 a.2.1 a.2.2.1 p q m).1 (De a.1 a.2.1 a.2.2.1 p q m).2.1 (De a.1 a.2.1 a.2.2.1 p q m).2.2.1
def Dx (r c:Int) (l:List Int) (p q:Int) (m:List Int):MX :=
 if Bt r c l≠0 then Nm (Bt r c l) else if Bt p q m≠0 then Nm (Bt p q m) else if r<c∨r≠p then Nm 3
 else if F3 r c l≠0 then Nm (F3 r c l)
 else if (Oj (Lw r c l).1 (Lw r c l).2.1 (Lw r c l).2.2.1).1=true then Nm 5
 else Aq8 (Hg r c l) (Lw r c l) p q m
end Go.C4
namespace Go.C4
open Go.Den
def Arv (x:MX):MX:=E6 x.1 x.2.1 x.2.2.1
def Ap9 (x:MX) (i k a b:Int):MX:=Hd x.1 x.2.1 x.2.2.1 i k a b
def eqT (p q:Int) (m:List Int):List Int:=(E6 p q m).2.2.1
def eqR (p q:Int) (m:List Int):MX:=rX q p (eqT p q m)
def eqS (p q:Int) (m:List Int):MX:=Arv (Ap9 (eqR p q m) 0 0 p p)
def hY (p q:Int) (m:List Int) (u v:Int) (h:List Int):MX :=
 if F3 q p (eqT p q m)≠0 then Nm (F3 q p (eqT p q m)) else if (Oj (eqS p q m).1 (eqS p q m).2.1 (eqS p q m).2.2.1).1=true then Nm 5
 else loX (eqS p q m).1 (eqS p q m).2.1 (eqS p q m).2.2.1 u v h
def hQ (p q:Int) (m:List Int):MX :=
 if F3 q p (eqT p q m)≠0 then Nm (F3 q p (eqT p q m)) else if (Oj (eqS p q m).1 (eqS p q m).2.1 (eqS p q m).2.2.1).1=true then Nm 5
 else qX q p (eqT p q m)
end Go.C4
namespace Go.C4
open Go.Den
def Auo (l m h:List Int):Bool:=(Ap l&&Ap m)&&Ap h
end Go.C4
namespace Go.C4
open Go.Den
end Go.C4
namespace Go.C4
open Go.Den
structure Wh (x:Int) (v:Int):Prop where
 word:Ah x=true
 k3:As x.toNat≠3
 k4:As x.toNat≠4
 val:∃ g:Int,g≤0∧g≤A2 x.toNat∧Gu x.toNat g=v*((2^(-g).toNat:Nat):Int)
def zI (x:Int):Int:=Tz (Ba x) (Az x) (min (Az x) 0) / ((2^(-(min (Az x) 0)).toNat:Nat):Int)
def Sm (b:Nat) (x:Int):Prop:=Wh x (zI x)∧(zI x).natAbs≤b
def Dv:List Int→List Int→Int
 | x::xs,y::ys=>zI x*zI y+Dv xs ys
 | _,_=>0
def Uk (n:Int):Int:=(B5 (decide (n<0)) (B3 n.natAbs 0):Nat)
def Qh (x y:List Int):Bool:=Cf (x.length=y.length∧x.length≤6∧(∀ z∈x,Sm 3 z)∧∀ z∈y,Sm 134217728 z)
def N2 (r c:Int) (l:List Int) (p q:Int) (m:List Int) (u v:Int) (h:List Int):Bool:=((Bj r c l&&Bj p q m)&&Bj u v h)&&Cf (c=1∧p=r∧q=r∧u=r∧v=1∧(∀ z∈l,Sm 99 z)∧(∀ z∈m,Sm 3 z)∧(∀ z∈h,Sm 134217728 z)∧∀ i:Nat,i<r.toNat→zI (Cv 1 l (i:Int) 0)=Dv (Dh q m (i:Int)) (Cb 1 h 0 0 r.toNat))
end Go.C4
end
