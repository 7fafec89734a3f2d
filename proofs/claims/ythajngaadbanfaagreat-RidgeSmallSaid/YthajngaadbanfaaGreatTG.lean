/- A verified evaluator of the program's form and its use for this seat: S1Env, InfW, GsvW, S1Specs, S1Tt, S1EqSoft, S1PSoft, S1PPack. -/
import Derived.Test.YthajngaadbanfaaGreatProg
import Derived.Test.YthajngaadbanfaaGreatTD
import Derived.Test.YthajngaadbanfaaGreatTF
import Derived.Test.YthajngaadbanfaaGreatTE
set_option linter.unusedVariables false
set_option linter.unusedSimpArgs false
open Nat renaming beq->zg
open List renaming set->zn
open Eq renaming trans->yL
noncomputable section
open Int (toNat)
open List (length getD)
open Go.Proofs.Tryz
namespace Go.Proofs.S1
open Go Go.Den Go.Proofs
set_option maxRecDepth 100000
abbrev tB:Nat:=43
abbrev tI:Nat:=3
abbrev tMR:Nat:=161
abbrev tW:Nat:=121
def tys:List (Nat × TI):=[
 (2,⟨1,8,(.int .i64),[.int .i64 (0:Int)]⟩),
 (3,⟨1,8,(.int .i64),[.int .i64 (0:Int)]⟩),
 (4,⟨1,1,.bool,[.bool false]⟩),
 (5,⟨1,1,(.int .u8),[.int .u8 (0:Int)]⟩),
 (22,⟨1,24,(.slice 43),[.nil]⟩),
 (24,⟨3,40,(.struct [(0,3),(1,3),(2,22)]),[.int .i64 (0:Int),.int .i64 (0:Int),.nil]⟩),
 (26,⟨14,208,(.struct [(0,24),(3,24),(6,24),(9,24),(12,22),(13,22)]),[.int .i64 (0:Int),.int .i64 (0:Int),.nil,.int .i64 (0:Int),.int .i64 (0:Int),.nil,.int .i64 (0:Int),.int .i64 (0:Int),.nil,.int .i64 (0:Int),.int .i64 (0:Int),.nil,.nil,.nil]⟩),
 (30,⟨1,24,(.slice 121),[.nil]⟩),
 (32,⟨2,32,(.struct [(0,4),(1,30)]),[.bool false,.nil]⟩),
 (34,⟨3,40,(.struct [(0,32),(2,3)]),[.bool false,.nil,.int .i64 (0:Int)]⟩),
 (42,⟨1,8,(.int .u64),[.int .u64 (0:Int)]⟩),
 (43,⟨1,8,(.int .u64),[.int .u64 (0:Int)]⟩),
 (49,⟨1,8,(.int .i64),[.int .i64 (0:Int)]⟩),
 (54,⟨15,216,(.struct [(0,24),(3,24),(6,24),(9,24),(12,22),(13,22),(14,49)]),[.int .i64 (0:Int),.int .i64 (0:Int),.nil,.int .i64 (0:Int),.int .i64 (0:Int),.nil,.int .i64 (0:Int),.int .i64 (0:Int),.nil,.int .i64 (0:Int),.int .i64 (0:Int),.nil,.nil,.nil,.int .i64 (0:Int)]⟩),
 (63,⟨8,112,(.struct [(0,24),(3,24),(6,22),(7,49)]),[.int .i64 (0:Int),.int .i64 (0:Int),.nil,.int .i64 (0:Int),.int .i64 (0:Int),.nil,.nil,.int .i64 (0:Int)]⟩),
 (77,⟨1,24,(.slice 34),[.nil]⟩),
 (79,⟨3,40,(.struct [(0,3),(1,3),(2,77)]),[.int .i64 (0:Int),.int .i64 (0:Int),.nil]⟩),
 (95,⟨6,80,(.array 2 24),[.int .i64 (0:Int),.int .i64 (0:Int),.nil,.int .i64 (0:Int),.int .i64 (0:Int),.nil]⟩),
 (97,⟨7,88,(.struct [(0,24),(3,24),(6,4)]),[.int .i64 (0:Int),.int .i64 (0:Int),.nil,.int .i64 (0:Int),.int .i64 (0:Int),.nil,.bool false]⟩),
 (115,⟨1,24,(.slice 3),[.nil]⟩),
 (121,⟨1,4,(.int .u32),[.int .u32 (0:Int)]⟩),
 (126,⟨1,24,(.slice 24),[.nil]⟩),
 (139,⟨1,1,(.int .u8),[.int .u8 (0:Int)]⟩),
 (144,⟨1,8,.fl,[.fl 0]⟩),
 (156,⟨1,24,(.slice 161),[.nil]⟩),
 (161,⟨2,32,(.struct [(0,22),(1,43)]),[.nil,.int .u64 (0:Int)]⟩),
 (167,⟨3,24,(.struct [(0,43),(1,43),(2,4)]),[.int .u64 (0:Int),.int .u64 (0:Int),.bool false]⟩),
 (173,⟨1,24,(.slice 175),[.nil]⟩),
 (175,⟨3,40,(.struct [(0,22),(1,43),(2,43)]),[.nil,.int .u64 (0:Int),.int .u64 (0:Int)]⟩),
 (180,⟨1,8,(.int .u64),[.int .u64 (0:Int)]⟩),
 (194,⟨3,24,(.struct [(0,4),(1,3),(2,42)]),[.bool false,.int .i64 (0:Int),.int .u64 (0:Int)]⟩),
 (214,⟨1,8,(.int .i64),[.int .i64 (0:Int)]⟩)]
theorem ty2:Cz Tryz.prog 2 ⟨1,8,(.int .i64),[.int .i64 (0:Int)]⟩:=Dh (z:=.int .i64 (0:Int)) (by kernel_rfl) (fun c w=>by simp[Bh,Au,Value.cells]) rfl (by simp[Value.cells,Value.oneCell']) (by simp only[Dd]; exact Tryz.underlying2)
theorem ty3:Cz Tryz.prog 3 ⟨1,8,(.int .i64),[.int .i64 (0:Int)]⟩:=Dh (z:=.int .i64 (0:Int)) (by kernel_rfl) (fun c w=>by simp[Bh,Au,Value.cells]) rfl (by simp[Value.cells,Value.oneCell']) (by simp only[Dd]; exact Tryz.underlying3)
theorem ty4:Cz Tryz.prog 4 ⟨1,1,.bool,[.bool false]⟩:=Dh (z:=.bool false) (by kernel_rfl) (fun c w=>by simp[Bh,Au,Value.cells]) rfl (by simp[Value.cells,Value.oneCell']) (by simp only[Dd]; exact Tryz.underlying4)
theorem ty5:Cz Tryz.prog 5 ⟨1,1,(.int .u8),[.int .u8 (0:Int)]⟩:=Dh (z:=.int .u8 (0:Int)) (by kernel_rfl) (fun c w=>by simp[Bh,Au,Value.cells]) rfl (by simp[Value.cells,Value.oneCell']) (by simp only[Dd]; exact Tryz.underlying5)
theorem Bcv:Cz Tryz.prog 22 ⟨1,24,(.slice 43),[.nil]⟩:=Dh (z:=.slice none 0 0) (by kernel_rfl) (fun c w=>by simp[Bh,Au,Value.cells]) rfl (by simp[Value.cells,Value.oneCell']) (by simp only[Dd]; exact Tryz.underlying22)
theorem Bcu:Cz Tryz.prog 24 ⟨3,40,(.struct [(0,3),(1,3),(2,22)]),[.int .i64 (0:Int),.int .i64 (0:Int),.nil]⟩:=Dh (z:=.agg #[.int .i64 (0:Int),.int .i64 (0:Int),.slice none 0 0]) (by kernel_rfl) (fun c w=>by simp[Bh,Au,Value.cells]) rfl (by simp[Value.cells,Value.oneCell']) (by simp only[Dd]; exact⟨_,Tryz.underlying24,by kernel_rfl⟩)
theorem Bct:Cz Tryz.prog 26 ⟨14,208,(.struct [(0,24),(3,24),(6,24),(9,24),(12,22),(13,22)]),[.int .i64 (0:Int),.int .i64 (0:Int),.nil,.int .i64 (0:Int),.int .i64 (0:Int),.nil,.int .i64 (0:Int),.int .i64 (0:Int),.nil,.int .i64 (0:Int),.int .i64 (0:Int),.nil,.nil,.nil]⟩:=Dh (z:=.agg #[.int .i64 (0:Int),.int .i64 (0:Int),.slice none 0 0,.int .i64 (0:Int),.int .i64 (0:Int),.slice none 0 0,.int .i64 (0:Int),.int .i64 (0:Int),.slice none 0 0,.int .i64 (0:Int),.int .i64 (0:Int),.slice none 0 0,.slice none 0 0,.slice none 0 0]) (by kernel_rfl) (fun c w=>by simp[Bh,Au,Value.cells]) rfl (by simp[Value.cells,Value.oneCell']) (by simp only[Dd]; exact⟨_,Tryz.underlying26,by kernel_rfl⟩)
theorem Bcs:Cz Tryz.prog 30 ⟨1,24,(.slice 121),[.nil]⟩:=Dh (z:=.slice none 0 0) (by kernel_rfl) (fun c w=>by simp[Bh,Au,Value.cells]) rfl (by simp[Value.cells,Value.oneCell']) (by simp only[Dd]; exact Tryz.underlying30)
theorem Bcr:Cz Tryz.prog 32 ⟨2,32,(.struct [(0,4),(1,30)]),[.bool false,.nil]⟩:=Dh (z:=.agg #[.bool false,.slice none 0 0]) (by kernel_rfl) (fun c w=>by simp[Bh,Au,Value.cells]) rfl (by simp[Value.cells,Value.oneCell']) (by simp only[Dd]; exact⟨_,Tryz.underlying32,by kernel_rfl⟩)
theorem Bcq:Cz Tryz.prog 34 ⟨3,40,(.struct [(0,32),(2,3)]),[.bool false,.nil,.int .i64 (0:Int)]⟩:=Dh (z:=.agg #[.bool false,.slice none 0 0,.int .i64 (0:Int)]) (by kernel_rfl) (fun c w=>by simp[Bh,Au,Value.cells]) rfl (by simp[Value.cells,Value.oneCell']) (by simp only[Dd]; exact⟨_,Tryz.underlying34,by kernel_rfl⟩)
theorem A9n:Cz Tryz.prog 42 ⟨1,8,(.int .u64),[.int .u64 (0:Int)]⟩:=Dh (z:=.int .u64 (0:Int)) (by kernel_rfl) (fun c w=>by simp[Bh,Au,Value.cells]) rfl (by simp[Value.cells,Value.oneCell']) (by simp only[Dd]; exact Tryz.underlying42)
theorem Bcp:Cz Tryz.prog 43 ⟨1,8,(.int .u64),[.int .u64 (0:Int)]⟩:=Dh (z:=.int .u64 (0:Int)) (by kernel_rfl) (fun c w=>by simp[Bh,Au,Value.cells]) rfl (by simp[Value.cells,Value.oneCell']) (by simp only[Dd]; exact Tryz.underlying43)
theorem Bco:Cz Tryz.prog 49 ⟨1,8,(.int .i64),[.int .i64 (0:Int)]⟩:=Dh (z:=.int .i64 (0:Int)) (by kernel_rfl) (fun c w=>by simp[Bh,Au,Value.cells]) rfl (by simp[Value.cells,Value.oneCell']) (by simp only[Dd]; exact Tryz.underlying49)
theorem Bcn:Cz Tryz.prog 54 ⟨15,216,(.struct [(0,24),(3,24),(6,24),(9,24),(12,22),(13,22),(14,49)]),[.int .i64 (0:Int),.int .i64 (0:Int),.nil,.int .i64 (0:Int),.int .i64 (0:Int),.nil,.int .i64 (0:Int),.int .i64 (0:Int),.nil,.int .i64 (0:Int),.int .i64 (0:Int),.nil,.nil,.nil,.int .i64 (0:Int)]⟩:=Dh (z:=.agg #[.int .i64 (0:Int),.int .i64 (0:Int),.slice none 0 0,.int .i64 (0:Int),.int .i64 (0:Int),.slice none 0 0,.int .i64 (0:Int),.int .i64 (0:Int),.slice none 0 0,.int .i64 (0:Int),.int .i64 (0:Int),.slice none 0 0,.slice none 0 0,.slice none 0 0,.int .i64 (0:Int)]) (by kernel_rfl) (fun c w=>by simp[Bh,Au,Value.cells]) rfl (by simp[Value.cells,Value.oneCell']) (by simp only[Dd]; exact⟨_,Tryz.underlying54,by kernel_rfl⟩)
theorem Bcm:Cz Tryz.prog 63 ⟨8,112,(.struct [(0,24),(3,24),(6,22),(7,49)]),[.int .i64 (0:Int),.int .i64 (0:Int),.nil,.int .i64 (0:Int),.int .i64 (0:Int),.nil,.nil,.int .i64 (0:Int)]⟩:=Dh (z:=.agg #[.int .i64 (0:Int),.int .i64 (0:Int),.slice none 0 0,.int .i64 (0:Int),.int .i64 (0:Int),.slice none 0 0,.slice none 0 0,.int .i64 (0:Int)]) (by kernel_rfl) (fun c w=>by simp[Bh,Au,Value.cells]) rfl (by simp[Value.cells,Value.oneCell']) (by simp only[Dd]; exact⟨_,Tryz.underlying63,by kernel_rfl⟩)
theorem Bcl:Cz Tryz.prog 77 ⟨1,24,(.slice 34),[.nil]⟩:=Dh (z:=.slice none 0 0) (by kernel_rfl) (fun c w=>by simp[Bh,Au,Value.cells]) rfl (by simp[Value.cells,Value.oneCell']) (by simp only[Dd]; exact Tryz.underlying77)
theorem Bck:Cz Tryz.prog 79 ⟨3,40,(.struct [(0,3),(1,3),(2,77)]),[.int .i64 (0:Int),.int .i64 (0:Int),.nil]⟩:=Dh (z:=.agg #[.int .i64 (0:Int),.int .i64 (0:Int),.slice none 0 0]) (by kernel_rfl) (fun c w=>by simp[Bh,Au,Value.cells]) rfl (by simp[Value.cells,Value.oneCell']) (by simp only[Dd]; exact⟨_,Tryz.underlying79,by kernel_rfl⟩)
theorem Bcj:Cz Tryz.prog 95 ⟨6,80,(.array 2 24),[.int .i64 (0:Int),.int .i64 (0:Int),.nil,.int .i64 (0:Int),.int .i64 (0:Int),.nil]⟩:=Dh (z:=.agg #[.int .i64 (0:Int),.int .i64 (0:Int),.slice none 0 0,.int .i64 (0:Int),.int .i64 (0:Int),.slice none 0 0]) (by kernel_rfl) (fun c w=>by simp[Bh,Au,Value.cells]) rfl (by simp[Value.cells,Value.oneCell']) (by simp only[Dd]; exact Tryz.underlying95)
theorem Bci:Cz Tryz.prog 97 ⟨7,88,(.struct [(0,24),(3,24),(6,4)]),[.int .i64 (0:Int),.int .i64 (0:Int),.nil,.int .i64 (0:Int),.int .i64 (0:Int),.nil,.bool false]⟩:=Dh (z:=.agg #[.int .i64 (0:Int),.int .i64 (0:Int),.slice none 0 0,.int .i64 (0:Int),.int .i64 (0:Int),.slice none 0 0,.bool false]) (by kernel_rfl) (fun c w=>by simp[Bh,Au,Value.cells]) rfl (by simp[Value.cells,Value.oneCell']) (by simp only[Dd]; exact⟨_,Tryz.underlying97,by kernel_rfl⟩)
theorem A90:Cz Tryz.prog 115 ⟨1,24,(.slice 3),[.nil]⟩:=Dh (z:=.slice none 0 0) (by kernel_rfl) (fun c w=>by simp[Bh,Au,Value.cells]) rfl (by simp[Value.cells,Value.oneCell']) (by simp only[Dd]; exact Tryz.underlying115)
theorem A9z:Cz Tryz.prog 121 ⟨1,4,(.int .u32),[.int .u32 (0:Int)]⟩:=Dh (z:=.int .u32 (0:Int)) (by kernel_rfl) (fun c w=>by simp[Bh,Au,Value.cells]) rfl (by simp[Value.cells,Value.oneCell']) (by simp only[Dd]; exact Tryz.underlying121)
theorem A9y:Cz Tryz.prog 126 ⟨1,24,(.slice 24),[.nil]⟩:=Dh (z:=.slice none 0 0) (by kernel_rfl) (fun c w=>by simp[Bh,Au,Value.cells]) rfl (by simp[Value.cells,Value.oneCell']) (by simp only[Dd]; exact Tryz.underlying126)
theorem A9x:Cz Tryz.prog 139 ⟨1,1,(.int .u8),[.int .u8 (0:Int)]⟩:=Dh (z:=.int .u8 (0:Int)) (by kernel_rfl) (fun c w=>by simp[Bh,Au,Value.cells]) rfl (by simp[Value.cells,Value.oneCell']) (by simp only[Dd]; exact Tryz.underlying139)
theorem A9w:Cz Tryz.prog 144 ⟨1,8,.fl,[.fl 0]⟩:=Dh (z:=.float .f64 0) (by kernel_rfl) (fun c w=>by simp[Bh,Au,Value.cells,Ur]) rfl (by simp[Value.cells,Value.oneCell']) (by simp only[Dd]; exact Tryz.underlying144)
theorem A9v:Cz Tryz.prog 156 ⟨1,24,(.slice 161),[.nil]⟩:=Dh (z:=.slice none 0 0) (by kernel_rfl) (fun c w=>by simp[Bh,Au,Value.cells]) rfl (by simp[Value.cells,Value.oneCell']) (by simp only[Dd]; exact Tryz.underlying156)
theorem A9u:Cz Tryz.prog 161 ⟨2,32,(.struct [(0,22),(1,43)]),[.nil,.int .u64 (0:Int)]⟩:=Dh (z:=.agg #[.slice none 0 0,.int .u64 (0:Int)]) (by kernel_rfl) (fun c w=>by simp[Bh,Au,Value.cells]) rfl (by simp[Value.cells,Value.oneCell']) (by simp only[Dd]; exact⟨_,Tryz.underlying161,by kernel_rfl⟩)
theorem A9t:Cz Tryz.prog 167 ⟨3,24,(.struct [(0,43),(1,43),(2,4)]),[.int .u64 (0:Int),.int .u64 (0:Int),.bool false]⟩:=Dh (z:=.agg #[.int .u64 (0:Int),.int .u64 (0:Int),.bool false]) (by kernel_rfl) (fun c w=>by simp[Bh,Au,Value.cells]) rfl (by simp[Value.cells,Value.oneCell']) (by simp only[Dd]; exact⟨_,Tryz.underlying167,by kernel_rfl⟩)
theorem A9s:Cz Tryz.prog 173 ⟨1,24,(.slice 175),[.nil]⟩:=Dh (z:=.slice none 0 0) (by kernel_rfl) (fun c w=>by simp[Bh,Au,Value.cells]) rfl (by simp[Value.cells,Value.oneCell']) (by simp only[Dd]; exact Tryz.underlying173)
theorem A9r:Cz Tryz.prog 175 ⟨3,40,(.struct [(0,22),(1,43),(2,43)]),[.nil,.int .u64 (0:Int),.int .u64 (0:Int)]⟩:=Dh (z:=.agg #[.slice none 0 0,.int .u64 (0:Int),.int .u64 (0:Int)]) (by kernel_rfl) (fun c w=>by simp[Bh,Au,Value.cells]) rfl (by simp[Value.cells,Value.oneCell']) (by simp only[Dd]; exact⟨_,Tryz.underlying175,by kernel_rfl⟩)
theorem A9q:Cz Tryz.prog 180 ⟨1,8,(.int .u64),[.int .u64 (0:Int)]⟩:=Dh (z:=.int .u64 (0:Int)) (by kernel_rfl) (fun c w=>by simp[Bh,Au,Value.cells]) rfl (by simp[Value.cells,Value.oneCell']) (by simp only[Dd]; exact Tryz.underlying180)
theorem A9p:Cz Tryz.prog 194 ⟨3,24,(.struct [(0,4),(1,3),(2,42)]),[.bool false,.int .i64 (0:Int),.int .u64 (0:Int)]⟩:=Dh (z:=.agg #[.bool false,.int .i64 (0:Int),.int .u64 (0:Int)]) (by kernel_rfl) (fun c w=>by simp[Bh,Au,Value.cells]) rfl (by simp[Value.cells,Value.oneCell']) (by simp only[Dd]; exact⟨_,Tryz.underlying194,by kernel_rfl⟩)
theorem A9o:Cz Tryz.prog 214 ⟨1,8,(.int .i64),[.int .i64 (0:Int)]⟩:=Dh (z:=.int .i64 (0:Int)) (by kernel_rfl) (fun c w=>by simp[Bh,Au,Value.cells]) rfl (by simp[Value.cells,Value.oneCell']) (by simp only[Dd]; exact Tryz.underlying214)
theorem A66:W3 Tryz.prog tys:=.cons ty2 <| .cons ty3 <| .cons ty4 <| .cons ty5 <| .cons Bcv <| .cons Bcu <| .cons Bct <| .cons Bcs <| .cons Bcr <| .cons Bcq <| .cons A9n <| .cons Bcp <| .cons Bco <| .cons Bcn <| .cons Bcm <| .cons Bcl <| .cons Bck <| .cons Bcj <| .cons Bci <| .cons A90 <| .cons A9z <| .cons A9y <| .cons A9x <| .cons A9w <| .cons A9v <| .cons A9u <| .cons A9t <| .cons A9s <| .cons A9r <| .cons A9q <| .cons A9p <| .cons A9o <| .nil
def exts:List (Nat × Ext):=[(187,.bits),(190,.frombits),(224,.sqrt),(234,.sub64)]
def Aiu:List (Nat × Ext)->Nat->Option Ext
 | [],_=>none
 | (m,e)::l,n=>bif zg m n then some e else Aiu l n
theorem A1m(args:Array Value)(w:World):(callFunc 187 args).run Tryz.prog w=((Yg .bits args).run Tryz.prog w).andThen fun v w'=>.ok (.value v) w':=run_callFunc_extern (e:=Extern.MathFloatBits.float64bits) Tryz.func187 (by kernel_rfl) (by kernel_rfl) (by kernel_rfl) (by kernel_rfl) args w
theorem A1l(args:Array Value)(w:World):(callFunc 190 args).run Tryz.prog w=((Yg .frombits args).run Tryz.prog w).andThen fun v w'=>.ok (.value v) w':=run_callFunc_extern (e:=Extern.MathFloatBits.float64frombits) Tryz.func190 (by kernel_rfl) (by kernel_rfl) (by kernel_rfl) (by kernel_rfl) args w
theorem A1k(args:Array Value)(w:World):(callFunc 224 args).run Tryz.prog w=((Yg .sqrt args).run Tryz.prog w).andThen fun v w'=>.ok (.value v) w':=run_callFunc_extern (e:=Extern.MathSqrt.sqrt) Tryz.func224 (by kernel_rfl) (by kernel_rfl) (by kernel_rfl) (by kernel_rfl) args w
theorem A1j(args:Array Value)(w:World):(callFunc 234 args).run Tryz.prog w=((Yg .sub64 args).run Tryz.prog w).andThen fun v w'=>.ok (.value v) w':=run_callFunc_extern (e:=Ad5) Tryz.func234 (by kernel_rfl) (by kernel_rfl) (by kernel_rfl) (by kernel_rfl) args w
def A5l:List Nat:=[194]
theorem Bbs:Asa Tryz.prog 194 ⟨3,24,(.struct [(0,4),(1,3),(2,42)]),[.bool false,.int .i64 (0:Int),.int .u64 (0:Int)]⟩ where
 guard:=by kernel_rfl
 eq:=by
  intro w c x y xs ys hx hy hlx hly;obtain⟨a0,x1,rfl,hx1⟩:=Aeh hx;obtain⟨a1,x2,rfl,hx2⟩:=Wa hx1;obtain⟨a2,x3,rfl,hx3⟩:=Wa hx2;obtain rfl:=Ahy hx3;obtain⟨b0,y1,rfl,hy1⟩:=Aeh hy;obtain⟨b1,y2,rfl,hy2⟩:=Wa hy1;obtain⟨b2,y3,rfl,hy3⟩:=Wa hy2;obtain rfl:=Ahy hy3;obtain⟨xs⟩:=xs;obtain⟨ys⟩:=ys;simp only[Bh.Df,Bh.Im,Au] at hlx hly;obtain⟨_,_,rfl,rfl,_,_,rfl,rfl,_,_,rfl,rfl,rfl⟩:=hlx;obtain⟨_,_,rfl,rfl,_,_,rfl,rfl,_,_,rfl,rfl,rfl⟩:=hly;have hu:Tryz.prog.underlying 194=some (.struct (Tryz.prog.fieldsOf 194)):=by kernel_rfl
  have hp:Tryz.prog.stoodInHeld 194=false:=by kernel_rfl
  unfold Op.equal Op.maxDepth;rw[run_equalIn_struct w 9999 194 _ _ hu hp];have hfs:Tryz.prog.fieldsOf 194=(match Tryz.prog.underlying 194 with | some (.struct fs)=>fs | _=>#[]):=rfl;rw[hfs,Tryz.underlying194];simp[Op.eqFields,Ti w ty3 rfl,Ti w ty4 rfl,Ti w A9n rfl,run_equalIn_int w _ _ _ _ _ _ Tryz.underlying3,run_equalIn_bool w _ _ _ _ Tryz.underlying4,run_equalIn_int w _ _ _ _ _ _ Tryz.underlying42,Aoh,Aog];by_cases h0:a0=b0<;>by_cases h1:a1=b1<;>by_cases h2:a2=b2<;>simp[h0,h1,h2]
def C6(J4:Nat->Option Fy)(adopt:Nat->Bool)(hint:Nat->Option A9)(live:Nat->Option (List Nat)):Env:={ ty:=Aui tys,J4:=J4,ext:=Aiu exts,eqs:=fun t=>Po t A5l,adopt:=adopt,live:=live,hint:=hint }
def E0(l:List (Nat × Fy)):Env:=C6 (Cw l) (fun _=>false) (fun _=>none) (fun _=>none)
theorem Pq{l:List (Nat × Fy)}(h:Hh Tryz.prog l)(adopt:Nat->Bool)(hint:Nat->Option A9)(live:Nat->Option (List Nat)):Ke Tryz.prog (C6 (Cw l) adopt hint live) where
 ty:=fun t ti ht=>A66.get ht
 J4:=fun g e hg=>(h.get hg).meets
 call:=fun g e hg=>(h.get hg).call
 ext:=by
  intro g x hx args w;simp only[C6,exts,Aiu] at hx;cases hb:zg 187 g with
  | true =>rw[hb] at hx;cases hx;obtain rfl:=Be7 hb;exact A1m args w
  | false =>
  rw[hb,Bet] at hx;clear hb;cases hb:zg 190 g with
  | true =>rw[hb] at hx;cases hx;obtain rfl:=Be7 hb;exact A1l args w
  | false =>
  rw[hb,Bet] at hx;clear hb;cases hb:zg 224 g with
  | true =>rw[hb] at hx;cases hx;obtain rfl:=Be7 hb;exact A1k args w
  | false =>
  rw[hb,Bet] at hx;clear hb;cases hb:zg 234 g with
  | true =>rw[hb] at hx;cases hx;obtain rfl:=Be7 hb;exact A1j args w
  | false =>
  rw[hb,Bet] at hx;clear hb;cases hx
 eqs:=by
  intro t ti ht hti;simp only[C6,A5l,Po] at ht hti;cases hb:zg t 194 with
  | true =>obtain rfl:=Be7 hb;cases hti;exact Bbs
  | false =>
  rw[hb,Bet] at ht;clear hb;cases ht
 mixed:=by kernel_rfl
def A6w:List (Nat × Ext):=[(187,.bitsN),(190,.frombits),(224,.sqrt),(234,.sub64)]
def At9:List (Nat × List CK)->Nat->List CK
 | [],_=>[]
 | (m,e)::l,n=>bif zg m n then e else At9 l n
def Af3(J4:Nat->Option Fy)(adopt:Nat->Bool)(hint:Nat->Option A9)(live:Nat->Option (List Nat))(adv:Nat->List CK):Env:={ ty:=Aui tys,J4:=J4,ext:=Aiu A6w,eqs:=fun t=>Po t A5l,adopt:=adopt,live:=live,hint:=hint,adv:=adv }
theorem Aky{l:List (Nat × Fy)}(h:Hh Tryz.prog l)(adopt:Nat->Bool)(hint:Nat->Option A9)(live:Nat->Option (List Nat))(adv:Nat->List CK):Ke Tryz.prog (Af3 (Cw l) adopt hint live adv) :=
 have k:=Pq h adopt hint live
 ⟨k.ty,k.J4,k.call,(by
  intro g x hx args w;simp only[Af3,A6w,Aiu] at hx;cases hb:zg 187 g with
  | true =>rw[hb] at hx;cases hx;obtain rfl:=Be7 hb;exact A1m args w
  | false =>
  rw[hb,Bet] at hx;clear hb;cases hb:zg 190 g with
  | true =>rw[hb] at hx;cases hx;obtain rfl:=Be7 hb;exact A1l args w
  | false =>
  rw[hb,Bet] at hx;clear hb;cases hb:zg 224 g with
  | true =>rw[hb] at hx;cases hx;obtain rfl:=Be7 hb;exact A1k args w
  | false =>
  rw[hb,Bet] at hx;clear hb;cases hb:zg 234 g with
  | true =>rw[hb] at hx;cases hx;obtain rfl:=Be7 hb;exact A1j args w
  | false =>
  rw[hb,Bet] at hx;clear hb;cases hx),k.eqs,k.mixed,k.spoil,k.wr⟩
def wr1(g:Nat)(W:Writer):Nat->Option Writer:=fun h=>bif zg h g then some W else none
theorem A60{P:Program}:∀g W,(fun _=>none:Nat->Option Writer) g=some W->Sg P g W:=fun _ _ h=>by cases h
theorem Ao7{P:Program}{a:Nat}{V:Writer}(h:Sg P a V):∀g W,wr1 a V g=some W->Sg P g W:=by
 intro g W hg;unfold wr1 at hg;cases hb:zg g a with
 | true =>rw[hb] at hg;cases hg;obtain rfl:=Be7 hb;exact h
 | false=>rw[hb] at hg; cases hg
def Af2(J4:Nat->Option Fy)(adopt:Nat->Bool)(hint:Nat->Option A9)(live:Nat->Option (List Nat))(wr:Nat->Option Writer)(np:Nat):Env:={ ty:=Aui tys,J4:=J4,ext:=Aiu exts,eqs:=fun t=>Po t A5l,adopt:=adopt,live:=live,hint:=hint,wr:=wr,np:=np }
theorem Ads{l:List (Nat × Fy)}(h:Hh Tryz.prog l){wr:Nat->Option Writer}(hw:∀g W,wr g=some W->Sg Tryz.prog g W)(adopt:Nat->Bool)(hint:Nat->Option A9)(live:Nat->Option (List Nat))(np:Nat):Ke Tryz.prog (Af2 (Cw l) adopt hint live wr np) :=
 have k:=Pq h adopt hint live
 ⟨k.ty,k.J4,k.call,k.ext,k.eqs,k.mixed,k.spoil,hw⟩
theorem Et{α:Type}{a b c:α}(h:b=c)(g:a=b:=by kernel_rfl):a=c:=g.trans h
abbrev Kq(g:Nat)(e:Fy):Prop:=E8 Tryz.prog g e
theorem kc{g:Nat}{e:Fy}{l:List (Nat × Fy)}(h:E8 Tryz.prog g e)(k:Hh Tryz.prog l):Hh Tryz.prog ((g,e)::l):=.cons h k
theorem Eb(E:Env){l:List (Nat × Fy)}{g:FuncId}{fn:Func}{ts:List AT}{pre:List Hr->Bool}{out:List Hr->DV}(hf:Tryz.prog.funcs[g]?=some fn)(hk:Hh Tryz.prog l)(h:Hyp E fn ts pre out)(e:E=C6 (Cw l) E.adopt E.hint E.live:=by rfl)(hb:fn.body=some (Aj fn):=by kernel_rfl)(hn:(fn.name== "runtime.NumGoroutine")=false:=by kernel_rfl):E8 Tryz.prog g (A6 ts pre out) :=Ij (Eq.mpr (congrArg (Ke Tryz.prog) e) (Pq hk _ _ _)) hf hb hn h
end Go.Proofs.S1
namespace Go.Ct
open Go.Den
open Go.Den
end Go.Ct
namespace Go.Proofs.S1
open Go Go.Den Go.Ct
abbrev PB:=List Hr->Bool
abbrev PD:=List Hr->DV
abbrev TS:=List AT
def soft.Split.pre:PB
 | [.i x]=>Af x
 | _=>false
def soft.Split.out:PD
 | [.i x]=>.agg [.bool (En x),.int .i64 (Qb x),.int .u64 (Dv x)]
 | _=>.undef
abbrev soft.Split.ts:TS:=[.i .u64]
def soft.Split.spec:=A6 soft.Split.ts soft.Split.pre soft.Split.out
def soft.Kind.pre:PB
 | [.i x]=>Af x
 | _=>false
def soft.Kind.out:PD
 | [.i x]=>.int .i64 (Bb x)
 | _=>.undef
abbrev soft.Kind.ts:TS:=[.i .u64]
def soft.Kind.spec:=A6 soft.Kind.ts soft.Kind.pre soft.Kind.out
def soft.Sign.pre:PB
 | [.i x]=>Af x
 | _=>false
def soft.Sign.out:PD
 | [.i x]=>.bool (En x)
 | _=>.undef
abbrev soft.Sign.ts:TS:=[.i .u64]
def soft.Sign.spec:=A6 soft.Sign.ts soft.Sign.pre soft.Sign.out
def soft.Finite.pre:PB
 | [.i x]=>Af x
 | _=>false
def soft.Finite.out:PD
 | [.i x]=>.bool (Dl x)
 | _=>.undef
abbrev soft.Finite.ts:TS:=[.i .u64]
def soft.Finite.spec:=A6 soft.Finite.ts soft.Finite.pre soft.Finite.out
def soft.Eg.pre:PB
 | [.i x]=>Af x
 | _=>false
def soft.Eg.out:PD
 | [.i x]=>.int .u64 (B7 x)
 | _=>.undef
abbrev soft.Eg.ts:TS:=[.i .u64]
def soft.Eg.spec:=A6 soft.Eg.ts soft.Eg.pre soft.Eg.out
def soft.Hg.pre:PB
 | [.i x]=>Af x
 | _=>false
def soft.Hg.out:PD
 | [.i x]=>.tup [.int .u64 (B4 x),.int .i64 (Bn x)]
 | _=>.undef
abbrev soft.Hg.ts:TS:=[.i .u64]
def soft.Hg.spec:=A6 soft.Hg.ts soft.Hg.pre soft.Hg.out
def soft.Pack.mu:List Hr->Nat
 | [.b _n,.i m,.i e]=>Tl m e
 | _=>0
def soft.Pack.pre:PB
 | [.b _n,.i m,.i e]=>Ot m e
 | _=>false
def soft.Pack.out:PD
 | [.b n,.i m,.i e]=>.int .u64 (Zf n m e)
 | _=>.undef
abbrev soft.Pack.ts:TS:=[.b,.i .u64,.i .i64]
def soft.Pack.spec:=A6 soft.Pack.ts soft.Pack.pre soft.Pack.out
def soft.Ex.pre:PB
 | [.b _n,.i m,.i e,.b r]=>F0 m e r
 | _=>false
def soft.Ex.out:PD
 | [.b n,.i m,.i e,.b r]=>.tup [.int .u64 (Gr n m e r),.int .u8 (Gq n m e r)]
 | _=>.undef
abbrev soft.Ex.ts:TS:=[.b,.i .u64,.i .i64,.b]
def soft.Ex.spec:=A6 soft.Ex.ts soft.Ex.pre soft.Ex.out
def sum.right.pre:PB
 | [.i m,.i d]=>Af m&&Bq (0<=d/\d<1000000)
 | _=>false
def sum.right.out:PD
 | [.i m,.i d]=>.int .u64 (G4 m d)
 | _=>.undef
abbrev sum.right.ts:TS:=[.i .u64,.i .i64]
def sum.right.spec:=A6 sum.right.ts sum.right.pre sum.right.out
def sum.I2.pre:PB
 | [.i a,.i b]=>(Af a&&Af b)&&(!(Dl a)||!(Dl b))
 | _=>false
def sum.I2.out:PD
 | [.i a,.i b]=>.tup [.int .u64 (De a b),.int .u8 (Acw a b)]
 | _=>.undef
abbrev sum.I2.ts:TS:=[.i .u64,.i .u64]
def sum.I2.spec:=A6 sum.I2.ts sum.I2.pre sum.I2.out
def sum.Add.pre:PB
 | [.i a,.i b]=>Af a&&Af b
 | _=>false
def sum.Add.out:PD
 | [.i a,.i b]=>.tup [.int .u64 (De a b),.int .u8 (Acw a b)]
 | _=>.undef
abbrev sum.Add.ts:TS:=[.i .u64,.i .u64]
def sum.Add.spec:=A6 sum.Add.ts sum.Add.pre sum.Add.out
def sum.Sub.pre:PB
 | [.i a,.i b]=>Af a&&Af b
 | _=>false
def sum.Sub.out:PD
 | [.i a,.i b]=>.tup [.int .u64 (Gg a b),.int .u8 (Bbb a b)]
 | _=>.undef
abbrev sum.Sub.ts:TS:=[.i .u64,.i .u64]
def sum.Sub.spec:=A6 sum.Sub.ts sum.Sub.pre sum.Sub.out
def Bg.Neg.pre:PB
 | [.i x]=>Af x
 | _=>false
def Bg.Neg.out:PD
 | [.i x]=>.bool (En x)
 | _=>.undef
abbrev Bg.Neg.ts:TS:=[.i .u64]
def Bg.Neg.spec:=A6 Bg.Neg.ts Bg.Neg.pre Bg.Neg.out
def Bg.Power.pre:PB
 | [.i x]=>R9 x
 | _=>false
def Bg.Power.out:PD
 | [.i x]=>.int .i64 (Qb x)
 | _=>.undef
abbrev Bg.Power.ts:TS:=[.i .u64]
def Bg.Power.spec:=A6 Bg.Power.ts Bg.Power.pre Bg.Power.out
def Bg.Uq.pre:PB
 | [.i x]=>R9 x
 | _=>false
def Bg.Uq.out:PD
 | [.i x]=>.int .u64 (Dv x)
 | _=>.undef
abbrev Bg.Uq.ts:TS:=[.i .u64]
def Bg.Uq.spec:=A6 Bg.Uq.ts Bg.Uq.pre Bg.Uq.out
def Bg.Kind.pre:PB
 | [.i x]=>R9 x
 | _=>false
def Bg.Kind.out:PD
 | [.i x]=>.int .i64 (Bb x)
 | _=>.undef
abbrev Bg.Kind.ts:TS:=[.i .u64]
def Bg.Kind.spec:=A6 Bg.Kind.ts Bg.Kind.pre Bg.Kind.out
def Bg.Finite.pre:PB
 | [.i x]=>Af x
 | _=>false
def Bg.Finite.out:PD
 | [.i x]=>.bool (Dl x)
 | _=>.undef
abbrev Bg.Finite.ts:TS:=[.i .u64]
def Bg.Finite.spec:=A6 Bg.Finite.ts Bg.Finite.pre Bg.Finite.out
def Bg.Eg.pre:PB
 | [.i x]=>Af x
 | _=>false
def Bg.Eg.out:PD
 | [.i x]=>.int .u64 (B7 x)
 | _=>.undef
abbrev Bg.Eg.ts:TS:=[.i .u64]
def Bg.Eg.spec:=A6 Bg.Eg.ts Bg.Eg.pre Bg.Eg.out
def Ht.Canon.pre:PB
 | [.i x]=>R9 x
 | _=>false
def Ht.Canon.out:PD
 | [.i x]=>.int .u64 (Age x)
 | _=>.undef
abbrev Ht.Canon.ts:TS:=[.i .u64]
def Ht.Canon.spec:=A6 Ht.Canon.ts Ht.Canon.pre Ht.Canon.out
def Ew.Di.pre:PB
 | [.i x]=>Af x
 | _=>false
def Ew.Di.out:PD
 | [.i x]=>.int .i64 (64-Gt x)
 | _=>.undef
abbrev Ew.Di.ts:TS:=[.i .u64]
def Ew.Di.spec:=A6 Ew.Di.ts Ew.Di.pre Ew.Di.out
def Ew.P3.pre:PB
 | [.i x,.i y]=>Af x&&Af y
 | _=>false
def Ew.P3.out:PD
 | [.i x,.i y]=>.tup [.int .u64 (Xh x y),.int .u64 (Ry x y)]
 | _=>.undef
abbrev Ew.P3.ts:TS:=[.i .u64,.i .u64]
def Ew.P3.spec:=A6 Ew.P3.ts Ew.P3.pre Ew.P3.out
def times.signed.pre:PB
 | [.i b,.b _n]=>Af b
 | _=>false
def times.signed.out:PD
 | [.i b,.b n]=>.int .u64 (Xe n b)
 | _=>.undef
abbrev times.signed.ts:TS:=[.i .u64,.b]
def times.signed.spec:=A6 times.signed.ts times.signed.pre times.signed.out
def times.nan.pre:PB
 | [.i a,.i b]=>Af a&&Af b
 | _=>false
def times.nan.out:PD
 | [.i a,.i b]=>.bool (A0h a b)
 | _=>.undef
abbrev times.nan.ts:TS:=[.i .u64,.i .u64]
def times.nan.spec:=A6 times.nan.ts times.nan.pre times.nan.out
def times.norm.pre:PB
 | [.i b]=>Af b&&Qd b
 | _=>false
def times.norm.out:PD
 | [.i b]=>.tup [.int .u64 (D0 b),.int .i64 (Jp b)]
 | _=>.undef
abbrev times.norm.ts:TS:=[.i .u64]
def times.norm.spec:=A6 times.norm.ts times.norm.pre times.norm.out
def times.wide.pre:PB
 | [.b _n,.i m,.i e,.b _r]=>Td m e
 | _=>false
def times.wide.out:PD
 | [.b n,.i m,.i e,.b r]=>.tup [.int .u64 (Gr n m e r),.int .u8 (Gq n m e r)]
 | _=>.undef
abbrev times.wide.ts:TS:=[.b,.i .u64,.i .i64,.b]
def times.wide.spec:=A6 times.wide.ts times.wide.pre times.wide.out
def times.Mul.pre:PB
 | [.i a,.i b]=>Af a&&Af b
 | _=>false
def times.Mul.out:PD
 | [.i a,.i b]=>.tup [.int .u64 (Bz a b),.int .u8 (Bbl a b)]
 | _=>.undef
abbrev times.Mul.ts:TS:=[.i .u64,.i .u64]
def times.Mul.spec:=A6 times.Mul.ts times.Mul.pre times.Mul.out
def times.Div.pre:PB
 | [.i a,.i b]=>Af a&&Af b
 | _=>false
def times.Div.out:PD
 | [.i a,.i b]=>.tup [.int .u64 (E2 a b),.int .u8 (Bbv a b)]
 | _=>.undef
abbrev times.Div.ts:TS:=[.i .u64,.i .u64]
def times.Div.spec:=A6 times.Div.ts times.Div.pre times.Div.out
def Ai.Add.pre:PB
 | [.i a,.i b]=>Af a&&Af b
 | _=>false
def Ai.Add.out:PD
 | [.i a,.i b]=>.int .u64 (De a b)
 | _=>.undef
abbrev Ai.Add.ts:TS:=[.i .u64,.i .u64]
def Ai.Add.spec:=A6 Ai.Add.ts Ai.Add.pre Ai.Add.out
def Ai.Sub.pre:PB
 | [.i a,.i b]=>Af a&&Af b
 | _=>false
def Ai.Sub.out:PD
 | [.i a,.i b]=>.int .u64 (Gg a b)
 | _=>.undef
abbrev Ai.Sub.ts:TS:=[.i .u64,.i .u64]
def Ai.Sub.spec:=A6 Ai.Sub.ts Ai.Sub.pre Ai.Sub.out
def Ai.Mul.pre:PB
 | [.i a,.i b]=>Af a&&Af b
 | _=>false
def Ai.Mul.out:PD
 | [.i a,.i b]=>.int .u64 (Bz a b)
 | _=>.undef
abbrev Ai.Mul.ts:TS:=[.i .u64,.i .u64]
def Ai.Mul.spec:=A6 Ai.Mul.ts Ai.Mul.pre Ai.Mul.out
def Ai.fit.pre:PB
 | [.l _x,.l _y]=>true
 | _=>false
def Ai.fit.out:PD
 | [.l x,.l y]=>.bool (Re x y)
 | _=>.undef
abbrev Ai.fit.ts:TS:=[.s .u64,.s .u64]
def Ai.fit.spec:=A6 Ai.fit.ts Ai.fit.pre Ai.fit.out
def Ai.H6.pre:PB
 | [.l x,.l y]=>(Re x y&&Ah x)&&Ah y
 | _=>false
def Ai.H6.out:PD
 | [.l x,.l y]=>.tup [.int .u64 (Hi x y),.int .i64 (0:Int)]
 | _=>.undef
abbrev Ai.H6.ts:TS:=[.s .u64,.s .u64]
def Ai.H6.spec:=A6 Ai.H6.ts Ai.H6.pre Ai.H6.out
def Aq.F.pre:PB
 | [.i x]=>Af x
 | _=>false
def Aq.F.out:PD
 | [.i x]=>.fl (toNat x)
 | _=>.undef
abbrev Aq.F.ts:TS:=[.i .u64]
def Aq.F.spec:=A6 Aq.F.ts Aq.F.pre Aq.F.out
def Aq.B.pre:PB
 | [.f _x]=>true
 | _=>false
def Aq.B.out:PD
 | [.f x]=>.int .u64 (H0 x)
 | _=>.undef
abbrev Aq.B.ts:TS:=[.fl]
def Aq.B.spec:=A6 Aq.B.ts Aq.B.pre Aq.B.out
def Aq.Add.pre:PB
 | [.i a,.i b]=>Af a&&Af b
 | _=>false
def Aq.Add.out:PD
 | [.i a,.i b]=>.int .u64 (De a b)
 | _=>.undef
abbrev Aq.Add.ts:TS:=[.i .u64,.i .u64]
def Aq.Add.spec:=A6 Aq.Add.ts Aq.Add.pre Aq.Add.out
def Aq.Sub.pre:PB
 | [.i a,.i b]=>Af a&&Af b
 | _=>false
def Aq.Sub.out:PD
 | [.i a,.i b]=>.int .u64 (Gg a b)
 | _=>.undef
abbrev Aq.Sub.ts:TS:=[.i .u64,.i .u64]
def Aq.Sub.spec:=A6 Aq.Sub.ts Aq.Sub.pre Aq.Sub.out
def Aq.Mul.pre:PB
 | [.i a,.i b]=>Af a&&Af b
 | _=>false
def Aq.Mul.out:PD
 | [.i a,.i b]=>.int .u64 (Bz a b)
 | _=>.undef
abbrev Aq.Mul.ts:TS:=[.i .u64,.i .u64]
def Aq.Mul.spec:=A6 Aq.Mul.ts Aq.Mul.pre Aq.Mul.out
def Aq.H6.pre:PB
 | [.l x,.l y]=>(Re x y&&Ah x)&&Ah y
 | _=>false
def Aq.H6.out:PD
 | [.l x,.l y]=>.int .u64 (Hi x y)
 | _=>.undef
abbrev Aq.H6.ts:TS:=[.s .u64,.s .u64]
def Aq.H6.spec:=A6 Aq.H6.ts Aq.H6.pre Aq.H6.out
def Aa.size.pre:PB
 | [.i _n]=>true
 | _=>false
def Aa.size.out:PD
 | [.i n]=>.bool (Bp n)
 | _=>.undef
abbrev Aa.size.ts:TS:=[.i .i64]
def Aa.size.spec:=A6 Aa.size.ts Aa.size.pre Aa.size.out
def Aa.Check.pre:PB
 | [.i _r,.i _c,.l _l]=>true
 | _=>false
def Aa.Check.out:PD
 | [.i r,.i c,.l l]=>.int .i64 (Ny r c l)
 | _=>.undef
abbrev Aa.Check.ts:TS:=[.st [.i .i64,.i .i64,.s .u64]]
def Aa.Check.spec:=A6 Aa.Check.ts Aa.Check.pre Aa.Check.out
def Aa.get.pre:PB
 | [.i r,.i c,.l l,.i i,.i k]=>E6 r c l i k
 | _=>false
def Aa.get.out:PD
 | [.i _r,.i c,.l l,.i i,.i k]=>.int .u64 (C1 c l i k)
 | _=>.undef
abbrev Aa.get.ts:TS:=[.st [.i .i64,.i .i64,.s .u64],.i .i64,.i .i64]
def Aa.get.spec:=A6 Aa.get.ts Aa.get.pre Aa.get.out
def Aa.two.pre:PB
 | [.i _r,.i _c,.l _l,.i _p,.i _q,.l _m]=>true
 | _=>false
def Aa.two.out:PD
 | [.i r,.i c,.l l,.i p,.i q,.l m]=>.int .i64 (Aas r c l p q m)
 | _=>.undef
abbrev Aa.two.ts:TS:=[.st [.i .i64,.i .i64,.s .u64],.st [.i .i64,.i .i64,.s .u64]]
def Aa.two.spec:=A6 Aa.two.ts Aa.two.pre Aa.two.out
def Aa.Row.pre:PB
 | [.i r,.i c,.l l,.i i,.i f]=>Tj r c l i&&decide (f=0)
 | _=>false
def Aa.Row.out:PD
 | [.i _r,.i c,.l l,.i i,.i _f]=>.ints .fresh .u64 (F6 c l i)
 | _=>.undef
abbrev Aa.Row.ts:TS:=[.st [.i .i64,.i .i64,.s .u64],.i .i64,.i .i64]
def Aa.Row.spec:=A6 Aa.Row.ts Aa.Row.pre Aa.Row.out
def Aa.Fi.pre:PB
 | [.i r,.i c,.l l,.i k,.i f]=>Gu r c l k&&Bq (0<=f/\f<=r)
 | _=>false
def Aa.Fi.out:PD
 | [.i r,.i c,.l l,.i k,.i f]=>.ints .fresh .u64 (B3 c l k f (toNat (r-f)))
 | _=>.undef
abbrev Aa.Fi.ts:TS:=[.st [.i .i64,.i .i64,.s .u64],.i .i64,.i .i64]
def Aa.Fi.spec:=A6 Aa.Fi.ts Aa.Fi.pre Aa.Fi.out
def Aa.Ib.pre:PB
 | [.i _i,.i _k]=>true
 | _=>false
def Aa.Ib.out:PD
 | [.i _i,.i _k]=>.int .u64 (0:Int)
 | _=>.undef
abbrev Aa.Ib.ts:TS:=[.i .i64,.i .i64]
def Aa.Ib.spec:=A6 Aa.Ib.ts Aa.Ib.pre Aa.Ib.out
def Aa.P6.pre:PB
 | [.i _i,.i _k]=>true
 | _=>false
def Aa.P6.out:PD
 | [.i i,.i k]=>.int .u64 (Pc i k)
 | _=>.undef
abbrev Aa.P6.ts:TS:=[.i .i64,.i .i64]
def Aa.P6.spec:=A6 Aa.P6.ts Aa.P6.pre Aa.P6.out
def Aa.Ls.pre:PB
 | [.i i,.i k,.i r,.i c,.l l]=>E6 r c l k i
 | _=>false
def Aa.Ls.out:PD
 | [.i i,.i k,.i _r,.i c,.l l]=>.int .u64 (C1 c l k i)
 | _=>.undef
abbrev Aa.Ls.ts:TS:=[.i .i64,.i .i64,.cp [.i .i64,.i .i64,.s .u64]]
def Aa.Ls.spec:=A6 Aa.Ls.ts Aa.Ls.pre Aa.Ls.out
def Aa.Lt.pre:PB
 | [.i i,.i k,.i r,.i c,.l l,.i x,.i y]=>E6 r c l (x+i) (y+k)&&Aec x y i k
 | _=>false
def Aa.Lt.out:PD
 | [.i i,.i k,.i _r,.i c,.l l,.i x,.i y]=>.int .u64 (C1 c l (x+i) (y+k))
 | _=>.undef
abbrev Aa.Lt.ts:TS:=[.i .i64,.i .i64,.cp [.i .i64,.i .i64,.s .u64],.cp [.i .i64],.cp [.i .i64]]
def Aa.Lt.spec:=A6 Aa.Lt.ts Aa.Lt.pre Aa.Lt.out
def Aa.I7.pre:PB
 | [.i i,.i k,.i r,.i c,.l l,.i p,.i q,.l m]=>Sm r c l p q m i k
 | _=>false
def Aa.I7.out:PD
 | [.i i,.i k,.i r,.i c,.l l,.i _p,.i q,.l m]=>.int .u64 (Kj r c l q m i k)
 | _=>.undef
abbrev Aa.I7.ts:TS:=[.i .i64,.i .i64,.cp [.i .i64,.i .i64,.s .u64],.cp [.i .i64,.i .i64,.s .u64]]
def Aa.I7.spec:=A6 Aa.I7.ts Aa.I7.pre Aa.I7.out
def Aa.P2.pre:PB
 | [.i i,.i k,.i r,.i c,.l l,.i p,.i q,.l m]=>Abj r c l p q m i k
 | _=>false
def Aa.P2.out:PD
 | [.i i,.i k,.i _r,.i c,.l l,.i p,.i q,.l m]=>.int .u64 (Hi (F6 c l i) (Yk p q m k))
 | _=>.undef
abbrev Aa.P2.ts:TS:=[.i .i64,.i .i64,.cp [.i .i64,.i .i64,.s .u64],.cp [.i .i64,.i .i64,.s .u64]]
def Aa.P2.spec:=A6 Aa.P2.ts Aa.P2.pre Aa.P2.out
def Aa.of.Br.pre:PB
 | [.i a,.i b]=>(Bp a&&Bp b)
 | _=>false
def Aa.of.Br.out:PD
 | [.i a,.i b]=>.agg [.int .i64 a,.int .i64 b,.ints .fresh .u64 (B0 (toNat a) (toNat b) (fun _ _=>0))]
 | _=>.undef
abbrev Aa.of.Br.ts:TS:=[.i .i64,.i .i64,.fn 193 []]
def Aa.of.Br.spec:=A6 Aa.of.Br.ts Aa.of.Br.pre Aa.of.Br.out
def Aa.of.Hv.pre:PB
 | [.i a,.i b]=>(Bp a&&Bp b)
 | _=>false
def Aa.of.Hv.out:PD
 | [.i a,.i b]=>.agg [.int .i64 a,.int .i64 b,.ints .fresh .u64 (B0 (toNat a) (toNat b) (fun j1 j2=>Pc j1 j2))]
 | _=>.undef
abbrev Aa.of.Hv.ts:TS:=[.i .i64,.i .i64,.fn 168 []]
def Aa.of.Hv.spec:=A6 Aa.of.Hv.ts Aa.of.Hv.pre Aa.of.Hv.out
def Aa.of.D4.pre:PB
 | [.i a,.i b,.i r,.i c,.l l]=>(Bp a&&Bp b)&&Az r c l&&decide (a=c/\b=r)
 | _=>false
def Aa.of.D4.out:PD
 | [.i a,.i b,.i _r,.i c,.l l]=>.agg [.int .i64 a,.int .i64 b,.ints .fresh .u64 (B0 (toNat a) (toNat b) (fun j1 j2=>C1 c l j2 j1))]
 | _=>.undef
abbrev Aa.of.D4.ts:TS:=[.i .i64,.i .i64,.fn 232 [.cp [.i .i64,.i .i64,.s .u64]]]
def Aa.of.D4.spec:=A6 Aa.of.D4.ts Aa.of.D4.pre Aa.of.D4.out
def Aa.of.Part.pre:PB
 | [.i a,.i b,.i r,.i c,.l l,.i x,.i y]=>(Bp a&&Bp b)&&Az r c l&&Ug r c x y a b
 | _=>false
def Aa.of.Part.out:PD
 | [.i a,.i b,.i _r,.i c,.l l,.i x,.i y]=>.agg [.int .i64 a,.int .i64 b,.ints .fresh .u64 (B0 (toNat a) (toNat b) (fun j1 j2=>C1 c l (x+j1) (y+j2)))]
 | _=>.undef
abbrev Aa.of.Part.ts:TS:=[.i .i64,.i .i64,.fn 122 [.cp [.i .i64,.i .i64,.s .u64],.cp [.i .i64],.cp [.i .i64]]]
def Aa.of.Part.spec:=A6 Aa.of.Part.ts Aa.of.Part.pre Aa.of.Part.out
def Aa.of.Stack.pre:PB
 | [.i a,.i b,.i r,.i c,.l l,.i p,.i q,.l m]=>(Bp a&&Bp b)&&(Az r c l&&Az p q m)&&decide (a=r+p/\b=c/\q=c)
 | _=>false
def Aa.of.Stack.out:PD
 | [.i a,.i b,.i r,.i c,.l l,.i _p,.i q,.l m]=>.agg [.int .i64 a,.int .i64 b,.ints .fresh .u64 (B0 (toNat a) (toNat b) (fun j1 j2=>Kj r c l q m j1 j2))]
 | _=>.undef
abbrev Aa.of.Stack.ts:TS:=[.i .i64,.i .i64,.fn 118 [.cp [.i .i64,.i .i64,.s .u64],.cp [.i .i64,.i .i64,.s .u64]]]
def Aa.of.Stack.spec:=A6 Aa.of.Stack.ts Aa.of.Stack.pre Aa.of.Stack.out
def Aa.of.Mul.pre:PB
 | [.i a,.i b,.i r,.i c,.l l,.i p,.i q,.l m]=>(Bp a&&Bp b)&&((Az r c l&&Az p q m)&&(Ah l&&Ah m))&&decide (a=r/\b=q/\c=p)
 | _=>false
def Aa.of.Mul.out:PD
 | [.i a,.i b,.i _r,.i c,.l l,.i p,.i q,.l m]=>.agg [.int .i64 a,.int .i64 b,.ints .fresh .u64 (B0 (toNat a) (toNat b) (fun j1 j2=>Hi (F6 c l j1) (Yk p q m j2)))]
 | _=>.undef
abbrev Aa.of.Mul.ts:TS:=[.i .i64,.i .i64,.fn 133 [.cp [.i .i64,.i .i64,.s .u64],.cp [.i .i64,.i .i64,.s .u64]]]
def Aa.of.Mul.spec:=A6 Aa.of.Mul.ts Aa.of.Mul.pre Aa.of.Mul.out
def Aa.Br.pre:PB
 | [.i _a,.i _b]=>true
 | _=>false
def Aa.Br.out:PD
 | [.i a,.i b]=>.tup [.agg [.int .i64 ((Dw a b).1),.int .i64 ((Dw a b).2.1),.ints .fresh .u64 ((Dw a b).2.2.1)],.int .i64 ((Dw a b).2.2.2)]
 | _=>.undef
abbrev Aa.Br.ts:TS:=[.i .i64,.i .i64]
def Aa.Br.spec:=A6 Aa.Br.ts Aa.Br.pre Aa.Br.out
def Aa.Hv.pre:PB
 | [.i _n]=>true
 | _=>false
def Aa.Hv.out:PD
 | [.i n]=>.tup [.agg [.int .i64 ((Rn n).1),.int .i64 ((Rn n).2.1),.ints .fresh .u64 ((Rn n).2.2.1)],.int .i64 ((Rn n).2.2.2)]
 | _=>.undef
abbrev Aa.Hv.ts:TS:=[.i .i64]
def Aa.Hv.spec:=A6 Aa.Hv.ts Aa.Hv.pre Aa.Hv.out
def Aa.D4.pre:PB
 | [.i _r,.i _c,.l _l]=>true
 | _=>false
def Aa.D4.out:PD
 | [.i r,.i c,.l l]=>.tup [.agg [.int .i64 ((Dy r c l).1),.int .i64 ((Dy r c l).2.1),.ints .fresh .u64 ((Dy r c l).2.2.1)],.int .i64 ((Dy r c l).2.2.2)]
 | _=>.undef
abbrev Aa.D4.ts:TS:=[.st [.i .i64,.i .i64,.s .u64]]
def Aa.D4.spec:=A6 Aa.D4.ts Aa.D4.pre Aa.D4.out
def Aa.Part.pre:PB
 | [.i _r,.i _c,.l _l,.i _x,.i _y,.i _a,.i _b]=>true
 | _=>false
def Aa.Part.out:PD
 | [.i r,.i c,.l l,.i x,.i y,.i a,.i b]=>.tup [.agg [.int .i64 ((L5 r c l x y a b).1),.int .i64 ((L5 r c l x y a b).2.1),.ints .fresh .u64 ((L5 r c l x y a b).2.2.1)],.int .i64 ((L5 r c l x y a b).2.2.2)]
 | _=>.undef
abbrev Aa.Part.ts:TS:=[.st [.i .i64,.i .i64,.s .u64],.i .i64,.i .i64,.i .i64,.i .i64]
def Aa.Part.spec:=A6 Aa.Part.ts Aa.Part.pre Aa.Part.out
def Aa.Stack.pre:PB
 | [.i _r,.i _c,.l _l,.i _p,.i _q,.l _m]=>true
 | _=>false
def Aa.Stack.out:PD
 | [.i r,.i c,.l l,.i p,.i q,.l m]=>.tup [.agg [.int .i64 ((Fg r c l p q m).1),.int .i64 ((Fg r c l p q m).2.1),.ints .fresh .u64 ((Fg r c l p q m).2.2.1)],.int .i64 ((Fg r c l p q m).2.2.2)]
 | _=>.undef
abbrev Aa.Stack.ts:TS:=[.st [.i .i64,.i .i64,.s .u64],.st [.i .i64,.i .i64,.s .u64]]
def Aa.Stack.spec:=A6 Aa.Stack.ts Aa.Stack.pre Aa.Stack.out
def Aa.Mul.pre:PB
 | [.i _r,.i _c,.l l,.i _p,.i _q,.l m]=>Ah l&&Ah m
 | _=>false
def Aa.Mul.out:PD
 | [.i r,.i c,.l l,.i p,.i q,.l m]=>.tup [.agg [.int .i64 ((Zs r c l p q m).1),.int .i64 ((Zs r c l p q m).2.1),.ints .fresh .u64 ((Zs r c l p q m).2.2.1)],.int .i64 ((Zs r c l p q m).2.2.2)]
 | _=>.undef
abbrev Aa.Mul.ts:TS:=[.st [.i .i64,.i .i64,.s .u64],.st [.i .i64,.i .i64,.s .u64]]
def Aa.Mul.spec:=A6 Aa.Mul.ts Aa.Mul.pre Aa.Mul.out
def A0.Oa.pre:PB
 | [.i _r,.i _c,.l _l]=>true
 | _=>false
def A0.Oa.out:PD
 | [.i r,.i c,.l l]=>.bool (Az r c l)
 | _=>.undef
abbrev A0.Oa.ts:TS:=[.st [.i .i64,.i .i64,.s .u64]]
def A0.Oa.spec:=A6 A0.Oa.ts A0.Oa.pre A0.Oa.out
def A0.At.pre:PB
 | [.i r,.i c,.l l,.i i,.i k]=>E6 r c l i k
 | _=>false
def A0.At.out:PD
 | [.i _r,.i c,.l l,.i i,.i k]=>.int .u64 (C1 c l i k)
 | _=>.undef
abbrev A0.At.ts:TS:=[.st [.i .i64,.i .i64,.s .u64],.i .i64,.i .i64]
def A0.At.spec:=A6 A0.At.ts A0.At.pre A0.At.out
def A0.Br.pre:PB
 | [.i a,.i b]=>Bp a&&Bp b
 | _=>false
def A0.Br.out:PD
 | [.i a,.i b]=>.agg [.int .i64 a,.int .i64 b,.ints .fresh .u64 (B0 (toNat a) (toNat b) (fun _ _=>0))]
 | _=>.undef
abbrev A0.Br.ts:TS:=[.i .i64,.i .i64]
def A0.Br.spec:=A6 A0.Br.ts A0.Br.pre A0.Br.out
def A0.Kg.pre:PB
 | [.i r,.i c,.l l,.i i,.i k,.i _b]=>E6 r c l i k
 | _=>false
def A0.Kg.out:PD
 | [.i r,.i c,.l l,.i i,.i k,.i b]=>.agg [.int .i64 r,.int .i64 c,.ints .fresh .u64 (zn l (toNat (i*c+k)) b)]
 | _=>.undef
abbrev A0.Kg.ts:TS:=[.st [.i .i64,.i .i64,.s .u64],.i .i64,.i .i64,.i .u64]
def A0.Kg.spec:=A6 A0.Kg.ts A0.Kg.pre A0.Kg.out
def A0.Hv.pre:PB
 | [.i n]=>Bp n
 | _=>false
def A0.Hv.out:PD
 | [.i n]=>.agg [.int .i64 n,.int .i64 n,.ints .fresh .u64 (B0 (toNat n) (toNat n) (fun j1 j2=>Pc j1 j2))]
 | _=>.undef
abbrev A0.Hv.ts:TS:=[.i .i64]
def A0.Hv.spec:=A6 A0.Hv.ts A0.Hv.pre A0.Hv.out
def A0.Row.pre:PB
 | [.i r,.i c,.l l,.i i]=>Tj r c l i
 | _=>false
def A0.Row.out:PD
 | [.i _r,.i c,.l l,.i i]=>.ints .arg .u64 (F6 c l i)
 | _=>.undef
abbrev A0.Row.ts:TS:=[.st [.i .i64,.i .i64,.s .u64],.i .i64]
def A0.Row.spec:=A6 A0.Row.ts A0.Row.pre A0.Row.out
def A0.Ys.pre:PB
 | [.i r,.i c,.l l,.i k,.i f]=>Gu r c l k&&Bq (0<=f/\f<=r)
 | _=>false
def A0.Ys.out:PD
 | [.i r,.i c,.l l,.i k,.i f]=>.ints .fresh .u64 (B3 c l k f (toNat (r-f)))
 | _=>.undef
abbrev A0.Ys.ts:TS:=[.st [.i .i64,.i .i64,.s .u64],.i .i64,.i .i64]
def A0.Ys.spec:=A6 A0.Ys.ts A0.Ys.pre A0.Ys.out
def A0.D4.pre:PB
 | [.i r,.i c,.l l]=>Az r c l
 | _=>false
def A0.D4.out:PD
 | [.i r,.i c,.l l]=>.agg [.int .i64 c,.int .i64 r,.ints .fresh .u64 (B0 (toNat c) (toNat r) (fun j1 j2=>C1 c l j2 j1))]
 | _=>.undef
abbrev A0.D4.ts:TS:=[.st [.i .i64,.i .i64,.s .u64]]
def A0.D4.spec:=A6 A0.D4.ts A0.D4.pre A0.D4.out
def Am.Q8.pre:PB
 | [.l l,.i _i]=>J8 l
 | _=>false
def Am.Q8.out:PD
 | [.l l,.i i]=>.int .u64 (Je l i)
 | _=>.undef
abbrev Am.Q8.ts:TS:=[.s .u32,.i .i64]
def Am.Q8.spec:=A6 Am.Q8.ts Am.Q8.pre Am.Q8.out
def Am.Made.pre:PB
 | [.b _n,.l l]=>J8 l
 | _=>false
def Am.Made.out:PD
 | [.b n,.l l]=>.agg [.bool (Ba (wv n l)),.ints .arg .u32 (Al (wv n l))]
 | _=>.undef
abbrev Am.Made.ts:TS:=[.b,.s .u32]
def Am.Made.spec:=A6 Am.Made.ts Am.Made.pre Am.Made.out
def Am.Of.pre:PB
 | [.i n]=>Aip n
 | _=>false
def Am.Of.out:PD
 | [.i n]=>.agg [.bool (Ba (n)),.ints .arg .u32 (Al (n))]
 | _=>.undef
abbrev Am.Of.ts:TS:=[.i .i64]
def Am.Of.spec:=A6 Am.Of.ts Am.Of.pre Am.Of.out
def Am.On.pre:PB
 | [.l a,.l b]=>J8 a&&J8 b
 | _=>false
def Am.On.out:PD
 | [.l a,.l b]=>.int .i64 (Abw (Cv a) (Cv b))
 | _=>.undef
abbrev Am.On.ts:TS:=[.s .u32,.s .u32]
def Am.On.spec:=A6 Am.On.ts Am.On.pre Am.On.out
def Am.plus.pre:PB
 | [.l a,.l b]=>J8 a&&J8 b
 | _=>false
def Am.plus.out:PD
 | [.l a,.l b]=>.ints .arg .u32 (Mw a b)
 | _=>.undef
abbrev Am.plus.ts:TS:=[.s .u32,.s .u32]
def Am.plus.spec:=A6 Am.plus.ts Am.plus.pre Am.plus.out
def Am.minus.pre:PB
 | [.l a,.l b]=>(J8 a&&J8 b)&&leL b a
 | _=>false
def Am.minus.out:PD
 | [.l a,.l b]=>.ints .arg .u32 (Kp a b)
 | _=>.undef
abbrev Am.minus.ts:TS:=[.s .u32,.s .u32]
def Am.minus.spec:=A6 Am.minus.ts Am.minus.pre Am.minus.out
def Am.Add.pre:PB
 | [.b n,.l a,.b m,.l b]=>Nd n a&&Nd m b
 | _=>false
def Am.Add.out:PD
 | [.b n,.l a,.b m,.l b]=>.agg [.bool (Ba (wv n a+wv m b)),.ints .arg .u32 (Al (wv n a+wv m b))]
 | _=>.undef
abbrev Am.Add.ts:TS:=[.st [.b,.s .u32],.st [.b,.s .u32]]
def Am.Add.spec:=A6 Am.Add.ts Am.Add.pre Am.Add.out
def Am.Neg.pre:PB
 | [.b n,.l a]=>Nd n a
 | _=>false
def Am.Neg.out:PD
 | [.b n,.l a]=>.agg [.bool (Ba (- wv n a)),.ints .arg .u32 (Al (- wv n a))]
 | _=>.undef
abbrev Am.Neg.ts:TS:=[.st [.b,.s .u32]]
def Am.Neg.spec:=A6 Am.Neg.ts Am.Neg.pre Am.Neg.out
def Am.Lw.pre:PB
 | [.b n,.l a]=>Nd n a
 | _=>false
def Am.Lw.out:PD
 | [.b n,.l a]=>.agg [.bool (Ba (2*wv n a)),.ints .arg .u32 (Al (2*wv n a))]
 | _=>.undef
abbrev Am.Lw.ts:TS:=[.st [.b,.s .u32]]
def Am.Lw.spec:=A6 Am.Lw.ts Am.Lw.pre Am.Lw.out
def Am.N3.pre:PB
 | [.b n,.l a]=>Nd n a
 | _=>false
def Am.N3.out:PD
 | [.b n,.l a]=>.agg [.bool (Ba (N7 (wv n a) 1)),.ints .arg .u32 (Al (N7 (wv n a) 1))]
 | _=>.undef
abbrev Am.N3.ts:TS:=[.st [.b,.s .u32]]
def Am.N3.spec:=A6 Am.N3.ts Am.N3.pre Am.N3.out
def Am.Cc.pre:PB
 | [.b n,.l a,.i k]=>okV n a&&A76 k
 | _=>false
def Am.Cc.out:PD
 | [.b n,.l a,.i k]=>.agg [.bool (Ba (Kf (wv n a) k)),.ints .arg .u32 (Al (Kf (wv n a) k))]
 | _=>.undef
abbrev Am.Cc.ts:TS:=[.st [.b,.s .u32],.i .i64]
def Am.Cc.spec:=A6 Am.Cc.ts Am.Cc.pre Am.Cc.out
def Am.Len.pre:PB
 | [.b n,.l a]=>Nd n a
 | _=>false
def Am.Len.out:PD
 | [.b n,.l a]=>.int .i64 (Afg (wv n a))
 | _=>.undef
abbrev Am.Len.ts:TS:=[.st [.b,.s .u32]]
def Am.Len.spec:=A6 Am.Len.ts Am.Len.pre Am.Len.out
def Am.Odd.pre:PB
 | [.b n,.l a]=>Nd n a
 | _=>false
def Am.Odd.out:PD
 | [.b n,.l a]=>.bool (Avy (wv n a))
 | _=>.undef
abbrev Am.Odd.ts:TS:=[.st [.b,.s .u32]]
def Am.Odd.spec:=A6 Am.Odd.ts Am.Odd.pre Am.Odd.out
def Av.Of.pre:PB
 | [.b n,.l a,.i e]=>Nd n a&&X6 e
 | _=>false
def Av.Of.out:PD
 | [.b n,.l a,.i e]=>.agg [.bool (Ba (mD (wv n a))),.ints .arg .u32 (Al (mD (wv n a))),.int .i64 (eD (wv n a) e)]
 | _=>.undef
abbrev Av.Of.ts:TS:=[.st [.b,.s .u32],.i .i64]
def Av.Of.spec:=A6 Av.Of.ts Av.Of.pre Av.Of.out
def Av.Neg.pre:PB
 | [.b n,.l a,.i _e]=>Nd n a
 | _=>false
def Av.Neg.out:PD
 | [.b n,.l a,.i e]=>.agg [.bool (Ba (- wv n a)),.ints .arg .u32 (Al (- wv n a)),.int .i64 e]
 | _=>.undef
abbrev Av.Neg.ts:TS:=[.st [.b,.s .u32,.i .i64]]
def Av.Neg.spec:=A6 Av.Neg.ts Av.Neg.pre Av.Neg.out
def Av.Low.pre:PB
 | [.b n,.l a,.i _e,.b m,.l b,.i _f]=>Nd n a&&Nd m b
 | _=>false
def Av.Low.out:PD
 | [.b n,.l a,.i e,.b m,.l b,.i f]=>.int .i64 (Ej (wv n a) e (wv m b) f)
 | _=>.undef
abbrev Av.Low.ts:TS:=[.st [.b,.s .u32,.i .i64],.st [.b,.s .u32,.i .i64]]
def Av.Low.spec:=A6 Av.Low.ts Av.Low.pre Av.Low.out
def Av.Level.pre:PB
 | [.b n,.l a,.i e,.i f]=>okV n a&&Avx (wv n a) e f
 | _=>false
def Av.Level.out:PD
 | [.b n,.l a,.i e,.i f]=>.agg [.bool (Ba (Kf (wv n a) (e-f))),.ints .arg .u32 (Al (Kf (wv n a) (e-f)))]
 | _=>.undef
abbrev Av.Level.ts:TS:=[.st [.b,.s .u32,.i .i64],.i .i64]
def Av.Level.spec:=A6 Av.Level.ts Av.Level.pre Av.Level.out
def Av.Add.pre:PB
 | [.b n,.l a,.i e,.b m,.l b,.i f]=>((okV n a&&okV m b)&&Ts e)&&Ts f
 | _=>false
def Av.Add.out:PD
 | [.b n,.l a,.i e,.b m,.l b,.i f]=>.agg [.bool (Ba (Ro (wv n a) e (wv m b) f)),.ints .arg .u32 (Al (Ro (wv n a) e (wv m b) f)),.int .i64 (Aoy (wv n a) e (wv m b) f)]
 | _=>.undef
abbrev Av.Add.ts:TS:=[.st [.b,.s .u32,.i .i64],.st [.b,.s .u32,.i .i64]]
def Av.Add.spec:=A6 Av.Add.ts Av.Add.pre Av.Add.out
def Av.Sub.pre:PB
 | [.b n,.l a,.i e,.b m,.l b,.i f]=>((okV n a&&okV m b)&&Ts e)&&Ts f
 | _=>false
def Av.Sub.out:PD
 | [.b n,.l a,.i e,.b m,.l b,.i f]=>.agg [.bool (Ba (Ro (wv n a) e (- wv m b) f)),.ints .arg .u32 (Al (Ro (wv n a) e (- wv m b) f)),.int .i64 (Aoy (wv n a) e (- wv m b) f)]
 | _=>.undef
abbrev Av.Sub.ts:TS:=[.st [.b,.s .u32,.i .i64],.st [.b,.s .u32,.i .i64]]
def Av.Sub.spec:=A6 Av.Sub.ts Av.Sub.pre Av.Sub.out
def Av.D8.pre:PB
 | [.b n,.l a,.i e,.i k]=>(Nd n a&&Ts e)&&Ts k
 | _=>false
def Av.D8.out:PD
 | [.b n,.l a,.i e,.i k]=>.agg [.bool (Ba (mD (wv n a))),.ints .arg .u32 (Al (mD (wv n a))),.int .i64 (eD (wv n a) (e+k))]
 | _=>.undef
abbrev Av.D8.ts:TS:=[.st [.b,.s .u32,.i .i64],.i .i64]
def Av.D8.spec:=A6 Av.D8.ts Av.D8.pre Av.D8.out
def Av.Top.pre:PB
 | [.b n,.l a,.i e]=>Nd n a&&Ts e
 | _=>false
def Av.Top.out:PD
 | [.b n,.l a,.i e]=>.int .i64 (Ki (wv n a) e)
 | _=>.undef
abbrev Av.Top.ts:TS:=[.st [.b,.s .u32,.i .i64]]
def Av.Top.spec:=A6 Av.Top.ts Av.Top.pre Av.Top.out
def Av.Sign.pre:PB
 | [.b n,.l a,.i _e]=>Nd n a
 | _=>false
def Av.Sign.out:PD
 | [.b n,.l a,.i _e]=>.int .i64 (Rk (wv n a))
 | _=>.undef
abbrev Av.Sign.ts:TS:=[.st [.b,.s .u32,.i .i64]]
def Av.Sign.spec:=A6 Av.Sign.ts Av.Sign.pre Av.Sign.out
def Av.Compare.pre:PB
 | [.b n,.l a,.i e,.b m,.l b,.i f]=>((okV n a&&okV m b)&&Ts e)&&Ts f
 | _=>false
def Av.Compare.out:PD
 | [.b n,.l a,.i e,.b m,.l b,.i f]=>.int .i64 (Aac (wv n a) e (wv m b) f)
 | _=>.undef
abbrev Av.Compare.ts:TS:=[.st [.b,.s .u32,.i .i64],.st [.b,.s .u32,.i .i64]]
def Av.Compare.spec:=A6 Av.Compare.ts Av.Compare.pre Av.Compare.out
def Bg.Value.pre:PB
 | [.i x]=>Af x
 | _=>false
def Bg.Value.out:PD
 | [.i x]=>.agg [.bool (Ba (mD (Gf x))),.ints .arg .u32 (Al (mD (Gf x))),.int .i64 (eD (Gf x) (Bn x))]
 | _=>.undef
abbrev Bg.Value.ts:TS:=[.i .u64]
def Bg.Value.spec:=A6 Bg.Value.ts Bg.Value.pre Bg.Value.out
def Am.single.pre:PB
 | [.l a,.i x]=>J8 a&&A08 x
 | _=>false
def Am.single.out:PD
 | [.l a,.i x]=>.ints .arg .u32 (singleL a x)
 | _=>.undef
abbrev Am.single.ts:TS:=[.s .u32,.i .u32]
def Am.single.spec:=A6 Am.single.ts Am.single.pre Am.single.out
def Am.Mul.pre:PB
 | [.b n,.l a,.b m,.l b]=>okM n a&&okM m b
 | _=>false
def Am.Mul.out:PD
 | [.b n,.l a,.b m,.l b]=>.agg [.bool (Ba (wv n a*wv m b)),.ints .arg .u32 (Al (wv n a*wv m b))]
 | _=>.undef
abbrev Am.Mul.ts:TS:=[.st [.b,.s .u32],.st [.b,.s .u32]]
def Am.Mul.spec:=A6 Am.Mul.ts Am.Mul.pre Am.Mul.out
def Av.Mul.pre:PB
 | [.b n,.l a,.i e,.b m,.l b,.i f]=>(okM n a&&okM m b)&&(Ts e&&Ts f)
 | _=>false
def Av.Mul.out:PD
 | [.b n,.l a,.i e,.b m,.l b,.i f]=>.agg [.bool (Ba (mD (wv n a*wv m b))),.ints .arg .u32 (Al (mD (wv n a*wv m b))),.int .i64 (eD (wv n a*wv m b) (e+f))]
 | _=>.undef
abbrev Av.Mul.ts:TS:=[.st [.b,.s .u32,.i .i64],.st [.b,.s .u32,.i .i64]]
def Av.Mul.spec:=A6 Av.Mul.ts Av.Mul.pre Av.Mul.out
def compare.W7.pre:PB
 | [.i b]=>Af b
 | _=>false
def compare.W7.out:PD
 | [.i b]=>.int .i64 (Ah2 b)
 | _=>.undef
abbrev compare.W7.ts:TS:=[.i .u64]
def compare.W7.spec:=A6 compare.W7.ts compare.W7.pre compare.W7.out
def compare.Order.pre:PB
 | [.i a,.i b]=>Af a&&Af b
 | _=>false
def compare.Order.out:PD
 | [.i a,.i b]=>.tup [.int .i64 (Hp a b),.bool (Su a b)]
 | _=>.undef
abbrev compare.Order.ts:TS:=[.i .u64,.i .u64]
def compare.Order.spec:=A6 compare.Order.ts compare.Order.pre compare.Order.out
def compare.Ta.pre:PB
 | [.i a,.i b]=>Af a&&Af b
 | _=>false
def compare.Ta.out:PD
 | [.i a,.i b]=>.bool (decide (Hp a b<0))
 | _=>.undef
abbrev compare.Ta.ts:TS:=[.i .u64,.i .u64]
def compare.Ta.spec:=A6 compare.Ta.ts compare.Ta.pre compare.Ta.out
def compare.Nc.pre:PB
 | [.i a]=>Af a
 | _=>false
def compare.Nc.out:PD
 | [.i a]=>.int .u64 (Hq a)
 | _=>.undef
abbrev compare.Nc.ts:TS:=[.i .u64]
def compare.Nc.spec:=A6 compare.Nc.ts compare.Nc.pre compare.Nc.out
def compare.D8.pre:PB
 | [.i a,.i n]=>Dk a n
 | _=>false
def compare.D8.out:PD
 | [.i a,.i n]=>.tup [.int .u64 (A7 a n),.int .u8 (A34 a n)]
 | _=>.undef
abbrev compare.D8.ts:TS:=[.i .u64,.i .i64]
def compare.D8.spec:=A6 compare.D8.ts compare.D8.pre compare.D8.out
def Ai.Cc.pre:PB
 | [.i a,.i n]=>Dk a n
 | _=>false
def Ai.Cc.out:PD
 | [.i a,.i n]=>.int .u64 (A7 a n)
 | _=>.undef
abbrev Ai.Cc.ts:TS:=[.i .u64,.i .i64]
def Ai.Cc.spec:=A6 Ai.Cc.ts Ai.Cc.pre Ai.Cc.out
def Ai.Div.pre:PB
 | [.i a,.i b]=>Af a&&Af b
 | _=>false
def Ai.Div.out:PD
 | [.i a,.i b]=>.int .u64 (E2 a b)
 | _=>.undef
abbrev Ai.Div.ts:TS:=[.i .u64,.i .u64]
def Ai.Div.spec:=A6 Ai.Div.ts Ai.Div.pre Ai.Div.out
def Ai.Ck.pre:PB
 | [.l x]=>By x
 | _=>false
def Ai.Ck.out:PD
 | [.l x]=>.int .u64 (Bi x)
 | _=>.undef
abbrev Ai.Ck.ts:TS:=[.s .u64]
def Ai.Ck.spec:=A6 Ai.Ck.ts Ai.Ck.pre Ai.Ck.out
def Ai.Finite.pre:PB
 | [.l x]=>By x
 | _=>false
def Ai.Finite.out:PD
 | [.l x]=>.bool (Ds x)
 | _=>.undef
abbrev Ai.Finite.ts:TS:=[.s .u64]
def Ai.Finite.spec:=A6 Ai.Finite.ts Ai.Finite.pre Ai.Finite.out
def D2.Check.pre:PB
 | [.i _r,.i _c,.l l]=>Ah l
 | _=>false
def D2.Check.out:PD
 | [.i r,.i c,.l l]=>.int .i64 (Ci r c l)
 | _=>.undef
abbrev D2.Check.ts:TS:=[.st [.i .i64,.i .i64,.s .u64]]
def D2.Check.spec:=A6 D2.Check.ts D2.Check.pre D2.Check.out
def solve.check.pre:PB
 | [.i _r,.i _c,.l l,.i _p,.i _q,.l m]=>Ah l&&Ah m
 | _=>false
def solve.check.out:PD
 | [.i r,.i c,.l l,.i p,.i q,.l m]=>.int .i64 (Ac1 r c l p q m)
 | _=>.undef
abbrev solve.check.ts:TS:=[.st [.i .i64,.i .i64,.s .u64],.st [.i .i64,.i .i64,.s .u64]]
def solve.check.spec:=A6 solve.check.ts solve.check.pre solve.check.out
def N0.Nj.up.pre:PB
 | [.i n,.i k]=>Bq (0<=k/\k<n/\n<=10)
 | _=>false
def N0.Nj.up.out:PD
 | [.i n,.i k]=>.int .i64 (n-1-k)
 | _=>.undef
abbrev N0.Nj.up.ts:TS:=[.i .i64,.i .i64]
def N0.Nj.up.spec:=A6 N0.Nj.up.ts N0.Nj.up.pre N0.Nj.up.out
def solve.I5.pre:PB
 | [.i _i,.i _k]=>true
 | _=>false
def solve.I5.out:PD
 | [.i i,.i k]=>.bool (decide (i<k))
 | _=>.undef
abbrev solve.I5.ts:TS:=[.i .i64,.i .i64]
def solve.I5.spec:=A6 solve.I5.ts solve.I5.pre solve.I5.out
def Aa.of.Br.own.pre:PB
 | [.i a,.i b]=>Bp a&&Bp b
 | _=>false
def Aa.of.Br.own.out:PD
 | [.i a,.i b]=>.agg [.int .i64 a,.int .i64 b,.ints (.own 108002 43) .u64 (B0 (toNat a) (toNat b) (fun _ _=>0))]
 | _=>.undef
abbrev Aa.of.Br.own.ts:TS:=[.i .i64,.i .i64,.fn 193 []]
def Aa.of.Br.own.spec:=A6 Aa.of.Br.own.ts Aa.of.Br.own.pre Aa.of.Br.own.out
def Aa.Br.own.pre:PB
 | [.i a,.i b]=>Bp a&&Bp b
 | _=>false
def Aa.Br.own.out:PD
 | [.i a,.i b]=>.tup [.agg [.int .i64 a,.int .i64 b,.ints (.own 1136 43) .u64 (B0 (toNat a) (toNat b) (fun _ _=>0))],.int .i64 (0:Int)]
 | _=>.undef
abbrev Aa.Br.own.ts:TS:=[.i .i64,.i .i64]
def Aa.Br.own.spec:=A6 Aa.Br.own.ts Aa.Br.own.pre Aa.Br.own.out
def solve.Cl.Up.pre:PB
 | [.i r,.i c,.l l,.i p,.i q,.l m,.i n]=>Ajn r c l p q m&&decide (n=r)
 | _=>false
def solve.Cl.Up.out:PD
 | [.i r,.i c,.l l,.i _p,.i q,.l m,.i _n]=>.tup [.agg [.int .i64 ((W9 r q (upG c l q m (toNat r) (toNat q))).1),.int .i64 ((W9 r q (upG c l q m (toNat r) (toNat q))).2.1),.ints .fresh .u64 ((W9 r q (upG c l q m (toNat r) (toNat q))).2.2.1)],.int .i64 ((W9 r q (upG c l q m (toNat r) (toNat q))).2.2.2)]
 | _=>.undef
abbrev solve.Cl.Up.ts:TS:=[.st [.i .i64,.i .i64,.s .u64],.st [.i .i64,.i .i64,.s .u64],.fm 222 [.i .i64],.fn 223 []]
def solve.Cl.Up.spec:=A6 solve.Cl.Up.ts solve.Cl.Up.pre solve.Cl.Up.out
def solve.Pz.pre:PB
 | [.i _r,.i _c,.l l,.i _p,.i _q,.l m]=>Ah l&&Ah m
 | _=>false
def solve.Pz.out:PD
 | [.i r,.i c,.l l,.i p,.i q,.l m]=>.tup [.agg [.int .i64 ((upX r c l p q m).1),.int .i64 ((upX r c l p q m).2.1),.ints .fresh .u64 ((upX r c l p q m).2.2.1)],.int .i64 ((upX r c l p q m).2.2.2)]
 | _=>.undef
abbrev solve.Pz.ts:TS:=[.st [.i .i64,.i .i64,.s .u64],.st [.i .i64,.i .i64,.s .u64]]
def solve.Pz.spec:=A6 solve.Pz.ts solve.Pz.pre solve.Pz.out
def solve.Flat.pre:PB
 | [.i _r,.i _c,.l l]=>Ah l
 | _=>false
def solve.Flat.out:PD
 | [.i r,.i c,.l l]=>.tup [.bool ((Vp r c l).1),.int .i64 ((Vp r c l).2)]
 | _=>.undef
abbrev solve.Flat.ts:TS:=[.st [.i .i64,.i .i64,.s .u64]]
def solve.Flat.spec:=A6 solve.Flat.ts solve.Flat.pre solve.Flat.out
def qr.Lr.pre:PB
 | [.i _r,.i _c,.l l,.i _p,.i _q,.l m]=>Ah l&&Ah m
 | _=>false
def qr.Lr.out:PD
 | [.i r,.i c,.l l,.i p,.i q,.l m]=>.tup [.agg [.int .i64 ((Fe r c l p q m).1),.int .i64 ((Fe r c l p q m).2.1),.ints .fresh .u64 ((Fe r c l p q m).2.2.1)],.int .i64 ((Fe r c l p q m).2.2.2)]
 | _=>.undef
abbrev qr.Lr.ts:TS:=[.st [.i .i64,.i .i64,.s .u64],.st [.i .i64,.i .i64,.s .u64]]
def qr.Lr.spec:=A6 qr.Lr.ts qr.Lr.pre qr.Lr.out
def Aq.Div.pre:PB
 | [.i a,.i b]=>Af a&&Af b
 | _=>false
def Aq.Div.out:PD
 | [.i a,.i b]=>.int .u64 (E2 a b)
 | _=>.undef
abbrev Aq.Div.ts:TS:=[.i .u64,.i .u64]
def Aq.Div.spec:=A6 Aq.Div.ts Aq.Div.pre Aq.Div.out
def Aq.Finite.pre:PB
 | [.l x]=>By x
 | _=>false
def Aq.Finite.out:PD
 | [.l x]=>.bool (Ds x)
 | _=>.undef
abbrev Aq.Finite.ts:TS:=[.s .u64]
def Aq.Finite.spec:=A6 Aq.Finite.ts Aq.Finite.pre Aq.Finite.out
def Bt.Check.pre:PB
 | [.i _r,.i _c,.l l]=>Ah l
 | _=>false
def Bt.Check.out:PD
 | [.i r,.i c,.l l]=>.int .i64 (Ci r c l)
 | _=>.undef
abbrev Bt.Check.ts:TS:=[.st [.i .i64,.i .i64,.s .u64]]
def Bt.Check.spec:=A6 Bt.Check.ts Bt.Check.pre Bt.Check.out
def math.Nc.pre:PB
 | [.f _x]=>true
 | _=>false
def math.Nc.out:PD
 | [.f x]=>.fl (E9 x)
 | _=>.undef
abbrev math.Nc.ts:TS:=[.fl]
def math.Nc.spec:=A6 math.Nc.ts math.Nc.pre math.Nc.out
def math.P4.pre:PB
 | [.f x]=>Aaj x
 | _=>false
def math.P4.out:PD
 | [.f x]=>.bool (decide (Ag x=4))
 | _=>.undef
abbrev math.P4.ts:TS:=[.fl]
def math.P4.spec:=A6 math.P4.ts math.P4.pre math.P4.out
def math.P5.pre:PB
 | [.f x,.i s]=>Aaj x&&decide (s=0)
 | _=>false
def math.P5.out:PD
 | [.f x,.i _s]=>.bool (decide (Ag x=3))
 | _=>.undef
abbrev math.P5.ts:TS:=[.fl,.i .i64]
def math.P5.spec:=A6 math.P5.ts math.P5.pre math.P5.out
def math.normalize.pre:PB
 | [.f x]=>An9 x
 | _=>false
def math.normalize.out:PD
 | [.f x]=>.tup [.fl (Qc x),.int .i64 (Ld x)]
 | _=>.undef
abbrev math.normalize.ts:TS:=[.fl]
def math.normalize.spec:=A6 math.normalize.ts math.normalize.pre math.normalize.out
def math.Ey.pre:PB
 | [.f x,.f y]=>An9 y&&decide (x=0)
 | _=>false
def math.Ey.out:PD
 | [.f _x,.f y]=>.fl (Bf (Be y) 0)
 | _=>.undef
abbrev math.Ey.ts:TS:=[.fl,.fl]
def math.Ey.spec:=A6 math.Ey.ts math.Ey.pre math.Ey.out
def math.Inf.pre:PB
 | [.i _s]=>true
 | _=>false
def math.Inf.out:PD
 | [.i s]=>.fl (Bf (decide (s<0)) Ea)
 | _=>.undef
abbrev math.Inf.ts:TS:=[.i .i64]
def math.Inf.spec:=A6 math.Inf.ts math.Inf.pre math.Inf.out
def math.Iq.pre:PB
 | [.f x,.i k]=>Aaj x&&Bq (-2300<=k/\k<=2300)
 | _=>false
def math.Iq.out:PD
 | [.f x,.i k]=>.fl (Kt x k)
 | _=>.undef
abbrev math.Iq.ts:TS:=[.fl,.i .i64]
def math.Iq.spec:=A6 math.Iq.ts math.Iq.pre math.Iq.out
def math.Rj.pre:PB
 | [.f x,.i k]=>Aaj x&&Bq (-2300<=k/\k<=2300)
 | _=>false
def math.Rj.out:PD
 | [.f x,.i k]=>.fl (Kt x k)
 | _=>.undef
abbrev math.Rj.ts:TS:=[.fl,.i .i64]
def math.Rj.spec:=A6 math.Rj.ts math.Rj.pre math.Rj.out
def Aq.Cc.pre:PB
 | [.i a,.i k]=>Dk a k
 | _=>false
def Aq.Cc.out:PD
 | [.i a,.i k]=>.int .u64 (A7 a k)
 | _=>.undef
abbrev Aq.Cc.ts:TS:=[.i .u64,.i .i64]
def Aq.Cc.spec:=A6 Aq.Cc.ts Aq.Cc.pre Aq.Cc.out
def Cy.ends.pre:PB
 | [.i b]=>Af b
 | _=>false
def Cy.ends.out:PD
 | [.i b]=>.int .i64 (Yi b)
 | _=>.undef
abbrev Cy.ends.ts:TS:=[.i .u64]
def Cy.ends.spec:=A6 Cy.ends.ts Cy.ends.pre Cy.ends.out
def Cy.Order.pre:PB
 | [.i a,.i b]=>Af a&&Af b
 | _=>false
def Cy.Order.out:PD
 | [.i a,.i b]=>.tup [.int .i64 (Hp a b),.bool (Su a b)]
 | _=>.undef
abbrev Cy.Order.ts:TS:=[.i .u64,.i .u64]
def Cy.Order.spec:=A6 Cy.Order.ts Cy.Order.pre Cy.Order.out
def Cy.Nc.pre:PB
 | [.i a]=>Af a
 | _=>false
def Cy.Nc.out:PD
 | [.i a]=>.int .u64 (Hq a)
 | _=>.undef
abbrev Cy.Nc.ts:TS:=[.i .u64]
def Cy.Nc.spec:=A6 Cy.Nc.ts Cy.Nc.pre Cy.Nc.out
def Cy.Max.pre:PB
 | [.i a,.i b]=>Af a&&Af b
 | _=>false
def Cy.Max.out:PD
 | [.i a,.i b]=>.int .u64 (Ya a b)
 | _=>.undef
abbrev Cy.Max.ts:TS:=[.i .u64,.i .u64]
def Cy.Max.spec:=A6 Cy.Max.ts Cy.Max.pre Cy.Max.out
def root.Lg.pre:PB
 | [.i m]=>Bq (0<=m/\m<9223372036854775808)
 | _=>false
def root.Lg.out:PD
 | [.i m]=>.tup [.int .u64 (Zy m),.bool (Zz m)]
 | _=>.undef
abbrev root.Lg.ts:TS:=[.i .u64]
def root.Lg.spec:=A6 root.Lg.ts root.Lg.pre root.Lg.out
def root.Sqrt.pre:PB
 | [.i a]=>Af a
 | _=>false
def root.Sqrt.out:PD
 | [.i a]=>.tup [.int .u64 (Dt a),.int .u8 (Uz a)]
 | _=>.undef
abbrev root.Sqrt.ts:TS:=[.i .u64]
def root.Sqrt.spec:=A6 root.Sqrt.ts root.Sqrt.pre root.Sqrt.out
def Ai.Sqrt.pre:PB
 | [.i a]=>Af a
 | _=>false
def Ai.Sqrt.out:PD
 | [.i a]=>.int .u64 (Dt a)
 | _=>.undef
abbrev Ai.Sqrt.ts:TS:=[.i .u64]
def Ai.Sqrt.spec:=A6 Ai.Sqrt.ts Ai.Sqrt.pre Ai.Sqrt.out
def compare.Tc.pre:PB
 | [.i a]=>Af a
 | _=>false
def compare.Tc.out:PD
 | [.i a]=>.int .i64 (Bs a)
 | _=>.undef
abbrev compare.Tc.ts:TS:=[.i .u64]
def compare.Tc.spec:=A6 compare.Tc.ts compare.Tc.pre compare.Tc.out
def Ai.Norm.pre:PB
 | [.l x]=>By x&&Bq (length x<=64)
 | _=>false
def Ai.Norm.out:PD
 | [.l x]=>.tup [.int .u64 (Bk x),.int .i64 (0:Int)]
 | _=>.undef
abbrev Ai.Norm.ts:TS:=[.s .u64]
def Ai.Norm.spec:=A6 Ai.Norm.ts Ai.Norm.pre Ai.Norm.out
def A5.Fp.pre:PB
 | [.l x]=>By x
 | _=>false
def A5.Fp.out:PD
 | [.l x]=>.bool (O5 x)
 | _=>.undef
abbrev A5.Fp.ts:TS:=[.s .u64]
def A5.Fp.spec:=A6 A5.Fp.ts A5.Fp.pre A5.Fp.out
def A5.lead.pre:PB
 | [.l x]=>By x
 | _=>false
def A5.lead.out:PD
 | [.l x]=>.int .u64 (Xj x)
 | _=>.undef
abbrev A5.lead.ts:TS:=[.s .u64]
def A5.lead.spec:=A6 A5.lead.ts A5.lead.pre A5.lead.out
def A5.Bx.pre:PB
 | [.l x,.i k]=>By x&&Bq (length x<=1000/\-2300<=k/\k<=2300)
 | _=>false
def A5.Bx.out:PD
 | [.l x,.i k]=>.ints .fresh .u64 (A4 x k)
 | _=>.undef
abbrev A5.Bx.ts:TS:=[.s .u64,.i .i64]
def A5.Bx.spec:=A6 A5.Bx.ts A5.Bx.pre A5.Bx.out
def A5.Lv.pre:PB
 | [.i _i]=>true
 | _=>false
def A5.Lv.out:PD
 | [.i _i]=>.int .u64 (0:Int)
 | _=>.undef
abbrev A5.Lv.ts:TS:=[.i .i64]
def A5.Lv.spec:=A6 A5.Lv.ts A5.Lv.pre A5.Lv.out
def A5.Lu.pre:PB
 | [.i i,.l y,.i d]=>(Bq (0<=i/\i<length y)&&Ah y)&&Af d
 | _=>false
def A5.Lu.out:PD
 | [.i i,.l y,.i d]=>.int .u64 (E2 (getD y (toNat i) 0) d)
 | _=>.undef
abbrev A5.Lu.ts:TS:=[.i .i64,.cp [.s .u64],.cp [.i .u64]]
def A5.Lu.spec:=A6 A5.Lu.ts A5.Lu.pre A5.Lu.out
def A5.row.Zero.pre:PB
 | [.i n]=>Bq (1<=n/\n<=64)
 | _=>false
def A5.row.Zero.out:PD
 | [.i n]=>.ints .fresh .u64 (Ob (toNat n) (fun _=>0))
 | _=>.undef
abbrev A5.row.Zero.ts:TS:=[.i .i64,.fn 227 []]
def A5.row.Zero.spec:=A6 A5.row.Zero.ts A5.row.Zero.pre A5.row.Zero.out
def A5.row.Div.pre:PB
 | [.i n,.l y,.i d]=>(Bq (1<=n/\n<=64/\n=length y)&&Ah y)&&Af d
 | _=>false
def A5.row.Div.out:PD
 | [.i n,.l y,.i d]=>.ints .fresh .u64 (Ob (toNat n) (fun j=>E2 (getD y j 0) d))
 | _=>.undef
abbrev A5.row.Div.ts:TS:=[.i .i64,.fn 230 [.cp [.s .u64],.cp [.i .u64]]]
def A5.row.Div.spec:=A6 A5.row.Div.ts A5.row.Div.pre A5.row.Div.out
def A5.Uc.pre:PB
 | [.l x]=>By x
 | _=>false
def A5.Uc.out:PD
 | [.l x]=>.tup [.ints .fresh .u64 ((Dm x).1),.int .u64 ((Dm x).2.1),.int .u64 ((Dm x).2.2.1),.int .i64 ((Dm x).2.2.2)]
 | _=>.undef
abbrev A5.Uc.ts:TS:=[.s .u64]
def A5.Uc.spec:=A6 A5.Uc.ts A5.Uc.pre A5.Uc.out
def A5.Apply.pre:PB
 | [.i r,.i c,.l l,.i i,.i k,.l v,.i t]=>((Az r c l&&T7 r c i k v)&&(Ah l&&Ah v))&&Af t
 | _=>false
def A5.Apply.out:PD
 | [.i r,.i c,.l l,.i i,.i k,.l v,.i t]=>.tup [.agg [.int .i64 r,.int .i64 c,.ints (.own 114002 43) .u64 (Jj (toNat r) (toNat c) l i k v t)],.int .i64 (0:Int)]
 | _=>.undef
abbrev A5.Apply.ts:TS:=[.st [.i .i64,.i .i64,.s .u64],.i .i64,.i .i64,.s .u64,.i .u64]
def A5.Apply.spec:=A6 A5.Apply.ts A5.Apply.pre A5.Apply.out
def qr.down.pre:PB
 | [.i r,.i c,.l l]=>(Az r c l&&Ds l)&&Ah l
 | _=>false
def qr.down.out:PD
 | [.i r,.i c,.l l]=>.tup [.agg [.int .i64 ((Ig r c l).1),.int .i64 ((Ig r c l).2.1),.ints .arg .u64 ((Ig r c l).2.2.1)],.recs .fresh 2 (Sy r c l),.int .i64 ((Ig r c l).2.2.2)]
 | _=>.undef
abbrev qr.down.ts:TS:=[.st [.i .i64,.i .i64,.s .u64]]
def qr.down.spec:=A6 qr.down.ts qr.down.pre qr.down.out
def qr.Ez.pre:PB
 | [.i _r,.i _c,.l l]=>Ah l
 | _=>false
def qr.Ez.out:PD
 | [.i r,.i c,.l l]=>.tup [.agg [.int .i64 ((qX r c l).1),.int .i64 ((qX r c l).2.1),.ints .arg .u64 ((qX r c l).2.2.1)],.agg [.int .i64 ((rX r c l).1),.int .i64 ((rX r c l).2.1),.ints .arg .u64 ((rX r c l).2.2.1)],.int .i64 (Jg r c l)]
 | _=>.undef
abbrev qr.Ez.ts:TS:=[.st [.i .i64,.i .i64,.s .u64]]
def qr.Ez.spec:=A6 qr.Ez.ts qr.Ez.pre qr.Ez.out
def qr.Xd.pre:PB
 | [.i _r,.i _c,.l l]=>Ah l
 | _=>false
def qr.Xd.out:PD
 | [.i r,.i c,.l l]=>.tup [.agg [.int .i64 ((Me r c l).1),.int .i64 ((Me r c l).2.1),.ints .fresh .u64 ((Me r c l).2.2.1)],.agg [.int .i64 ((Sl r c l).1),.int .i64 ((Sl r c l).2.1),.ints .fresh .u64 ((Sl r c l).2.2.1)],.int .i64 (Jg r c l)]
 | _=>.undef
abbrev qr.Xd.ts:TS:=[.st [.i .i64,.i .i64,.s .u64]]
def qr.Xd.spec:=A6 qr.Xd.ts qr.Xd.pre qr.Xd.out
def solve.Pf.pre:PB
 | [.i _r,.i _c,.l l,.i _p,.i _q,.l m]=>Ah l&&Ah m
 | _=>false
def solve.Pf.out:PD
 | [.i r,.i c,.l l,.i p,.i q,.l m]=>.tup [.agg [.int .i64 ((Ra r c l p q m).1),.int .i64 ((Ra r c l p q m).2.1),.ints .fresh .u64 ((Ra r c l p q m).2.2.1)],.int .i64 ((Ra r c l p q m).2.2.2)]
 | _=>.undef
abbrev solve.Pf.ts:TS:=[.st [.i .i64,.i .i64,.s .u64],.st [.i .i64,.i .i64,.s .u64]]
def solve.Pf.spec:=A6 solve.Pf.ts solve.Pf.pre solve.Pf.out
def Cy.Tc.pre:PB
 | [.i a]=>Af a
 | _=>false
def Cy.Tc.out:PD
 | [.i a]=>.int .i64 (Bs a)
 | _=>.undef
abbrev Cy.Tc.ts:TS:=[.i .u64]
def Cy.Tc.spec:=A6 Cy.Tc.ts Cy.Tc.pre Cy.Tc.out
def Aq.Ck.pre:PB
 | [.l x]=>By x
 | _=>false
def Aq.Ck.out:PD
 | [.l x]=>.int .u64 (Bi x)
 | _=>.undef
abbrev Aq.Ck.ts:TS:=[.s .u64]
def Aq.Ck.spec:=A6 Aq.Ck.ts Aq.Ck.pre Aq.Ck.out
def math.Sqrt.pre:PB
 | [.f _x]=>true
 | _=>false
def math.Sqrt.out:PD
 | [.f x]=>.fl (((Ieee.double.sqrt x).getD nanBits))
 | _=>.undef
abbrev math.Sqrt.ts:TS:=[.fl]
def math.Sqrt.spec:=A6 math.Sqrt.ts math.Sqrt.pre math.Sqrt.out
def Aq.Sqrt.pre:PB
 | [.i a]=>Af a
 | _=>false
def Aq.Sqrt.out:PD
 | [.i a]=>.int .u64 (Dt a)
 | _=>.undef
abbrev Aq.Sqrt.ts:TS:=[.i .u64]
def Aq.Sqrt.spec:=A6 Aq.Sqrt.ts Aq.Sqrt.pre Aq.Sqrt.out
def Aq.Norm.pre:PB
 | [.l x]=>By x
 | _=>false
def Aq.Norm.out:PD
 | [.l x]=>.int .u64 (Bk x)
 | _=>.undef
abbrev Aq.Norm.ts:TS:=[.s .u64]
def Aq.Norm.spec:=A6 Aq.Norm.ts Aq.Norm.pre Aq.Norm.out
def A0.Br.own.pre:PB
 | [.i a,.i b]=>Bp a&&Bp b
 | _=>false
def A0.Br.own.out:PD
 | [.i a,.i b]=>.agg [.int .i64 a,.int .i64 b,.ints (.own 10 43) .u64 (B0 (toNat a) (toNat b) (fun _ _=>0))]
 | _=>.undef
abbrev A0.Br.own.ts:TS:=[.i .i64,.i .i64]
def A0.Br.own.spec:=A6 A0.Br.own.ts A0.Br.own.pre A0.Br.own.out
def A0.Stack.pre:PB
 | [.i r,.i c,.l l,.i p,.i q,.l m]=>(Az r c l&&Az p q m)&&decide (q=c)
 | _=>false
def A0.Stack.out:PD
 | [.i r,.i c,.l l,.i p,.i _q,.l m]=>.agg [.int .i64 (r+p),.int .i64 c,.ints .fresh .u64 (l++m)]
 | _=>.undef
abbrev A0.Stack.ts:TS:=[.st [.i .i64,.i .i64,.s .u64],.st [.i .i64,.i .i64,.s .u64]]
def A0.Stack.spec:=A6 A0.Stack.ts A0.Stack.pre A0.Stack.out
def Ai.I6.pre:PB
 | [.i i,.i x,.l l]=>(Bq (0<=i/\i<length l)&&Ah l)&&Af x
 | _=>false
def Ai.I6.out:PD
 | [.i i,.i x,.l l]=>.int .u64 (Bz x (getD l (toNat i) 0))
 | _=>.undef
abbrev Ai.I6.ts:TS:=[.i .i64,.cp [.i .u64],.cp [.s .u64]]
def Ai.I6.spec:=A6 Ai.I6.ts Ai.I6.pre Ai.I6.out
def Ai.each.F9.pre:PB
 | [.i n,.i x,.l l]=>((Bq (0<=n/\n<=64/\n=length l))&&Ah l)&&Af x
 | _=>false
def Ai.each.F9.out:PD
 | [.i _n,.i x,.l l]=>.ints .fresh .u64 (Gk x l)
 | _=>.undef
abbrev Ai.each.F9.ts:TS:=[.i .i64,.fn 192 [.cp [.i .u64],.cp [.s .u64]]]
def Ai.each.F9.spec:=A6 Ai.each.F9.ts Ai.each.F9.pre Ai.each.F9.out
def Ai.F9.pre:PB
 | [.i x,.l l]=>(By l&&Af x)&&Bq (length l<=64)
 | _=>false
def Ai.F9.out:PD
 | [.i x,.l l]=>.tup [.ints .fresh .u64 (Gk x l),.int .i64 (0:Int)]
 | _=>.undef
abbrev Ai.F9.ts:TS:=[.i .u64,.s .u64]
def Ai.F9.spec:=A6 Ai.F9.ts Ai.F9.pre Ai.F9.out
def B8.Fl.pre:PB
 | [.i _r,.i _c,.l l,.i _p,.i _q,.l m,.i _u,.i _v,.l h]=>Ar6 l m h
 | _=>false
def B8.Fl.out:PD
 | [.i r,.i c,.l l,.i p,.i q,.l m,.i u,.i v,.l h]=>.int .i64 (Xb r c l p q m u v h)
 | _=>.undef
abbrev B8.Fl.ts:TS:=[.rs 3 [[.i .i64,.i .i64,.s .u64],[.i .i64,.i .i64,.s .u64],[.i .i64,.i .i64,.s .u64]]]
def B8.Fl.spec:=A6 B8.Fl.ts B8.Fl.pre B8.Fl.out
def B8.Yq.pre:PB
 | [.i _r,.i _c,.l l,.i _p,.i _q,.l m,.i _u,.i _v,.l h,.i x]=>Ar6 l m h&&Af x
 | _=>false
def B8.Yq.out:PD
 | [.i r,.i c,.l l,.i p,.i q,.l m,.i u,.i v,.l h,.i x]=>.tup [.agg [.int .i64 ((Mk r c l p q m u v h x).1),.int .i64 ((Mk r c l p q m u v h x).2.1),.ints .fresh .u64 ((Mk r c l p q m u v h x).2.2.1)],.int .i64 ((Mk r c l p q m u v h x).2.2.2)]
 | _=>.undef
abbrev B8.Yq.ts:TS:=[.st [.i .i64,.i .i64,.s .u64],.st [.i .i64,.i .i64,.s .u64],.st [.i .i64,.i .i64,.s .u64],.i .u64]
def B8.Yq.spec:=A6 B8.Yq.ts B8.Yq.pre B8.Yq.out
def Er.one.pre:PB
 | [.i _b]=>true
 | _=>false
def Er.one.out:PD
 | [.i b]=>.agg [.int .i64 (1:Int),.int .i64 (1:Int),.ints .fresh .u64 ([b])]
 | _=>.undef
abbrev Er.one.ts:TS:=[.i .u64]
def Er.one.spec:=A6 Er.one.ts Er.one.pre Er.one.out
def Er.Ji.pre:PB
 | []=>true
 | _=>false
def Er.Ji.out:PD
 | []=>.bool true
 | _=>.undef
abbrev Er.Ji.ts:TS:=[]
def Er.Ji.spec:=A6 Er.Ji.ts Er.Ji.pre Er.Ji.out
def Aq.I1.pre:PB
 | [.l x,.i k]=>By x&&Bq (0<=k/\k<=1000)
 | _=>false
def Aq.I1.out:PD
 | [.l x,.i k]=>.bool (Mr x k)
 | _=>.undef
abbrev Aq.I1.ts:TS:=[.s .u64,.i .i64]
def Aq.I1.spec:=A6 Aq.I1.ts Aq.I1.pre Aq.I1.out
def Bt.I1.pre:PB
 | [.i _r,.i _c,.l l,.i k]=>Ah l&&Bq (0<=k/\k<=1000)
 | _=>false
def Bt.I1.out:PD
 | [.i r,.i c,.l l,.i k]=>.bool (Az r c l&&Mr l k)
 | _=>.undef
abbrev Bt.I1.ts:TS:=[.st [.i .i64,.i .i64,.s .u64],.i .i64]
def Bt.I1.spec:=A6 Bt.I1.ts Bt.I1.pre Bt.I1.out
def Aq.Ed.q.pre:PB
 | [.l x]=>By x&&Bq (length x<=64)
 | _=>false
def Aq.Ed.q.out:PD
 | [.l x]=>.agg [.bool (Ba (mQ (R8 x))),.ints .arg .u32 (Al (mQ (R8 x))),.int .i64 (eQ (R8 x))]
 | _=>.undef
abbrev Aq.Ed.q.ts:TS:=[.s .u64]
def Aq.Ed.q.spec:=A6 Aq.Ed.q.ts Aq.Ed.q.pre Aq.Ed.q.out
def Bt.Mn.pre:PB
 | [.i r,.i c,.l l]=>Ah l&&Az r c l
 | _=>false
def Bt.Mn.out:PD
 | [.i _r,.i _c,.l l]=>.agg [.bool (Ba (mQ (R8 l))),.ints .arg .u32 (Al (mQ (R8 l))),.int .i64 (eQ (R8 l))]
 | _=>.undef
abbrev Bt.Mn.ts:TS:=[.st [.i .i64,.i .i64,.s .u64]]
def Bt.Mn.spec:=A6 Bt.Mn.ts Bt.Mn.pre Bt.Mn.out
def Bt.H6.q.pre:PB
 | [.l x,.l y]=>(Ah x&&Ah y)&&Bq (length x=length y/\length x<=64)
 | _=>false
def Bt.H6.q.out:PD
 | [.l x,.l y]=>.agg [.bool (Ba (mQ (Us x y))),.ints .arg .u32 (Al (mQ (Us x y))),.int .i64 (eQ (Us x y))]
 | _=>.undef
abbrev Bt.H6.q.ts:TS:=[.s .u64,.s .u64]
def Bt.H6.q.spec:=A6 Bt.H6.q.ts Bt.H6.q.pre Bt.H6.q.out
def Bt.Cg.q.pre:PB
 | [.i r,.i c,.l l,.i p,.i q,.l m,.i u,.i v,.l h]=>((Az r c l&&Az p q m)&&(Az u v h&&(Ah l&&(Ah m&&Ah h))))&&decide (p=r/\u=q/\v=c)
 | _=>false
def Bt.Cg.q.out:PD
 | [.i r,.i c,.l l,.i _p,.i q,.l m,.i _u,.i _v,.l h]=>.agg [.bool (Ba (mQ (Zb (toNat r) (toNat q) (toNat c) m h l))),.ints .arg .u32 (Al (mQ (Zb (toNat r) (toNat q) (toNat c) m h l))),.int .i64 (eQ (Zb (toNat r) (toNat q) (toNat c) m h l))]
 | _=>.undef
abbrev Bt.Cg.q.ts:TS:=[.st [.i .i64,.i .i64,.s .u64],.st [.i .i64,.i .i64,.s .u64],.st [.i .i64,.i .i64,.s .u64]]
def Bt.Cg.q.spec:=A6 Bt.Cg.q.ts Bt.Cg.q.pre Bt.Cg.q.out
def Eu.Rows.pre:PB
 | [.i r,.i c,.l l,.i i,.i k,.i x,.i y]=>Az r c l&&(Ah l&&((Af x&&Af y)&&Bq (0<=i/\i<r/\0<=k/\k<r/\i≠k)))
 | _=>false
def Eu.Rows.out:PD
 | [.i r,.i c,.l l,.i i,.i k,.i x,.i y]=>.tup [.agg [.int .i64 r,.int .i64 c,.ints .fresh .u64 (Ni (toNat r) (toNat c) l (toNat i) (toNat k) x y)],.int .i64 (0:Int)]
 | _=>.undef
abbrev Eu.Rows.ts:TS:=[.st [.i .i64,.i .i64,.s .u64],.i .i64,.i .i64,.i .u64,.i .u64]
def Eu.Rows.spec:=A6 Eu.Rows.ts Eu.Rows.pre Eu.Rows.out
def Eu.Mp.pre:PB
 | [.i r,.i c,.l l,.i i,.i k,.i x,.i y]=>Az r c l&&(Ah l&&((Af x&&Af y)&&Bq (0<=i/\i<c/\0<=k/\k<c/\i≠k)))
 | _=>false
def Eu.Mp.out:PD
 | [.i r,.i c,.l l,.i i,.i k,.i x,.i y]=>.tup [.agg [.int .i64 r,.int .i64 c,.ints .arg .u64 (Jh (toNat r) (toNat c) l (toNat i) (toNat k) x y)],.int .i64 (0:Int)]
 | _=>.undef
abbrev Eu.Mp.ts:TS:=[.st [.i .i64,.i .i64,.s .u64],.i .i64,.i .i64,.i .u64,.i .u64]
def Eu.Mp.spec:=A6 Eu.Mp.ts Eu.Mp.pre Eu.Mp.out
def Gd.Rows.pre:PB
 | [.i r,.i c,.l l,.i i,.i k,.i x,.i y]=>Az r c l&&(Ah l&&((Af x&&Af y)&&Bq (0<=i/\i<r/\0<=k/\k<r/\i≠k)))
 | _=>false
def Gd.Rows.out:PD
 | [.i r,.i c,.l l,.i i,.i k,.i x,.i y]=>.agg [.int .i64 r,.int .i64 c,.ints .arg .u64 (Ni (toNat r) (toNat c) l (toNat i) (toNat k) x y)]
 | _=>.undef
abbrev Gd.Rows.ts:TS:=[.st [.i .i64,.i .i64,.s .u64],.i .i64,.i .i64,.i .u64,.i .u64]
def Gd.Rows.spec:=A6 Gd.Rows.ts Gd.Rows.pre Gd.Rows.out
def Gd.Mp.pre:PB
 | [.i r,.i c,.l l,.i i,.i k,.i x,.i y]=>Az r c l&&(Ah l&&((Af x&&Af y)&&Bq (0<=i/\i<c/\0<=k/\k<c/\i≠k)))
 | _=>false
def Gd.Mp.out:PD
 | [.i r,.i c,.l l,.i i,.i k,.i x,.i y]=>.agg [.int .i64 r,.int .i64 c,.ints .arg .u64 (Jh (toNat r) (toNat c) l (toNat i) (toNat k) x y)]
 | _=>.undef
abbrev Gd.Mp.ts:TS:=[.st [.i .i64,.i .i64,.s .u64],.i .i64,.i .i64,.i .u64,.i .u64]
def Gd.Mp.spec:=A6 Gd.Mp.ts Gd.Mp.pre Gd.Mp.out
def Cn.G6.pre:PB
 | [.i i,.i k,.l l]=>By l&&Bq (0<=i/\i<((length l:Nat):Int)/\0<=k/\k<((length l:Nat):Int))
 | _=>false
def Cn.G6.out:PD
 | [.i i,.i k,.l l]=>.int .i64 (Hp (Nv l k) (Nv l i))
 | _=>.undef
abbrev Cn.G6.ts:TS:=[.i .i64,.i .i64,.cp [.s .u64]]
def Cn.G6.spec:=A6 Cn.G6.ts Cn.G6.pre Cn.G6.out
def Bj.Ao.pre:PB
 | [.l x,.i a,.i b,.l l]=>By l&&Bq (J1 (length l) x=true/\length x<=6/\a=0/\b=((length x:Nat):Int))
 | _=>false
def Bj.Ao.Aet:List Hr->List Int
 | [.l x,.i _a,.i _b,.l l]=>Fv l x
 | _=>[]
abbrev Bj.Ao.ts:TS:=[.i .i64,.i .i64,.fn 130 [.cp [.s .u64]]]
def Bj.A3.pre:PB
 | [.l x,.i n,.l l]=>By l&&Bq (J1 (length l) x=true/\length x<=6/\n=((length x:Nat):Int))
 | _=>false
def Bj.A3.Aet:List Hr->List Int
 | [.l x,.i _n,.l l]=>Fv l x
 | _=>[]
abbrev Bj.A3.ts:TS:=[.i .i64,.fn 130 [.cp [.s .u64]]]
def Bj.A8.pre:PB
 | [.l x,.l l]=>By l&&Bq (J1 (length l) x=true/\length x<=6)
 | _=>false
def Bj.A8.Aet:List Hr->List Int
 | [.l x,.l l]=>Fv l x
 | _=>[]
abbrev Bj.A8.ts:TS:=[.fn 130 [.cp [.s .u64]]]
def Cn.Db.pre:PB
 | [.i r,.i c,.l l,.i i,.i k,.i b]=>Az r c l&&(Ah l&&(Af b&&Bq (0<=i/\i<c/\0<=k/\k<c)))
 | _=>false
def Cn.Db.out:PD
 | [.i r,.i c,.l l,.i i,.i k,.i b]=>.agg [.int .u64 (trC (Dz (toNat r) (toNat c) l (toNat i)) (Dz (toNat r) (toNat c) l (toNat k)) b),.int .u64 (trS (Dz (toNat r) (toNat c) l (toNat i)) (Dz (toNat r) (toNat c) l (toNat k)) b),.bool (Wz (Dz (toNat r) (toNat c) l (toNat i)) (Dz (toNat r) (toNat c) l (toNat k)) b)]
 | _=>.undef
abbrev Cn.Db.ts:TS:=[.st [.i .i64,.i .i64,.s .u64],.i .i64,.i .i64,.i .u64]
def Cn.Db.spec:=A6 Cn.Db.ts Cn.Db.pre Cn.Db.out
def Cn.rounds.pre:PB
 | [.i r,.i c,.l l,.i p,.i q,.l m,.i b]=>(Az r c l&&Az p q m)&&((Ah l&&Ah m)&&(Af b&&Bq (p=c/\q=c)))
 | _=>false
def Cn.rounds.out:PD
 | [.i r,.i c,.l l,.i p,.i q,.l m,.i b]=>.tup [.agg [.int .i64 r,.int .i64 c,.ints .arg .u64 ((Ec (toNat r) (toNat c) b 60 l m).1)],.agg [.int .i64 p,.int .i64 q,.ints .arg .u64 ((Ec (toNat r) (toNat c) b 60 l m).2.1)],.int .i64 ((Ec (toNat r) (toNat c) b 60 l m).2.2)]
 | _=>.undef
abbrev Cn.rounds.ts:TS:=[.st [.i .i64,.i .i64,.s .u64],.st [.i .i64,.i .i64,.s .u64],.i .u64]
def Cn.rounds.spec:=A6 Cn.rounds.ts Cn.rounds.pre Cn.rounds.out
def Cn.Bx.pre:PB
 | [.i _r,.i _c,.l l,.i k]=>By l&&Bq (length l<=1000/\-2300<=k/\k<=2300)
 | _=>false
def Cn.Bx.out:PD
 | [.i r,.i c,.l l,.i k]=>.agg [.int .i64 r,.int .i64 c,.ints .arg .u64 (A4 l k)]
 | _=>.undef
abbrev Cn.Bx.ts:TS:=[.st [.i .i64,.i .i64,.s .u64],.i .i64]
def Cn.Bx.spec:=A6 Cn.Bx.ts Cn.Bx.pre Cn.Bx.out
def Cn.at.pre:PB
 | [.i r,.i c,.l l,.l x]=>Az r c l&&Bq (((length x:Nat):Int)=c/\J1 (toNat c) x=true)
 | _=>false
def Cn.at.out:PD
 | [.i r,.i c,.l l,.l x]=>.agg [.int .i64 r,.int .i64 c,.ints .fresh .u64 (Cu (toNat r) (toNat c) l x)]
 | _=>.undef
abbrev Cn.at.ts:TS:=[.st [.i .i64,.i .i64,.s .u64],.s .i64]
def Cn.at.spec:=A6 Cn.at.ts Cn.at.pre Cn.at.out
def Cn.Jo.pre:PB
 | [.i r,.i c,.l l]=>Az r c l&&Ah l
 | _=>false
def Cn.Jo.out:PD
 | [.i r,.i c,.l l]=>.ints .fresh .u64 (Ch (toNat r) (toNat c) l)
 | _=>.undef
abbrev Cn.Jo.ts:TS:=[.st [.i .i64,.i .i64,.s .u64]]
def Cn.Jo.spec:=A6 Cn.Jo.ts Cn.Jo.pre Cn.Jo.out
def Cn.A2.pre:PB
 | [.i _r,.i _c,.l l]=>Ah l
 | _=>false
def Cn.A2.out:PD
 | [.i r,.i c,.l l]=>.tup [.agg [.int .i64 ((Iw r c l).1),.int .i64 ((Iw r c l).2.1),.ints .arg .u64 ((Iw r c l).2.2.1)],.agg [.int .i64 ((I8 r c l).1),.int .i64 ((I8 r c l).2.1),.ints .fresh .u64 ((I8 r c l).2.2.1)],.ints .fresh .u64 (M9 r c l),.int .i64 (Jy r c l)]
 | _=>.undef
abbrev Cn.A2.ts:TS:=[.st [.i .i64,.i .i64,.s .u64]]
def Cn.A2.spec:=A6 Cn.A2.ts Cn.A2.pre Cn.A2.out
def Ay.Ia.pre:PB
 | [.i a,.i b]=>Af a&&Af b
 | _=>false
def Ay.Ia.out:PD
 | [.i a,.i b]=>.bool (Gs a b)
 | _=>.undef
abbrev Ay.Ia.ts:TS:=[.i .u64,.i .u64]
def Ay.Ia.spec:=A6 Ay.Ia.ts Ay.Ia.pre Ay.Ia.out
def Ay.be.pre:PB
 | [.l x,.l y,.i b]=>(By x&&By y)&&(Af b&&Bq (length x=length y/\length x<=6))
 | _=>false
def Ay.be.out:PD
 | [.l x,.l y,.i b]=>.bool (beR x y b)
 | _=>.undef
abbrev Ay.be.ts:TS:=[.s .u64,.s .u64,.i .u64]
def Ay.be.spec:=A6 Ay.be.ts Ay.be.pre Ay.be.out
def Ay.Db.pre:PB
 | [.l x,.l y]=>(By x&&By y)&&Bq (length x=length y/\length x<=6)
 | _=>false
def Ay.Db.out:PD
 | [.l x,.l y]=>.tup [.int .u64 (Fj (G9 (Ix x y))),.int .u64 (El (G9 (Ix x y)))]
 | _=>.undef
abbrev Ay.Db.ts:TS:=[.s .u64,.s .u64]
def Ay.Db.spec:=A6 Ay.Db.ts Ay.Db.pre Ay.Db.out
def Ay.round.pre:PB
 | [.i r,.i c,.l l,.i p,.i q,.l m,.i b]=>(Az r c l&&Az p q m)&&((Ah l&&Ah m)&&(Af b&&Bq (p=c/\q=c)))
 | _=>false
def Ay.round.out:PD
 | [.i r,.i c,.l l,.i p,.i q,.l m,.i b]=>.tup [.agg [.int .i64 r,.int .i64 c,.ints .arg .u64 ((U7 (toNat r) (toNat c) b l m).1)],.agg [.int .i64 p,.int .i64 q,.ints .arg .u64 ((U7 (toNat r) (toNat c) b l m).2.1)],.bool ((U7 (toNat r) (toNat c) b l m).2.2)]
 | _=>.undef
abbrev Ay.round.ts:TS:=[.st [.i .i64,.i .i64,.s .u64],.st [.i .i64,.i .i64,.s .u64],.i .u64]
def Ay.round.spec:=A6 Ay.round.ts Ay.round.pre Ay.round.out
def Ay.Bx.pre:PB
 | [.i r,.i c,.l l,.i k]=>Az r c l&&(Ah l&&Bq (-2300<=k/\k<=2300))
 | _=>false
def Ay.Bx.out:PD
 | [.i r,.i c,.l l,.i k]=>.agg [.int .i64 r,.int .i64 c,.ints .arg .u64 (A4 l k)]
 | _=>.undef
abbrev Ay.Bx.ts:TS:=[.st [.i .i64,.i .i64,.s .u64],.i .i64]
def Ay.Bx.spec:=A6 Ay.Bx.ts Ay.Bx.pre Ay.Bx.out
def Ay.Jq.pre:PB
 | [.i r,.i c,.l l]=>Az r c l&&Ah l
 | _=>false
def Ay.Jq.out:PD
 | [.i r,.i c,.l l]=>.ints .fresh .u64 (Ch (toNat r) (toNat c) l)
 | _=>.undef
abbrev Ay.Jq.ts:TS:=[.st [.i .i64,.i .i64,.s .u64]]
def Ay.Jq.spec:=A6 Ay.Jq.ts Ay.Jq.pre Ay.Jq.out
def Ay.order.pre:PB
 | [.l l]=>By l&&Bq (length l<=6)
 | _=>false
def Ay.order.out:PD
 | [.l l]=>.ints .fresh .i64 (Ge l)
 | _=>.undef
abbrev Ay.order.ts:TS:=[.s .u64]
def Ay.order.spec:=A6 Ay.order.ts Ay.order.pre Ay.order.out
def Ha.Ee.pre:PB
 | [.i r,.i c,.l l,.l x]=>Az r c l&&Bq (((length x:Nat):Int)=c/\J1 (toNat c) x=true)
 | _=>false
def Ha.Ee.out:PD
 | [.i r,.i c,.l l,.l x]=>.agg [.int .i64 r,.int .i64 c,.ints .arg .u64 (Cu (toNat r) (toNat c) l x)]
 | _=>.undef
abbrev Ha.Ee.ts:TS:=[.st [.i .i64,.i .i64,.s .u64],.s .i64]
def Ha.Ee.spec:=A6 Ha.Ee.ts Ha.Ee.pre Ha.Ee.out
def Ay.A2.pre:PB
 | [.i r,.i c,.l l]=>Az r c l&&(Ah l&&decide (Ds l=true))
 | _=>false
def Ay.A2.out:PD
 | [.i r,.i c,.l l]=>.agg [.int .i64 ((Iw r c l).1),.int .i64 ((Iw r c l).2.1),.ints .arg .u64 ((Iw r c l).2.2.1),.int .i64 ((I8 r c l).1),.int .i64 ((I8 r c l).2.1),.ints .arg .u64 ((I8 r c l).2.2.1),.ints .fresh .u64 (M9 r c l),.int .i64 (Jy r c l)]
 | _=>.undef
abbrev Ay.A2.ts:TS:=[.st [.i .i64,.i .i64,.s .u64]]
def Ay.A2.spec:=A6 Ay.A2.ts Ay.A2.pre Ay.A2.out
def Aa.Hw.pre:PB
 | [.i i,.i k,.i r,.i c,.l l,.i p,.i q,.l m]=>Qu r c l p q m i k
 | _=>false
def Aa.Hw.out:PD
 | [.i i,.i k,.i _r,.i c,.l l,.i _p,.i q,.l m]=>.int .u64 (C9 c l q m i k)
 | _=>.undef
abbrev Aa.Hw.ts:TS:=[.i .i64,.i .i64,.cp [.i .i64,.i .i64,.s .u64],.cp [.i .i64,.i .i64,.s .u64]]
def Aa.Hw.spec:=A6 Aa.Hw.ts Aa.Hw.pre Aa.Hw.out
def Aa.of.Cs.pre:PB
 | [.i a,.i b,.i r,.i c,.l l,.i p,.i q,.l m]=>(Bp a&&Bp b)&&(Az r c l&&Az p q m)&&decide (a=r/\b=c+q/\p=r)
 | _=>false
def Aa.of.Cs.out:PD
 | [.i a,.i b,.i _r,.i c,.l l,.i _p,.i q,.l m]=>.agg [.int .i64 a,.int .i64 b,.ints .fresh .u64 (B0 (toNat a) (toNat b) (fun j1 j2=>C9 c l q m j1 j2))]
 | _=>.undef
abbrev Aa.of.Cs.ts:TS:=[.i .i64,.i .i64,.fn 142 [.cp [.i .i64,.i .i64,.s .u64],.cp [.i .i64,.i .i64,.s .u64]]]
def Aa.of.Cs.spec:=A6 Aa.of.Cs.ts Aa.of.Cs.pre Aa.of.Cs.out
def Aa.Cs.pre:PB
 | [.i _r,.i _c,.l _l,.i _p,.i _q,.l _m]=>true
 | _=>false
def Aa.Cs.out:PD
 | [.i r,.i c,.l l,.i p,.i q,.l m]=>.tup [.agg [.int .i64 ((Kb r c l p q m).1),.int .i64 ((Kb r c l p q m).2.1),.ints .fresh .u64 ((Kb r c l p q m).2.2.1)],.int .i64 ((Kb r c l p q m).2.2.2)]
 | _=>.undef
abbrev Aa.Cs.ts:TS:=[.st [.i .i64,.i .i64,.s .u64],.st [.i .i64,.i .i64,.s .u64]]
def Aa.Cs.spec:=A6 Aa.Cs.ts Aa.Cs.pre Aa.Cs.out
def A0.Cs.pre:PB
 | [.i r,.i c,.l l,.i p,.i q,.l m]=>(Az r c l&&Az p q m)&&decide (p=r/\c+q<=6)
 | _=>false
def A0.Cs.out:PD
 | [.i r,.i c,.l l,.i _p,.i q,.l m]=>.agg [.int .i64 r,.int .i64 (c+q),.ints .fresh .u64 (B0 (toNat r) (toNat (c+q)) (fun j1 j2=>C9 c l q m j1 j2))]
 | _=>.undef
abbrev A0.Cs.ts:TS:=[.st [.i .i64,.i .i64,.s .u64],.st [.i .i64,.i .i64,.s .u64]]
def A0.Cs.spec:=A6 A0.Cs.ts A0.Cs.pre A0.Cs.out
def B8.Fl.two.pre:PB
 | [.i _r,.i _c,.l l,.i _p,.i _q,.l m]=>Ah l&&Ah m
 | _=>false
def B8.Fl.two.out:PD
 | [.i r,.i c,.l l,.i p,.i q,.l m]=>.int .i64 (Ac2 r c l p q m)
 | _=>.undef
abbrev B8.Fl.two.ts:TS:=[.rs 3 [[.i .i64,.i .i64,.s .u64],[.i .i64,.i .i64,.s .u64]]]
def B8.Fl.two.spec:=A6 B8.Fl.two.ts B8.Fl.two.pre B8.Fl.two.out
def B8.Total.pre:PB
 | [.i _r,.i _c,.l l,.i _p,.i _q,.l m]=>Ah l&&Ah m
 | _=>false
def B8.Total.out:PD
 | [.i r,.i c,.l l,.i p,.i q,.l m]=>.tup [.agg [.int .i64 ((D9 r c l p q m).1),.int .i64 ((D9 r c l p q m).2.1),.ints .fresh .u64 ((D9 r c l p q m).2.2.1)],.int .i64 ((D9 r c l p q m).2.2.2)]
 | _=>.undef
abbrev B8.Total.ts:TS:=[.st [.i .i64,.i .i64,.s .u64],.st [.i .i64,.i .i64,.s .u64]]
def B8.Total.spec:=A6 B8.Total.ts B8.Total.pre B8.Total.out
def Er.G7.pre:PB
 | [.i _r,.i _c,.l l,.i _p,.i _q,.l m]=>Ah l&&Ah m
 | _=>false
def Er.G7.out:PD
 | [.i _r,.i _c,.l _l,.i _p,.i _q,.l _m]=>.bool true
 | _=>.undef
abbrev Er.G7.ts:TS:=[.st [.i .i64,.i .i64,.s .u64],.st [.i .i64,.i .i64,.s .u64]]
def Er.G7.spec:=A6 Er.G7.ts Er.G7.pre Er.G7.out
def Av.Add.q.pre:PB
 | [.b n,.l a,.i e,.b m,.l b,.i f]=>dqB n a e&&dqB m b f
 | _=>false
def Av.Add.q.out:PD
 | [.b n,.l a,.i e,.b m,.l b,.i f]=>.agg [.bool (Ba (mQ (vQ n a e+vQ m b f))),.ints .arg .u32 (Al (mQ (vQ n a e+vQ m b f))),.int .i64 (eQ (vQ n a e+vQ m b f))]
 | _=>.undef
abbrev Av.Add.q.ts:TS:=[.st [.b,.s .u32,.i .i64],.st [.b,.s .u32,.i .i64]]
def Av.Add.q.spec:=A6 Av.Add.q.ts Av.Add.q.pre Av.Add.q.out
def Av.Sub.q.pre:PB
 | [.b n,.l a,.i e,.b m,.l b,.i f]=>dqB n a e&&dqB m b f
 | _=>false
def Av.Sub.q.out:PD
 | [.b n,.l a,.i e,.b m,.l b,.i f]=>.agg [.bool (Ba (mQ (vQ n a e-vQ m b f))),.ints .arg .u32 (Al (mQ (vQ n a e-vQ m b f))),.int .i64 (eQ (vQ n a e-vQ m b f))]
 | _=>.undef
abbrev Av.Sub.q.ts:TS:=[.st [.b,.s .u32,.i .i64],.st [.b,.s .u32,.i .i64]]
def Av.Sub.q.spec:=A6 Av.Sub.q.ts Av.Sub.q.pre Av.Sub.q.out
def Av.Mul.q.pre:PB
 | [.b n,.l a,.i e,.b m,.l b,.i f]=>dqB n a e&&dqB m b f
 | _=>false
def Av.Mul.q.out:PD
 | [.b n,.l a,.i e,.b m,.l b,.i f]=>.agg [.bool (Ba (mQ (vQ n a e*vQ m b f))),.ints .arg .u32 (Al (mQ (vQ n a e*vQ m b f))),.int .i64 (eQ (vQ n a e*vQ m b f))]
 | _=>.undef
abbrev Av.Mul.q.ts:TS:=[.st [.b,.s .u32,.i .i64],.st [.b,.s .u32,.i .i64]]
def Av.Mul.q.spec:=A6 Av.Mul.q.ts Av.Mul.q.pre Av.Mul.q.out
def Av.D8.q.pre:PB
 | [.b n,.l a,.i e,.i k]=>dqB n a e&&Bq (-2000<=k/\k<=2000)
 | _=>false
def Av.D8.q.out:PD
 | [.b n,.l a,.i e,.i k]=>.agg [.bool (Ba (mQ (vQ n a e*tw k))),.ints .arg .u32 (Al (mQ (vQ n a e*tw k))),.int .i64 (eQ (vQ n a e*tw k))]
 | _=>.undef
abbrev Av.D8.q.ts:TS:=[.st [.b,.s .u32,.i .i64],.i .i64]
def Av.D8.q.spec:=A6 Av.D8.q.ts Av.D8.q.pre Av.D8.q.out
def Av.Compare.q.pre:PB
 | [.b n,.l a,.i e,.b m,.l b,.i f]=>dqB n a e&&dqB m b f
 | _=>false
def Av.Compare.q.out:PD
 | [.b n,.l a,.i e,.b m,.l b,.i f]=>.int .i64 (Ak7 (vQ n a e) (vQ m b f))
 | _=>.undef
abbrev Av.Compare.q.ts:TS:=[.st [.b,.s .u32,.i .i64],.st [.b,.s .u32,.i .i64]]
def Av.Compare.q.spec:=A6 Av.Compare.q.ts Av.Compare.q.pre Av.Compare.q.out
def Av.Of.q.pre:PB
 | [.b n,.l a,.i e]=>Nd n a&&Bq (-5000<=e/\e<=5000)
 | _=>false
def Av.Of.q.out:PD
 | [.b n,.l a,.i e]=>.agg [.bool (Ba (mQ (vQ n a e))),.ints .arg .u32 (Al (mQ (vQ n a e))),.int .i64 (eQ (vQ n a e))]
 | _=>.undef
abbrev Av.Of.q.ts:TS:=[.st [.b,.s .u32],.i .i64]
def Av.Of.q.spec:=A6 Av.Of.q.ts Av.Of.q.pre Av.Of.q.out
def Bg.Value.q.pre:PB
 | [.i x]=>Af x
 | _=>false
def Bg.Value.q.out:PD
 | [.i x]=>.agg [.bool (Ba (mQ (Fo x))),.ints .arg .u32 (Al (mQ (Fo x))),.int .i64 (eQ (Fo x))]
 | _=>.undef
abbrev Bg.Value.q.ts:TS:=[.i .u64]
def Bg.Value.q.spec:=A6 Bg.Value.q.ts Bg.Value.q.pre Bg.Value.q.out
def A0.Kg.arg.pre:PB
 | [.i r,.i c,.l l,.i i,.i k,.i _b]=>E6 r c l i k
 | _=>false
def A0.Kg.arg.out:PD
 | [.i r,.i c,.l l,.i i,.i k,.i b]=>.agg [.int .i64 r,.int .i64 c,.ints .arg .u64 (zn l (toNat (i*c+k)) b)]
 | _=>.undef
abbrev A0.Kg.arg.ts:TS:=[.st [.i .i64,.i .i64,.s .u64],.i .i64,.i .i64,.i .u64]
def A0.Kg.arg.spec:=A6 A0.Kg.arg.ts A0.Kg.arg.pre A0.Kg.arg.out
def A0.Br.arg.pre:PB
 | [.i a,.i b]=>Bp a&&Bp b
 | _=>false
def A0.Br.arg.out:PD
 | [.i a,.i b]=>.agg [.int .i64 a,.int .i64 b,.ints .arg .u64 (B0 (toNat a) (toNat b) (fun _ _=>0))]
 | _=>.undef
abbrev A0.Br.arg.ts:TS:=[.i .i64,.i .i64]
def A0.Br.arg.spec:=A6 A0.Br.arg.ts A0.Br.arg.pre A0.Br.arg.out
def A0.Hv.arg.pre:PB
 | [.i n]=>Bp n
 | _=>false
def A0.Hv.arg.out:PD
 | [.i n]=>.agg [.int .i64 n,.int .i64 n,.ints .arg .u64 (Iz (toNat n))]
 | _=>.undef
abbrev A0.Hv.arg.ts:TS:=[.i .i64]
def A0.Hv.arg.spec:=A6 A0.Hv.arg.ts A0.Hv.arg.pre A0.Hv.arg.out
def Ht.Canon.nb.pre:PB
 | [.f _x]=>true
 | _=>false
def Ht.Canon.nb.out:PD
 | [.f x]=>.int .u64 (H0 x)
 | _=>.undef
abbrev Ht.Canon.nb.ts:TS:=[.nb]
def Ht.Canon.nb.spec:=A6 Ht.Canon.nb.ts Ht.Canon.nb.pre Ht.Canon.nb.out
def Ew.N2.pre:PB
 | [.i x]=>Af x
 | _=>false
def Ew.N2.out:PD
 | [.i x]=>.int .i64 (Gt x)
 | _=>.undef
abbrev Ew.N2.ts:TS:=[.i .u64]
def Ew.N2.spec:=A6 Ew.N2.ts Ew.N2.pre Ew.N2.out
def Am.plus.own.pre:PB
 | [.l a,.l b]=>J8 a&&J8 b
 | _=>false
def Am.plus.own.out:PD
 | [.l a,.l b]=>.ints (.own 100005 121) .u32 (Mw a b)
 | _=>.undef
abbrev Am.plus.own.ts:TS:=[.s .u32,.s .u32]
def Am.plus.own.spec:=A6 Am.plus.own.ts Am.plus.own.pre Am.plus.own.out
theorem tt0:∀a b c:Bool,((a==a)&&(b&&(c&&true)))=(b&&c):=by decide
theorem tt1:∀a b:Bool,(cond a b false)=(a&&b):=by decide
theorem tt2:∀a:Bool,(((!a)||(a==true))&&true)=true:=by decide
theorem P7:∀a:Bool,((!(a==true))||((((!(a==true))||(a==true))&&true)&&true))=true:=by decide
theorem Un:∀a:Bool,((!(a==true))||true)=true:=by decide
theorem tt5:∀a b:Bool,(cond a true b)=(a||b):=by decide
theorem tt6:∀a:Bool,((!(!a))||(a==false))=true:=by decide
theorem Te:∀a:Bool,((!(a==false))||((((!(a==false))||(a==false))&&true)&&true))=true:=by decide
theorem tt8:∀a:Bool,((!(a==false))||((((!(a==false))||(a==false))&&(((!(a==false))||(a==false))&&true))&&true))=true:=by decide
theorem Uw:∀a:Bool,((!(a==false))||true)=true:=by decide
theorem Cb:∀a:Bool,(a&&true)=a:=by decide
theorem Bdm:∀a b c d e:Bool,(cond a (bif b then true else (cond c (bif d then true else e) false)) false)=(a&&(b||(c&&(d||e)))):=by decide
theorem Ba3:∀a b:Bool,((!(a==true))||(((!(a==true))||(a==true))&&((!(!b))||((a==true)&&(b==false)))))=true:=by decide
theorem Bdl:∀a b c:Bool,((!((a==true)&&(b==false)))||(((!((a==true)&&(b==false)))||((a==true)&&(b==false)))&&(((!c)||(((a==true)&&(b==false))&&(c==true)))&&true)))=true:=by decide
theorem Bdk:∀a b c d:Bool,((!(((a==true)&&(b==false))&&(c==true)))||(((!(((a==true)&&(b==false))&&(c==true)))||(((a==true)&&(b==false))&&(c==true)))&&((!(!d))||((((a==true)&&(b==false))&&(c==true))&&(d==false)))))=true:=by decide
theorem Baz:∀a b c d:Bool,((!((((a==true)&&(b==false))&&(c==true))&&(d==false)))||((((!((((a==true)&&(b==false))&&(c==true))&&(d==false)))||((((a==true)&&(b==false))&&(c==true))&&(d==false)))&&true)&&true))=true:=by decide
theorem Bdj:∀a b c d:Bool,((!((((a==true)&&(b==false))&&(c==true))&&(d==false)))||true)=true:=by decide
theorem Bdi:∀a b c:Bool,((!(((a==true)&&(b==false))&&(c==true)))||((((!(((a==true)&&(b==false))&&(c==true)))||(((a==true)&&(b==false))&&(c==true)))&&true)&&true))=true:=by decide
theorem Bdh:∀a b c:Bool,((!(((a==true)&&(b==false))&&(c==true)))||true)=true:=by decide
theorem Bay:∀a b:Bool,((!((a==true)&&(b==false)))||((((!((a==true)&&(b==false)))||((a==true)&&(b==false)))&&true)&&true))=true:=by decide
theorem Bax:∀a b:Bool,((!((a==true)&&(b==false)))||((((!((a==true)&&(b==false)))||((a==true)&&(b==false)))&&(((!((a==true)&&(b==false)))||((a==true)&&(b==false)))&&true))&&true))=true:=by decide
theorem Ayo:∀a b:Bool,((!((a==true)&&(b==false)))||true)=true:=by decide
theorem Auo:∀a:Bool,((!(a==true))||((((!(a==true))||(a==true))&&(((!(a==true))||(a==true))&&true))&&true))=true:=by decide
theorem A7g:∀a b:Bool,(cond (!a) true b)=((!a)||b):=by decide
theorem Aau:∀a:Bool,((!(!(!a)))||((!a)==false))=true:=by decide
theorem R7:∀a:Bool,((!((!a)==false))||((((!((!a)==false))||((!a)==false))&&true)&&true))=true:=by decide
theorem Xw:∀a:Bool,((!((!a)==false))||true)=true:=by decide
theorem Baw:∀a b:Bool,(cond a (!b) false)=(a&&(!b)):=by decide
theorem Apm:∀a b:Bool,(cond (!a) true (!b))=((!a)||(!b)):=by decide
theorem Apl:∀a b:Bool,((!((!a)==false))||((((!((!a)==false))||((!a)==false))&&true)&&b))=((!a)||b):=by decide
theorem Bav:∀a b c d:Bool,(cond (bif a then b else false) true (bif c then d else false))=((a&&b)||(c&&d)):=by decide
theorem Bau:∀a b:Bool,((!(!(cond a b false)))||((cond a b false)==false))=true:=by decide
theorem Bat:∀a b c:Bool,((!((cond a b false)==false))||(((!((cond a b false)==false))||((cond a b false)==false))&&(((!c)||(((cond a b false)==false)&&(c==true)))&&true)))=true:=by decide
theorem Bas:∀a b c:Bool,((!(((cond a b false)==false)&&(c==true)))||((((!(((cond a b false)==false)&&(c==true)))||(((cond a b false)==false)&&(c==true)))&&true)&&true))=true:=by decide
theorem Bar:∀a b c:Bool,((!(((cond a b false)==false)&&(c==true)))||true)=true:=by decide
theorem A3n:∀a b:Bool,((!((cond a b false)==false))||((((!((cond a b false)==false))||((cond a b false)==false))&&true)&&true))=true:=by decide
theorem Baq:∀a b:Bool,((!((cond a b false)==false))||true)=true:=by decide
theorem Kz:∀a b:Bool,((a&&b)&&true)=(a&&b):=by decide
theorem Bdg:∀a b c:Bool,(cond (bif (!a) then true else (!b)) true c)=(((!a)||(!b))||c):=by decide
theorem A7f:∀a b:Bool,((!(!(cond (!a) true (!b))))||((cond (!a) true (!b))==false))=true:=by decide
theorem Bap:∀a b:Bool,((!((cond (!a) true (!b))==false))||((((!((cond (!a) true (!b))==false))||((cond (!a) true (!b))==false))&&(((!((cond (!a) true (!b))==false))||((cond (!a) true (!b))==false))&&true))&&true))=true:=by decide
theorem Aun:∀a b:Bool,((!((cond (!a) true (!b))==false))||((((!((cond (!a) true (!b))==false))||((cond (!a) true (!b))==false))&&true)&&true))=true:=by decide
theorem Alz:∀a b:Bool,((!((cond (!a) true (!b))==false))||true)=true:=by decide
theorem Bao:∀a b c d:Bool,(((a&&b)&&(c&&d))&&true)=((a&&b)&&(c&&d)):=by decide
theorem Bdf:∀a b c d e f g h:Bool,(cond (bif (cond (bif (cond (bif (cond a true b) then true else c) true d) then true else e) true f) then true else g) true h)=(((((((a||b)||c)||d)||e)||f)||g)||h):=by decide
theorem Bde:∀a b c d e f g:Bool,((!(!(cond (bif (cond (bif (cond (bif a then true else b) true c) then true else d) true e) then true else f) true g)))||((cond (bif (cond (bif (cond (bif a then true else b) true c) then true else d) true e) then true else f) true g)==false))=true:=by decide
theorem Ban:∀a b c d e f g:Bool,((!((cond (bif (cond (bif (cond (bif a then true else b) true c) then true else d) true e) then true else f) true g)==false))||((((!((cond (bif (cond (bif (cond (bif a then true else b) true c) then true else d) true e) then true else f) true g)==false))||((cond (bif (cond (bif (cond (bif a then true else b) true c) then true else d) true e) then true else f) true g)==false))&&(((!((cond (bif (cond (bif (cond (bif a then true else b) true c) then true else d) true e) then true else f) true g)==false))||((cond (bif (cond (bif (cond (bif a then true else b) true c) then true else d) true e) then true else f) true g)==false))&&true))&&true))=true:=by decide
theorem A7e:∀a b c d e f g:Bool,((!((cond (bif (cond (bif (cond (bif a then true else b) true c) then true else d) true e) then true else f) true g)==false))||true)=true:=by decide
theorem Bdd:∀a b c d e f g:Bool,((!((cond (bif (cond (bif (cond (bif a then true else b) true c) then true else d) true e) then true else f) true g)==false))||((((!((cond (bif (cond (bif (cond (bif a then true else b) true c) then true else d) true e) then true else f) true g)==false))||((cond (bif (cond (bif (cond (bif a then true else b) true c) then true else d) true e) then true else f) true g)==false))&&true)&&true))=true:=by decide
theorem Bdc:∀a b c d e f:Bool,((!(!(cond (bif (cond (bif (cond a true b) then true else c) true d) then true else e) true f)))||((cond (bif (cond (bif (cond a true b) then true else c) true d) then true else e) true f)==false))=true:=by decide
theorem Bam:∀a b c d e f:Bool,((!((cond (bif (cond (bif (cond a true b) then true else c) true d) then true else e) true f)==false))||((((!((cond (bif (cond (bif (cond a true b) then true else c) true d) then true else e) true f)==false))||((cond (bif (cond (bif (cond a true b) then true else c) true d) then true else e) true f)==false))&&(((!((cond (bif (cond (bif (cond a true b) then true else c) true d) then true else e) true f)==false))||((cond (bif (cond (bif (cond a true b) then true else c) true d) then true else e) true f)==false))&&true))&&true))=true:=by decide
theorem A7d:∀a b c d e f:Bool,((!((cond (bif (cond (bif (cond a true b) then true else c) true d) then true else e) true f)==false))||true)=true:=by decide
theorem Bdb:∀a b c d e f:Bool,((!((cond (bif (cond (bif (cond a true b) then true else c) true d) then true else e) true f)==false))||((((!((cond (bif (cond (bif (cond a true b) then true else c) true d) then true else e) true f)==false))||((cond (bif (cond (bif (cond a true b) then true else c) true d) then true else e) true f)==false))&&true)&&true))=true:=by decide
theorem Bda:∀a b c d e:Bool,((!(!(cond (bif (cond (bif a then true else b) true c) then true else d) true e)))||((cond (bif (cond (bif a then true else b) true c) then true else d) true e)==false))=true:=by decide
theorem Bc9:∀a b c d e:Bool,((!((cond (bif (cond (bif a then true else b) true c) then true else d) true e)==false))||((((!((cond (bif (cond (bif a then true else b) true c) then true else d) true e)==false))||((cond (bif (cond (bif a then true else b) true c) then true else d) true e)==false))&&(((!((cond (bif (cond (bif a then true else b) true c) then true else d) true e)==false))||((cond (bif (cond (bif a then true else b) true c) then true else d) true e)==false))&&true))&&true))=true:=by decide
theorem Bc8:∀a b c d e:Bool,((!((cond (bif (cond (bif a then true else b) true c) then true else d) true e)==false))||((((!((cond (bif (cond (bif a then true else b) true c) then true else d) true e)==false))||((cond (bif (cond (bif a then true else b) true c) then true else d) true e)==false))&&true)&&true))=true:=by decide
theorem Bal:∀a b c d e:Bool,((!((cond (bif (cond (bif a then true else b) true c) then true else d) true e)==false))||true)=true:=by decide
theorem A7c:∀a b c d:Bool,((!(!(cond (bif (cond a true b) then true else c) true d)))||((cond (bif (cond a true b) then true else c) true d)==false))=true:=by decide
theorem A7b:∀a b c d:Bool,((!((cond (bif (cond a true b) then true else c) true d)==false))||((((!((cond (bif (cond a true b) then true else c) true d)==false))||((cond (bif (cond a true b) then true else c) true d)==false))&&(((!((cond (bif (cond a true b) then true else c) true d)==false))||((cond (bif (cond a true b) then true else c) true d)==false))&&true))&&true))=true:=by decide
theorem Bak:∀a b c d:Bool,((!((cond (bif (cond a true b) then true else c) true d)==false))||((((!((cond (bif (cond a true b) then true else c) true d)==false))||((cond (bif (cond a true b) then true else c) true d)==false))&&true)&&true))=true:=by decide
theorem Aum:∀a b c d:Bool,((!((cond (bif (cond a true b) then true else c) true d)==false))||true)=true:=by decide
theorem Ayn:∀a b c:Bool,((!(!(cond (bif a then true else b) true c)))||((cond (bif a then true else b) true c)==false))=true:=by decide
theorem Aly:∀a b c:Bool,((!((cond (bif a then true else b) true c)==false))||((((!((cond (bif a then true else b) true c)==false))||((cond (bif a then true else b) true c)==false))&&true)&&true))=true:=by decide
theorem Apk:∀a b c:Bool,((!((cond (bif a then true else b) true c)==false))||true)=true:=by decide
theorem Apj:∀a b:Bool,((!(!(cond a true b)))||((cond a true b)==false))=true:=by decide
theorem Agv:∀a b:Bool,((!((cond a true b)==false))||((((!((cond a true b)==false))||((cond a true b)==false))&&true)&&true))=true:=by decide
theorem Agu:∀a b:Bool,((!((cond a true b)==false))||true)=true:=by decide
theorem Bc7:∀a b c d:Bool,(((!(cond (bif (cond a b false) then c else false) d false))||((cond (bif (cond a b false) then c else false) d false)==true))&&true)=true:=by decide
theorem Baj:∀a b c d:Bool,((!((cond (bif (cond a b false) then c else false) d false)==true))||((((!((cond (bif (cond a b false) then c else false) d false)==true))||((cond (bif (cond a b false) then c else false) d false)==true))&&(((!((cond (bif (cond a b false) then c else false) d false)==true))||((cond (bif (cond a b false) then c else false) d false)==true))&&true))&&true))=true:=by decide
theorem A3m:∀a b c d:Bool,((!((cond (bif (cond a b false) then c else false) d false)==true))||((((!((cond (bif (cond a b false) then c else false) d false)==true))||((cond (bif (cond a b false) then c else false) d false)==true))&&true)&&true))=true:=by decide
theorem A7a:∀a b c d:Bool,((!((cond (bif (cond a b false) then c else false) d false)==true))||true)=true:=by decide
theorem Bc6:∀a b c:Bool,(((!(cond (bif a then b else false) c false))||((cond (bif a then b else false) c false)==true))&&true)=true:=by decide
theorem Bai:∀a b c:Bool,((!((cond (bif a then b else false) c false)==true))||((((!((cond (bif a then b else false) c false)==true))||((cond (bif a then b else false) c false)==true))&&true)&&true))=true:=by decide
theorem Bc5:∀a b c:Bool,((!((cond (bif a then b else false) c false)==true))||true)=true:=by decide
theorem Bah:∀a b:Bool,(((!(cond a b false))||((cond a b false)==true))&&true)=true:=by decide
theorem Aym:∀a b:Bool,((!((cond a b false)==true))||((((!((cond a b false)==true))||((cond a b false)==true))&&true)&&true))=true:=by decide
theorem Bag:∀a b:Bool,((!((cond a b false)==true))||true)=true:=by decide
theorem Baf:∀a b c:Bool,((!(a==true))||((((!(a==true))||(a==true))&&(((!(a==true))||(a==true))&&true))&&(b&&c)))=((!a)||(b&&c)):=by decide
theorem Bae:∀a:Bool,(((a&&true)&&true)&&true)=a:=by decide
theorem Bad:∀a b:Bool,((!(a==true))||((((!(a==true))||(a==true))&&true)&&b))=((!a)||b):=by decide
theorem A3k:∀a b:Bool,((!(a==false))||((((!(a==false))||(a==false))&&true)&&b))=(a||b):=by decide
theorem Bac:∀a b:Bool,(cond a true (!b))=(a||(!b)):=by decide
theorem A69:∀a b c:Bool,((a&&b)&&((a&&c)&&true))=((a&&b)&&(a&&c)):=by decide
theorem Bc4:∀a:Bool,((a&&true)&&true)=a:=by decide
theorem Bab:∀a b c d e:Bool,(cond (bif (cond (bif a then true else b) true c) then true else d) true e)=((((a||b)||c)||d)||e):=by decide
theorem A68:∀a b:Bool,((!((cond a true b)==false))||((((!((cond a true b)==false))||((cond a true b)==false))&&(((!((cond a true b)==false))||((cond a true b)==false))&&true))&&true))=true:=by decide
theorem Baa:∀a b c d:Bool,(cond (bif (cond a true b) then true else c) true d)=(((a||b)||c)||d):=by decide
theorem A99:∀a b c:Bool,((!((cond (bif a then true else b) true c)==false))||((((!((cond (bif a then true else b) true c)==false))||((cond (bif a then true else b) true c)==false))&&(((!((cond (bif a then true else b) true c)==false))||((cond (bif a then true else b) true c)==false))&&true))&&true))=true:=by decide
theorem Bc3:∀a b c:Bool,((!((cond a b false)==true))||((((!((cond a b false)==true))||((cond a b false)==true))&&true)&&c))=((!(a&&b))||c):=by decide
theorem Bc2:∀a b c:Bool,(cond a (bif b then true else c) false)=(a&&(b||c)):=by decide
theorem Bc1:∀a b c:Bool,((!((a==true)&&(b==false)))||((((!((a==true)&&(b==false)))||((a==true)&&(b==false)))&&true)&&c))=((!(a&&(!b)))||c):=by decide
theorem Bc0:∀a b c d:Bool,((!((a==true)&&(b==false)))||((((!((a==true)&&(b==false)))||((a==true)&&(b==false)))&&(((!((a==true)&&(b==false)))||((a==true)&&(b==false)))&&true))&&(c&&d)))=((!(a&&(!b)))||(c&&d)):=by decide
theorem Bcz:∀a b:Bool,((!(a==true))||((((!(a==true))||(a==true))&&(((!(a==true))||(a==true))&&true))&&b))=((!a)||b):=by decide
theorem Bcy:∀a b c:Bool,(((a&&b)&&c)&&true)=((a&&b)&&c):=by decide
theorem A98:∀a:Bool,((((!a)||(a==true))&&true)&&true)=true:=by decide
theorem A97:∀a:Bool,(((!(a==true))||((((!(a==true))||(a==true))&&true)&&true))&&true)=true:=by decide
theorem Bcx:∀a b:Bool,(((!(a==true))||((((!(a==true))||(a==true))&&(((!(a==true))||(a==true))&&(((!(a==true))||(a==true))&&true)))&&b))&&true)=((!a)||b):=by decide
theorem A96:∀a b:Bool,(((!(a==true))||((((!(a==true))||(a==true))&&true)&&b))&&true)=((!a)||b):=by decide
theorem A95:∀a b c:Bool,(((!(a==true))||((((!(a==true))||(a==true))&&(((!(a==true))||(a==true))&&true))&&(b&&c)))&&true)=((!a)||(b&&c)):=by decide
theorem Ahl:∀a:Bool,(((!(a==true))||true)&&true)=true:=by decide
theorem Ba8:∀a b c:Bool,(cond (bif (!a) then true else (!b)) true (!c))=(((!a)||(!b))||(!c)):=by decide
theorem Ayq:∀a b c:Bool,((!((cond (!a) true (!b))==false))||((((!((cond (!a) true (!b))==false))||((cond (!a) true (!b))==false))&&(((!((cond (!a) true (!b))==false))||((cond (!a) true (!b))==false))&&true))&&c))=(((!a)||(!b))||c):=by decide
theorem A6n:∀a b c:Bool,((!((cond (!a) true (!b))==false))||((((!((cond (!a) true (!b))==false))||((cond (!a) true (!b))==false))&&true)&&c))=(((!a)||(!b))||c):=by decide
theorem A6m:∀a b:Bool,((!((!a)==false))||((((!((!a)==false))||((!a)==false))&&(((!((!a)==false))||((!a)==false))&&true))&&b))=((!a)||b):=by decide
theorem Ba7:∀a b:Bool,(cond (!a) b false)=((!a)&&b):=by decide
theorem Ba6:∀a:Bool,((((!(!a))||((!a)==true))&&true)&&true)=true:=by decide
theorem Ba5:∀a b:Bool,(((!((!a)==true))||((((!((!a)==true))||((!a)==true))&&(((!((!a)==true))||((!a)==true))&&true))&&b))&&true)=(a||b):=by decide
theorem A6l:∀a:Bool,(((!((!a)==true))||((((!((!a)==true))||((!a)==true))&&true)&&true))&&true)=true:=by decide
theorem Ayp:∀a b c:Bool,(((!((!a)==true))||((((!((!a)==true))||((!a)==true))&&(((!((!a)==true))||((!a)==true))&&true))&&(b&&c)))&&true)=(a||(b&&c)):=by decide
theorem Ba4:∀a b:Bool,(((!((!a)==true))||((((!((!a)==true))||((!a)==true))&&true)&&b))&&true)=(a||b):=by decide
theorem Al0:∀a:Bool,(((!((!a)==true))||true)&&true)=true:=by decide
theorem Ba2:∀a b c:Bool,(((!(cond (bif a then true else b) true c))||((cond (bif a then true else b) true c)==true))&&true)=true:=by decide
theorem Ba1:∀a b c:Bool,((!((cond (bif a then true else b) true c)==true))||true)=true:=by decide
theorem Ba0:∀a b c:Bool,(cond (bif a then true else b) true c)=((a||b)||c):=by decide
open Go Go.Den Go.Ct Go.Proofs
set_option maxRecDepth 100000
def soft.Split.J4:List (Nat × Fy):=[]
def soft.Split.E:Env:=C6 (Cw soft.Split.J4) (fun _=>false) (fun _=>none) (fun _=>none)
theorem soft.Split.ev(N:Nat)(x:Int):Bv soft.Split.E N f202 (Aj f202) [.int .u64 x]=some (.agg [.bool ((Eo .u64 x 63)==(1:Int)),.int .i64 (Ad (Gl .u64 (Eo .u64 x 52) 2047)),.int .u64 (Gl .u64 x 4503599627370495)]):=by kernel_rfl
abbrev soft.Split.Kn:=E8 prog 202 soft.Split.spec
theorem soft.Split.Ei(hk:Hh prog soft.Split.J4)(h:Hyp soft.Split.E f202 soft.Split.ts soft.Split.pre soft.Split.out):soft.Split.Kn :=Ij (Pq hk _ _ _) func202 (by kernel_rfl) (by kernel_rfl) h
def soft.Kind.J4:List (Nat × Fy):=[(202,soft.Split.spec)]
def soft.Kind.E:Env:=C6 (Cw soft.Kind.J4) (fun _=>false) (fun _=>none) (fun _=>none)
theorem soft.Kind.ev(N:Nat)(x:Int):Bv soft.Kind.E N f165 (Aj f165) [.int .u64 x]=cond (Af x) (bif (((Qb x)==(2047:Int))&&((Dv x)==(0:Int))) then some (.int .i64 3) else bif ((Qb x)==(2047:Int)) then some (.int .i64 4) else bif (Bc 0 (Qb x)) then some (.int .i64 2) else bif (Bc 0 (Dv x)) then some (.int .i64 1) else some (.int .i64 0)) none :=Et (Es (Co (tt0 (En x) _ _) rfl rfl) rfl)
abbrev soft.Kind.Kn:=E8 prog 165 soft.Kind.spec
theorem soft.Kind.Ei(hk:Hh prog soft.Kind.J4)(h:Hyp soft.Kind.E f165 soft.Kind.ts soft.Kind.pre soft.Kind.out):soft.Kind.Kn :=Ij (Pq hk _ _ _) func165 (by kernel_rfl) (by kernel_rfl) h
def soft.Sign.J4:List (Nat × Fy):=[]
def soft.Sign.E:Env:=C6 (Cw soft.Sign.J4) (fun _=>false) (fun _=>none) (fun _=>none)
theorem soft.Sign.ev(N:Nat)(x:Int):Bv soft.Sign.E N f181 (Aj f181) [.int .u64 x]=some (.bool ((Eo .u64 x 63)==(1:Int))):=by kernel_rfl
abbrev soft.Sign.Kn:=E8 prog 181 soft.Sign.spec
theorem soft.Sign.Ei(hk:Hh prog soft.Sign.J4)(h:Hyp soft.Sign.E f181 soft.Sign.ts soft.Sign.pre soft.Sign.out):soft.Sign.Kn :=Ij (Pq hk _ _ _) func181 (by kernel_rfl) (by kernel_rfl) h
def soft.Finite.J4:List (Nat × Fy):=[(165,soft.Kind.spec)]
def soft.Finite.E:Env:=C6 (Cw soft.Finite.J4) (fun _=>false) (fun _=>none) (fun _=>none)
theorem soft.Finite.ev(N:Nat)(x:Int):Bv soft.Finite.E N f136 (Aj f136) [.int .u64 x]=cond (Af x) (bif ((Bb x)==(3:Int)) then some (.bool false) else bif ((Bb x)==(4:Int)) then some (.bool false) else some (.bool true)) none:=by kernel_rfl
abbrev soft.Finite.Kn:=E8 prog 136 soft.Finite.spec
theorem soft.Finite.Ei(hk:Hh prog soft.Finite.J4)(h:Hyp soft.Finite.E f136 soft.Finite.ts soft.Finite.pre soft.Finite.out):soft.Finite.Kn :=Ij (Pq hk _ _ _) func136 (by kernel_rfl) (by kernel_rfl) h
def soft.Eg.J4:List (Nat × Fy):=[]
def soft.Eg.E:Env:=C6 (Cw soft.Eg.J4) (fun _=>false) (fun _=>none) (fun _=>none)
theorem soft.Eg.ev(N:Nat)(x:Int):Bv soft.Eg.E N f81 (Aj f81) [.int .u64 x]=some (.int .u64 (A57 .u64 x 9223372036854775808)):=by kernel_rfl
abbrev soft.Eg.Kn:=E8 prog 81 soft.Eg.spec
theorem soft.Eg.Ei(hk:Hh prog soft.Eg.J4)(h:Hyp soft.Eg.E f81 soft.Eg.ts soft.Eg.pre soft.Eg.out):soft.Eg.Kn :=Ij (Pq hk _ _ _) func81 (by kernel_rfl) (by kernel_rfl) h
def soft.Hg.J4:List (Nat × Fy):=[(202,soft.Split.spec)]
def soft.Hg.E:Env:=C6 (Cw soft.Hg.J4) (fun _=>false) (fun _=>none) (fun _=>none)
theorem soft.Hg.ev(N:Nat)(x:Int):Bv soft.Hg.E N f166 (Aj f166) [.int .u64 x]=cond (Af x) (bif ((Qb x)==(0:Int)) then some (.tup [.int .u64 (Dv x),.int .i64 (-1074:Int)]) else some (.tup [.int .u64 (Kc .u64 (Dv x) 4503599627370496),.int .i64 (Ad ((Qb x)-1075))])) none:=by kernel_rfl
abbrev soft.Hg.Kn:=E8 prog 166 soft.Hg.spec
theorem soft.Hg.Ei(hk:Hh prog soft.Hg.J4)(h:Hyp soft.Hg.E f166 soft.Hg.ts soft.Hg.pre soft.Hg.out):soft.Hg.Kn :=Ij (Pq hk _ _ _) func166 (by kernel_rfl) (by kernel_rfl) h
def soft.Pack.J4:List (Nat × Fy):=[(81,soft.Eg.spec)]
def soft.Pack.E(rk:Nat):Env:=C6 (Cw ((214,Avn [.b,.i .u64,.i .i64] soft.Pack.pre soft.Pack.out soft.Pack.mu rk)::soft.Pack.J4)) (fun _=>false) (fun _=>none) (fun _=>none)
theorem soft.Pack.ev(N rk:Nat)(n:Bool)(m e:Int):Bv (soft.Pack.E rk) N f214 (Aj f214) [.bool n,.int .u64 m,.int .i64 e]=cond (m==(0:Int)) (bif n then cond (Af 0) (some (.int .u64 (B7 0))) none else some (.int .u64 0)) (bif (Fb 9007199254740992 m) then cond ((Ot (Eo .u64 m 1) (Ad (e+1)))&&(Bq ((Tl (Eo .u64 m 1) (Ad (e+1)))<rk))) (some (.int .u64 (Zf n (Eo .u64 m 1) (Ad (e+1))))) none else bif ((Bc m 4503599627370496)&&(Bc (-1074:Int) e)) then cond ((Ot (Cj .u64 m 1) (Ad (e-1)))&&(Bq ((Tl (Cj .u64 m 1) (Ad (e-1)))<rk))) (some (.int .u64 (Zf n (Cj .u64 m 1) (Ad (e-1))))) none else bif (Bc m 4503599627370496) then cond n (bif (Af m) then some (.int .u64 (B7 m)) else none) (some (.int .u64 m)) else bif (Fb 2047 (Ad (e+1075))) then cond n (bif (Af 9218868437227405312) then some (.int .u64 (B7 9218868437227405312)) else none) (some (.int .u64 9218868437227405312)) else bif n then cond (Af (Kc .u64 (Cj .u64 (Bo (Ad (e+1075))) 52) (Gl .u64 m 4503599627370495))) (some (.int .u64 (B7 (Kc .u64 (Cj .u64 (Bo (Ad (e+1075))) 52) (Gl .u64 m 4503599627370495))))) none else some (.int .u64 (Kc .u64 (Cj .u64 (Bo (Ad (e+1075))) 52) (Gl .u64 m 4503599627370495)))) :=Et (Es rfl (Es rfl (Ax (Un (Bc m 4503599627370496)) (Ax (P7 (Bc m 4503599627370496)) (Ax (tt2 (Bc m 4503599627370496)) (Co (tt1 _ _) rfl rfl))))))
theorem soft.Pack.Ei(hk:Hh prog soft.Pack.J4)(h:∀(rk:Nat) (n:Bool) (m e:Int),soft.Pack.pre [.b n,.i m,.i e]=true->soft.Pack.mu [.b n,.i m,.i e]<rk+1->∃N dv drops,Bv (soft.Pack.E rk) N f214 (Aj f214) [.bool n,.int .u64 m,.int .i64 e]=some dv/\Wk drops dv (soft.Pack.out [.b n,.i m,.i e])):E8 prog 214 soft.Pack.spec:=by have call:=Mm (f:=214) func214 (by kernel_rfl) (show f214.body=some (Aj f214) by kernel_rfl);refine⟨Aq6 (E:=soft.Pack.E) func214 (show f214.body=some (Aj f214) by kernel_rfl) soft.Pack.mu (fun rk hm=>Pq (.cons ⟨hm,call⟩ hk) _ _ _) fun rk ats dvs he hp hr=>?_,call⟩;obtain⟨n,_,_,rfl,rfl,he0⟩:=he.Bbx;obtain⟨m,_,_,rfl,rfl,he1⟩:=he0.Aiq;obtain⟨e,_,_,rfl,rfl,he2⟩:=he1.Aiq;obtain⟨rfl,rfl⟩:=he2.Lf;exact h rk n m e hp hr
abbrev soft.Pack.Kn:Prop:=E8 prog 214 soft.Pack.spec
def soft.Ex.hint:Nat->Option A9
 | 0=>some { keep:=[0,1,2,3,10],objs:=[],boxes:=[] }
 | _=>none
def soft.Ex.J4:List (Nat × Fy):=[(165,soft.Kind.spec),(214,soft.Pack.spec)]
def soft.Ex.live:Nat->Option (List Nat)
 | 7=>some [0,1,2,3,10]
 | 12=>some [0,2,3,10,11,12,13,14]
 | 14=>some [0,2,10,11,14]
 | 16=>some [0,2,10,11,14]
 | 18=>some [14,15,16]
 | _=>none
def soft.Ex.E:Env:=C6 (Cw soft.Ex.J4) (fun _=>false) soft.Ex.hint soft.Ex.live
section
variable(N:Nat)(p14_3:Bool)(p15:Int)(M:Nat)(n:Bool)(m e p11 p10_4:Int)(p14_2:Bool)(p10_3 p11_2:Int)(p14_1 r:Bool)(p10_2 p11_1 p12 p13:Int)(p14:Bool)(p10_1 p10:Int)
def soft.Ex.L0:Option DV:=B2 soft.Ex.E N f180 (Aj f180) [1,1,1,0,0] [] M ⟨F3 111 [(0,.bool n),(1,.int .u64 m),(2,.int .i64 e),(3,.bool r),(10,.int .i64 p10)],[]⟩
def soft.Ex.C7:Option DV:=cutAt soft.Ex.E N f180 (Aj f180) [1,1,1,1] [] ⟨F3 111 [(0,.bool n),(1,.int .u64 m),(2,.int .i64 e),(3,.bool r),(10,.int .i64 p10_1)],[]⟩
def soft.Ex.C12:Option DV:=cutAt soft.Ex.E N f180 (Aj f180) [1,1,1,1,1,1,1,1,0] [] ⟨F3 111 [(0,.bool n),(2,.int .i64 e),(3,.bool r),(10,.int .i64 p10_2),(11,.int .u64 p11_1),(12,.int .u64 p12),(13,.int .u64 p13),(14,.bool p14)],[]⟩
def soft.Ex.C14:Option DV:=cutAt soft.Ex.E N f180 (Aj f180) [1,1,1,1,1,1,1,1,1,0] [] ⟨F3 111 [(0,.bool n),(2,.int .i64 e),(10,.int .i64 p10_3),(11,.int .u64 p11_2),(14,.bool p14_1)],[]⟩
def soft.Ex.C16:Option DV:=cutAt soft.Ex.E N f180 (Aj f180) [1,1,1,1,1,1,1,1,1,1] [] ⟨F3 111 [(0,.bool n),(2,.int .i64 e),(10,.int .i64 p10_4),(11,.int .u64 p11),(14,.bool p14_2)],[]⟩
def soft.Ex.C18:Option DV:=cutAt soft.Ex.E N f180 (Aj f180) [1,1,1,1,1,1,1,1,1,1,1,1,0] [] ⟨F3 111 [(14,.bool p14_3),(15,.int .u64 p15),(16,.int .u8 0)],[]⟩
theorem soft.Ex.Ar:soft.Ex.L0 N (M+1) n m e r p10=cond (decide (0<=p10)) (bif ((Fb 9007199254740992 (Eo .u64 m p10))||(Bc (Ad (e+p10)) (-1074:Int))) then cond ((Ad (p10+1))==(63:Int)) (soft.Ex.C7 N n m e r (Ad (p10+1))) (soft.Ex.L0 N M n m e r (Ad (p10+1))) else soft.Ex.C7 N n m e r p10) none :=Et (Es (Ax (Uw (Fb 9007199254740992 (Eo .u64 m p10))) (Ax (Uw (Fb 9007199254740992 (Eo .u64 m p10))) (Ax (tt8 (Fb 9007199254740992 (Eo .u64 m p10))) (Ax (Te (Fb 9007199254740992 (Eo .u64 m p10))) (Ax (tt6 (Fb 9007199254740992 (Eo .u64 m p10))) (Co (tt5 _ _) rfl rfl)))))) rfl)
theorem soft.Ex.Ao0:soft.Ex.C7 N n m e r p10_1=cond (decide (0<=p10_1)) (bif (decide (0<=p10_1)) then cond (Bc 0 p10_1) (bif (decide (0<=(Ad (p10_1-1)))) then soft.Ex.C12 N n e r p10_1 (Eo .u64 m p10_1) (Gl .u64 m (Bo ((Cj .u64 1 p10_1)-1))) (Cj .u64 1 (Ad (p10_1-1))) (cond ((Gl .u64 m (Bo ((Cj .u64 1 p10_1)-1)))==(0:Int)) (!r) false) else none) (soft.Ex.C12 N n e r p10_1 (Eo .u64 m p10_1) (Gl .u64 m (Bo ((Cj .u64 1 p10_1)-1))) 0 (cond ((Gl .u64 m (Bo ((Cj .u64 1 p10_1)-1)))==(0:Int)) (!r) false)) else none) none :=
 yL ((D3 _ _ _ _ _ _ _).trans (by kernel_rfl))
 (Co (Cb _) (Co (Cb _) (Es (Es (Ax (Un ((Gl .u64 m (Bo ((Cj .u64 1 p10_1)-1)))==(0:Int))) (Ax (P7 ((Gl .u64 m (Bo ((Cj .u64 1 p10_1)-1)))==(0:Int))) (Ax (tt2 ((Gl .u64 m (Bo ((Cj .u64 1 p10_1)-1)))==(0:Int))) rfl))) rfl) (Ax (Un ((Gl .u64 m (Bo ((Cj .u64 1 p10_1)-1)))==(0:Int))) (Ax (P7 ((Gl .u64 m (Bo ((Cj .u64 1 p10_1)-1)))==(0:Int))) (Ax (tt2 ((Gl .u64 m (Bo ((Cj .u64 1 p10_1)-1)))==(0:Int))) rfl)))) rfl) rfl)
theorem soft.Ex.Agr:soft.Ex.C12 N n e r p10_2 p11_1 p12 p13 p14=cond ((Bc 0 p10_2)&&((Bc p13 p12)||((p12==p13)&&(r||((Gl .u64 p11_1 1)==(1:Int)))))) (soft.Ex.C14 N n e p10_2 (Bo (p11_1+1)) p14) (soft.Ex.C14 N n e p10_2 p11_1 p14) :=
 yL ((D3 _ _ _ _ _ _ _).trans (by kernel_rfl))
 (Ax (Un (Bc 0 p10_2)) (Ax (Un (Bc 0 p10_2)) (Ax (Auo (Bc 0 p10_2)) (Ax (P7 (Bc 0 p10_2)) (Ax (Ayo (Bc 0 p10_2) (Bc p13 p12)) (Ax (Ayo (Bc 0 p10_2) (Bc p13 p12)) (Ax (Bax (Bc 0 p10_2) (Bc p13 p12)) (Ax (Bay (Bc 0 p10_2) (Bc p13 p12)) (Ax (Bdh (Bc 0 p10_2) (Bc p13 p12) (p12==p13)) (Ax (Bdi (Bc 0 p10_2) (Bc p13 p12) (p12==p13)) (Ax (Bdj (Bc 0 p10_2) (Bc p13 p12) (p12==p13) r) (Ax (Baz (Bc 0 p10_2) (Bc p13 p12) (p12==p13) r) (Ax (Baz (Bc 0 p10_2) (Bc p13 p12) (p12==p13) r) (Ax (Bdk (Bc 0 p10_2) (Bc p13 p12) (p12==p13) r) (Ax (Bdl (Bc 0 p10_2) (Bc p13 p12) (p12==p13)) (Ax (Ba3 (Bc 0 p10_2) (Bc p13 p12)) (Ax (tt2 (Bc 0 p10_2)) (Co (Bdm _ _ _ _ _) rfl rfl))))))))))))))))))
theorem soft.Ex.A9a:soft.Ex.C14 N n e p10_3 p11_2 p14_1=cond (Bc (Ad (e+p10_3)) (-1074:Int)) (soft.Ex.C16 N n e 0 p10_3 p14_1) (soft.Ex.C16 N n e p11_2 p10_3 p14_1):=(D3 _ _ _ _ _ _ _).trans (by kernel_rfl)
theorem soft.Ex.A89:soft.Ex.C16 N n e p11 p10_4 p14_2=cond (Ot p11 (max (Ad (e+p10_4)) (-1074:Int))) (soft.Ex.C18 N p14_2 (Zf n p11 (max (Ad (e+p10_4)) (-1074:Int)))) none:=(D3 _ _ _ _ _ _ _).trans (by kernel_rfl)
theorem soft.Ex.Asb:soft.Ex.C18 N p14_3 p15=cond ((!p14_3)||((I4 .u64 p15 9223372036854775808)==(9218868437227405312:Int))) (bif (Af p15) then cond ((Bb p15)==(3:Int)) (some (.tup [.int .u64 p15,.int .u8 5])) (bif ((Bb p15)==(0:Int)) then cond ((Bb p15)==(0:Int)) (some (.tup [.int .u64 p15,.int .u8 3])) (some (.tup [.int .u64 p15,.int .u8 1])) else bif ((Bb p15)==(1:Int)) then some (.tup [.int .u64 p15,.int .u8 3]) else some (.tup [.int .u64 p15,.int .u8 1])) else none) (some (.tup [.int .u64 p15,.int .u8 0])) :=
 yL ((D3 _ _ _ _ _ _ _).trans (by kernel_rfl))
 (Ax (Xw p14_3) (Ax (R7 p14_3) (Ax (R7 p14_3) (Ax (Aau p14_3) (Co (A7g _ _) rfl rfl)))))
theorem soft.Ex.ev:Bv soft.Ex.E N f180 (Aj f180) [.bool n,.int .u64 m,.int .i64 e,.bool r]=cond ((m==(0:Int))&&(!r)) (bif (Ot 0 (-1074:Int)) then some (.tup [.int .u64 (Zf n 0 (-1074:Int)),.int .u8 0]) else none) (soft.Ex.L0 N N n m e r 0) :=Et (Ax (Un (m==(0:Int))) (Ax (P7 (m==(0:Int))) (Ax (tt2 (m==(0:Int))) (Co (Baw _ _) rfl rfl))))
end
theorem Ac{a b:Bool}:(a&&b)=true↔a=true/\b=true:=by simp
theorem Ati{n:Nat}(hn:n<2^64):((Eo .u64 (n:Int) (63:Int))==(1:Int))=En n:=by rw[show(63:Int)=((63:Nat):Int) from rfl,J3 .u64 n 63 (by decide)];unfold En Be;rw[Ber,Be5];simp only[beq_iff_eq,Bew];omega
theorem A4f{n:Nat}(hn:n<2^64):Ad (Gl .u64 (Eo .u64 (n:Int) (52:Int)) (2047:Int))=Qb n:=by rw[show(52:Int)=((52:Nat):Int) from rfl,J3 .u64 n 52 (by decide),show(2047:Int)=((2^11-1:Nat):Int) from rfl,Li 11 (by omega) (by decide)];unfold Qb D7;rw[Ber,An (by omega) (by omega)]
theorem A1d{n:Nat}(hn:n<2^64):Gl .u64 (n:Int) (4503599627370495:Int)=Dv n:=by rw[show(4503599627370495:Int)=((2^52-1:Nat):Int) from rfl,Li 52 hn (by decide)];unfold Dv Dc;rw[Ber]
theorem soft.Split.Ae:soft.Split.Kn:=soft.Split.Ei .nil fun x hp=>by obtain⟨n,rfl,hn⟩:=Bu (x:=x) hp;refine⟨0,soft.Split.out [.i n],[],?_,Wk.H3 (.cons .bool (.cons .int (.cons .int .nil)))⟩;rw[soft.Split.ev,Ati hn,A4f hn,A1d hn];rfl
theorem soft.Kind.Ae:soft.Kind.Kn:=soft.Kind.Ei (kc soft.Split.Ae .nil) fun x hp=>by
 obtain⟨n,rfl,hn⟩:=Bu (x:=x) hp;refine⟨0,soft.Kind.out [.i n],[],?_,.int⟩;rw[soft.Kind.ev,Cr hn];show _=some (DV.int .i64 (Bb n));unfold Bb Ag Qb Dv;simp only[Ber,Bep,As];have:=K9 n;by_cases h1:D7 n=2047
 ·by_cases h2:Dc n=0
  ·simp[h1,h2]
  ·have:((Dc n:Int)==0)=false:=by simp; exact h2
   simp[h1,this,h2]
 ·have h1':((D7 n:Int)==2047)=false:=by simp; omega
  rw[h1'];by_cases h3:0<D7 n
  ·simp[h1,h3]
  ·by_cases h4:0<Dc n
   ·simp[h1,h3,h4]
   ·simp[h1,h3,h4]
theorem soft.Sign.Ae:soft.Sign.Kn:=soft.Sign.Ei .nil fun x hp=>by obtain⟨n,rfl,hn⟩:=Bu (x:=x) hp;refine⟨0,soft.Sign.out [.i n],[],?_,.bool⟩;rw[soft.Sign.ev,Ati hn];rfl
theorem Afj(n:Nat):Iy n=!(decide (Ag n=3)||decide (Ag n=4)):=by
 have:=K9 n;unfold Iy Ag;by_cases h1:D7 n=2047
 ·by_cases h2:Dc n=0<;>simp[h1,h2]
 ·have:D7 n<2047:=by omega
  by_cases h3:0<D7 n
  ·simp[h1,h3,this]
  ·by_cases h4:0<Dc n<;>simp[h1,h3,h4,this]
theorem soft.Finite.Ae:soft.Finite.Kn:=soft.Finite.Ei (kc soft.Kind.Ae .nil) fun x hp=>by
 obtain⟨n,rfl,hn⟩:=Bu (x:=x) hp;refine⟨0,soft.Finite.out [.i n],[],?_,.bool⟩;rw[soft.Finite.ev,Cr hn];show _=some (DV.bool (Dl n));unfold Dl Bb;rw[Ber,Afj];by_cases h3:Ag n=3
 ·simp[h3]
 ·by_cases h4:Ag n=4
  ·simp[h4]
  ·have e3:((Ag n:Int)==3)=false:=by simp; omega
   have e4:((Ag n:Int)==4)=false:=by simp; omega
   simp[h3,h4,e3,e4]
theorem Awd{n:Nat}(hn:n<2^64):A57 .u64 (n:Int) (9223372036854775808:Int)=B7 n:=by rw[show(9223372036854775808:Int)=((2^63:Nat):Int) from rfl,A2e hn (by decide),A2y hn];unfold B7 Fz;rw[Ber]
theorem soft.Eg.Ae:soft.Eg.Kn:=soft.Eg.Ei .nil fun x hp=>by obtain⟨n,rfl,hn⟩:=Bu (x:=x) hp;refine⟨0,soft.Eg.out [.i n],[],?_,.int⟩;rw[soft.Eg.ev,Awd hn];rfl
theorem soft.Hg.Ae:soft.Hg.Kn:=soft.Hg.Ei (kc soft.Split.Ae .nil) fun x hp=>by
 obtain⟨n,rfl,hn⟩:=Bu (x:=x) hp;refine⟨0,soft.Hg.out [.i n],[],?_,Wk.Ik (.cons .int (.cons .int .nil))⟩;rw[soft.Hg.ev,Cr hn];show _=some (DV.tup [.int .u64 (B4 n),.int .i64 (Bn n)]);have hf:=L8 n;have hp:=K9 n;unfold B4 Bn Qb Dv Ap Aw;rw[Ber];by_cases h:D7 n=0
 ·simp[h]
 ·have e:((D7 n:Int)==0)=false:=by simp; omega
  have e2:Kc .u64 ((Dc n:Nat):Int) (4503599627370496:Int)=((Dc n+2^52:Nat):Int):=by rw[show(4503599627370496:Int)=((1*2^52:Nat):Int) from rfl,Axk (by omega) (by omega)];congr 1; omega
  rw[e,e2,An (by omega) (by omega)];simp[h]
theorem Akm{r:Nat}(h:r<2^63):B7 r=((2^63+r:Nat):Int):=by unfold B7; rw[Ber,Ae6 h]
theorem Rr{r:Nat}(h:r<2^63)(n:Bool):(cond n (bif (Af (r:Int)) then some (DV.int .u64 (B7 r)) else none) (some (DV.int .u64 r)))=some (DV.int .u64 ((Bf n r:Nat):Int)):=by
 cases n
 ·rfl
 ·rw[Cr (by omega),Akm h]; rfl
theorem Sq(n:Bool)(m:Nat)(e:Int):Zf n m e=((Bf n (B9 m e):Nat):Int):=by unfold Zf; rw[Ber]
theorem Aql{E M:Nat}(h1:1<=E)(h2:E<=2046)(h3:4503599627370496<=M)(h4:M<9007199254740992):E*2^52+M%2^52=min ((E-1)*2^52+M) Ea:=by
 obtain⟨k,rfl⟩:∃k,E=k+1:=⟨E-1,by omega⟩
 obtain⟨r,rfl⟩:∃r,M=2^52+r:=⟨M-2^52,by omega⟩
 have hr:r<2^52:=by omega
 have hm:(2^52+r)%2^52=r:=by rw[Nat.add_mod_left,Be2 hr]
 have hk:k*2^52<=2045*2^52:=Be1 _ (by omega);have hi:Ea=2045*2^52+2^52+2^52:=by unfold Ea; rfl
 rw[hm,Nat.add_sub_cancel,Nat.succ_mul,hi];generalize 2^52=c at *
 omega
theorem soft.Pack.Ae:soft.Pack.Kn:=soft.Pack.Ei (kc soft.Eg.Ae .nil) fun rk n m e hp hr=>by
 have hp:=Ak.1 (show Ot m e=true from hp);have hr:Tl m e<rk+1:=hr;obtain⟨m0,m1,e0,e1⟩:=hp;obtain⟨M,rfl⟩:∃M:Nat,m=M:=⟨m.toNat,by omega⟩
 refine⟨0,soft.Pack.out [.b n,.i M,.i e],[],?_,.int⟩;rw[soft.Pack.ev];show _=some (DV.int .u64 (Zf n M e));rw[Sq];unfold Tl at hr;by_cases h0:M=0
 ·subst h0;have:=Rr (r:=0) (by decide) n;have e0:B9 0 e=0:=rfl;rw[e0];simpa using this
 ·have b0:((M:Int)==0)=false:=by simp; omega
  rw[b0,Bet];by_cases h1:M=9007199254740992
  ·have b1:Fb (9007199254740992:Int) (M:Int)=true:=by rw[Fs]; simp; omega
   have s1:Eo .u64 (M:Int) (1:Int)=((2^52:Nat):Int):=by rw[show(1:Int)=((1:Nat):Int) from rfl,J3 .u64 M 1 (by decide),h1]
   have w1:Ad (e+1)=e+1:=An (by omega) (by omega);rw[Bfc (by omega)] at hr;have p1:Ot ((2^52:Nat):Int) (e+1)=true:=Ak.2 (by omega)
   have p2:Bq (Tl ((2^52:Nat):Int) (e+1)<rk)=true:=Ak.2 (by unfold Tl;rw[Bfb (by omega),Bfb (by omega)]; omega)
   rw[b1,s1,w1,p1,p2,Sq,h1];have:=(D1 (2^52) 1 (e+1)).1;have e2:e+1-((1:Nat):Int)=e:=by omega
   rw[e2] at this;rw[<- this]; rfl
  ·have b1:Fb (9007199254740992:Int) (M:Int)=false:=by rw[Fs]; simp; omega
   rw[b1,Bet];rw[Bfb (by omega)] at hr;by_cases h2:M<4503599627370496
   ·have b2:Bc (M:Int) (4503599627370496:Int)=true:=by rw[As]; simp; omega
    rw[Bfc (by omega)] at hr;by_cases h3:e=-1074
    ·subst h3;have b3:Bc (-1074:Int) (-1074)=false:=by decide
     rw[b2,b3,Bf2,Bet,Bep,Aem h2];exact Rr (by omega) n
    ·have b3:Bc (-1074:Int) e=true:=by rw[As]; simp; omega
     have s1:Cj .u64 (M:Int) (1:Int)=((M*2^1:Nat):Int):=by rw[show(1:Int)=((1:Nat):Int) from rfl,He M 1 (by decide),Be2 (by omega)]
     have w1:Ad (e-1)=e-1:=An (by omega) (by omega);have p1:Ot ((M*2^1:Nat):Int) (e-1)=true:=Ak.2 (by omega)
     have p2:Bq (Tl ((M*2^1:Nat):Int) (e-1)<rk)=true:=Ak.2 (by unfold Tl;rw[Bfb (by omega)];split<;>omega)
     rw[b2,b3,s1,w1,p1,p2,Sq];have:=(D1 M 1 e).1;have e2:e-((1:Nat):Int)=e-1:=by omega
     rw[e2] at this;rw[this]; rfl
   ·have b2:Bc (M:Int) (4503599627370496:Int)=false:=by rw[As]; simp; omega
    have w1:Ad (e+1075)=e+1075:=An (by omega) (by omega);rw[b2,w1,Bool.false_and,Bet,Bet];have hr:=Qn (m:=M) (e:=e) (by omega) (by omega) e0;by_cases h4:2047<=e+1075
    ·have b4:Fb (2047:Int) (e+1075)=true:=by rw[Fs]; simp; omega
     have:B9 M e=9218868437227405312:=by rw[hr,Ft]; omega
     rw[b4,this,Bep];exact Rr (r:=9218868437227405312) (by decide) n
    ·have b4:Fb (2047:Int) (e+1075)=false:=by rw[Fs]; simp; omega
     obtain⟨E,hE⟩:∃E:Nat,e+1075=E:=⟨(e+1075).toNat,by omega⟩
     have s1:Kc .u64 (Cj .u64 (Bo (e+1075)) (52:Int)) (Gl .u64 (M:Int) (4503599627370495:Int))=((B9 M e:Nat):Int):=by
      rw[hE,Dx (by omega) (by omega),show(52:Int)=((52:Nat):Int) from rfl,He E 52 (by decide),Be2 (by omega),
       show(4503599627370495:Int)=((2^52-1:Nat):Int) from rfl,Li 52 (by omega) (by decide),Rf (by omega) (by omega)]
      have hE2:(e+1074).toNat=E-1:=by omega
      have hE3:1<=E/\E<=2046:=by omega
      have hM:4503599627370496<=M/\M<9007199254740992:=by omega
      rw[hr,hE2];exact congrArg (fun(x:Nat)=>(x:Int)) (Aql hE3.1 hE3.2 hM.1 hM.2)
     rw[b4,s1,Bet];exact Rr (Qa M e) n
end Go.Proofs.S1
end
