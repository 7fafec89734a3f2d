/- A verified evaluator of the program's form and its use for this seat: S1Env, Rnd, Flt, Words, NearL, IeeL, OrdL, MulL, Limb, DyL, DyV, ExactL, MulW, SumL, MatL, MatW, PowL, RootL, ScaleL, SolW, TriL, HouW, LseW, GgW, RidW, WhoW, HouL. -/
import Derived.Test.YthajngaadbanfaaGreatProg
import Derived.Test.YthajngaadbanfaaGreatTD
set_option linter.unusedVariables false
set_option linter.unusedSimpArgs false
noncomputable section
open Int (toNat)
open List (length getD)
namespace Go.Proofs.S1
open Go Go.Den Go.Proofs
set_option maxRecDepth 100000
abbrev tB:Nat:=43
abbrev tI:Nat:=3
abbrev tMR:Nat:=161
abbrev tW:Nat:=121
def tys:List (Nat × TI):=[
 (2,⟨1,8,(.int .i64),[.int .i64 (0:Int)]⟩),
 (3,⟨1,8,(.int .i64),[.int .i64 (0:Int)]⟩),
 (4,⟨1,1,.bool,[.bool false]⟩),
 (5,⟨1,1,(.int .u8),[.int .u8 (0:Int)]⟩),
 (22,⟨1,24,(.slice 43),[.nil]⟩),
 (24,⟨3,40,(.struct [(0,3),(1,3),(2,22)]),[.int .i64 (0:Int),.int .i64 (0:Int),.nil]⟩),
 (26,⟨14,208,(.struct [(0,24),(3,24),(6,24),(9,24),(12,22),(13,22)]),[.int .i64 (0:Int),.int .i64 (0:Int),.nil,.int .i64 (0:Int),.int .i64 (0:Int),.nil,.int .i64 (0:Int),.int .i64 (0:Int),.nil,.int .i64 (0:Int),.int .i64 (0:Int),.nil,.nil,.nil]⟩),
 (30,⟨1,24,(.slice 121),[.nil]⟩),
 (32,⟨2,32,(.struct [(0,4),(1,30)]),[.bool false,.nil]⟩),
 (34,⟨3,40,(.struct [(0,32),(2,3)]),[.bool false,.nil,.int .i64 (0:Int)]⟩),
 (42,⟨1,8,(.int .u64),[.int .u64 (0:Int)]⟩),
 (43,⟨1,8,(.int .u64),[.int .u64 (0:Int)]⟩),
 (49,⟨1,8,(.int .i64),[.int .i64 (0:Int)]⟩),
 (54,⟨15,216,(.struct [(0,24),(3,24),(6,24),(9,24),(12,22),(13,22),(14,49)]),[.int .i64 (0:Int),.int .i64 (0:Int),.nil,.int .i64 (0:Int),.int .i64 (0:Int),.nil,.int .i64 (0:Int),.int .i64 (0:Int),.nil,.int .i64 (0:Int),.int .i64 (0:Int),.nil,.nil,.nil,.int .i64 (0:Int)]⟩),
 (63,⟨8,112,(.struct [(0,24),(3,24),(6,22),(7,49)]),[.int .i64 (0:Int),.int .i64 (0:Int),.nil,.int .i64 (0:Int),.int .i64 (0:Int),.nil,.nil,.int .i64 (0:Int)]⟩),
 (77,⟨1,24,(.slice 34),[.nil]⟩),
 (79,⟨3,40,(.struct [(0,3),(1,3),(2,77)]),[.int .i64 (0:Int),.int .i64 (0:Int),.nil]⟩),
 (95,⟨6,80,(.array 2 24),[.int .i64 (0:Int),.int .i64 (0:Int),.nil,.int .i64 (0:Int),.int .i64 (0:Int),.nil]⟩),
 (97,⟨7,88,(.struct [(0,24),(3,24),(6,4)]),[.int .i64 (0:Int),.int .i64 (0:Int),.nil,.int .i64 (0:Int),.int .i64 (0:Int),.nil,.bool false]⟩),
 (115,⟨1,24,(.slice 3),[.nil]⟩),
 (121,⟨1,4,(.int .u32),[.int .u32 (0:Int)]⟩),
 (126,⟨1,24,(.slice 24),[.nil]⟩),
 (139,⟨1,1,(.int .u8),[.int .u8 (0:Int)]⟩),
 (144,⟨1,8,.fl,[.fl 0]⟩),
 (156,⟨1,24,(.slice 161),[.nil]⟩),
 (161,⟨2,32,(.struct [(0,22),(1,43)]),[.nil,.int .u64 (0:Int)]⟩),
 (167,⟨3,24,(.struct [(0,43),(1,43),(2,4)]),[.int .u64 (0:Int),.int .u64 (0:Int),.bool false]⟩),
 (173,⟨1,24,(.slice 175),[.nil]⟩),
 (175,⟨3,40,(.struct [(0,22),(1,43),(2,43)]),[.nil,.int .u64 (0:Int),.int .u64 (0:Int)]⟩),
 (180,⟨1,8,(.int .u64),[.int .u64 (0:Int)]⟩),
 (194,⟨3,24,(.struct [(0,4),(1,3),(2,42)]),[.bool false,.int .i64 (0:Int),.int .u64 (0:Int)]⟩),
 (214,⟨1,8,(.int .i64),[.int .i64 (0:Int)]⟩)]
theorem ty2:Ct Tryz.prog 2 ⟨1,8,(.int .i64),[.int .i64 (0:Int)]⟩:=Dp (z:=.int .i64 (0:Int)) (by kernel_rfl) (fun c w=>by simp [Bj,Au,Value.cells]) rfl (by simp [Value.cells,Value.oneCell']) (by simp only [Dd]; exact Tryz.underlying2)
theorem ty3:Ct Tryz.prog 3 ⟨1,8,(.int .i64),[.int .i64 (0:Int)]⟩:=Dp (z:=.int .i64 (0:Int)) (by kernel_rfl) (fun c w=>by simp [Bj,Au,Value.cells]) rfl (by simp [Value.cells,Value.oneCell']) (by simp only [Dd]; exact Tryz.underlying3)
theorem ty4:Ct Tryz.prog 4 ⟨1,1,.bool,[.bool false]⟩:=Dp (z:=.bool false) (by kernel_rfl) (fun c w=>by simp [Bj,Au,Value.cells]) rfl (by simp [Value.cells,Value.oneCell']) (by simp only [Dd]; exact Tryz.underlying4)
theorem ty5:Ct Tryz.prog 5 ⟨1,1,(.int .u8),[.int .u8 (0:Int)]⟩:=Dp (z:=.int .u8 (0:Int)) (by kernel_rfl) (fun c w=>by simp [Bj,Au,Value.cells]) rfl (by simp [Value.cells,Value.oneCell']) (by simp only [Dd]; exact Tryz.underlying5)
theorem A2r:Ct Tryz.prog 22 ⟨1,24,(.slice 43),[.nil]⟩:=Dp (z:=.slice none 0 0) (by kernel_rfl) (fun c w=>by simp [Bj,Au,Value.cells]) rfl (by simp [Value.cells,Value.oneCell']) (by simp only [Dd]; exact Tryz.underlying22)
theorem A2q:Ct Tryz.prog 24 ⟨3,40,(.struct [(0,3),(1,3),(2,22)]),[.int .i64 (0:Int),.int .i64 (0:Int),.nil]⟩:=Dp (z:=.agg #[.int .i64 (0:Int),.int .i64 (0:Int),.slice none 0 0]) (by kernel_rfl) (fun c w=>by simp [Bj,Au,Value.cells]) rfl (by simp [Value.cells,Value.oneCell']) (by simp only [Dd]; exact ⟨_,Tryz.underlying24,by kernel_rfl⟩)
theorem A2p:Ct Tryz.prog 26 ⟨14,208,(.struct [(0,24),(3,24),(6,24),(9,24),(12,22),(13,22)]),[.int .i64 (0:Int),.int .i64 (0:Int),.nil,.int .i64 (0:Int),.int .i64 (0:Int),.nil,.int .i64 (0:Int),.int .i64 (0:Int),.nil,.int .i64 (0:Int),.int .i64 (0:Int),.nil,.nil,.nil]⟩:=Dp (z:=.agg #[.int .i64 (0:Int),.int .i64 (0:Int),.slice none 0 0,.int .i64 (0:Int),.int .i64 (0:Int),.slice none 0 0,.int .i64 (0:Int),.int .i64 (0:Int),.slice none 0 0,.int .i64 (0:Int),.int .i64 (0:Int),.slice none 0 0,.slice none 0 0,.slice none 0 0]) (by kernel_rfl) (fun c w=>by simp [Bj,Au,Value.cells]) rfl (by simp [Value.cells,Value.oneCell']) (by simp only [Dd]; exact ⟨_,Tryz.underlying26,by kernel_rfl⟩)
theorem A2o:Ct Tryz.prog 30 ⟨1,24,(.slice 121),[.nil]⟩:=Dp (z:=.slice none 0 0) (by kernel_rfl) (fun c w=>by simp [Bj,Au,Value.cells]) rfl (by simp [Value.cells,Value.oneCell']) (by simp only [Dd]; exact Tryz.underlying30)
theorem A2n:Ct Tryz.prog 32 ⟨2,32,(.struct [(0,4),(1,30)]),[.bool false,.nil]⟩:=Dp (z:=.agg #[.bool false,.slice none 0 0]) (by kernel_rfl) (fun c w=>by simp [Bj,Au,Value.cells]) rfl (by simp [Value.cells,Value.oneCell']) (by simp only [Dd]; exact ⟨_,Tryz.underlying32,by kernel_rfl⟩)
theorem A2m:Ct Tryz.prog 34 ⟨3,40,(.struct [(0,32),(2,3)]),[.bool false,.nil,.int .i64 (0:Int)]⟩:=Dp (z:=.agg #[.bool false,.slice none 0 0,.int .i64 (0:Int)]) (by kernel_rfl) (fun c w=>by simp [Bj,Au,Value.cells]) rfl (by simp [Value.cells,Value.oneCell']) (by simp only [Dd]; exact ⟨_,Tryz.underlying34,by kernel_rfl⟩)
theorem Azn:Ct Tryz.prog 42 ⟨1,8,(.int .u64),[.int .u64 (0:Int)]⟩:=Dp (z:=.int .u64 (0:Int)) (by kernel_rfl) (fun c w=>by simp [Bj,Au,Value.cells]) rfl (by simp [Value.cells,Value.oneCell']) (by simp only [Dd]; exact Tryz.underlying42)
theorem A2l:Ct Tryz.prog 43 ⟨1,8,(.int .u64),[.int .u64 (0:Int)]⟩:=Dp (z:=.int .u64 (0:Int)) (by kernel_rfl) (fun c w=>by simp [Bj,Au,Value.cells]) rfl (by simp [Value.cells,Value.oneCell']) (by simp only [Dd]; exact Tryz.underlying43)
theorem A2k:Ct Tryz.prog 49 ⟨1,8,(.int .i64),[.int .i64 (0:Int)]⟩:=Dp (z:=.int .i64 (0:Int)) (by kernel_rfl) (fun c w=>by simp [Bj,Au,Value.cells]) rfl (by simp [Value.cells,Value.oneCell']) (by simp only [Dd]; exact Tryz.underlying49)
theorem A2j:Ct Tryz.prog 54 ⟨15,216,(.struct [(0,24),(3,24),(6,24),(9,24),(12,22),(13,22),(14,49)]),[.int .i64 (0:Int),.int .i64 (0:Int),.nil,.int .i64 (0:Int),.int .i64 (0:Int),.nil,.int .i64 (0:Int),.int .i64 (0:Int),.nil,.int .i64 (0:Int),.int .i64 (0:Int),.nil,.nil,.nil,.int .i64 (0:Int)]⟩:=Dp (z:=.agg #[.int .i64 (0:Int),.int .i64 (0:Int),.slice none 0 0,.int .i64 (0:Int),.int .i64 (0:Int),.slice none 0 0,.int .i64 (0:Int),.int .i64 (0:Int),.slice none 0 0,.int .i64 (0:Int),.int .i64 (0:Int),.slice none 0 0,.slice none 0 0,.slice none 0 0,.int .i64 (0:Int)]) (by kernel_rfl) (fun c w=>by simp [Bj,Au,Value.cells]) rfl (by simp [Value.cells,Value.oneCell']) (by simp only [Dd]; exact ⟨_,Tryz.underlying54,by kernel_rfl⟩)
theorem A2i:Ct Tryz.prog 63 ⟨8,112,(.struct [(0,24),(3,24),(6,22),(7,49)]),[.int .i64 (0:Int),.int .i64 (0:Int),.nil,.int .i64 (0:Int),.int .i64 (0:Int),.nil,.nil,.int .i64 (0:Int)]⟩:=Dp (z:=.agg #[.int .i64 (0:Int),.int .i64 (0:Int),.slice none 0 0,.int .i64 (0:Int),.int .i64 (0:Int),.slice none 0 0,.slice none 0 0,.int .i64 (0:Int)]) (by kernel_rfl) (fun c w=>by simp [Bj,Au,Value.cells]) rfl (by simp [Value.cells,Value.oneCell']) (by simp only [Dd]; exact ⟨_,Tryz.underlying63,by kernel_rfl⟩)
theorem A2h:Ct Tryz.prog 77 ⟨1,24,(.slice 34),[.nil]⟩:=Dp (z:=.slice none 0 0) (by kernel_rfl) (fun c w=>by simp [Bj,Au,Value.cells]) rfl (by simp [Value.cells,Value.oneCell']) (by simp only [Dd]; exact Tryz.underlying77)
theorem A2g:Ct Tryz.prog 79 ⟨3,40,(.struct [(0,3),(1,3),(2,77)]),[.int .i64 (0:Int),.int .i64 (0:Int),.nil]⟩:=Dp (z:=.agg #[.int .i64 (0:Int),.int .i64 (0:Int),.slice none 0 0]) (by kernel_rfl) (fun c w=>by simp [Bj,Au,Value.cells]) rfl (by simp [Value.cells,Value.oneCell']) (by simp only [Dd]; exact ⟨_,Tryz.underlying79,by kernel_rfl⟩)
theorem A2f:Ct Tryz.prog 95 ⟨6,80,(.array 2 24),[.int .i64 (0:Int),.int .i64 (0:Int),.nil,.int .i64 (0:Int),.int .i64 (0:Int),.nil]⟩:=Dp (z:=.agg #[.int .i64 (0:Int),.int .i64 (0:Int),.slice none 0 0,.int .i64 (0:Int),.int .i64 (0:Int),.slice none 0 0]) (by kernel_rfl) (fun c w=>by simp [Bj,Au,Value.cells]) rfl (by simp [Value.cells,Value.oneCell']) (by simp only [Dd]; exact Tryz.underlying95)
theorem A2e:Ct Tryz.prog 97 ⟨7,88,(.struct [(0,24),(3,24),(6,4)]),[.int .i64 (0:Int),.int .i64 (0:Int),.nil,.int .i64 (0:Int),.int .i64 (0:Int),.nil,.bool false]⟩:=Dp (z:=.agg #[.int .i64 (0:Int),.int .i64 (0:Int),.slice none 0 0,.int .i64 (0:Int),.int .i64 (0:Int),.slice none 0 0,.bool false]) (by kernel_rfl) (fun c w=>by simp [Bj,Au,Value.cells]) rfl (by simp [Value.cells,Value.oneCell']) (by simp only [Dd]; exact ⟨_,Tryz.underlying97,by kernel_rfl⟩)
theorem Az0:Ct Tryz.prog 115 ⟨1,24,(.slice 3),[.nil]⟩:=Dp (z:=.slice none 0 0) (by kernel_rfl) (fun c w=>by simp [Bj,Au,Value.cells]) rfl (by simp [Value.cells,Value.oneCell']) (by simp only [Dd]; exact Tryz.underlying115)
theorem Azz:Ct Tryz.prog 121 ⟨1,4,(.int .u32),[.int .u32 (0:Int)]⟩:=Dp (z:=.int .u32 (0:Int)) (by kernel_rfl) (fun c w=>by simp [Bj,Au,Value.cells]) rfl (by simp [Value.cells,Value.oneCell']) (by simp only [Dd]; exact Tryz.underlying121)
theorem Azy:Ct Tryz.prog 126 ⟨1,24,(.slice 24),[.nil]⟩:=Dp (z:=.slice none 0 0) (by kernel_rfl) (fun c w=>by simp [Bj,Au,Value.cells]) rfl (by simp [Value.cells,Value.oneCell']) (by simp only [Dd]; exact Tryz.underlying126)
theorem Azx:Ct Tryz.prog 139 ⟨1,1,(.int .u8),[.int .u8 (0:Int)]⟩:=Dp (z:=.int .u8 (0:Int)) (by kernel_rfl) (fun c w=>by simp [Bj,Au,Value.cells]) rfl (by simp [Value.cells,Value.oneCell']) (by simp only [Dd]; exact Tryz.underlying139)
theorem Azw:Ct Tryz.prog 144 ⟨1,8,.fl,[.fl 0]⟩:=Dp (z:=.float .f64 0) (by kernel_rfl) (fun c w=>by simp [Bj,Au,Value.cells,R5]) rfl (by simp [Value.cells,Value.oneCell']) (by simp only [Dd]; exact Tryz.underlying144)
theorem Azv:Ct Tryz.prog 156 ⟨1,24,(.slice 161),[.nil]⟩:=Dp (z:=.slice none 0 0) (by kernel_rfl) (fun c w=>by simp [Bj,Au,Value.cells]) rfl (by simp [Value.cells,Value.oneCell']) (by simp only [Dd]; exact Tryz.underlying156)
theorem Azu:Ct Tryz.prog 161 ⟨2,32,(.struct [(0,22),(1,43)]),[.nil,.int .u64 (0:Int)]⟩:=Dp (z:=.agg #[.slice none 0 0,.int .u64 (0:Int)]) (by kernel_rfl) (fun c w=>by simp [Bj,Au,Value.cells]) rfl (by simp [Value.cells,Value.oneCell']) (by simp only [Dd]; exact ⟨_,Tryz.underlying161,by kernel_rfl⟩)
theorem Azt:Ct Tryz.prog 167 ⟨3,24,(.struct [(0,43),(1,43),(2,4)]),[.int .u64 (0:Int),.int .u64 (0:Int),.bool false]⟩:=Dp (z:=.agg #[.int .u64 (0:Int),.int .u64 (0:Int),.bool false]) (by kernel_rfl) (fun c w=>by simp [Bj,Au,Value.cells]) rfl (by simp [Value.cells,Value.oneCell']) (by simp only [Dd]; exact ⟨_,Tryz.underlying167,by kernel_rfl⟩)
theorem Azs:Ct Tryz.prog 173 ⟨1,24,(.slice 175),[.nil]⟩:=Dp (z:=.slice none 0 0) (by kernel_rfl) (fun c w=>by simp [Bj,Au,Value.cells]) rfl (by simp [Value.cells,Value.oneCell']) (by simp only [Dd]; exact Tryz.underlying173)
theorem Azr:Ct Tryz.prog 175 ⟨3,40,(.struct [(0,22),(1,43),(2,43)]),[.nil,.int .u64 (0:Int),.int .u64 (0:Int)]⟩:=Dp (z:=.agg #[.slice none 0 0,.int .u64 (0:Int),.int .u64 (0:Int)]) (by kernel_rfl) (fun c w=>by simp [Bj,Au,Value.cells]) rfl (by simp [Value.cells,Value.oneCell']) (by simp only [Dd]; exact ⟨_,Tryz.underlying175,by kernel_rfl⟩)
theorem Azq:Ct Tryz.prog 180 ⟨1,8,(.int .u64),[.int .u64 (0:Int)]⟩:=Dp (z:=.int .u64 (0:Int)) (by kernel_rfl) (fun c w=>by simp [Bj,Au,Value.cells]) rfl (by simp [Value.cells,Value.oneCell']) (by simp only [Dd]; exact Tryz.underlying180)
theorem Azp:Ct Tryz.prog 194 ⟨3,24,(.struct [(0,4),(1,3),(2,42)]),[.bool false,.int .i64 (0:Int),.int .u64 (0:Int)]⟩:=Dp (z:=.agg #[.bool false,.int .i64 (0:Int),.int .u64 (0:Int)]) (by kernel_rfl) (fun c w=>by simp [Bj,Au,Value.cells]) rfl (by simp [Value.cells,Value.oneCell']) (by simp only [Dd]; exact ⟨_,Tryz.underlying194,by kernel_rfl⟩)
theorem Azo:Ct Tryz.prog 214 ⟨1,8,(.int .i64),[.int .i64 (0:Int)]⟩:=Dp (z:=.int .i64 (0:Int)) (by kernel_rfl) (fun c w=>by simp [Bj,Au,Value.cells]) rfl (by simp [Value.cells,Value.oneCell']) (by simp only [Dd]; exact Tryz.underlying214)
theorem Axq:T1 Tryz.prog tys:=.cons ty2 <| .cons ty3 <| .cons ty4 <| .cons ty5 <| .cons A2r <| .cons A2q <| .cons A2p <| .cons A2o <| .cons A2n <| .cons A2m <| .cons Azn <| .cons A2l <| .cons A2k <| .cons A2j <| .cons A2i <| .cons A2h <| .cons A2g <| .cons A2f <| .cons A2e <| .cons Az0 <| .cons Azz <| .cons Azy <| .cons Azx <| .cons Azw <| .cons Azv <| .cons Azu <| .cons Azt <| .cons Azs <| .cons Azr <| .cons Azq <| .cons Azp <| .cons Azo <| .nil
def exts:List (Nat × Ext):=[(187,.bits),(190,.frombits),(224,.sqrt),(234,.sub64)]
def Adz:List (Nat × Ext)→Nat→Option Ext
 | [],_=>none
 | (m,e)::l,n=>bif Nat.beq m n then some e else Adz l n
theorem Atf (args:Array Value) (w:World):(callFunc 187 args).run Tryz.prog w=((U4 .bits args).run Tryz.prog w).andThen fun v w'=>.ok (.value v) w':=run_callFunc_extern (e:=Extern.MathFloatBits.float64bits) Tryz.func187 (by kernel_rfl) (by kernel_rfl) (by kernel_rfl) (by kernel_rfl) args w
theorem Ate (args:Array Value) (w:World):(callFunc 190 args).run Tryz.prog w=((U4 .frombits args).run Tryz.prog w).andThen fun v w'=>.ok (.value v) w':=run_callFunc_extern (e:=Extern.MathFloatBits.float64frombits) Tryz.func190 (by kernel_rfl) (by kernel_rfl) (by kernel_rfl) (by kernel_rfl) args w
theorem Atd (args:Array Value) (w:World):(callFunc 224 args).run Tryz.prog w=((U4 .sqrt args).run Tryz.prog w).andThen fun v w'=>.ok (.value v) w':=run_callFunc_extern (e:=Extern.MathSqrt.sqrt) Tryz.func224 (by kernel_rfl) (by kernel_rfl) (by kernel_rfl) (by kernel_rfl) args w
theorem Atc (args:Array Value) (w:World):(callFunc 234 args).run Tryz.prog w=((U4 .sub64 args).run Tryz.prog w).andThen fun v w'=>.ok (.value v) w':=run_callFunc_extern (e:=Zw) Tryz.func234 (by kernel_rfl) (by kernel_rfl) (by kernel_rfl) (by kernel_rfl) args w
def Awb:List Nat:=[194]
theorem A1t:Ali Tryz.prog 194 ⟨3,24,(.struct [(0,4),(1,3),(2,42)]),[.bool false,.int .i64 (0:Int),.int .u64 (0:Int)]⟩ where
 guard:=by kernel_rfl
 eq:=by
  intro w c x y xs ys hx hy hlx hly
  obtain ⟨a0,x1,rfl,hx1⟩:=Z3 hx
  obtain ⟨a1,x2,rfl,hx2⟩:=Tc hx1
  obtain ⟨a2,x3,rfl,hx3⟩:=Tc hx2
  obtain rfl:=Ac7 hx3
  obtain ⟨b0,y1,rfl,hy1⟩:=Z3 hy
  obtain ⟨b1,y2,rfl,hy2⟩:=Tc hy1
  obtain ⟨b2,y3,rfl,hy3⟩:=Tc hy2
  obtain rfl:=Ac7 hy3
  obtain ⟨xs⟩:=xs
  obtain ⟨ys⟩:=ys
  simp only [Bj.Dl,Bj.H0,Au] at hlx hly
  obtain ⟨_,_,rfl,rfl,_,_,rfl,rfl,_,_,rfl,rfl,rfl⟩:=hlx
  obtain ⟨_,_,rfl,rfl,_,_,rfl,rfl,_,_,rfl,rfl,rfl⟩:=hly
  have hu:Tryz.prog.underlying 194=some (.struct (Tryz.prog.fieldsOf 194)):=by kernel_rfl
  have hp:Tryz.prog.stoodInHeld 194=false:=by kernel_rfl
  unfold Op.equal Op.maxDepth
  rw [run_equalIn_struct w 9999 194 _ _ hu hp]
  have hfs:Tryz.prog.fieldsOf 194=(match Tryz.prog.underlying 194 with | some (.struct fs)=>fs | _=>#[]):=rfl
  rw [hfs,Tryz.underlying194]
  simp [Op.eqFields,Q3 w ty3 rfl,Q3 w ty4 rfl,Q3 w Azn rfl,run_equalIn_int w _ _ _ _ _ _ Tryz.underlying3,run_equalIn_bool w _ _ _ _ Tryz.underlying4,run_equalIn_int w _ _ _ _ _ _ Tryz.underlying42,Ais,Air]
  by_cases h0:a0=b0<;>by_cases h1:a1=b1<;>by_cases h2:a2=b2<;>simp [h0,h1,h2]
def Bi (Bc:Nat→Option Entry) (adopt:Nat→Bool) (hint:Nat→Option Ba) (live:Nat→Option (List Nat)):Env:={ ty:=Anb tys,Bc:=Bc,ext:=Adz exts,eqs:=fun t=>Nl t Awb,adopt:=adopt,live:=live,hint:=hint }
theorem A5 {l:List (Nat × Entry)} (h:A2 Tryz.prog l) (adopt:Nat→Bool) (hint:Nat→Option Ba) (live:Nat→Option (List Nat)):Kb Tryz.prog (Bi (Be l) adopt hint live) where
 ty:=fun t ti ht=>Axq.get ht
 Bc:=fun g e hg=>(h.get hg).meets
 call:=fun g e hg=>(h.get hg).call
 ext:=by
  intro g x hx args w
  simp only [Bi,exts,Adz] at hx
  cases hb:Nat.beq 187 g with
  | true =>
    rw [hb] at hx
    cases hx
    obtain rfl:=A4y hb
    exact Atf args w
  | false =>
  rw [hb,A4k] at hx
  clear hb
  cases hb:Nat.beq 190 g with
  | true =>
    rw [hb] at hx
    cases hx
    obtain rfl:=A4y hb
    exact Ate args w
  | false =>
  rw [hb,A4k] at hx
  clear hb
  cases hb:Nat.beq 224 g with
  | true =>
    rw [hb] at hx
    cases hx
    obtain rfl:=A4y hb
    exact Atd args w
  | false =>
  rw [hb,A4k] at hx
  clear hb
  cases hb:Nat.beq 234 g with
  | true =>
    rw [hb] at hx
    cases hx
    obtain rfl:=A4y hb
    exact Atc args w
  | false =>
  rw [hb,A4k] at hx
  clear hb
  cases hx
 eqs:=by
  intro t ti ht hti
  simp only [Bi,Awb,Nl] at ht hti
  cases hb:Nat.beq t 194 with
  | true =>
    obtain rfl:=A4y hb
    cases hti
    exact A1t
  | false =>
  rw [hb,A4k] at ht
  clear hb
  cases ht
 mixed:=by kernel_rfl
def Axe:List (Nat × Ext):=[(187,.bitsN),(190,.frombits),(224,.sqrt),(234,.sub64)]
def Aja:List (Nat × List CK)→Nat→List CK
 | [],_=>[]
 | (m,e)::l,n=>bif Nat.beq m n then e else Aja l n
def X0 (Bc:Nat→Option Entry) (adopt:Nat→Bool) (hint:Nat→Option Ba) (live:Nat→Option (List Nat)) (adv:Nat→List CK):Env:={ ty:=Anb tys,Bc:=Bc,ext:=Adz Axe,eqs:=fun t=>Nl t Awb,adopt:=adopt,live:=live,hint:=hint,adv:=adv }
theorem Zl {l:List (Nat × Entry)} (h:A2 Tryz.prog l) (adopt:Nat→Bool) (hint:Nat→Option Ba) (live:Nat→Option (List Nat)) (adv:Nat→List CK):Kb Tryz.prog (X0 (Be l) adopt hint live adv) :=
 have k:=A5 h adopt hint live
 ⟨k.ty,k.Bc,k.call,(by
  intro g x hx args w
  simp only [X0,Axe,Adz] at hx
  cases hb:Nat.beq 187 g with
  | true =>
    rw [hb] at hx
    cases hx
    obtain rfl:=A4y hb
    exact Atf args w
  | false =>
  rw [hb,A4k] at hx
  clear hb
  cases hb:Nat.beq 190 g with
  | true =>
    rw [hb] at hx
    cases hx
    obtain rfl:=A4y hb
    exact Ate args w
  | false =>
  rw [hb,A4k] at hx
  clear hb
  cases hb:Nat.beq 224 g with
  | true =>
    rw [hb] at hx
    cases hx
    obtain rfl:=A4y hb
    exact Atd args w
  | false =>
  rw [hb,A4k] at hx
  clear hb
  cases hb:Nat.beq 234 g with
  | true =>
    rw [hb] at hx
    cases hx
    obtain rfl:=A4y hb
    exact Atc args w
  | false =>
  rw [hb,A4k] at hx
  clear hb
  cases hx),k.eqs,k.mixed,k.spoil,k.wr⟩
def wr1 (g:Nat) (W:Writer):Nat→Option Writer:=fun h=>bif Nat.beq h g then some W else none
theorem Axl {P:Program}:∀ g W,(fun _=>none:Nat→Option Writer) g=some W→P4 P g W:=fun _ _ h=>by cases h
theorem Ajk {P:Program} {a:Nat} {V:Writer} (h:P4 P a V):∀ g W,wr1 a V g=some W→P4 P g W:=by
 intro g W hg
 unfold wr1 at hg
 cases hb:Nat.beq g a with
 | true =>
   rw [hb] at hg
   cases hg
   obtain rfl:=A4y hb
   exact h
 | false=>rw [hb] at hg; cases hg
def Abp (Bc:Nat→Option Entry) (adopt:Nat→Bool) (hint:Nat→Option Ba) (live:Nat→Option (List Nat)) (wr:Nat→Option Writer) (np:Nat):Env:={ ty:=Anb tys,Bc:=Bc,ext:=Adz exts,eqs:=fun t=>Nl t Awb,adopt:=adopt,live:=live,hint:=hint,wr:=wr,np:=np }
theorem Zk {l:List (Nat × Entry)} (h:A2 Tryz.prog l) {wr:Nat→Option Writer} (hw:∀ g W,wr g=some W→P4 Tryz.prog g W) (adopt:Nat→Bool) (hint:Nat→Option Ba) (live:Nat→Option (List Nat)) (np:Nat):Kb Tryz.prog (Abp (Be l) adopt hint live wr np) :=
 have k:=A5 h adopt hint live
 ⟨k.ty,k.Bc,k.call,k.ext,k.eqs,k.mixed,k.spoil,hw⟩
end Go.Proofs.S1
namespace Go.Rnd
def Oj (V k:Nat):Nat:=V / 2^k+(if 2^k<2*(V%2^k)∨(2*(V%2^k)=2^k∧V / 2^k%2=1) then 1 else 0)
def Lj (V:Nat) (s:Int):Nat:=Oj (V*2^(-s).toNat) s.toNat
def Od (V:Nat) (s:Int):Bool:=decide (V*2^(-s).toNat%2^s.toNat=0)
def Da (M:Nat) (E:Int):Int:=max (E+M.log2-52) (-1074)
def kept (M:Nat) (E:Int):Nat:=Lj M (Da M E-E)
def Ek:Nat:=2047*2^52
def Ck (M:Nat) (E:Int):Nat:=if M=0 then 0 else min ((Da M E+1074).toNat*2^52+kept M E) Ek
def exact (M:Nat) (E:Int):Bool:=Od M (Da M E-E)
def flags (r:Nat) (ex:Bool):Nat:=if r=Ek then 5 else if ex then 0 else if 2^52≤r then 1 else 3
def flagsOf (M:Nat) (E:Int):Nat:=if M=0 then 0 else flags (Ck M E) (exact M E)
theorem Cp (k:Nat):0<2^k:=Nat.pow_pos (by decide)
theorem Qa (V:Nat):Oj V 0=V:=by
 unfold Oj; simp [Nat.mod_one]
theorem Vs (V a k:Nat):Oj (V*2^a) (a+k)=Oj V k:=by
 unfold Oj
 have hA:=Cp a
 have e:2^(a+k)=2^a*2^k:=A45 2 a k
 have hd:V*2^a / 2^(a+k)=V / 2^k:=by
  rw [e,A44 V,Nat.mul_div_mul_left _ _ hA]
 have hm:V*2^a%2^(a+k)=2^a*(V%2^k):=by
  rw [e,A44 V,Nat.mul_mod_mul_left]
 rw [hd,hm,e]
 have h1:(2^a*2^k<2*(2^a*(V%2^k)))↔(2^k<2*(V%2^k)):=by
  rw [Nat.mul_left_comm 2]
  exact Nat.mul_lt_mul_left hA
 have h2:(2*(2^a*(V%2^k))=2^a*2^k)↔(2*(V%2^k)=2^k):=by
  rw [Nat.mul_left_comm 2]
  exact Nat.mul_right_inj (by omega)
 simp only [h1,h2]
theorem mod_mul (V a k:Nat):(V*2^a%2^(a+k)=0)↔(V%2^k=0):=by
 have hA:=Cp a
 rw [A45,A44 V,Nat.mul_mod_mul_left]
 constructor
 ·intro h
  rcases Nat.mul_eq_zero.1 h with h | h
  ·omega
  ·exact h
 ·intro h; rw [h]; rfl
theorem Yl (V k:Nat) (s:Int):Lj (V*2^k) (s+k)=Lj V s∧Od (V*2^k) (s+k)=Od V s:=by
 unfold Lj Od
 by_cases h0:0≤s
 ·have e1:(-(s+k)).toNat=0:=by omega
  have e2:(-s).toNat=0:=by omega
  have e3:(s+k).toNat=k+s.toNat:=by omega
  rw [e1,e2,e3,A5e,A5p,A5p]
  exact ⟨Vs V k _,by simp only [mod_mul]⟩
 ·by_cases h1:0≤s+k
  ·have e1:(-(s+k)).toNat=0:=by omega
   have e2:s.toNat=0:=by omega
   have e3:k=(s+k).toNat+(-s).toNat:=by omega
   rw [e1,e2,A5e,A5p]
   have e4:V*2^k=V*2^(-s).toNat*2^(s+k).toNat:=by
    rw [A47,← A45,Nat.add_comm (-s).toNat,← e3]
   rw [e4]
   refine ⟨?_,?_⟩
   ·have:=Vs (V*2^(-s).toNat) (s+k).toNat 0
    rw [A5o] at this; exact this
   ·have:=mod_mul (V*2^(-s).toNat) (s+k).toNat 0
    rw [A5o,A5e] at this
    simp only [this]
  ·have e1:(s+k).toNat=0:=by omega
   have e2:s.toNat=0:=by omega
   have e3:(-s).toNat=k+(-(s+k)).toNat:=by omega
   rw [e1,e2,e3,A45,A47]
   exact ⟨rfl,rfl⟩
theorem M5 (M k:Nat) (hM:M≠0):(M*2^k).log2=M.log2+k:=by
 have hk:=Cp k
 have hne:M*2^k≠0:=by
  intro h
  rcases Nat.mul_eq_zero.1 h with h | h<;>omega
 have h1:=Nat.log2_self_le hM
 have h2:=Nat.lt_log2_self (n:=M)
 have a:M.log2+k≤(M*2^k).log2:=by
  rw [Nat.le_log2 hne,A45]
  exact A4s _ h1
 have b:(M*2^k).log2<M.log2+k+1:=by
  rw [A5w hne,Nat.add_right_comm,A45]
  exact (Nat.mul_lt_mul_right hk).2 h2
 omega
theorem Wi {n a:Nat} (h1:2^a≤n) (h2:n<2^(a+1)):n.log2=a:=by
 have:=Cp a
 have hn:n≠0:=by omega
 have b1:=(Nat.le_log2 hn).2 h1
 have b2:=(A5w hn).2 h2
 omega
theorem Akx (M k:Nat) (E:Int) (hM:M≠0):Da (M*2^k) (E-k)=Da M E:=by
 unfold Da; rw [M5 M k hM]; congr 1; omega
theorem Jt {M k:Nat} (hM:M≠0):M*2^k≠0:=by
 have:=Cp k
 intro h
 rcases Nat.mul_eq_zero.1 h with h | h<;>omega
theorem D1 (M k:Nat) (E:Int):Ck (M*2^k) (E-k)=Ck M E∧flagsOf (M*2^k) (E-k)=flagsOf M E:=by
 by_cases hM:M=0
 ·subst hM; simp [Ck,flagsOf]
 ·have hl:=Akx M k E hM
  have e:Da M E-(E-k)=Da M E-E+k:=by omega
  have h1:Ck (M*2^k) (E-k)=Ck M E:=by
   unfold Ck kept
   rw [A42 (Jt hM),A42 hM,hl,e,(Yl M k _).1]
  refine ⟨h1,?_⟩
  unfold flagsOf
  rw [A42 (Jt hM),A42 hM,h1]
  unfold exact
  rw [hl,e,(Yl M k _).2]
theorem Ark {V s d k:Nat} (hs:s%2=1) (h1:(s-1)*2^d<V) (h2:V<(s+1)*2^d) (hk:2≤k) :
 Oj V (d+k)=Oj s k∧V%2^(d+k)≠0∧s%2^k≠0:=by
 have hA:=Cp d
 obtain ⟨j,rfl⟩:∃ j,k=j+2:=⟨k-2,by omega⟩
 have hB:2^(j+2)=4*2^j:=by rw [A45]; omega
 have hBp:=Cp (j+2)
 have hC:=Cp j
 have hsd:=Nat.div_add_mod s (2^(j+2))
 have hr2:s%2^(j+2)%2=1:=by
  rw [hB,show 4*2^j=2*(2*2^j) by omega,Nat.mod_mul_right_mod]; exact hs
 have hrlt:=Nat.mod_lt s hBp
 generalize hq:s / 2^(j+2)=q at *
 generalize hr:s%2^(j+2)=r at *
 have hAB:2^(d+(j+2))=2^d*2^(j+2):=A45 2 d (j+2)
 generalize hBB:2^(j+2)=b at *
 generalize hAA:2^d=a at *
 have e1:(s-1)*a=q*(a*b)+(r-1)*a:=by
  have:s-1=b*q+(r-1):=by omega
  rw [this,A5k,A44 b q,A47,A44 b a]
 have e2:(s+1)*a=q*(a*b)+(r+1)*a:=by
  have:s+1=b*q+(r+1):=by omega
  rw [this,A5k,A44 b q,A47,A44 b a]
 have e3:(r+1)*a≤b*a:=A4s a (by omega)
 rw [A44 b a] at e3
 rw [e1] at h1
 rw [e2] at h2
 have hdiv:V / (a*b)=q:=Nat.div_eq_of_lt_le (by omega) (by rw [A5k]; omega)
 have hmod:V%(a*b)=V-q*(a*b):=by
  have:=Nat.div_add_mod V (a*b)
  rw [hdiv,A44 (a*b) q] at this; omega
 have hb2:b=2*(2*2^j):=by omega
 generalize hc:2^j=c at *
 have hR1:(r-1)*a<V-q*(a*b):=by omega
 have hR2:V-q*(a*b)<(r+1)*a:=by omega
 generalize hR:V-q*(a*b)=R at *
 have hab:a*b=2*(2*c*a):=by rw [hb2,A44 a,A47]
 have key:(a*b<2*R∨(2*R=a*b∧q%2=1))↔(b<2*r∨(2*r=b∧q%2=1)):=by
  rw [hab,hb2]
  rcases A5d r (2*c) with hlt | hge
  ·have:(r+1)*a≤2*c*a:=A4s a (by omega)
   constructor<;>(intro h; omega)
  ·have hgt:2*c+1≤r:=by omega
   have:2*c*a≤(r-1)*a:=A4s a (by omega)
   constructor
   ·intro _; left; omega
   ·intro _; left; omega
 refine ⟨?_,?_,?_⟩
 ·unfold Oj
  rw [hAB,hdiv,hmod,hBB,hq,hr]
  simp only [key]
 ·rw [hAB,hmod]
  have:=Nat.zero_le ((r-1)*a)
  omega
 ·omega
theorem Sb {V s d:Nat} {E:Int} (hs:s%2=1) (h1:(s-1)*2^d<V) (h2:V<(s+1)*2^d) (hl:Da V E=Da s (E+d)) (hk:E+d+2≤Da s (E+d)) :
 Ck V E=Ck s (E+d)∧flagsOf V E=flagsOf s (E+d):=by
 have hV:V≠0:=by omega
 have hs0:s≠0:=by omega
 generalize hL:Da s (E+d)=L at *
 obtain ⟨k,hk2⟩:∃ k:Nat,L-(E+d)=k+2:=⟨(L-(E+d)-2).toNat,by omega⟩
 obtain ⟨a1,a2,a3⟩:=Ark (k:=k+2) hs h1 h2 (by omega)
 have e1:(L-E).toNat=d+(k+2):=by omega
 have e2:(-(L-E)).toNat=0:=by omega
 have e3:(L-(E+d)).toNat=k+2:=by omega
 have e4:(-(L-(E+d))).toNat=0:=by omega
 have hr:Ck V E=Ck s (E+d):=by
  unfold Ck kept Lj
  rw [A42 hV,A42 hs0,hl,hL,e1,e2,e3,e4]
  simp only [A5e,A5p]
  rw [a1]
 refine ⟨hr,?_⟩
 unfold flagsOf exact Od
 rw [A42 hV,A42 hs0,hr,hl,hL,e1,e2,e3,e4]
 simp only [A5e,A5p,a2,a3,decide_false]
theorem Sj {V s d:Nat} (hs:s%2=1) (hs3:3≤s) (h1:(s-1)*2^d<V) (h2:V<(s+1)*2^d):V.log2=s.log2+d:=by
 have hs0:s≠0:=by omega
 have a1:=Nat.log2_self_le hs0
 have a2:=Nat.lt_log2_self (n:=s)
 have hl:1≤s.log2:=by rw [Nat.le_log2 hs0]; omega
 obtain ⟨t,ht⟩:∃ t,s.log2=t+1:=⟨s.log2-1,by omega⟩
 rw [ht] at a1 a2 ⊢
 have ev1:2^(t+1)=2*2^t:=by rw [Nat.pow_succ]; omega
 have ev2:2^(t+1+1)=2*(2*2^t):=by rw [Nat.pow_succ,ev1]; omega
 refine Wi ?_ ?_
 ·rw [A45]
  have:2^(t+1)*2^d≤(s-1)*2^d:=A4s _ (by omega)
  omega
 ·have e:t+1+d+1=(t+1+1)+d:=by omega
  rw [e,A45]
  have:(s+1)*2^d≤2^(t+1+1)*2^d:=A4s _ (by omega)
  omega
end Go.Rnd
namespace Go.Rnd
def By (b:Nat):Bool:=decide (2^63≤b)
def Ea (b:Nat):Nat:=b / 2^52%2048
def Dr (b:Nat):Nat:=b%2^52
def Aj (b:Nat):Nat:=if Ea b=2047 then (if Dr b=0 then 3 else 4) else if 0<Ea b then 2 else if 0<Dr b then 1 else 0
def Jy (b:Nat):Bool:=decide (Ea b<2047)
def I5 (b:Nat):Nat:=if 2^63≤b then b-2^63 else b+2^63
def Ay (b:Nat):Nat:=if Ea b=0 then Dr b else Dr b+2^52
def A3 (b:Nat):Int:=if Ea b=0 then -1074 else (Ea b:Int)-1075
def Bo (neg:Bool) (r:Nat):Nat:=if neg then 2^63+r else r
def Ja (neg:Bool) (m:Nat):Int:=if neg then -(m:Int) else m
def Hl (b:Nat) (e:Int):Int:=Ja (By b) (Ay b*2^(A3 b-e).toNat)
def Oc:Nat:=0x7ff8000000000000
def L6 (z:Nat) (S:Int) (e:Int):Nat × Nat :=
 if S=0 then (z,0) else (Bo (decide (S<0)) (Ck S.natAbs e),flagsOf S.natAbs e)
def H4 (a b:Nat):Nat × Nat :=
 if Aj a=4∨Aj b=4 then (Oc,0)
 else if Aj a=3 then (if Aj b=3∧a≠b then (Oc,16) else (a,0))
 else if Aj b=3 then (b,0)
 else L6 (Bo (By a&&By b) 0) (Hl a (min (A3 a) (A3 b))+Hl b (min (A3 a) (A3 b))) (min (A3 a) (A3 b))
def Ax2 (a b:Nat):Nat × Nat:=H4 a (I5 b)
def Hu (neg:Bool) (m:Nat) (e:Int) (F6:Bool):Nat × Nat :=
 (Bo neg (Ck (4*m+F6.toNat) (e-2)),flagsOf (4*m+F6.toNat) (e-2))
def Eb (x:Int):Bool:=By x.toNat
def Nt (x:Int):Int:=Ea x.toNat
def Dw (x:Int):Int:=Dr x.toNat
def Bz (x:Int):Int:=Aj x.toNat
def Dz (x:Int):Bool:=Jy x.toNat
def Cz (x:Int):Int:=I5 x.toNat
def B6 (x:Int):Int:=Ay x.toNat
def Bp (x:Int):Int:=A3 x.toNat
def F0 (neg:Bool) (m e:Int) (F6:Bool):Int:=(Hu neg m.toNat e F6).1
def Fz (neg:Bool) (m e:Int) (F6:Bool):Int:=(Hu neg m.toNat e F6).2
def Dt (a b:Int):Int:=(H4 a.toNat b.toNat).1
def Y2 (a b:Int):Int:=(H4 a.toNat b.toNat).2
def E4 (a b:Int):Int:=(Ax2 a.toNat b.toNat).1
def A1g (a b:Int):Int:=(Ax2 a.toNat b.toNat).2
theorem J4 (b:Nat):Ea b<2048:=Nat.mod_lt _ (by decide)
theorem Kj (b:Nat):Dr b<4503599627370496:=Nat.mod_lt _ (by decide)
theorem Ge (b:Nat):Ay b<9007199254740992:=by
 have:=Kj b
 unfold Ay; split<;>omega
theorem Dy (b:Nat):-1074≤A3 b∧A3 b≤972:=by
 have:=J4 b
 unfold A3; split<;>omega
theorem N7 {m:Nat} {e:Int} (h1:2^52≤m) (h2:m<2^53) (he:-1074≤e):Ck m e=min ((e+1074).toNat*2^52+m) Ek:=by
 have hl:m.log2=52:=Wi h1 h2
 have hm:m≠0:=by omega
 have hle:Da m e=e:=by unfold Da; rw [hl]; omega
 unfold Ck kept
 rw [A42 hm,hle,Int.sub_self]
 unfold Lj
 simp [Qa]
theorem Z7 {m:Nat} (h2:m<2^52):Ck m (-1074)=m:=by
 by_cases hm:m=0
 ·subst hm; rfl
 ·have hl:m.log2<52:=(A5w hm).2 h2
  have hle:Da m (-1074)=-1074:=by unfold Da; omega
  unfold Ck kept
  rw [A42 hm,hle,Int.sub_self]
  unfold Lj Ek
  simp [Qa]
  omega
theorem Km (m:Nat) (e:Int):Ck m e≤Ek:=by
 unfold Ck
 split
 ·exact Nat.zero_le _
 ·exact Nat.min_le_right _ _
theorem Gb:Ek=9218868437227405312:=rfl
theorem Q2 (m:Nat) (e:Int):Ck m e<2^63:=by
 have:=Km m e
 rw [Gb] at this
 omega
theorem Vl (n:Bool) (m:Nat) (e:Int):Bo n (Ck m e)<2^64:=by
 have:=Q2 m e
 unfold Bo; split<;>omega
theorem Aax {r:Nat} (h:r<2^63):I5 r=2^63+r:=by
 unfold I5; rw [A42 (by omega)]; omega
end Go.Rnd
namespace Go.Rnd
open Go.Den
def Mi (m e:Int):Bool:=B5 (0≤m∧m≤9007199254740992∧-1074≤e∧e+m / 9007199254740992≤100000)
def Q7 (m e:Int):Nat:=if 9007199254740992≤m then 1 else if m<4503599627370496 then 2+(e+1074).toNat else 0
def Vy (n:Bool) (m e:Int):Int:=Bo n (Ck m.toNat e)
def Fe (m e:Int) (r:Bool):Bool :=
 B5 (0≤m∧m<18446744073709551616∧e≤50000∧(-1137≤e∨(m<4611686018427387904∧-1140≤e))∧(r=true→4503599627370496≤m∨e≤-1074))
def He (n D:Nat):Nat:=if n%2^D=0 then n / 2^D else 2*(n / 2^D / 2)+1
def Gi (m d:Int):Int:=He m.toNat (min d.toNat 63)
def Bs (l:List Int):Bool:=B5 (l.length<4611686018427387904∧∀ x∈l,Af x=true)
def Es (x:Nat):Nat:=if Aj x=4 then Oc else x
def Abw (x:Int):Int:=Es x.toNat
def Hf (x:Nat):Int:=Es x
def Oo (x:Int):Bool:=B5 (0≤x)
theorem Kh (n:Nat):Oo (n:Int)=true:=Aq.2 (Int.natCast_nonneg n)
theorem V9 {x:Int} (h:Oo x=true):∃ n:Nat,x=n:=⟨x.toNat,by have:=Aq.1 h; omega⟩
end Go.Rnd
namespace Go.Rnd
theorem A1j (a c:Nat):(a+1)*c+c=a*c+(c+c):=by rw [A5k,Nat.one_mul,Nat.add_assoc]
theorem Az1:2^52+2^52=2^53:=by decide
theorem A1i (a:Nat):(a+1)*2^52+2^52=a*2^52+2^53:=(A1j a (2^52)).trans (congrArg (fun x=>a*2^52+x) Az1)
theorem Axr:2^52*2^1=2^53:=by decide
theorem Au7 {E:Int}:Ck (2^53) E=Ck (2^52) (E+1):=by
 have:=(D1 (2^52) 1 (E+1)).1
 have e1:E+1-((1:Nat):Int)=E:=by omega
 rw [e1,Axr] at this
 exact this
theorem Arc {E:Int} (hE:-1074≤E):Ck (2^53) E=min ((E+1074).toNat*2^52+2^53) Ek:=by
 have e3:(E+1+1074).toNat=(E+1074).toNat+1:=by omega
 rw [Au7,N7 (by decide) (by decide) (by omega),e3]
 exact congrArg (fun x=>min x Ek) (A1i _)
theorem Anv {q:Nat} {E:Int} (h1:q≤2^53) (hE:-1074≤E) (h2:2^52≤q∨E=-1074):Ck q E=min ((E+1074).toNat*2^52+q) Ek:=by
 by_cases ha:q=2^53
 ·rw [ha]; exact Arc hE
 ·by_cases hb:2^52≤q
  ·exact N7 hb (by omega) hE
  ·obtain rfl:E=-1074:=h2.resolve_left hb
   rw [Z7 (by omega)]
   unfold Ek
   simp
   omega
theorem An8 {M D s:Nat} (hs:s≤1):Oj (4*M+s) (D+2)=M / 2^D+(if 0<D∧(2^(D-1)<M%2^D∨(M%2^D=2^(D-1)∧(s=1∨M / 2^D%2=1))) then 1 else 0) ∧
 ((4*M+s)%2^(D+2)=0↔M%2^D=0∧s=0):=by
 have hp:2^(D+2)=2^D*4:=by rw [A45]
 have hA:=Cp D
 have hdm:=Nat.div_add_mod M (2^D)
 have hlt:=Nat.mod_lt M hA
 have hdiv:(4*M+s) / (2^D*4)=M / 2^D:=by
  rw [A44 (2^D) 4,← A49]
  congr 1; omega
 have hmod:(4*M+s)%(2^D*4)=4*(M%2^D)+s:=by
  have h:=Nat.div_add_mod (4*M+s) (2^D*4)
  rw [hdiv] at h
  have e:2^D*4*(M / 2^D)=4*(2^D*(M / 2^D)):=by rw [A44 (2^D) 4,A47]
  rw [e] at h
  omega
 unfold Oj
 rw [hp,hdiv,hmod]
 generalize M%2^D=r at *
 generalize M / 2^D=q at *
 refine ⟨?_,by omega⟩
 congr 1
 have key:(2^D*4<2*(4*r+s)∨2*(4*r+s)=2^D*4∧q%2=1)↔(0<D∧(2^(D-1)<r∨(r=2^(D-1)∧(s=1∨q%2=1)))):=by
  cases D with
  | zero=>simp only [A5e] at hlt ⊢; omega
  | succ d =>
    rw [Nat.pow_succ] at hlt ⊢
    simp only [Nat.add_sub_cancel]
    generalize 2^d=c at *
    omega
 simp only [key]
structure Drop (M:Nat) (e:Int) (D:Nat):Prop where
 le:D≤63
 stop:D<63→M / 2^D<2^53∧-1074≤e+D
 least:∀ d,d<D→2^53≤M / 2^d∨e+d < -1074
def qOf (M D s:Nat):Nat:=M / 2^D+(if 0<D∧(2^(D-1)<M%2^D∨(M%2^D=2^(D-1)∧(s=1∨M / 2^D%2=1))) then 1 else 0)
theorem Arp {M D s:Nat} (h:M / 2^D<2^53):qOf M D s≤2^53:=by
 unfold qOf; split<;>omega
theorem Arq {M D s:Nat}:M / 2^D≤qOf M D s:=by unfold qOf; omega
theorem Ay0 {M D:Nat} {c:Nat} (h:M / 2^D<c):M<c*2^D:=(Nat.div_lt_iff_lt_mul (Cp D)).1 h
theorem Asr {M D:Nat} {c:Nat} (h:c≤M / 2^D):c*2^D≤M:=(Nat.le_div_iff_mul_le (Cp D)).1 h
theorem Aa7 {V:Nat} {E L:Int} (h:(E+V.log2-52=L∧-1074≤L)∨(E+V.log2-52≤L∧L=-1074)):Da V E=L:=by unfold Da; omega
theorem Ao0 {M s:Nat} (hs:s≤1) (hM:M≠0):(4*M+s).log2=M.log2+2:=by
 have h1:=Nat.log2_self_le hM
 have h2:=Nat.lt_log2_self (n:=M)
 refine Wi ?_ ?_
 ·rw [A45]; omega
 ·have e:2^(M.log2+2+1)=2^(M.log2+1)*4:=by rw [show M.log2+2+1=M.log2+1+2 by omega,A45]
  omega
theorem Aoq {M D s:Nat} {e:Int} (hD:Drop M e D) (hs:s≤1) (hV:4*M+s≠0) (hM:M<2^64) (he:-1137≤e∨(M<2^62∧-1140≤e)) (hr:s=1→2^52≤M∨e≤-1074) :
 Ck (4*M+s) (e-2)=Ck (if e+D < -1074 then 0 else qOf M D s) (max (e+D) (-1074)) ∧
 flagsOf (4*M+s) (e-2)=flags (Ck (4*M+s) (e-2)) (decide (M%2^D=0∧s=0)) ∧
 (if e+D < -1074 then 0 else qOf M D s)≤2^53:=by
 have hA:=Cp D
 by_cases hlow:e+D < -1074
 ·
  have hD63:D=63:=by
   rcases A5d D 63 with h | h
   ·have:=(hD.stop h).2; omega
   ·have:=hD.le; omega
  subst hD63
  have hM62:M<2^62:=by rcases he with h | h; omega; exact h.1
  have he2:-1140≤e:=by rcases he with h | h; omega; exact h.2
  have hV64:4*M+s<2^64:=by omega
  have hlog:(4*M+s).log2<64:=(A5w hV).2 hV64
  have hl:Da (4*M+s) (e-2)=-1074:=Aa7 (.inr ⟨by omega,rfl⟩)
  obtain ⟨k,hk⟩:∃ k:Nat,(-1074-(e-2)).toNat=66+k:=⟨(-1074-(e-2)).toNat-66,by omega⟩
  have e2:(-(-1074-(e-2))).toNat=0:=by omega
  have hp:2^66≤2^(66+k):=A4v (by decide) (by omega)
  have hsm:4*M+s<2^(66+k):=by omega
  have hz:Lj (4*M+s) (-1074-(e-2))=0:=by
   unfold Lj Oj
   rw [e2,hk,A5e,A5p,Nat.div_eq_of_lt hsm,A4t hsm,A42 (by omega)]
  have hru:Ck (4*M+s) (e-2)=0:=by
   unfold Ck kept
   rw [A42 hV,hl,hz]
   simp
  refine ⟨?_,?_,?_⟩
  ·rw [hru,A43 hlow]; rfl
  ·unfold flagsOf exact Od
   rw [A42 hV,hl,e2,hk,A5e,A5p,A4t hsm]
   congr 1
   have h63:M%2^63=M:=A4t (by omega)
   rw [h63,A4w]
   simp only [A4n]
   omega
  ·rw [A43 hlow]; exact Nat.zero_le _
 ·have hmax:max (e+D) (-1074)=e+D:=by omega
  have hq:M / 2^D<2^53:=by
   rcases A5d D 63 with h | h
   ·exact (hD.stop h).1
   ·have:D=63:=by have:=hD.le; omega
    subst this
    exact A5i (Nat.div_le_of_le_mul (show M≤2^63*2 by omega)) (by decide)
  obtain ⟨c1,c2⟩:=An8 (M:=M) (D:=D) hs
  rw [A42 hlow,hmax]
  refine ⟨?_,?_,Arp hq⟩
  all_goals
   by_cases hD0:D=0∧s=0
   ·obtain ⟨rfl,rfl⟩:=hD0
    have hM0:M≠0:=by omega
    obtain ⟨s1,s2⟩:=D1 M 2 e
    have e1:M*2^2=4*M+0:=by omega
    have e2:e-((2:Nat):Int)=e-2:=by omega
    rw [e1,e2] at s1 s2
    have hq0:qOf M 0 0=M:=by unfold qOf; simp
    have hle:Da M e≤e:=by
     have:M.log2<53:=(A5w hM0).2 (by simpa using hq)
     unfold Da; simp only [Int.natCast_zero,Int.add_zero] at hlow; omega
    first
    | (rw [s1,hq0]; simp; done)
    | (rw [s2,s1]
       unfold flagsOf exact Od
       have z:(Da M e-e).toNat=0:=by omega
       rw [A42 hM0,z]
       simp [Nat.mod_one])
   ·
    have hl:Da (4*M+s) (e-2)=e+D:=by
     by_cases hM0:M=0
     ·subst hM0
      have hs1:s=1:=by omega
      subst hs1
      have hle:e+D=-1074:=by
       rcases Nat.eq_zero_or_pos D with rfl | hpos
       ·have:=hr rfl; omega
       ·have h:=hD.least (D-1) (by omega)
        simp only [Nat.zero_div] at h
        omega
      refine Aa7 (.inr ⟨?_,hle⟩)
      have:(4*0+1:Nat).log2=0:=by decide
      rw [this]; omega
     ·have hlog:=Ao0 hs hM0
      have hub:M.log2<53+D:=by
       rw [A5w hM0,A45]; exact Ay0 hq
      have hcase:52+D≤M.log2∨e+D=-1074:=by
       rcases Nat.eq_zero_or_pos D with rfl | hpos
       ·have hs1:s=1:=by omega
        rcases hr hs1 with h | h
        ·left; rw [Nat.le_log2 hM0]; simpa using h
        ·right; simp only [Int.natCast_zero,Int.add_zero] at hlow ⊢; omega
       ·rcases hD.least (D-1) (by omega) with h | h
        ·left
         rw [Nat.le_log2 hM0]
         have:=Asr h
         have e1:2^(52+D)=2^53*2^(D-1):=by rw [← A45]; congr 1; omega
         rw [e1]; exact this
        ·right; omega
      refine Aa7 ?_
      rw [hlog]
      rcases hcase with h | h
      ·left; omega
      ·right; omega
    have e1:(e+D-(e-2)).toNat=D+2:=by omega
    have e2:(-(e+(D:Int)-(e-2))).toNat=0:=by omega
    have hkept:kept (4*M+s) (e-2)=qOf M D s:=by
     unfold kept Lj
     rw [hl,e1,e2,A5e,A5p,c1]; rfl
    first
    | (have hbig:2^52≤qOf M D s∨e+D=-1074:=by
        rcases Nat.eq_zero_or_pos D with rfl | hpos
        ·have hs1:s=1:=by omega
         rcases hr hs1 with h | h
         ·left; exact A5n (by simpa using h) Arq
         ·right; simp only [Int.natCast_zero,Int.add_zero] at hlow ⊢; omega
        ·rcases hD.least (D-1) (by omega) with h | h
         ·left
          refine A5n ?_ Arq
          rw [Nat.le_div_iff_mul_le hA]
          have:=Asr h
          have e1:2^52*2^D=2^53*2^(D-1):=by rw [← A45,← A45]; congr 1; omega
          rw [e1]; exact this
         ·right; omega
       rw [Anv (Arp hq) (by omega) hbig]
       unfold Ck
       rw [A42 hV,hl,hkept]; done)
    | (unfold flagsOf exact Od
       rw [A42 hV,hl,e1,e2,A5e,A5p]
       congr 1
       rw [A4w]
       simp only [A4n]
       exact c2)
theorem Xk (n:Bool) {r:Nat} (h:r<2^63):Ea (Bo n r)=r / 2^52:=by
 unfold Ea Bo; cases n
 ·simp only [Bool.false_eq_true,if_false]; omega
 ·simp only [if_true]; omega
theorem U2 (n:Bool) (r:Nat):Dr (Bo n r)=r%2^52:=by
 unfold Dr Bo; cases n
 ·rfl
 ·simp only [if_true]; omega
theorem Xw (n:Bool) {r:Nat} (h:r≤Ek):Aj (Bo n r)=if r=Ek then 3 else if 2^52≤r then 2 else if 0<r then 1 else 0:=by
 rw [Gb] at *
 unfold Aj
 rw [Xk n (by omega),U2]
 by_cases h1:r=9218868437227405312
 ·subst h1; simp
 ·rw [A42 h1,A42 (by omega)]
  by_cases h2:2^52≤r
  ·rw [A43 h2,A43 (by omega)]
  ·rw [A42 h2,A42 (by omega)]
   by_cases h3:0<r
   ·rw [A43 h3,A43 (by omega)]
   ·rw [A42 h3,A42 (by omega)]
end Go.Rnd
namespace Go.Rnd
open Ieee
theorem Ay1 (neg:Bool) (V k:Nat):Toward.even.cut neg V k=Oj V k:=by
 unfold Toward.cut Oj
 simp only [Nat.shiftLeft_eq,Nat.one_mul]
 by_cases h:k≤V.log2+2
 ·rw [Nat.min_eq_left h]
  congr 1
  by_cases h1:2^k<2*(V%2^k)
  ·simp [h1]
  ·by_cases h2:2*(V%2^k)=2^k∧V / 2^k%2=1
   ·simp [h2.1,h2.2]
   ·simp [h1,h2]
    intro h3
    have:=Nat.mod_lt (V / 2^k) (show 0<2 by decide)
    omega
 ·rw [Nat.min_eq_right (by omega)]
  have hV:V<2^(V.log2+1):=Nat.lt_log2_self
  have e:2^(V.log2+2)=2*2^(V.log2+1):=by rw [Nat.pow_succ,A44]
  have hk:2^(V.log2+2)≤2^k:=A4v (by decide) (by omega)
  have d1:V / 2^(V.log2+2)=0:=Nat.div_eq_of_lt (by omega)
  have d2:V / 2^k=0:=Nat.div_eq_of_lt (by omega)
  have m1:V%2^(V.log2+2)=V:=A4t (by omega)
  have m2:V%2^k=V:=A4t (by omega)
  rw [d1,d2,m1,m2]
  have c1:¬ (2^(V.log2+2)<2*V):=by omega
  have c2:¬ (2^k<2*V):=by omega
  simp [c1,c2]
theorem Auo (neg:Bool) (r:Nat):Ieee.double.word neg r=Bo neg r:=rfl
theorem Akk (neg:Bool) (M:Nat) (E:Int):Ieee.double.nearest neg M E=Bo neg (Ck M E):=by
 unfold Format.nearest Ck
 by_cases h:M=0
 ·rw [A43 h,A43 h]; rfl
 ·rw [A42 h,A42 h,Auo]
  have e1:Ieee.double.leastPlace=-1074:=by decide
  have e2:max (E+(M.log2:Int)-(Ieee.double.fractionBits:Int)) Ieee.double.leastPlace=Da M E:=by rw [e1]; rfl
  rw [e2,e1,Ay1,Nat.shiftLeft_eq]
  unfold kept Lj
  have e3:(-(Da M E-E)).toNat=(E-Da M E).toNat:=by congr 1; omega
  have e4:Da M E - -1074=Da M E+1074:=by omega
  rw [e3,e4]
  rfl
theorem H7 (b:Nat):(Ea b=2047∧Dr b=0∧Aj b=3)∨(Ea b=2047∧Dr b≠0∧Aj b=4)∨(Ea b<2047∧Aj b≠3∧Aj b≠4):=by
 have:=J4 b
 unfold Aj
 by_cases h1:Ea b=2047
 ·by_cases h2:Dr b=0<;>simp [h1,h2]
 ·refine .inr (.inr ⟨by omega,?_⟩)
  rw [A42 h1]
  split
  ·decide
  ·split<;>decide
theorem Ph (b:Nat):b%2^63=Ea b*2^52+Dr b:=by unfold Ea Dr; omega
def P9 (b:Nat):Datum:=if Aj b=4 then .nan (By b) (Dr b) else if Aj b=3 then .infinity (By b) else .number (By b) (Ay b) (A3 b)
theorem J3 {b:Nat} (h:b<2^64):Ieee.double.read b=P9 b:=by
 unfold Format.read P9
 have e0:Ieee.double.signWeight=2^63:=rfl
 have e1:Ieee.double.leastPlace=-1074:=by decide
 have e2:Ieee.double.binade=2^52:=rfl
 have e3:Ieee.double.infRung=Ek:=rfl
 have hn:(b / 2^63%2==1)=By b:=by
  unfold By
  rw [A4w]
  simp only [beq_iff_eq,A4n]
  omega
 dsimp only
 rw [e0,e1,e2,e3,hn,Ph,Gb]
 have hf:Dr b<2^52:=Kj b
 rcases H7 b with ⟨h1,h2,h3⟩ | ⟨h1,h2,h3⟩ | ⟨h1,h2,h3⟩
 ·rw [A42 (by omega),A42 (by omega),A43 (by omega),A42 (by omega),A43 h3]
 ·rw [A42 (by omega),A42 (by omega),A42 (by omega),A43 h3]
  have e:Ea b*2^52+Dr b-9218868437227405312=Dr b:=by omega
  rw [e]
 ·rw [A42 h3,A42 h2]
  by_cases h0:Ea b=0
  ·rw [A43 (by omega)]
   unfold Ay A3
   rw [A43 h0,A43 h0,h0,Nat.zero_mul,A5q]
  ·rw [A42 (by omega),A43 (by omega)]
   unfold Ay A3
   rw [A42 h0,A42 h0]
   have m1:(Ea b*2^52+Dr b)%2^52=Dr b:=by omega
   have m2:(Ea b*2^52+Dr b) / 2^52=Ea b:=by omega
   have e:(-1074:Int)+((Ea b-1:Nat):Int)=(Ea b:Int)-1075:=by omega
   rw [m1,m2,Nat.add_comm (2^52),e]
theorem Am8 (s:Bool):Ieee.double.write (.infinity s)=Bo s Ek:=rfl
theorem N2 (s:Bool) (m:Nat) (e:Int):Ieee.double.write (.number s m e)=Bo s (Ck m e):=Akk s m e
theorem Mn {b:Nat} (h:b<2^64) (h3:Aj b=3):Bo (By b) Ek=b:=by
 rcases H7 b with ⟨h1,h2,_⟩ | ⟨_,_,h4⟩ | ⟨_,h4,_⟩
 ·have e:=Ph b
  rw [h1,h2] at e
  rw [Gb]
  unfold Bo By
  by_cases hb:2^63≤b
  ·simp [hb]; omega
  ·simp [hb]; omega
 ·omega
 ·omega
theorem H8 (s:Bool) {r:Nat} (h:r≤Ek):Es (Bo s r)=Bo s r:=by
 unfold Es
 rw [A42]
 rw [Xw s h]
 split
 ·decide
 ·split
  ·decide
  ·split<;>decide
theorem S9 (s:Bool) (m up:Nat):Ieee.signed s m up=Ja s (m*2^up):=by
 unfold Ieee.signed Ja
 rw [Nat.shiftLeft_eq]
theorem Ik {b:Nat} (h:Aj b=4):P9 b=.nan (By b) (Dr b):=A43 h
theorem Fh {b:Nat} (h:Aj b=3):P9 b=.infinity (By b):=by unfold P9; rw [A42 (by omega),A43 h]
theorem Fg {b:Nat} (h3:Aj b≠3) (h4:Aj b≠4):P9 b=.number (By b) (Ay b) (A3 b):=by unfold P9; rw [A42 h4,A42 h3]
theorem Auc {a b:Nat} (h:Aj a=4∨Aj b=4):H4 a b=(Oc,0):=A43 h
theorem Aje {a b:Nat} (h4:¬ (Aj a=4∨Aj b=4)) (h:Aj a=3):H4 a b=(if Aj b=3∧a≠b then (Oc,16) else (a,0)):=by unfold H4; rw [A42 h4,A43 h]
theorem Aee {a b:Nat} (h4:¬ (Aj a=4∨Aj b=4)) (h:Aj a≠3) (h':Aj b=3):H4 a b=(b,0):=by unfold H4; rw [A42 h4,A42 h,A43 h']
theorem W0 {a b:Nat} (h4:¬ (Aj a=4∨Aj b=4)) (h:Aj a≠3) (h':Aj b≠3) :
 H4 a b=L6 (Bo (By a&&By b) 0) (Hl a (min (A3 a) (A3 b))+Hl b (min (A3 a) (A3 b))) (min (A3 a) (A3 b)):=by
 unfold H4; rw [A42 h4,A42 h,A42 h']
theorem Au0 (s:Bool) (m:Nat) (i:Int) (t:Bool) (n:Nat) (j:Int):(Datum.number s m i).sum (Datum.number t n j) =
 some (.number (if Ja s (m*2^(i-min i j).toNat)+Ja t (n*2^(j-min i j).toNat)=0 then s&&t else Ja s (m*2^(i-min i j).toNat)+Ja t (n*2^(j-min i j).toNat)<0)
  (Ja s (m*2^(i-min i j).toNat)+Ja t (n*2^(j-min i j).toNat)).natAbs (min i j)):=by
 rw [← S9,← S9]
 rfl
theorem Agt {a b:Nat} (ha:a<2^64) (hb:b<2^64) {d:Nat} (hd:Aj d=4) :
 Es ((((P9 a).sum (P9 b)).map Ieee.double.write).getD d)=(H4 a b).1:=by
 have cd:Es d=Oc:=A43 hd
 by_cases h4:Aj a=4∨Aj b=4
 ·rw [Auc h4]
  by_cases a4:Aj a=4
  ·rw [Ik a4]; exact cd
  ·have b4:=h4.resolve_left a4
   rw [Ik b4]
   by_cases a3:Aj a=3
   ·rw [Fh a3]; exact cd
   ·rw [Fg a3 a4]; exact cd
 ·have a4:Aj a≠4:=fun h=>h4 (.inl h)
  have b4:Aj b≠4:=fun h=>h4 (.inr h)
  by_cases a3:Aj a=3
  ·have wa:=Mn ha a3
   rw [Aje h4 a3,Fh a3]
   by_cases b3:Aj b=3
   ·have wb:=Mn hb b3
    rw [Fh b3]
    by_cases hs:By a=By b
    ·have hab:a=b:=by rw [← wa,← wb,hs]
     rw [A42 (fun h=>h.2 hab)]
     have:(Datum.infinity (By a)).sum (.infinity (By b))=some (.infinity (By a)):=A43 hs
     rw [this]
     show Es (Bo (By a) Ek)=a
     rw [H8 _ (A5a _),wa]
    ·have hab:a≠b:=fun h=>hs (by rw [h])
     have:(Datum.infinity (By a)).sum (.infinity (By b))=none:=A42 hs
     rw [this,A43 ⟨b3,hab⟩]
     exact cd
   ·rw [Fg b3 b4,A42 (fun h=>b3 h.1)]
    show Es (Bo (By a) Ek)=a
    rw [H8 _ (A5a _),wa]
  ·rw [Fg a3 a4]
   by_cases b3:Aj b=3
   ·have wb:=Mn hb b3
    rw [Aee h4 a3 b3,Fh b3]
    show Es (Bo (By b) Ek)=b
    rw [H8 _ (A5a _),wb]
   ·rw [W0 h4 a3 b3,Fg b3 b4,Au0]
    show Es (Ieee.double.write (.number _ _ _))=_
    rw [N2,H8 _ (Km _ _)]
    unfold L6 Hl
    by_cases h0:Ja (By a) (Ay a*2^(A3 a-min (A3 a) (A3 b)).toNat)+Ja (By b) (Ay b*2^(A3 b-min (A3 a) (A3 b)).toNat)=0
    ·rw [A43 h0,A43 h0,h0]
     have:Ck (Int.natAbs 0) (min (A3 a) (A3 b))=0:=A43 rfl
     rw [this]
    ·rw [A42 h0,A42 h0]
theorem Aua {a b:Nat} (ha:a<2^64) (hb:b<2^64) {d:Nat} (hd:Aj d=4):Es ((Ieee.double.add a b).getD d)=(H4 a b).1:=by
 unfold Format.add
 rw [J3 ha,J3 hb]
 exact Agt ha hb hd
theorem Ahr {b:Nat} (h:b<2^64):By (I5 b)=!(By b)∧Ea (I5 b)=Ea b∧Dr (I5 b)=Dr b:=by
 unfold By Ea Dr I5
 by_cases hb:2^63≤b
 ·rw [A43 hb]
  refine ⟨?_,by omega,by omega⟩
  have:¬ 2^63≤b-2^63:=by omega
  simp [hb,this]
 ·rw [A42 hb]
  refine ⟨?_,by omega,by omega⟩
  have:2^63≤b+2^63:=by omega
  simp [hb,this]
theorem Akp {b:Nat} (h:b<2^64):I5 b<2^64:=by unfold I5; split<;>omega
theorem Akc {b:Nat} (h:b<2^64):P9 (I5 b)=(P9 b).opposite:=by
 obtain ⟨h1,h2,h3⟩:=Ahr h
 have hk:Aj (I5 b)=Aj b:=by unfold Aj; rw [h2,h3]
 have hm:Ay (I5 b)=Ay b:=by unfold Ay; rw [h2,h3]
 have he:A3 (I5 b)=A3 b:=by unfold A3; rw [h2]
 by_cases b4:Aj b=4
 ·rw [Ik b4,Ik (by omega),h1,h3]; rfl
 ·by_cases b3:Aj b=3
  ·rw [Fh b3,Fh (by omega),h1]; rfl
  ·rw [Fg b3 b4,Fg (by omega) (by omega),h1,hm,he]; rfl
theorem Aqx {a b:Nat} (ha:a<2^64) (hb:b<2^64) {d:Nat} (hd:Aj d=4):Es ((Ieee.double.sub a b).getD d)=(Ax2 a b).1:=by
 unfold Format.sub
 rw [J3 ha,J3 hb,← Akc hb]
 exact Agt ha (Akp hb) hd
theorem Aas (b:Nat):(Ieee.double.read b).isNaN=decide (Aj b=4):=by
 unfold Format.read
 have e0:Ieee.double.signWeight=2^63:=rfl
 have e2:Ieee.double.binade=2^52:=rfl
 have e3:Ieee.double.infRung=Ek:=rfl
 dsimp only
 rw [e0,e2,e3,Ph,Gb]
 have hf:Dr b<2^52:=Kj b
 rcases H7 b with ⟨h1,h2,h3⟩ | ⟨h1,h2,h3⟩ | ⟨h1,h2,h3⟩
 ·rw [A42 (by omega),A42 (by omega),A43 (by omega),A4l (by omega)]; rfl
 ·rw [A42 (by omega),A42 (by omega),A42 (by omega),A4h h3]; rfl
 ·rw [A4l h3]
  by_cases h0:Ea b=0
  ·rw [A43 (by omega)]; rfl
  ·rw [A42 (by omega),A43 (by omega)]; rfl
end Go.Rnd
namespace Go.Rnd
open Ieee
theorem Xi {V W k:Nat} (h:V≤W):Oj V k≤Oj W k:=by
 unfold Oj
 have hA:=Cp k
 have hq:V / 2^k≤W / 2^k:=Nat.div_le_div_right h
 rcases A5d (V / 2^k) (W / 2^k) with h1 | h1
 ·split<;>split<;>omega
 ·have he:V / 2^k=W / 2^k:=by omega
  have v:=Nat.div_add_mod V (2^k)
  have w:=Nat.div_add_mod W (2^k)
  rw [he] at v ⊢
  have hr:V%2^k≤W%2^k:=by omega
  by_cases hc:2^k<2*(V%2^k)∨2*(V%2^k)=2^k∧W / 2^k%2=1
  ·have hc':2^k<2*(W%2^k)∨2*(W%2^k)=2^k∧W / 2^k%2=1:=by
    rcases hc with hc | ⟨hc,hd⟩
    ·exact .inl (by omega)
    ·rcases A5d (2^k) (2*(W%2^k)) with h2 | h2
     ·exact .inl h2
     ·exact .inr ⟨by omega,hd⟩
   rw [A43 hc,A43 hc']
   exact A5a _
  ·rw [A42 hc]
   exact Nat.le_add_right _ _
theorem Au9 {V c k:Nat} (h:V≤c*2^k):Oj V k≤c:=by
 have h1:=Xi (k:=k) h
 have:Oj (c*2^k) k=c:=by
  have:=Vs c k 0
  rw [A5o,Qa] at this
  exact this
 omega
theorem Avx {V c k:Nat} (h:c*2^k≤V):c≤Oj V k:=by
 have h1:=Xi (k:=k) h
 have:Oj (c*2^k) k=c:=by
  have:=Vs c k 0
  rw [A5o,Qa] at this
  exact this
 omega
theorem Akd {V W:Nat} {s:Int} (h:V≤W):Lj V s≤Lj W s:=Xi (A4s _ h)
theorem Aky {V W:Nat} {E:Int} (hV:V≠0) (h:V≤W):Da V E≤Da W E:=by
 have:V.log2≤W.log2:=(Nat.le_log2 (by omega)).2 (A5n (Nat.log2_self_le hV) h)
 unfold Da; omega
theorem Avy {V:Nat} {E:Int}:kept V E≤2^53:=by
 have hV:V<2^(V.log2+1):=Nat.lt_log2_self
 unfold kept Lj
 refine Au9 ?_
 have hl:E+V.log2-52≤Da V E:=by unfold Da; omega
 rw [← A45]
 have h1:V*2^(-(Da V E-E)).toNat≤2^(V.log2+1)*2^(-(Da V E-E)).toNat:=A4s _ (Nat.le_of_lt hV)
 rw [← A45] at h1
 exact A5n h1 (A4v (by decide) (by omega))
theorem Afm {V:Nat} {E:Int} (hV:V≠0) (hl:Da V E=E+V.log2-52):2^52≤kept V E:=by
 have h1:2^V.log2≤V:=Nat.log2_self_le hV
 unfold kept Lj
 refine Avx ?_
 rw [← A45]
 have h2:2^V.log2*2^(-(Da V E-E)).toNat≤V*2^(-(Da V E-E)).toNat:=A4s _ h1
 rw [← A45] at h2
 exact A5n (A4v (by decide) (by omega)) h2
theorem Ii {V W:Nat} {E:Int} (h:V≤W):Ck V E≤Ck W E:=by
 unfold Ck
 by_cases hV:V=0
 ·rw [A43 hV]; exact Nat.zero_le _
 ·have hW:W≠0:=by omega
  rw [A42 hV,A42 hW]
  have hl:=Aky (E:=E) hV h
  have key:(Da V E+1074).toNat*2^52+kept V E≤(Da W E+1074).toNat*2^52+kept W E:=by
   rcases Int.lt_or_eq_of_le hl with h1 | h1
   ·have hb:-1074≤Da V E:=by unfold Da; omega
    have hn:Da W E=E+W.log2-52:=by unfold Da at h1 hb ⊢; omega
    have k1:=Avy (V:=V) (E:=E)
    have k2:=Afm hW hn
    have h2:(Da V E+1074).toNat+1≤(Da W E+1074).toNat:=by omega
    have h3:((Da V E+1074).toNat+1)*2^52≤(Da W E+1074).toNat*2^52:=A4s _ h2
    rw [A5k (Da V E+1074).toNat 1 (2^52),Nat.one_mul] at h3
    omega
   ·unfold kept
    rw [h1]
    exact Nat.add_le_add_left (Akd h) _
  omega
theorem Tf {b:Nat} (h4:Aj b≠4):Ck (Ay b) (A3 b)=b%2^63:=by
 have hf:Dr b<2^52:=Kj b
 have hr:=Ph b
 rw [hr]
 unfold Ay A3
 by_cases h0:Ea b=0
 ·rw [A43 h0,A43 h0,Z7 hf,h0,Nat.zero_mul,A5q]
 ·rw [A42 h0,A42 h0,N7 (by omega) (by omega) (by omega),Gb]
  have e:((Ea b:Int)-1075+1074).toNat=Ea b-1:=by omega
  rw [e]
  have h5:(Ea b-1)*2^52+(Dr b+2^52)=Ea b*2^52+Dr b:=by omega
  rw [h5]
  rcases H7 b with ⟨h1,h2,_⟩ | ⟨_,_,h⟩ | ⟨h1,_,_⟩
  ·rw [h1,h2]; decide
  ·exact absurd h h4
  ·omega
def Hr (b:Nat):Int:=Ja (By b) (b%2^63)
def Gw (b:Nat) (f:Int):Nat:=Ay b*2^(A3 b-f).toNat
theorem Ot {b:Nat} {f:Int} (h4:Aj b≠4) (hf:f≤A3 b):Ck (Gw b f) f=b%2^63:=by
 rw [← Tf h4]
 have h:=(D1 (Ay b) (A3 b-f).toNat (A3 b)).1
 have e:A3 b-((A3 b-f).toNat:Int)=f:=by omega
 rw [e] at h
 exact h
theorem Asg {a b:Nat} (h:a%2^63=b%2^63) (f:Int):Gw a f=Gw b f:=by
 have h1:Ea a=Ea b:=by unfold Ea; omega
 have h2:Dr a=Dr b:=by unfold Dr; omega
 unfold Gw Ay A3
 rw [h1,h2]
theorem Aay {a b:Nat} {f:Int} (ha:Aj a≠4) (hb:Aj b≠4) (hfa:f≤A3 a) (hfb:f≤A3 b):Gw a f<Gw b f↔a%2^63<b%2^63:=by
 constructor
 ·intro h
  have h1:=Ii (E:=f) (Nat.le_of_lt h)
  rw [Ot ha hfa,Ot hb hfb] at h1
  rcases Nat.lt_or_eq_of_le h1 with h2 | h2
  ·exact h2
  ·have:=Asg h2 f; omega
 ·intro h
  rcases A5d (Gw a f) (Gw b f) with h1 | h1
  ·exact h1
  ·have h1:=Ii (E:=f) h1
   rw [Ot ha hfa,Ot hb hfb] at h1
   omega
theorem Ahx (b:Nat) (f:Int):Gw b f=0↔b%2^63=0:=by
 have hp:=Cp (A3 b-f).toNat
 unfold Gw
 rw [Nat.mul_eq_zero,Ph]
 have h1:¬ (2^(A3 b-f).toNat=0):=by omega
 have h2:Ay b=0↔Ea b*2^52+Dr b=0:=by unfold Ay; split<;>omega
 rw [h2]
 exact ⟨fun h=>h.resolve_right h1,.inl⟩
theorem Ax8 {s t:Bool} {m n m' n':Nat} (h1:m<n↔m'<n') (h2:n<m↔n'<m') (h3:m=0↔m'=0) (h4:n=0↔n'=0):Ja s m<Ja t n↔Ja s m'<Ja t n':=by
 unfold Ja
 cases s<;>cases t<;>simp<;>omega
theorem Aem {a b:Nat} {f:Int} (ha:Aj a≠4) (hb:Aj b≠4) (hfa:f≤A3 a) (hfb:f≤A3 b):Hl a f<Hl b f↔Hr a<Hr b :=
 Ax8 (Aay ha hb hfa hfb) (Aay hb ha hfb hfa) (Ahx a f) (Ahx b f)
theorem Apo {x y x' y':Int} (h1:x<y↔x'<y') (h2:y<x↔y'<x'):compare x y=compare x' y':=by
 show compareOfLessAndEq x y=compareOfLessAndEq x' y'
 unfold compareOfLessAndEq
 by_cases h:x<y
 ·rw [A43 h,A43 (h1.1 h)]
 ·rw [A42 h,A42 (fun k=>h (h1.2 k))]
  by_cases e:x=y
  ·rw [A43 e,A43 (by omega)]
  ·rw [A42 e,A42 (by omega)]
theorem Ayp {b:Nat} (h4:Aj b≠4):b%2^63≤Ek:=by
 rw [← Tf h4]; exact Km _ _
theorem Rf {b:Nat} (h:Aj b=3):b%2^63=Ek:=by
 rw [Ph]
 rcases H7 b with ⟨h1,h2,_⟩ | ⟨_,_,h4⟩ | ⟨_,h4,_⟩
 ·rw [h1,h2]; rfl
 ·omega
 ·omega
theorem Tp {b:Nat} (h3:Aj b≠3) (h4:Aj b≠4):b%2^63<Ek:=by
 have hf:Dr b<2^52:=Kj b
 rw [Ph,Gb]
 rcases H7 b with ⟨_,_,h⟩ | ⟨_,_,h⟩ | ⟨h1,_,_⟩
 ·exact absurd h h3
 ·exact absurd h h4
 ·omega
theorem Ak7 {x y:Int} (h:x<y):compare x y=.lt:=by
 show compareOfLessAndEq x y=_; unfold compareOfLessAndEq; rw [A43 h]
theorem Ak8 {x y:Int} (h:y<x):compare x y=.gt:=by
 show compareOfLessAndEq x y=_; unfold compareOfLessAndEq; rw [A42 (by omega),A42 (by omega)]
theorem Qg {a b:Nat} (ha:a<2^64) (hb:b<2^64) (a4:Aj a≠4) (b4:Aj b≠4):Ieee.double.order a b=some (compare (Hr a) (Hr b)):=by
 unfold Format.order
 rw [J3 ha,J3 hb]
 have hpos:0<Ek:=by decide
 by_cases a3:Aj a=3
 ·have ka:=Rf a3
  rw [Fh a3]
  by_cases b3:Aj b=3
  ·have kb:=Rf b3
   rw [Fh b3]
   show some (compare (By b).toNat (By a).toNat)=_
   unfold Hr
   rw [ka,kb]
   cases By a<;>cases By b<;>decide
  ·have kb:=Tp b3 b4
   rw [Fg b3 b4]
   show some (if By a then Ordering.lt else .gt)=_
   unfold Hr Ja
   rw [ka]
   cases By a
   ·rw [Ak8 (by simp; split<;>omega)]; rfl
   ·rw [Ak7 (by simp; split<;>omega)]; rfl
 ·have ka:=Tp a3 a4
  rw [Fg a3 a4]
  by_cases b3:Aj b=3
  ·have kb:=Rf b3
   rw [Fh b3]
   show some (if By b then Ordering.gt else .lt)=_
   unfold Hr Ja
   rw [kb]
   cases By b
   ·rw [Ak7 (by simp; split<;>omega)]; rfl
   ·rw [Ak8 (by simp; split<;>omega)]; rfl
  ·rw [Fg b3 b4]
   show some (compare (Ieee.signed _ _ _) (Ieee.signed _ _ _))=_
   rw [S9,S9]
   congr 1
   exact Apo (Aem a4 b4 (Int.min_le_left _ _) (Int.min_le_right _ _)) (Aem b4 a4 (Int.min_le_right _ _) (Int.min_le_left _ _))
theorem Xo {a b:Nat} (ha:a<2^64) (hb:b<2^64) (h:Aj a=4∨Aj b=4):Ieee.double.order a b=none:=by
 unfold Format.order
 rw [J3 ha,J3 hb]
 by_cases a4:Aj a=4
 ·rw [Ik a4]; cases P9 b<;>rfl
 ·rw [Ik (h.resolve_left a4)]; cases P9 a<;>rfl
def Ahb (S:Int) (f:Int):Int:=if S<0 then -(Ck S.natAbs f:Int) else Ck S.natAbs f
theorem Aka (S:Int) (k:Nat) (f:Int):Ahb (S*((2^k:Nat):Int)) (f-k)=Ahb S f:=by
 have hp:=Cp k
 have h0:S*((2^k:Nat):Int)<0↔S<0:=by
  constructor
  ·intro h
   rcases Int.lt_or_le S 0 with h1 | h1
   ·exact h1
   ·have:=Int.mul_nonneg h1 (Int.natCast_nonneg (2^k)); omega
  ·intro h
   exact Int.mul_neg_of_neg_of_pos h (by omega)
 unfold Ahb
 rw [Int.natAbs_mul,Int.natAbs_natCast,(D1 S.natAbs k f).1]
 by_cases h:S<0
 ·rw [A43 h,A43 (h0.2 h)]
 ·rw [A42 h,A42 (fun k=>h (h0.1 k))]
theorem M6 (s:Bool) {r:Nat} (h:r<2^63):Hr (Bo s r)=Ja s r:=by
 unfold Hr Bo By
 cases s
 ·have h1:¬ 2^63≤r:=by omega
  have h2:r%2^63=r:=A4t h
  simp only [Bool.false_eq_true,if_false,A4l h1,h2]
 ·have h1:2^63≤2^63+r:=by omega
  have h2:(2^63+r)%2^63=r:=by omega
  simp only [if_true,A4h h1,h2]
theorem Ao4 (s:Bool) (S f:Int):Hr (L6 (Bo s 0) S f).1=Ahb S f:=by
 unfold L6 Ahb
 by_cases h:S=0
 ·subst h
  have e:Ck (Int.natAbs 0) f=0:=A43 rfl
  rw [A43 rfl,e,M6 s (by decide)]
  cases s<;>rfl
 ·rw [A42 h]
  show Hr (Bo _ _)=_
  rw [M6 _ (Q2 _ _)]
  unfold Ja
  by_cases h1:S<0
  ·rw [A43 h1,A4h h1,A43 rfl]
  ·rw [A42 h1,A4l h1,A42 (by decide)]
theorem Acs {b:Nat} {f g:Int} {k:Nat} (hk:g=f-k) (hf:f≤A3 b):Hl b g=Hl b f*((2^k:Nat):Int):=by
 unfold Hl
 have e:(A3 b-g).toNat=(A3 b-f).toNat+k:=by omega
 rw [e,A45,← A47]
 generalize Ay b*2^(A3 b-f).toNat=m
 generalize 2^k=p
 unfold Ja
 cases By b
 ·exact A41 m p
 ·show -((m*p:Nat):Int)=-(m:Int)*(p:Int)
  rw [A41,Int.neg_mul]
theorem Am4 {a c:Nat} (a3:Aj a≠3) (a4:Aj a≠4) (c3:Aj c≠3) (c4:Aj c≠4) {g:Int} (hg:g≤min (A3 a) (A3 c)) :
 Hr (H4 a c).1=Ahb (Hl a g+Hl c g) g:=by
 rw [W0 (fun h=>h.elim a4 c4) a3 c3,Ao4]
 obtain ⟨k,hk⟩:∃ k:Nat,g=min (A3 a) (A3 c)-k:=⟨(min (A3 a) (A3 c)-g).toNat,by omega⟩
 rw [Acs (b:=a) hk (Int.min_le_left _ _),Acs (b:=c) hk (Int.min_le_right _ _),← Int.add_mul,hk,Aka]
end Go.Rnd
namespace Go.Rnd
def Ly (a b:Nat):Nat × Nat :=
 if Aj a=4∨Aj b=4 then (Oc,0)
 else if Aj a=3∨Aj b=3 then (if Aj a=0∨Aj b=0 then (Oc,16) else (Bo (By a !=By b) Ek,0))
 else (Bo (By a !=By b) (Ck (Ay a*Ay b) (A3 a+A3 b)),flagsOf (Ay a*Ay b) (A3 a+A3 b))
def G3 (X Y K:Nat):Nat:=2*(X*2^K / Y)+(if X*2^K%Y=0 then 0 else 1)
def Afy (a b:Nat):Nat × Nat :=
 if Aj a=4∨Aj b=4 then (Oc,0)
 else if Aj a=Aj b∧(Aj a=3∨Aj a=0) then (Oc,16)
 else if Aj a=3 then (Bo (By a !=By b) Ek,0)
 else if Aj b=3∨Aj a=0 then (Bo (By a !=By b) 0,0)
 else if Aj b=0 then (Bo (By a !=By b) Ek,8)
 else (Bo (By a !=By b) (Ck (G3 (Ay a) (Ay b) 120) (A3 a-A3 b-121)),flagsOf (G3 (Ay a) (Ay b) 120) (A3 a-A3 b-121))
theorem Adi (a b:Nat):Ly a b=Ly b a:=by
 have e:(By a !=By b)=(By b !=By a):=by cases By a<;>cases By b<;>rfl
 unfold Ly
 rw [e,A44 (Ay a),Int.add_comm (A3 a)]
 simp only [or_comm]
theorem Akl {V k:Nat} {E:Int} (hm:1≤V / 2^k) (hc:2^53≤V / 2^k∨E+k+1≤-1074) :
 Ck (4*(V / 2^k)+(if V%2^k=0 then 0 else 1)) (E+k-2)=Ck V E∧flagsOf (4*(V / 2^k)+(if V%2^k=0 then 0 else 1)) (E+k-2)=flagsOf V E:=by
 have hA:=Cp k
 have h1:=Nat.div_add_mod V (2^k)
 have h2:=Nat.mod_lt V hA
 generalize hq:V / 2^k=q at *
 generalize hr:V%2^k=r at *
 by_cases h0:r=0
 ·rw [A43 h0]
  obtain ⟨a1,a2⟩:=D1 q k (E+k)
  obtain ⟨b1,b2⟩:=D1 q 2 (E+k)
  have e1:E+(k:Int)-k=E:=by omega
  have e2:V=q*2^k:=by rw [A44]; omega
  have e3:q*2^2=4*q+0:=by omega
  have e4:E+(k:Int)-((2:Nat):Int)=E+k-2:=by omega
  rw [e1,← e2] at a1 a2
  rw [e3,e4] at b1 b2
  rw [a1,a2,b1,b2]
  exact ⟨rfl,rfl⟩
 ·rw [A42 h0]
  obtain ⟨d,rfl⟩:∃ d,k=d+1:=by
   cases k with
   | zero=>simp only [A5e] at h2; omega
   | succ d=>exact ⟨d,rfl⟩
  have hD:2^(d+1)=2*2^d:=by rw [Nat.pow_succ]; omega
  rw [hD] at h1 h2
  generalize hc2:2^d=c at *
  have p1:(2*q+1-1)*c=2*c*q:=by rw [Nat.add_sub_cancel,A44,Nat.mul_left_comm,A47]
  have p2:(2*q+1+1)*c=2*c*q+2*c:=by
   rw [show 2*q+1+1=2*(q+1) by omega,A47,A5k,Nat.mul_add,A44 q c,A47]; omega
  have lt1:(2*q+1-1)*2^d<V:=by rw [hc2,p1]; omega
  have lt2:V<(2*q+1+1)*2^d:=by rw [hc2,p2]; omega
  have od:(2*q+1)%2=1:=by omega
  have lV:=Sj od (by omega) lt1 lt2
  have l4:(4*q+1).log2=(2*q+1).log2+1:=Sj (d:=1) od (by omega) (by omega) (by omega)
  have hs:(2*q+1).log2≥54∨E+d+2≤-1074:=by
   rcases hc with h | h
   ·left; rw [ge_iff_le,Nat.le_log2 (by omega)]; omega
   ·right; omega
  have hk:E+d+2≤Da (2*q+1) (E+d):=by unfold Da; omega
  obtain ⟨a1,a2⟩:=Sb (E:=E) od lt1 lt2 (by unfold Da; rw [lV]; omega) hk
  have ee:E+((d+1:Nat):Int)-2+((1:Nat):Int)=E+d:=by omega
  obtain ⟨b1,b2⟩:=Sb (V:=4*q+1) (d:=1) (E:=E+((d+1:Nat):Int)-2) od (by omega) (by omega) (by unfold Da; rw [l4]; omega) (by rw [ee]; unfold Da; omega)
  rw [ee] at b1 b2
  rw [a1,a2,b1,b2]
  exact ⟨rfl,rfl⟩
theorem V8 (n:Bool) {V k:Nat} {E e:Int} {s:Bool} (he:e=E+k) (hs:s=decide (V%2^k≠0)) (hm:1≤V / 2^k) (hc:2^53≤V / 2^k∨E+k+1≤-1074) :
 Hu n (V / 2^k) e s=(Bo n (Ck V E),flagsOf V E):=by
 obtain ⟨a,b⟩:=Akl hm hc
 have e1:s.toNat=if V%2^k=0 then 0 else 1:=by
  rw [hs]
  by_cases h:V%2^k=0
  ·rw [A4l (by omega),A43 h]; rfl
  ·rw [A4h h,A42 h]; rfl
 unfold Hu
 rw [he,e1,a,b]
theorem Zx {X Y K:Nat} (d:Nat) (E:Int) (hY:0<Y) (h:2^53≤X*2^K / Y) :
 Ck (G3 X Y (K+d)) (E-d)=Ck (G3 X Y K) E∧flagsOf (G3 X Y (K+d)) (E-d)=flagsOf (G3 X Y K) E:=by
 have hA:=Cp d
 unfold G3
 have e:X*2^(K+d)=X*2^K*2^d:=by rw [A45,A47]
 rw [e]
 generalize X*2^K=Z at *
 have h1:=Nat.div_add_mod Z Y
 have h2:=Nat.mod_lt Z hY
 by_cases h0:Z%Y=0
 ·obtain ⟨q,rfl⟩:=Nat.dvd_of_mod_eq_zero h0
  have e1:Y*q*2^d=Y*(q*2^d):=A47 _ _ _
  rw [e1,Nat.mul_mod_right,Nat.mul_mod_right,Nat.mul_div_cancel_left _ hY,Nat.mul_div_cancel_left _ hY,A43 rfl]
  have:=D1 (2*q+0) d E
  rw [show (2*q+0)*2^d=2*(q*2^d)+0 by rw [A5o,A5o,A47]] at this
  exact this
 ·have h3:=Nat.div_add_mod (Z*2^d) Y
  have h4:=Nat.mod_lt (Z*2^d) hY
  rw [A42 h0]
  generalize hq:Z / Y=q at *
  generalize hr:Z%Y=r at *
  generalize hc:2^d=c at *
  have hz:Z*c=Y*(q*c)+r*c:=by rw [← h1,A5k,A47]
  have hrc:r*c<Y*c:=(Nat.mul_lt_mul_right hA).2 h2
  have hrc0:0<r*c:=Nat.mul_pos (by omega) hA
  have q1:q*c≤Z*c / Y:=by rw [Nat.le_div_iff_mul_le hY,A44 (q*c)]; omega
  have q2:Z*c / Y<(q+1)*c:=by
   rw [Nat.div_lt_iff_lt_mul hY,A5k,A5k,Nat.one_mul,A44 (q*c),A44 c Y]; omega
  have q3:Z*c / Y=q*c→Z*c%Y≠0:=fun h5 h6=>by rw [h5,h6] at h3; omega
  generalize hQ:Z*c / Y=Q at *
  have p1:(2*q+1-1)*c=2*(q*c):=by rw [Nat.add_sub_cancel,A47]
  have p2:(2*q+1+1)*c=2*((q+1)*c):=by rw [show 2*q+1+1=2*(q+1) by omega,A47]
  have od:(2*q+1)%2=1:=by omega
  generalize hV:2*Q+(if Z*c%Y=0 then 0 else 1)=V
  have v1:(2*q+1-1)*2^d<V:=by
   rw [hc,p1,← hV]
   by_cases h5:Q=q*c
   ·rw [A42 (q3 h5)]; omega
   ·split<;>omega
  have v2:V<(2*q+1+1)*2^d:=by
   rw [hc,p2,← hV]
   split<;>omega
  have lV:=Sj od (by omega) v1 v2
  have hs:54≤(2*q+1).log2:=by rw [Nat.le_log2 (by omega)]; omega
  have ee:E-(d:Int)+d=E:=by omega
  have:=Sb (E:=E-d) od v1 v2 (by unfold Da; rw [lV]; omega) (by unfold Da; omega)
  rw [ee] at this
  exact this
theorem Zy {X Y K L:Nat} {E F:Int} (hY:0<Y) (h1:2^53≤X*2^K / Y) (h2:2^53≤X*2^L / Y) (he:E+K=F+L) :
 Ck (G3 X Y K) E=Ck (G3 X Y L) F∧flagsOf (G3 X Y K) E=flagsOf (G3 X Y L) F:=by
 rcases Nat.le_total K L with h | h
 ·obtain ⟨d,rfl⟩:=Nat.exists_eq_add_of_le h
  have:=Zx d E hY h1
  rw [show E-(d:Int)=F by omega] at this
  exact ⟨this.1.symm,this.2.symm⟩
 ·obtain ⟨d,rfl⟩:=Nat.exists_eq_add_of_le h
  have:=Zx d F hY h2
  rw [show F-(d:Int)=E by omega] at this
  exact this
theorem Ajv (X Y a K:Nat):G3 (X*2^a) Y K=G3 X Y (K+a):=by
 unfold G3
 have:X*2^a*2^K=X*2^(K+a):=by rw [A47,← A45,Nat.add_comm a K]
 rw [this]
theorem Agv (X Y b K:Nat):G3 X (Y*2^b) (K+b)=G3 X Y K:=by
 have hp:=Cp b
 unfold G3
 have:X*2^(K+b)=X*2^K*2^b:=by rw [A45,A47]
 rw [this,Nat.mul_div_mul_right _ _ hp,Nat.mul_mod_mul_right]
 have:(X*2^K%Y*2^b=0)↔(X*2^K%Y=0):=by
  constructor
  ·intro h
   rcases Nat.mul_eq_zero.1 h with h | h
   ·exact h
   ·omega
  ·intro h; rw [h,Nat.zero_mul]
 simp only [this]
theorem Arn {X Y K t:Nat} (hX:0<X) (hY0:0<Y) (hY:Y<2^t) (hK:53+t≤K):2^53≤X*2^K / Y:=by
 rw [Nat.le_div_iff_mul_le hY0]
 have h1:2^53*Y≤2^53*2^t:=Nat.mul_le_mul_left _ (by omega)
 have h2:2^(53+t)≤2^K:=A4v (by decide) hK
 have h3:1*2^K≤X*2^K:=A4s _ (by omega)
 rw [A45] at h2
 omega
theorem Aor (n:Bool) {X Y K:Nat} {e E:Int} {s:Bool} (hs:s=decide (X*2^K%Y≠0)) (he:E=e-1) (hq:2^53≤X*2^K / Y) :
 Hu n (X*2^K / Y) e s=(Bo n (Ck (G3 X Y K) E),flagsOf (G3 X Y K) E):=by
 have e1:G3 X Y K / 2^1=X*2^K / Y:=by
  unfold G3
  split<;>omega
 have e2:decide (G3 X Y K%2^1≠0)=decide (X*2^K%Y≠0):=by
  unfold G3
  by_cases h:X*2^K%Y=0
  ·rw [A43 h,A4l (by omega),A4l (by omega)]
  ·rw [A42 h,A4h (by omega),A4h h]
 have:=V8 n (V:=G3 X Y K) (k:=1) (E:=E) (e:=e) (s:=s) (by omega) (by rw [e2]; exact hs) (by omega) (.inl (by omega))
 rw [e1] at this
 exact this
end Go.Rnd
namespace Go.Rnd
open Go.Den
def De:List Int→Nat
 | []=>0
 | x::l=>x.toNat+4294967296*De l
def digits:Nat→Nat→List Int
 | 0,_=>[]
 | k+1,v=>((v%4294967296:Nat):Int)::digits k (v / 4294967296)
def Ep (n:Nat):Nat:=if n=0 then 0 else n.log2 / 32+1
def Sk (n:Nat):List Int:=digits (Ep n) n
def Aw (v:Int):List Int:=Sk v.natAbs
def Bv (v:Int):Bool:=decide (v<0)
def wv (n:Bool) (l:List Int):Int:=Ja n (De l)
def inL (l:List Int):Prop:=∀ x∈l,0≤x∧x<4294967296
def La (l:List Int):Bool:=B5 (l.length<1073741824∧inL l)
def N9 (n:Bool) (l:List Int):Bool:=B5 (l.length<268435456∧l=Sk (De l)∧(n=true→l≠[]))
def okV (n:Bool) (l:List Int):Bool:=B5 (l.length<134217728∧l=Sk (De l)∧(n=true→l≠[]))
def Ayi (k:Int):Bool:=B5 (-1000000≤k∧k≤1000000)
def Aml (k:Int):Bool:=B5 (-9223372036854775808≤k∧k≤9223372036854775807)
def Io (l:List Int) (i:Int):Int:=if 0≤i then l.getD i.toNat 0 else 0
def Mu (a b:List Int):List Int:=digits (max a.length b.length+1) (De a+De b)
def Ju (a b:List Int):List Int:=digits a.length (De a-De b)
def leL (a b:List Int):Bool:=B5 (De a≤De b)
def X4 (a b:Nat):Int:=if a<b then -1 else if b<a then 1 else 0
def Y5 (a b:Int):Int:=if a<b then -1 else if b<a then 1 else 0
def Mh (v:Int) (j:Nat):Int:=Ja (Bv v) (v.natAbs / 2^j)
def Jm (v k:Int):Int:=if 0≤k then v*((2^k.toNat:Nat):Int) else Mh v (-k).toNat
def Aa5 (v:Int):Int:=if v=0 then 0 else (v.natAbs.log2:Int)+1
def Aog (v:Int):Bool:=decide (v%2=1)
theorem two32:2^32=4294967296:=by decide
theorem Qb (k:Nat):2^(32*(k+1))=4294967296*2^(32*k):=by
 rw [Nat.mul_add,A5p,A45,A44,two32]
theorem Gt:∀ (k v:Nat),(digits k v).length=k
 | 0,_=>rfl
 | k+1,v=>by rw [digits,List.length_cons,Gt k]
theorem Qu:∀ (k v:Nat),inL (digits k v)
 | 0,_=>fun x h=>by cases h
 | k+1,v=>fun x h=>by
   rw [digits,List.mem_cons] at h
   rcases h with rfl | h
   ·omega
   ·exact Qu k _ x h
theorem Mq:∀ (k v:Nat),De (digits k v)=v%2^(32*k)
 | 0,v=>by rw [digits,De,Nat.mul_zero,A5e,Nat.mod_one]
 | k+1,v=>by
   rw [digits,De,Mq k,A4i,Qb,Nat.mod_mul]
theorem Pe:∀ {l:List Int},inL l→De l<2^(32*l.length)
 | [],_=>by decide
 | x::l,h=>by
   have h1:=h x (A5v ..)
   have h2:=Pe (l:=l) (fun y hy=>h y (A5l _ hy))
   rw [De,List.length_cons,Qb]
   omega
theorem Su:∀ {l:List Int},inL l→digits l.length (De l)=l
 | [],_=>rfl
 | x::l,h=>by
   have h1:=h x (A5v ..)
   have h2:=Su (l:=l) (fun y hy=>h y (A5l _ hy))
   rw [De,List.length_cons,digits]
   have e1:(x.toNat+4294967296*De l)%4294967296=x.toNat:=by omega
   have e2:(x.toNat+4294967296*De l) / 4294967296=De l:=by omega
   rw [e1,e2,h2]
   congr 1
   omega
theorem Ny (n:Nat):n<2^(32*Ep n):=by
 unfold Ep
 by_cases h:n=0
 ·rw [A43 h,h]; decide
 ·rw [A42 h]
  exact A5r Nat.lt_log2_self (A4v (by decide) (by omega))
theorem Pp {n k:Nat} (h:n<2^(32*k)):Ep n≤k:=by
 unfold Ep
 by_cases h0:n=0
 ·rw [A43 h0]; exact Nat.zero_le _
 ·rw [A42 h0]
  have:=(A5w h0).2 h
  omega
theorem Avt {n k:Nat} (h:2^(32*k)≤n):k+1≤Ep n:=by
 have hp:=Cp (32*k)
 unfold Ep
 rw [A42 (by omega)]
 have:=(Nat.le_log2 (by omega)).2 h
 omega
theorem Ob {n m:Nat} (h:n≤m):Ep n≤Ep m:=Pp (A5i h (Ny m))
theorem Ul (n:Nat):De (Sk n)=n:=by
 unfold Sk
 rw [Mq,A4t (Ny n)]
theorem I7 (n:Nat):(Sk n).length=Ep n:=Gt _ _
theorem Ah2 (n:Nat):inL (Sk n):=Qu _ _
theorem Abt:∀ (k v i:Nat),i<k→(digits k v).getD i 0=((v / 2^(32*i)%4294967296:Nat):Int)
 | k+1,v,0,_=>by rw [digits,List.getD_cons_zero,Nat.mul_zero,A5e,Nat.div_one]
 | k+1,v,i+1,h=>by
   rw [digits,List.getD_cons_succ,Abt k _ i (by omega),Qb,A49]
theorem Tu {l:List Int} (h:inL l) (i:Nat):l.getD i 0=((De l / 2^(32*i)%4294967296:Nat):Int):=by
 by_cases hi:i<l.length
 ·have:=Abt l.length (De l) i hi
  rw [Su h] at this
  exact this
 ·have h1:=Pe h
  have h2:2^(32*l.length)≤2^(32*i):=A4v (by decide) (by omega)
  rw [Nat.div_eq_of_lt (by omega),A4q,A5y (by omega)]
  rfl
theorem I8 {l:List Int} (h:inL l) (i:Nat):Io l (i:Int)=((De l / 2^(32*i)%4294967296:Nat):Int):=by
 unfold Io
 rw [A43 (by omega),A4i,Tu h]
theorem Pr:∀ (k v:Nat),digits (k+1) v=digits k v++[((v / 2^(32*k)%4294967296:Nat):Int)]
 | 0,v=>by rw [digits,digits,digits,Nat.mul_zero,A5e,Nat.div_one]; rfl
 | k+1,v=>by
   rw [digits,Pr k,Qb,← A49]
   rfl
theorem Yx:∀ (j k v:Nat),j≤k→(digits k v).take j=digits j v
 | 0,_,_,_=>by rw [List.take_zero,digits]
 | j+1,k+1,v,h=>by rw [digits,List.take_succ_cons,Yx j k _ (by omega),digits]
theorem Akw {l:List Int} (h:inL l):l.take (Ep (De l))=Sk (De l):=by
 have h1:=Yx (Ep (De l)) l.length (De l) (Pp (Pe h))
 rw [Su h] at h1
 exact h1
theorem Ki {n:Nat} (h:n≠0):0<Ep n:=by unfold Ep; rw [A42 h]; omega
theorem Jb (v:Int):wv (Bv v) (Aw v)=v:=by
 unfold wv Bv Aw Ja
 rw [Ul]
 by_cases h:v<0
 ·rw [A4h h,A43 rfl]; omega
 ·rw [A4l h,A42 (by decide)]; omega
theorem Px {l:List Int} (h:l.length<1073741824) (hi:inL l):La l=true:=Aq.2 ⟨h,hi⟩
theorem Mj {l:List Int} (h:La l=true):l.length<1073741824∧inL l:=Aq.1 h
theorem Ai2 (v:Int):Aw v=Sk (De (Aw v))∧(Bv v=true→Aw v≠[]):=by
 unfold Aw
 rw [Ul]
 refine ⟨rfl,fun h e=>?_⟩
 have h1:v<0:=A46 h
 have h2:=I7 v.natAbs
 rw [e] at h2
 have:=Ki (n:=v.natAbs) (by omega)
 rw [← h2] at this
 exact absurd this (by decide)
theorem Ku {v:Int} (h:Ep v.natAbs<268435456):N9 (Bv v) (Aw v)=true :=
 Aq.2 ⟨by unfold Aw; rw [I7]; exact h,Ai2 v⟩
theorem Arx {v:Int} (h:Ep v.natAbs<134217728):okV (Bv v) (Aw v)=true :=
 Aq.2 ⟨by unfold Aw; rw [I7]; exact h,Ai2 v⟩
theorem Ad5 {n:Bool} {l:List Int} (h1:l=Sk (De l)) (h2:n=true→l≠[]):n=Bv (wv n l)∧l=Aw (wv n l):=by
 have e:(wv n l).natAbs=De l:=by unfold wv Ja; split<;>omega
 refine ⟨?_,by unfold Aw; rw [e]; exact h1⟩
 unfold Bv wv Ja
 cases n
 ·simp
 ·have h3:=h2 rfl
  have h4:De l≠0:=fun h=>by
   rw [h] at h1
   exact h3 h1
  simp; omega
theorem Ko {n:Bool} {l:List Int} (h:N9 n l=true):∃ v,n=Bv v∧l=Aw v∧Ep v.natAbs<268435456:=by
 obtain ⟨h0,h1,h2⟩:=Aq.1 h
 obtain ⟨e1,e2⟩:=Ad5 h1 h2
 refine ⟨_,e1,e2,?_⟩
 have:=congrArg length e2
 unfold Aw at this
 rw [I7] at this
 omega
theorem Rc {n:Bool} {l:List Int} (h:okV n l=true):∃ v,n=Bv v∧l=Aw v∧Ep v.natAbs<134217728:=by
 obtain ⟨h0,h1,h2⟩:=Aq.1 h
 obtain ⟨e1,e2⟩:=Ad5 h1 h2
 refine ⟨_,e1,e2,?_⟩
 have:=congrArg length e2
 unfold Aw at this
 rw [I7] at this
 omega
theorem Qi {v:Int} (h:Ep v.natAbs<1073741824):La (Aw v)=true :=
 Px (by unfold Aw; rw [I7]; exact h) (Ah2 _)
theorem Et (v:Int):De (Aw v)=v.natAbs:=Ul _
theorem Dq (v:Int):(Aw v).length=Ep v.natAbs:=I7 _
theorem Axk (n:Bool) (l:List Int):wv (!n) l=- wv n l:=by
 unfold wv Ja
 cases n<;>simp
theorem Aoc {a b:List Int} (ha:inL a) (hb:inL b):De (Mu a b)=De a+De b:=by
 unfold Mu
 rw [Mq,A4t]
 have h1:=Pe ha
 have h2:=Pe hb
 have h3:2^(32*a.length)≤2^(32*max a.length b.length):=A4v (by decide) (by omega)
 have h4:2^(32*b.length)≤2^(32*max a.length b.length):=A4v (by decide) (by omega)
 rw [Qb]
 omega
theorem Vu (a b:List Int):(Mu a b).length=max a.length b.length+1:=Gt _ _
theorem Ahj (a b:List Int):inL (Mu a b):=Qu _ _
theorem Akq {a:List Int} (b:List Int) (ha:inL a):De (Ju a b)=De a-De b:=by
 unfold Ju
 rw [Mq,A4t]
 have h1:=Pe ha
 omega
theorem Ud (a b:List Int):(Ju a b).length=a.length:=Gt _ _
theorem Adk (a b:List Int):inL (Ju a b):=Qu _ _
theorem Ns (v:Int) (j:Nat):(Mh v j).natAbs=v.natAbs / 2^j:=by
 unfold Mh
 generalize v.natAbs / 2^j=m
 unfold Ja; split<;>omega
theorem Vo {v:Int} (h:v<0) (m:Nat):Ja (Bv v) m=-(m:Int):=by
 unfold Ja Bv; rw [A4h h,A43 rfl]
theorem Vn {v:Int} (h:¬ v<0) (m:Nat):Ja (Bv v) m=(m:Int):=by
 unfold Ja Bv; rw [A4l h,A42 (by decide)]
theorem Aew (v:Int) (i j:Nat):Mh (Mh v i) j=Mh v (i+j):=by
 have e:v.natAbs / 2^(i+j)=v.natAbs / 2^i / 2^j:=by rw [A45,A49]
 have h1:=Ns v i
 by_cases hv:v<0
 ·have h2:Mh v i=-((v.natAbs / 2^i:Nat):Int):=Vo hv _
  rw [show Mh v (i+j)=-((v.natAbs / 2^(i+j):Nat):Int) from Vo hv _,e]
  by_cases h0:v.natAbs / 2^i=0
  ·rw [h2,h0]
   show Mh 0 j=_
   rw [Nat.zero_div]
   show Ja (Bv 0) (0 / 2^j)=_
   rw [Nat.zero_div]; rfl
  ·have h3:Mh v i<0:=by omega
   rw [show Mh (Mh v i) j=-(((Mh v i).natAbs / 2^j:Nat):Int) from Vo h3 _,h1]
 ·have h2:Mh v i=((v.natAbs / 2^i:Nat):Int):=Vn hv _
  have h3:¬ Mh v i<0:=by omega
  rw [show Mh (Mh v i) j=(((Mh v i).natAbs / 2^j:Nat):Int) from Vn h3 _,h1,show Mh v (i+j)=((v.natAbs / 2^(i+j):Nat):Int) from Vn hv _,e]
theorem Ag3 (v:Int):Mh v 0=v:=by
 unfold Mh Ja Bv
 rw [A5e,Nat.div_one]
 by_cases h:v<0
 ·rw [A4h h,A43 rfl]; omega
 ·rw [A4l h,A42 (by decide)]; omega
theorem Td (j:Nat):Mh 0 j=0:=by
 unfold Mh
 rw [show (Int.natAbs 0)=0 from rfl,Nat.zero_div]
 rfl
theorem Ana {l:List Int} (h:inL l):De (l.drop 1)=De l / 4294967296:=by
 cases l with
 | nil=>rfl
 | cons x l =>
   have:=h x (A5v ..)
   show De l=_
   rw [De]; omega
theorem Aie {l:List Int} (h:inL l):inL (l.drop 1):=fun x hx=>h x (List.mem_of_mem_drop hx)
theorem Asz {l:List Int} (h:inL l):inL ([(0:Int)]++l):=fun x hx=>by
 rcases List.mem_cons.1 hx with rfl | hx
 ·omega
 ·exact h x hx
theorem Asn (n:Nat):Ep (2*n)≤Ep n+1:=by
 refine Pp ?_
 have h:=Ny n
 rw [Qb]
 omega
theorem Avs (n:Nat):Ep (n*4294967296)≤Ep n+1:=by
 refine Pp ?_
 have h:=Ny n
 rw [Qb]
 omega
theorem Ah0 {n m:Nat} (h:2^m≤n):(n / 2^m).log2+m=n.log2:=by
 have hp:=Cp m
 have h0:n≠0:=by omega
 have hm:m≤n.log2:=(Nat.le_log2 h0).2 h
 have e:(n / 2^m).log2=n.log2-m:=by
  refine Wi ?_ ?_
  ·rw [Nat.le_div_iff_mul_le hp,← A45]
   exact A5n (A4v (by decide) (by omega)) (Nat.log2_self_le h0)
  ·rw [Nat.div_lt_iff_lt_mul hp,← A45]
   exact A5r Nat.lt_log2_self (A4v (by decide) (by omega))
 omega
end Go.Rnd
namespace Go.Rnd
open Go.Den
def T3 (n:Nat):Nat:=if h:n=0∨n%2=1 then 0 else T3 (n / 2)+1
termination_by n
decreasing_by omega
def mD (v:Int):Int:=Mh v (T3 v.natAbs)
def eD (v e:Int):Int:=if v=0 then 0 else e+T3 v.natAbs
def Ee (v e w f:Int):Int:=if v=0 then f else if w=0 then e else min e f
def Aub (v e w f:Int):Int:=Jm v (e-Ee v e w f)+Jm w (f-Ee v e w f)
def S2 (v e w f:Int):Int:=mD (Aub v e w f)
def Auf (v e w f:Int):Int:=eD (Aub v e w f) (Ee v e w f)
def Jo (v e:Int):Int:=if v=0 then 0 else Aa5 v+e
def O4 (v:Int):Int:=if v<0 then -1 else if v=0 then 0 else 1
def Y6 (v e w f:Int):Int:=Y5 (Jm v (e-Ee v e w f)) (Jm w (f-Ee v e w f))
def Afc (e:Int):Bool:=B5 (-2000000≤e∧e≤2000000)
def okE (e:Int):Bool:=B5 (-400000≤e∧e≤400000)
def Aof (v e f:Int):Bool:=B5 (v=0∨(-1000000≤e-f∧e-f≤1000000))&&B5 (-400000≤e∧e≤400000∧-1000000≤f∧f≤1000000)
theorem Ajr {n:Nat} (h:n=0∨n%2=1):T3 n=0:=by rw [T3,dif_pos h]
theorem Alr {n:Nat} (h0:n≠0) (h:n%2=0):T3 n=T3 (n / 2)+1:=by rw [T3,dif_neg (by omega)]
theorem Aeo {n:Nat} (h:n≠0):∀ k,T3 (n*2^k)=k+T3 n
 | 0=>by rw [A5e,A5p,A5q]
 | k+1=>by
   have hp:=Cp k
   have h1:n*2^k≠0:=by
    intro e
    rcases Nat.mul_eq_zero.1 e with e | e<;>omega
   have e:n*2^(k+1)=n*2^k*2:=by rw [Nat.pow_succ,A47]
   rw [e,Alr (by omega) (by omega),Nat.mul_div_cancel _ (by decide),Aeo h k]
   omega
theorem Alq (n:Nat) (h:n≠0):∃ m,n=m*2^T3 n∧m%2=1:=by
 induction n using Nat.strongRecOn with
 | _ n ih =>
   by_cases h2:n%2=1
   ·refine ⟨n,?_,h2⟩
    rw [Ajr (.inr h2),A5e,A5p]
   ·obtain ⟨m,h3,h4⟩:=ih (n / 2) (by omega) (by omega)
    refine ⟨m,?_,h4⟩
    rw [Alr h (by omega),Nat.pow_succ,← A47,← h3]
    omega
theorem Awy {n:Nat} (h:n≠0):T3 n≤n.log2:=by
 obtain ⟨m,h1,h2⟩:=Alq n h
 refine (Nat.le_log2 h).2 ?_
 have:1*2^T3 n≤m*2^T3 n:=A4s _ (by omega)
 omega
theorem Adm {n:Nat}:n.log2<32*Ep n+1:=by
 unfold Ep
 by_cases h:n=0
 ·rw [h]; decide
 ·rw [A42 h]; omega
theorem Ash {v:Int} {k:Nat} (h:v.natAbs%2^k=0):mD (Mh v k)=mD v:=by
 unfold mD
 by_cases h0:v=0
 ·rw [h0,Td]
 ·have hp:=Cp k
  have hv:=Nat.div_add_mod v.natAbs (2^k)
  rw [h,A5o,A44] at hv
  have hq:v.natAbs / 2^k≠0:=by
   intro e; rw [e] at hv; omega
  have:=Aeo hq k
  rw [hv] at this
  rw [Ns,Aew,this]
theorem Atk {v e:Int} {k:Nat} (h:v.natAbs%2^k=0) (h0:v≠0):eD (Mh v k) (e+k)=eD v e:=by
 unfold eD
 have hp:=Cp k
 have hv:=Nat.div_add_mod v.natAbs (2^k)
 rw [h,A5o,A44] at hv
 have hq:v.natAbs / 2^k≠0:=by
  intro e; rw [e] at hv; omega
 have ht:=Aeo hq k
 rw [hv] at ht
 have ha:=Ns v k
 rw [A42 h0,A42 (by omega),ha,ht]
 omega
theorem Ayn {v:Int} (h:v%2=1):mD v=v:=by
 unfold mD
 rw [Ajr (.inr (by omega)),Ag3]
theorem Ayy {v:Int} (h:v%2=1) (e:Int):eD v e=e:=by
 unfold eD
 rw [Ajr (.inr (by omega)),A42 (by omega)]
 omega
theorem Asc {v:Int} (h:v≠0) (k:Nat):v*((2^k:Nat):Int)≠0:=by
 have hp:=Cp k
 intro e
 rcases Int.mul_eq_zero.1 e with e | e
 ·exact h e
 ·omega
theorem Zg (v:Int):v=mD v*((2^T3 v.natAbs:Nat):Int):=by
 by_cases h:v=0
 ·rw [h]
  show (0:Int)=Mh 0 _*_
  rw [Td,Int.zero_mul]
 ·obtain ⟨m,h1,h2⟩:=Alq v.natAbs (by omega)
  have hp:=Cp (T3 v.natAbs)
  have hq:v.natAbs / 2^T3 v.natAbs=m:=Nat.div_eq_of_eq_mul_left hp h1
  unfold mD Mh
  rw [hq]
  by_cases hv:v<0
  ·rw [Vo hv,Int.neg_mul,← A41,← h1]; omega
  ·rw [Vn hv,← A41,← h1]; omega
theorem Re {v:Int}:mD v=0↔v=0:=by
 constructor
 ·intro h
  have:=Zg v
  rw [h,Int.zero_mul] at this
  exact this
 ·intro h
  rw [h]
  exact Td _
theorem Adl (v:Int):(mD v).natAbs≤v.natAbs:=by
 unfold mD
 rw [Ns]
 exact Nat.div_le_self _ _
end Go.Rnd
namespace Go.Rnd
open Go.Den
def vAt (v e g:Int):Int:=v*((2^(e-g).toNat:Nat):Int)
theorem Jn (e g:Int):vAt 0 e g=0:=Int.zero_mul _
theorem Acu {v e g h:Int} (h1:h≤e) (h2:g≤h):vAt v e g=vAt v e h*((2^(h-g).toNat:Nat):Int):=by
 unfold vAt
 rw [Int.mul_assoc,← A41,← A45]
 have:(e-h).toNat+(h-g).toNat=(e-g).toNat:=by omega
 rw [this]
theorem Alp {S l g:Int} (h:g≤l):vAt (mD S) (eD S l) g=vAt S l g:=by
 by_cases h0:S=0
 ·rw [h0,Re.2 rfl,Jn,Jn]
 ·have e:eD S l=l+T3 S.natAbs:=by unfold eD; rw [A42 h0]
  rw [e]
  unfold vAt
  have e1:(l+(T3 S.natAbs:Int)-g).toNat=T3 S.natAbs+(l-g).toNat:=by omega
  rw [e1,A45,A41,← Int.mul_assoc,← Zg]
theorem Alx {v e l:Int} (h:v≠0→l≤e):Jm v (e-l)=vAt v e l:=by
 by_cases h0:v=0
 ·rw [h0,Jn]
  unfold Jm
  split
  ·exact Int.zero_mul _
  ·exact Td _
 ·unfold Jm vAt
  rw [A43 (by have:=h h0; omega)]
theorem Ayo {v e w f:Int}:(v≠0→Ee v e w f≤e)∧(w≠0→Ee v e w f≤f):=by
 unfold Ee
 constructor
 ·intro h
  rw [A42 h]
  split<;>omega
 ·intro h
  split
  ·omega
  ·omega
theorem Axg {v e g:Int} (h:g≤e) (h0:v≠0):g≤eD v e:=by
 unfold eD
 rw [A42 h0]
 omega
theorem Atx (x y:Int) (k:Nat):Y5 (x*((2^k:Nat):Int)) (y*((2^k:Nat):Int))=Y5 x y:=by
 have hp:=Cp k
 have h1:x*((2^k:Nat):Int)<y*((2^k:Nat):Int)↔x<y:=Int.mul_lt_mul_right (by omega)
 have h2:y*((2^k:Nat):Int)<x*((2^k:Nat):Int)↔y<x:=Int.mul_lt_mul_right (by omega)
 unfold Y5
 simp only [h1,h2]
theorem Awi {v e w f g:Int} (h1:v≠0→g≤e) (h2:w≠0→g≤f):Y6 v e w f=Y5 (vAt v e g) (vAt w f g):=by
 obtain ⟨l1,l2⟩:=Ayo (v:=v) (e:=e) (w:=w) (f:=f)
 unfold Y6
 rw [Alx l1,Alx l2]
 by_cases h0:v=0∧w=0
 ·rw [h0.1,h0.2,Jn,Jn,Jn,Jn]
 ·have hg:g≤Ee v e w f:=by
   unfold Ee
   split
   ·rename_i hv
    exact h2 (fun k=>h0 ⟨hv,k⟩)
   ·split
    ·exact h1 (by assumption)
    ·have:=h1 (by assumption); have:=h2 (by assumption); omega
  have e1:vAt v e g=vAt v e (Ee v e w f)*((2^(Ee v e w f-g).toNat:Nat):Int):=by
   by_cases h0:v=0
   ·rw [h0,Jn,Jn,Int.zero_mul]
   ·exact Acu (l1 h0) hg
  have e2:vAt w f g=vAt w f (Ee v e w f)*((2^(Ee v e w f-g).toNat:Nat):Int):=by
   by_cases h0:w=0
   ·rw [h0,Jn,Jn,Int.zero_mul]
   ·exact Acu (l2 h0) hg
  rw [e1,e2,Atx]
def Al (l:List Int):Bool:=B5 (∀ x∈l,Af x=true)
def Gc (x:Int):Int:=Ja (By x.toNat) (Ay x.toNat)
def T9 (n:Bool) (b:Int):Int:=if n then Cz b else b
end Go.Rnd
namespace Go.Rnd
open Go.Den
theorem Ajm (s:Bool) {q:Nat} {L:Int} (hq:q<2^53) (hL:-1074≤L) (h:2^52≤q∨L=-1074) (hr:(L+1074).toNat*2^52+q<Ek) :
 Ay (Bo s ((L+1074).toNat*2^52+q))=q∧A3 (Bo s ((L+1074).toNat*2^52+q))=L:=by
 rw [Gb] at hr
 obtain ⟨t,ht⟩:∃ t:Nat,L=t-1074:=⟨(L+1074).toNat,by omega⟩
 have et:(L+1074).toNat=t:=by omega
 rw [et] at hr ⊢
 have hp:=Xk s (r:=t*2^52+q) (by omega)
 have hf:=U2 s (t*2^52+q)
 unfold Ay A3
 by_cases h52:2^52≤q
 ·have e1:Ea (Bo s (t*2^52+q))=t+1:=by rw [hp]; omega
  rw [e1,hf,A42 (by omega),A42 (by omega)]
  omega
 ·have t0:t=0:=by omega
  subst t0
  have e1:Ea (Bo s (0*2^52+q))=0:=by rw [hp]; omega
  rw [e1,hf,A43 rfl,A43 rfl]
  omega
theorem sign_neg (s:Bool) {r:Nat} (h:r<2^63):By (Bo s r)=s:=by
 unfold By Bo
 cases s
 ·simp only [Bool.false_eq_true,if_false,A4z]; omega
 ·simp only [if_true,A4n]; omega
theorem Abo (s:Bool) {V:Nat} {E:Int} (h0:V≠0) (hE:Da V E≤E) (hi:Ck V E<Ek) :
 flagsOf V E=0∧∃ k:Nat,Ay (Bo s (Ck V E))=V*2^k∧A3 (Bo s (Ck V E))=E-k:=by
 have hl2:V.log2=V.log2:=rfl
 have ek:kept V E=V*2^(E-Da V E).toNat:=by
  unfold kept Lj
  have e1:(Da V E-E).toNat=0:=by omega
  have e2:(-(Da V E-E)).toNat=(E-Da V E).toNat:=by omega
  rw [e1,e2,Qa]
 have eex:exact V E=true:=by
  unfold exact Od
  have e1:(Da V E-E).toNat=0:=by omega
  rw [e1,A5e,Nat.mod_one]; rfl
 constructor
 ·unfold flagsOf flags
  rw [A42 h0,A42 (by omega),eex]; rfl
 ·have hr:Ck V E=(Da V E+1074).toNat*2^52+kept V E:=by
   unfold Ck at hi ⊢
   rw [A42 h0] at hi ⊢
   omega
  have hk:kept V E<2^53:=by
   rw [ek,← A5w (Jt h0),M5 V _ h0]
   unfold Da at hE ⊢
   omega
  have hb:2^52≤kept V E∨Da V E=-1074:=by
   by_cases h:Da V E=-1074
   ·exact .inr h
   ·left
    refine Afm h0 ?_
    unfold Da at h ⊢
    omega
  rw [hr] at hi
  obtain ⟨p1,p2⟩:=Ajm s hk (by unfold Da; omega) hb hi
  refine ⟨(E-Da V E).toNat,?_,?_⟩
  ·rw [hr,p1,ek]
  ·rw [hr,p2]; omega
theorem Yq {V:Nat} {E:Int} (h:V<2^53) (hE:-1074≤E):Da V E≤E:=by
 by_cases h0:V=0
 ·subst h0; unfold Da; rw [Nat.log2_zero]; omega
 ·have:=(A5w h0).2 h
  unfold Da; omega
end Go.Rnd
namespace Go.Rnd
open Go.Den
def F2 (x:Int):Int:=if x=0 then 0 else (x.toNat.log2:Int)+1
def Uc (x y:Int):Int:=((x.toNat*y.toNat / 18446744073709551616:Nat):Int)
def Pm (x y:Int):Int:=((x.toNat*y.toNat%18446744073709551616:Nat):Int)
def Asa (a b:Int):Bool:=decide (Bz a=4)||decide (Bz b=4)
def Cq (b:Nat):Nat:=52-(Ay b).log2
def D0 (b:Int):Int:=((Ay b.toNat*2^Cq b.toNat:Nat):Int)
def I2 (b:Int):Int:=A3 b.toNat-Cq b.toNat
def Nv (b:Int):Bool:=B5 (Ay b.toNat≠0)
def Qy (m e:Int):Bool:=B5 (1152921504606846976≤m∧m<4611686018427387904∧-6000≤e∧e≤6000)
def Cc (a b:Int):Int:=(Ly a.toNat b.toNat).1
def A1n (a b:Int):Int:=(Ly a.toNat b.toNat).2
def Ey (a b:Int):Int:=(Afy a.toNat b.toNat).1
def A1u (a b:Int):Int:=(Afy a.toNat b.toNat).2
end Go.Rnd
namespace Go.Rnd
theorem Ap1 (a b:Nat):H4 a b=H4 b a:=by
 unfold H4
 by_cases ha:Aj a=4
 ·simp only [ha,true_or,or_true,if_true]
 ·by_cases hb:Aj b=4
  ·simp only [hb,true_or,or_true,if_true]
  ·simp only [ha,hb,or_self,if_false]
   by_cases ha3:Aj a=3
   ·by_cases hb3:Aj b=3
    ·simp only [ha3,hb3,if_true,true_and]
     by_cases e:a=b
     ·subst e; rfl
     ·rw [A43 e,A43 (fun h=>e h.symm)]
    ·simp only [ha3,hb3,if_true,if_false,false_and]
   ·by_cases hb3:Aj b=3
    ·simp only [ha3,hb3,if_true,if_false,false_and]
    ·simp only [ha3,hb3,if_false]
     rw [Bool.and_comm,Int.min_comm,Int.add_comm]
theorem Ahc {Y D:Nat} (h:Y%2^D=0):He Y D=Y / 2^D:=by unfold He; rw [A43 h]
theorem Akb {Y D:Nat} (h:Y%2^D≠0):He Y D%2=1:=by unfold He; rw [A42 h]; omega
theorem Ahd {Y d:Nat} (hY:Y<2^62) (h:Y%2^d≠0):(He Y (min d 63)-1)*2^d<Y∧Y<(He Y (min d 63)+1)*2^d∧He Y (min d 63)%2=1:=by
 have hA:=Cp d
 by_cases hd:d≤63
 ·rw [Nat.min_eq_left hd]
  refine ⟨?_,?_,Akb h⟩
  all_goals
   unfold He
   rw [A42 h]
   have h1:=Nat.div_add_mod Y (2^d)
   have h2:=Nat.mod_lt Y hA
   generalize Y / 2^d=q at *
   generalize Y%2^d=r at *
   generalize 2^d=c at *
   rw [A44] at h1
  ·have h3:(2*(q / 2)+1-1)*c≤q*c:=A4s c (by omega)
   omega
  ·have h3:(q+1)*c≤(2*(q / 2)+1+1)*c:=A4s c (by omega)
   rw [A5k,Nat.one_mul] at h3
   omega
 ·rw [Nat.min_eq_right (by omega)]
  have h63:Y%2^63=Y:=A4t (by omega)
  have hd0:Y / 2^63=0:=Nat.div_eq_of_lt (by omega)
  have hY0:Y≠0:=by intro e; rw [e] at h; simp at h
  have hr:He Y 63=1:=by unfold He; rw [h63,A42 hY0,hd0]
  have hp:2^62≤2^d:=A4v (by decide) (by omega)
  rw [hr]
  refine ⟨by simp; omega,by omega,rfl⟩
theorem A3l {d M:Nat} (h:(M*2^9)%2^d≠0):10≤d:=by
 refine Nat.lt_of_not_le fun hle=>h ?_
 obtain ⟨k,hk⟩:∃ k,9=d+k:=⟨9-d,by omega⟩
 rw [hk,A45,A44 (2^d),← A47,Nat.mul_mod_left]
theorem Qx {V m d:Nat} {e f:Int} (hd:e=f+d) (h:V=m*2^d∨(m%2=1∧(m-1)*2^d<V∧V<(m+1)*2^d∧2^60≤m)) :
 Ck m (e-9)=Ck V (f-9)∧flagsOf m (e-9)=flagsOf V (f-9):=by
 rcases h with rfl | ⟨h1,h2,h3,h4⟩
 ·have:=D1 m d (e-9)
  have e1:e-9-(d:Int)=f-9:=by omega
  rw [e1] at this
  exact ⟨this.1.symm,this.2.symm⟩
 ·have hm0:m≠0:=by omega
  have hlog:=Sj h1 (by omega) h2 h3
  have hl60:60≤m.log2:=(Nat.le_log2 hm0).2 h4
  have e1:f-9+(d:Int)=e-9:=by omega
  have hle:Da V (f-9)=Da m (f-9+d):=by unfold Da; rw [hlog]; congr 1; omega
  have hk:f-9+d+2≤Da m (f-9+d):=by unfold Da; omega
  obtain ⟨a1,a2⟩:=Sb h1 h2 h3 hle hk
  rw [e1] at a1 a2
  exact ⟨a1.symm,a2.symm⟩
theorem Aj1 (V:Nat) (f:Int):Ck (V*2^9) (f-9)=Ck V f∧flagsOf (V*2^9) (f-9)=flagsOf V f:=D1 V 9 f
structure Aww (Mx My d:Nat) (e f:Int) (X r:Nat):Prop where
 plus:Ck (X+r) (e-9)=Ck (Mx*2^d+My) f∧flagsOf (X+r) (e-9)=flagsOf (Mx*2^d+My) f
 less:r<X→My<Mx*2^d∧Ck (X-r) (e-9)=Ck (Mx*2^d-My) f∧flagsOf (X-r) (e-9)=flagsOf (Mx*2^d-My) f
 F6:X<r→Mx*2^d<My∧Ck (r-X) (e-9)=Ck (My-Mx*2^d) f∧flagsOf (r-X) (e-9)=flagsOf (My-Mx*2^d) f
 same:X=r→Mx*2^d=My
 small:r≤2^62
theorem Awt {X My r d p:Nat} {e f:Int} (hd:e=f+d) (comm:X*2^d=p*2^9) (n1:(r-1)*2^d<My*2^9) (n2:My*2^9<r*2^d+2^d) (n3:r%2=1) (hX2:X%2=0) (hX:2^61≤X) (hr:r≤2^53) :
 (Ck (X+r) (e-9)=Ck (p+My) f∧flagsOf (X+r) (e-9)=flagsOf (p+My) f)∧My<p∧Ck (X-r) (e-9)=Ck (p-My) f∧flagsOf (X-r) (e-9)=flagsOf (p-My) f:=by
 have e1:(r-1)*2^d+2^d=r*2^d:=by
  obtain ⟨k,rfl⟩:∃ k,r=k+1:=⟨r-1,by omega⟩
  rw [Nat.add_sub_cancel,A5k,Nat.one_mul]
 have e2:(r+1)*2^d=r*2^d+2^d:=by rw [A5k,Nat.one_mul]
 have hXd:(r+1)*2^d≤X*2^d:=A4s _ (by omega)
 have hlt:My<p:=by rw [e2,comm] at hXd; omega
 have a1:Ck (X+r) (e-9)=Ck ((p+My)*2^9) (f-9)∧flagsOf (X+r) (e-9)=flagsOf ((p+My)*2^9) (f-9):=by
  refine Qx hd (.inr ⟨by omega,?_,?_,by omega⟩)
  ·have h1:X+r-1=X+(r-1):=by omega
   rw [h1,A5k X (r-1) (2^d),A5k p My (2^9),comm]
   exact Nat.add_lt_add_left n1 _
  ·have h1:X+r+1=X+(r+1):=by omega
   rw [h1,A5k X (r+1) (2^d),A5k p My (2^9),comm,e2]
   exact Nat.add_lt_add_left n2 _
 have a2:Ck (X-r) (e-9)=Ck ((p-My)*2^9) (f-9)∧flagsOf (X-r) (e-9)=flagsOf ((p-My)*2^9) (f-9):=by
  rw [e2,comm] at hXd
  refine Qx hd (.inr ⟨by omega,?_,?_,by omega⟩)
  ·have h1:X-r-1=X-(r+1):=by omega
   rw [h1,Nat.sub_mul X (r+1) (2^d),Nat.sub_mul p My (2^9),comm,e2]
   omega
  ·have h1:X-r+1=X-(r-1):=by omega
   rw [h1,Nat.sub_mul X (r-1) (2^d),Nat.sub_mul p My (2^9),comm]
   omega
 rw [(Aj1 _ f).1,(Aj1 _ f).2] at a1 a2
 exact ⟨a1,hlt,a2⟩
theorem Ajc {Mx My d:Nat} {e f:Int} (hd:e=f+d) (hx:Mx<2^53) (hy:My<2^53) (hbig:10≤d→2^52≤Mx) :
 Aww Mx My d e f (Mx*2^9) (He (My*2^9) (min d 63)):=by
 have hA:=Cp d
 have hY:My*2^9<2^62:=by omega
 have comm:Mx*2^9*2^d=Mx*2^d*2^9:=by rw [A47,A44 (2^9),← A47]
 have s9:=fun V=>Aj1 V f
 by_cases hz:(My*2^9)%2^d=0
 ·
  have hr:∃ r,He (My*2^9) (min d 63)=r∧My*2^9=r*2^d:=by
   by_cases hd63:d≤63
   ·rw [Nat.min_eq_left hd63]
    exact ⟨_,rfl,by rw [Ahc hz]; exact (Nat.div_mul_cancel (Nat.dvd_of_mod_eq_zero hz)).symm⟩
   ·have hp:2^62≤2^d:=A4v (by decide) (by omega)
    have:My*2^9=0:=by rw [A4t (by omega)] at hz; exact hz
    rw [Nat.min_eq_right (by omega),this]
    exact ⟨0,by decide,by omega⟩
  obtain ⟨r,hr,hYr⟩:=hr
  rw [hr]
  have hle:r≤2^62:=by
   have:r*1≤r*2^d:=Nat.mul_le_mul_left r hA
   omega
  have cmp:∀ x y:Nat,x*2^d<y*2^d↔x<y:=fun x y=>Nat.mul_lt_mul_right hA
  refine ⟨?_,fun h=>?_,fun h=>?_,fun h=>?_,hle⟩
  ·rw [← (s9 _).1,← (s9 _).2]
   exact Qx hd (.inl (by rw [A5k (Mx*2^d) My (2^9),A5k (Mx*2^9) r (2^d),comm,hYr]))
  ·have h1:=(cmp r (Mx*2^9)).2 h
   refine ⟨by omega,?_⟩
   rw [← (s9 _).1,← (s9 _).2]
   exact Qx hd (.inl (by first | rw [Nat.sub_mul (Mx*2^d) My (2^9),Nat.sub_mul (Mx*2^9) r (2^d),comm,hYr] | rw [Nat.sub_mul My (Mx*2^d) (2^9),Nat.sub_mul r (Mx*2^9) (2^d),comm,hYr]))
  ·have h1:=(cmp (Mx*2^9) r).2 h
   refine ⟨by omega,?_⟩
   rw [← (s9 _).1,← (s9 _).2]
   exact Qx hd (.inl (by first | rw [Nat.sub_mul (Mx*2^d) My (2^9),Nat.sub_mul (Mx*2^9) r (2^d),comm,hYr] | rw [Nat.sub_mul My (Mx*2^d) (2^9),Nat.sub_mul r (Mx*2^9) (2^d),comm,hYr]))
  ·rw [← h] at hYr
   omega
 ·
  have hd10:=A3l hz
  have hMx:=hbig hd10
  obtain ⟨n1,n2,n3⟩:=Ahd hY hz
  have hrle:He (My*2^9) (min d 63)≤2^53:=by
   refine Nat.le_of_not_lt fun h=>?_
   have h1:2^53*2^d≤(He (My*2^9) (min d 63)-1)*2^d:=A4s _ (by omega)
   have h2:2^10≤2^d:=A4v (by decide) hd10
   have h3:2^53*2^10≤2^53*2^d:=Nat.mul_le_mul_left _ h2
   omega
  generalize He (My*2^9) (min d 63)=r at *
  have hr1:1≤r:=by omega
  have e1:(r-1)*2^d+2^d=r*2^d:=by
   obtain ⟨k,rfl⟩:∃ k,r=k+1:=⟨r-1,by omega⟩
   rw [Nat.add_sub_cancel,A5k,Nat.one_mul]
  have e2:(r+1)*2^d=r*2^d+2^d:=by rw [A5k,Nat.one_mul]
  rw [e2] at n2
  have hXr:r<Mx*2^9:=by omega
  have hXd:(r+1)*2^d≤Mx*2^9*2^d:=A4s _ (by omega)
  rw [e2,comm] at hXd
  obtain ⟨p1,p2,p3⟩:=Awt hd comm n1 n2 n3 (by omega) (by omega) hrle
  exact ⟨p1,fun _=>⟨p2,p3⟩,fun h=>by omega,fun h=>by omega,by omega⟩
theorem Yn (n:Bool) (m:Nat) (e:Int):Hu n m e false=(Bo n (Ck m e),flagsOf m e):=by
 unfold Hu
 have:=D1 m 2 e
 have e1:m*2^2=4*m+false.toNat:=by simp; omega
 have e2:e-((2:Nat):Int)=e-2:=by omega
 rw [e1,e2] at this
 rw [this.1,this.2]
theorem Te (E:Int):Ck 0 E=0:=A43 rfl
theorem Rj (E:Int):flagsOf 0 E=0:=A43 rfl
theorem M8 {b:Nat} (h:Jy b=true):Aj b≠4∧Aj b≠3:=by
 unfold Jy at h
 simp only [A4n] at h
 unfold Aj
 rw [A42 (by omega)]
 split
 ·omega
 ·split<;>omega
theorem Ade {b:Nat} (h:-1064≤A3 b):2^52≤Ay b:=by
 unfold A3 at h
 unfold Ay
 split at h
 ·omega
 ·rw [A42 (by assumption)]; omega
theorem Ur (z:Nat) (s:Bool) {V:Nat} (hV:V≠0) (f:Int):L6 z (Ja s V) f=(Bo s (Ck V f),flagsOf V f):=by
 unfold L6 Ja
 cases s
 ·have h1:¬ (V:Int)=0:=by omega
  have h2:¬ (V:Int)<0:=by omega
  simp only [Bool.false_eq_true,if_false,h1,h2,decide_false,Int.natAbs_natCast]
 ·have h1:¬ -(V:Int)=0:=by omega
  have h2:-(V:Int)<0:=by omega
  simp only [if_true,h1,if_false,h2,decide_true,Int.natAbs_neg,Int.natAbs_natCast]
theorem Awu {p q X r:Nat} {e f:Int} (s t:Bool)
 (plus:Ck (X+r) e=Ck (p+q) f∧flagsOf (X+r) e=flagsOf (p+q) f)
 (less:r<X→q<p∧Ck (X-r) e=Ck (p-q) f∧flagsOf (X-r) e=flagsOf (p-q) f)
 (F6:X<r→p<q∧Ck (r-X) e=Ck (q-p) f∧flagsOf (r-X) e=flagsOf (q-p) f)
 (same:X=r→p=q) :
 L6 (Bo (s&&t) 0) (Ja s p+Ja t q) f=(if s=t then Hu s (X+r) e false
  else if r<X then Hu s (X-r) e false
  else if X<r then Hu t (r-X) e false
  else (0,0)):=by
 simp only [Yn]
 by_cases hs:s=t
 ·rw [A43 hs,← hs]
  have hsum:Ja s p+Ja s q=Ja s (p+q):=by unfold Ja; cases s<;>simp<;>omega
  rw [hsum,plus.1,plus.2]
  by_cases h0:p+q=0
  ·rw [h0,Te,Rj]
   unfold L6
   have:Ja s 0=0:=by unfold Ja; cases s<;>rfl
   rw [A43 this,A4m]
  ·exact Ur _ _ h0 _
 ·rw [A42 hs]
  by_cases h1:r<X
  ·obtain ⟨c1,c2,c3⟩:=less h1
   rw [A43 h1,c2,c3]
   have hsum:Ja s p+Ja t q=Ja s (p-q):=by
    unfold Ja; cases s<;>cases t<;>simp at hs ⊢<;>omega
   rw [hsum]
   exact Ur _ _ (by omega) _
  ·rw [A42 h1]
   by_cases h2:X<r
   ·obtain ⟨c1,c2,c3⟩:=F6 h2
    rw [A43 h2,c2,c3]
    have hsum:Ja s p+Ja t q=Ja t (q-p):=by
     unfold Ja; cases s<;>cases t<;>simp at hs ⊢<;>omega
    rw [hsum]
    exact Ur _ _ (by omega) _
   ·rw [A42 h2]
    have c:=same (by omega)
    have hsum:Ja s p+Ja t q=0:=by
     unfold Ja; cases s<;>cases t<;>simp at hs ⊢<;>omega
    have hz:(s&&t)=false:=by cases s<;>cases t<;>simp at hs ⊢
    rw [hsum,hz]
    rfl
theorem Aud {a b:Nat} (ha:Jy a=true) (hb:Jy b=true) :
 H4 a b=L6 (Bo (By a&&By b) 0) (Hl a (min (A3 a) (A3 b))+Hl b (min (A3 a) (A3 b))) (min (A3 a) (A3 b)):=by
 have k1:=M8 ha
 have k2:=M8 hb
 unfold H4
 rw [A42 (fun h=>h.elim k1.1 k2.1),A42 k1.2,A42 k2.2]
theorem Ajo (b:Nat):Hl b (A3 b)=Ja (By b) (Ay b):=by
 unfold Hl; rw [Int.sub_self,Int.toNat_zero,A5e,A5p]
theorem Aqa {b:Nat} {f:Int} {d:Nat} (h:A3 b=f+d):Hl b f=Ja (By b) (Ay b*2^d):=by
 unfold Hl
 have:(A3 b-f).toNat=d:=by omega
 rw [this]
theorem Ajb {a b:Nat} (ha:Jy a=true) (hb:Jy b=true) {d:Nat} (hd:A3 a=A3 b+d) :
 H4 a b=(if By a=By b then Hu (By a) (Ay a*2^9+He (Ay b*2^9) (min d 63)) (A3 a-9) false
  else if He (Ay b*2^9) (min d 63)<Ay a*2^9 then Hu (By a) (Ay a*2^9-He (Ay b*2^9) (min d 63)) (A3 a-9) false
  else if Ay a*2^9<He (Ay b*2^9) (min d 63) then Hu (By b) (He (Ay b*2^9) (min d 63)-Ay a*2^9) (A3 a-9) false
  else (0,0)):=by
 have hx:=Ge a
 have hy:=Ge b
 have C:=Ajc (Mx:=Ay a) (My:=Ay b) hd hx hy (fun h=>Ade (by have:=Dy b; omega))
 rw [Aud ha hb,Int.min_eq_right (by omega),Ajo,Aqa hd]
 exact Awu _ _ C.plus C.less C.F6 C.same
theorem Xt {b:Nat} (h:b<2^64):I5 b<2^64:=by unfold I5; split<;>omega
theorem Ak1 (m:Nat) (e:Int):flagsOf m e<32:=by
 unfold flagsOf flags
 split
 ·decide
 ·split
  ·decide
  ·split
   ·decide
   ·split<;>decide
theorem Tz {a b:Nat} (ha:a<2^64) (hb:b<2^64):(H4 a b).1<2^64∧(H4 a b).2<32:=by
 unfold H4
 split
 ·exact ⟨by decide,by decide⟩
 ·split
  ·split
   ·decide
   ·exact ⟨ha,(by decide:0<32)⟩
  ·split
   ·exact ⟨hb,(by decide:0<32)⟩
   ·unfold L6
    split
    ·refine ⟨?_,(by decide:0<32)⟩
     unfold Bo; split<;>decide
    ·exact ⟨Vl _ _ _,Ak1 _ _⟩
end Go.Rnd
namespace Go.Rnd
open Go.Den
def Cx (r c:Nat) (f:Nat→Nat→Int):List Int:=(List.range (r*c)).map fun j=>f (j / c) (j%c)
theorem Cl (r c:Nat) (f:Nat→Nat→Int):(Cx r c f).length=r*c:=by unfold Cx; rw [A5m,A5j]
theorem Il {r c i k:Nat} (hi:i<r) (hk:k<c):i*c+k<r*c:=by
 have:(i+1)*c≤r*c:=A4s c hi
 rw [A5k,Nat.one_mul] at this
 omega
theorem Xl {c i k:Nat} (hk:k<c):(i*c+k) / c=i∧(i*c+k)%c=k:=by
 constructor
 ·rw [A44,Nat.mul_add_div (by omega),Nat.div_eq_of_lt hk,A5o]
 ·rw [A44,Nat.mul_add_mod,A4t hk]
theorem Je {r c:Nat} {f:Nat→Nat→Int} {j:Nat} (h:j<r*c):(Cx r c f)[j]?=some (f (j / c) (j%c)):=by
 unfold Cx
 rw [A5x,List.getElem?_range h]
 rfl
theorem Abf {r c i k:Nat} {f:Nat→Nat→Int} (hi:i<r) (hk:k<c):(Cx r c f).getD (i*c+k) 0=f i k:=by
 obtain ⟨d1,d2⟩:=Xl (i:=i) hk
 rw [A4q,Je (Il hi hk),d1,d2]
 rfl
theorem Aa2 {l m:List Int} (h:l.length=m.length) (he:∀ j,j<l.length→l[j]?=m[j]?):l=m:=by
 refine List.ext_getElem? fun j=>?_
 by_cases hj:j<l.length
 ·exact he j hj
 ·rw [A5y (by omega),A5y (by omega)]
theorem Eu {r c:Nat} {f g:Nat→Nat→Int} (h:∀ i k,i<r→k<c→f i k=g i k):Cx r c f=Cx r c g:=by
 refine Aa2 (by rw [Cl,Cl]) fun j hj=>?_
 rw [Cl] at hj
 have hc:0<c:=by
  rcases Nat.eq_zero_or_pos c with h0 | h0
  ·subst h0; rw [Nat.mul_zero] at hj; omega
  ·exact h0
 rw [Je hj,Je hj,h (j / c) (j%c) ((Nat.div_lt_iff_lt_mul hc).2 hj) (Nat.mod_lt _ hc)]
theorem Apb {r c:Nat} {l:List Int} (h:l.length=r*c):l=Cx r c fun i k=>l.getD (i*c+k) 0:=by
 refine Aa2 (by rw [Cl,h]) fun j hj=>?_
 rw [Je (by omega)]
 have e:j / c*c+j%c=j:=by rw [A44]; exact Nat.div_add_mod j c
 rw [e,A4q,A4x hj]
 rfl
theorem Qr {r c i k:Nat} {f:Nat→Nat→Int} (hk:k<c) (x:Int) :
 (Cx r c f).set (i*c+k) x=Cx r c fun a b=>if a=i∧b=k then x else f a b:=by
 refine Aa2 (by rw [List.length_set,Cl,Cl]) fun j hj=>?_
 rw [List.length_set,Cl] at hj
 obtain ⟨d1,d2⟩:=Xl (i:=i) hk
 rw [Je hj,List.getElem?_set]
 by_cases h:i*c+k=j
 ·subst h
  rw [A43 rfl,A43 (by rw [Cl]; exact hj),d1,d2,A43 ⟨rfl,rfl⟩]
 ·rw [A42 h,Je hj,A42]
  rintro ⟨h1,h2⟩
  exact h (by rw [← h1,← h2,A44]; exact Nat.div_add_mod j c)
theorem Qq (r c:Nat) (f:Nat→Nat→Int):Cx (r+1) c f=Cx r c f++(List.range c).map (f r):=by
 unfold Cx
 rw [A5k,Nat.one_mul,List.range_add,List.map_append,List.map_map]
 congr 1
 refine List.map_congr_left fun k hk=>?_
 have hk:=List.mem_range.1 hk
 obtain ⟨d1,d2⟩:=Xl (i:=r) hk
 show f ((r*c+k) / c) ((r*c+k)%c)=f r k
 rw [d1,d2]
theorem Qp (c:Nat) (f:Nat→Nat→Int):Cx 0 c f=[]:=by
 unfold Cx; rw [Nat.zero_mul]; rfl
theorem Li (k:Nat) (g:Nat→Int):(List.range (k+1)).map g=(List.range k).map g++[g k]:=by
 rw [List.range_succ,List.map_append]; rfl
theorem Abg (r c:Nat):Cx r c (fun _ _=>0)=List.replicate (r*c) 0:=by
 unfold Cx
 rw [List.map_const',A5j]
def Afx:Nat→List Int→List Int→Nat
 | s,x::xs,y::ys=>Afx (H4 s (Ly x.toNat y.toNat).1).1 xs ys
 | s,_,_=>s
def Hj (x y:List Int):Int:=Afx 0 x y
theorem Tj {a b:Nat}:(Ly a b).1<2^64:=by
 unfold Ly
 split
 ·decide
 ·split
  ·split
   ·decide
   ·unfold Bo; split<;>decide
  ·exact Vl _ _ _
theorem Afw:∀ (x y:List Int) (s:Nat),s<2^64→Afx s x y<2^64
 | x::xs,y::ys,s,h=>Afw xs ys _ (Tz h Tj).1
 | [],_,_,h=>by unfold Afx; exact h
 | _::_,[],_,h=>by unfold Afx; exact h
end Go.Rnd
namespace Go.Rnd
open Go.Den
def Cg (n:Int):Bool:=decide (0≤n)&&decide (n≤6)
def A0 (r c:Int) (l:List Int):Bool:=(Cg r&&Cg c)&&decide ((l.length:Int)=r*c)
def Lq (r c:Int) (l:List Int):Int:=if A0 r c l=true then 0 else 1
def Zs (r c:Int) (l:List Int) (p q:Int) (m:List Int):Int:=if (A0 r c l&&A0 p q m)=true then 0 else 1
def En (_r c:Int) (l:List Int) (i k:Int):Bool:=B5 (0≤i∧i<10∧0≤k∧k<10∧0≤c∧c<10∧i*c+k<l.length∧l.length<1000)
def Fp (c:Int) (l:List Int) (i k:Int):Int:=l.getD (i*c+k).toNat 0
def N0 (i k:Int):Int:=if i=k then 4607182418800017408 else 0
def Z2 (x y i k:Int):Bool:=B5 (0≤x∧x<10∧0≤y∧y<10∧0≤i∧i<10∧0≤k∧k<10)
def Ia (r c x y a b:Int):Bool:=decide (0≤x∧0≤y∧0≤a∧0≤b∧x≤r∧y≤c∧a≤r-x∧b≤c-y)
def P8 (r c:Int) (l:List Int) (p q:Int) (m:List Int) (i k:Int):Bool:=B5 (0≤r∧r<10∧0≤i∧i<20∧(if i<r then En r c l i k=true else En p q m (i-r) k=true))
def L5 (r c:Int) (l:List Int) (q:Int) (m:List Int) (i k:Int):Int:=if i<r then Fp c l i k else Fp q m (i-r) k
def Uq (r c:Int) (l:List Int) (i:Int):Bool:=A0 r c l&&B5 (0≤i∧i<r)
def Fv (r c:Int) (l:List Int) (k:Int):Bool:=A0 r c l&&B5 (0≤k∧k<c)
def Xr (r c:Int) (l:List Int) (p q:Int) (m:List Int) (i k:Int):Bool:=(Uq r c l i&&Fv p q m k)&&((Al l&&Al m)&&B5 (c=p))
def Lx (c:Int) (l:List Int) (i:Int):List Int:=List.drop (i*c).toNat (List.take ((i+1)*c).toNat l)
def Qw (r c:Int) (l:List Int) (k:Int):List Int:=(List.range r.toNat).map fun j:Nat=>Fp c l (j:Int) k
abbrev MX:=Int × Int × List Int × Int
def L8 (e:Int):MX:=(0,0,[],e)
def Pb (n:Int):MX:=if Cg n=true then (n,n,Cx n.toNat n.toNat fun i k=>N0 i k,0) else L8 3
def Fb (r c:Int) (l:List Int):MX:=if A0 r c l=true then (c,r,Cx c.toNat r.toNat fun i k=>Fp c l k i,0) else L8 1
def Cv (r c:Int) (l:List Int) (x y a b:Int):MX :=
 if A0 r c l=true then (if Ia r c x y a b=true then (a,b,Cx a.toNat b.toNat fun i k=>Fp c l (x+i) (y+k),0) else L8 3) else L8 1
def O7 (r c:Int) (l:List Int) (p q:Int) (m:List Int):MX :=
 if (A0 r c l&&A0 p q m)=true then (if c=p then (r,q,Cx r.toNat q.toNat fun i k=>Hj (Lx c l i) (Qw p q m k),0) else L8 3) else L8 1
def L4 (r c:Int) (l:List Int) (p q:Int) (m:List Int):MX :=
 if (A0 r c l&&A0 p q m)=true then (if c=q∧r+p≤6 then (r+p,c,Cx (r+p).toNat c.toNat fun i k=>L5 r c l q m i k,0) else L8 3) else L8 1
def Mb (x y:List Int):Bool:=decide (x.length=y.length)&&decide (x.length≤64)
def Ka (x y:List Int):Bool:=decide (x=y)
def Ds (r c:Int) (l:List Int) (p q:Int) (m:List Int):Bool:=(decide (r=p)&&decide (c=q))&&decide (l=m)
def Hz (l:List Int):Bool:=B5 (l.length≤17592186044416)
theorem Jp {n:Int}:Cg n=true↔0≤n∧n≤6:=by unfold Cg; simp
theorem Hx {r c:Int} {l:List Int}:A0 r c l=true↔(0≤r∧r≤6)∧(0≤c∧c≤6)∧(l.length:Int)=r*c:=by
 unfold A0
 rw [A4r,A4r,Jp,Jp,A4n,and_assoc]
theorem Co {r c:Int} {l:List Int} (h:A0 r c l=true):∃ R C:Nat,r=R∧c=C∧R≤6∧C≤6∧l.length=R*C:=by
 obtain ⟨h1,h2,h3⟩:=Hx.1 h
 refine ⟨r.toNat,c.toNat,by omega,by omega,by omega,by omega,?_⟩
 have:(((r.toNat*c.toNat:Nat)):Int)=r*c:=by rw [A41,Int.toNat_of_nonneg h1.1,Int.toNat_of_nonneg h2.1]
 omega
theorem Gv {n:Int} (h:Cg n=true):∃ R:Nat,n=R∧R≤6:=by
 have:=Jp.1 h
 exact ⟨n.toNat,by omega,by omega⟩
theorem Lf {n:Nat} (h:n≤6):Cg (n:Int)=true:=Jp.2 ⟨by omega,by omega⟩
theorem Em {r c:Nat} {l:List Int} (hr:r≤6) (hc:c≤6) (hl:l.length=r*c):A0 (r:Int) (c:Int) l=true :=
 Hx.2 ⟨⟨by omega,by omega⟩,⟨by omega,by omega⟩,by rw [hl,A41]⟩
theorem Tx (c:Nat) (l:List Int) (i k:Nat):Fp (c:Int) l (i:Int) (k:Int)=l.getD (i*c+k) 0:=by
 unfold Fp
 have:((i:Int)*(c:Int)+(k:Int)).toNat=i*c+k:=by
  rw [← A41,← Int.natCast_add,A4i]
 rw [this]
theorem Gy {r c i k:Nat} {R:Int} {l:List Int} (hr:r≤6) (hc:c≤6) (hl:l.length=r*c) (hi:i<r) (hk:k<c):En R (c:Int) l (i:Int) (k:Int)=true:=by
 have:=Il hi hk
 have h36:=A5c hr hc
 refine Aq.2 ⟨by omega,by omega,by omega,by omega,by omega,by omega,?_,by omega⟩
 rw [← A41]
 omega
theorem Tt {r c i k:Nat} {f:Nat→Nat→Int} (hi:i<r) (hk:k<c):Fp (c:Int) (Cx r c f) (i:Int) (k:Int)=f i k:=by
 rw [Tx,Abf hi hk]
theorem Rh {r c:Nat} (f:Nat→Nat→Int) (hr:r≤6) (hc:c≤6):A0 (r:Int) (c:Int) (Cx r c f)=true:=Em hr hc (Cl r c f)
theorem Ts {r c:Nat} {l:List Int} (h:l.length=r*c):(Cx r c fun i k=>Fp (c:Int) l (i:Int) (k:Int))=l:=by
 conv=>rhs; rw [Apb h]
 exact Eu fun i k _ _=>Tx c l i k
theorem Wy {l:List Int} (h:Al l=true) {j:Nat} (hj:j<l.length):Af (l.getD j 0)=true:=by
 have h:=Aq.1 h
 rw [A4q,A4x hj]
 exact h _ (List.getElem_mem hj)
end Go.Rnd
namespace Go.Rnd
theorem N6 {b:Nat} (h:b<2^64):Bo (By b) (b%2^63)=b:=by
 unfold Bo By
 by_cases hb:2^63≤b
 ·simp only [hb,decide_true,if_true]; omega
 ·simp only [hb,decide_false,Bool.false_eq_true,if_false]; omega
theorem Aim {b:Nat} (h:b<2^64) (h4:Aj b≠4):Bo (By b) (Ck (Ay b) (A3 b))=b:=by
 rw [Tf h4,N6 h]
theorem Apf {b:Nat} (h3:Aj b≠3) (h4:Aj b≠4):flagsOf (Ay b) (A3 b)=0:=by
 by_cases h0:Ay b=0
 ·rw [h0]; exact Rj _
 ·have h1:=Ge b
  have h2:=Dy b
  have h5:=Tp h3 h4
  exact (Abo false h0 (Yq (by omega) h2.1) (by rw [Tf h4]; exact h5)).1
theorem mul_pow {a p:Nat} (a3:Aj a≠3) (a4:Aj a≠4) (p3:Aj p≠3) (p4:Aj p≠4) (hp:Ay p=2^52) (hn:By p=false) :
 Ly a p=(Bo (By a) (Ck (Ay a) (A3 a+A3 p+52)),flagsOf (Ay a) (A3 a+A3 p+52)):=by
 obtain ⟨s1,s2⟩:=D1 (Ay a) 52 (A3 a+A3 p+52)
 have e:A3 a+A3 p+52-((52:Nat):Int)=A3 a+A3 p:=by omega
 rw [e] at s1 s2
 have e2:(By a !=false)=By a:=by cases By a<;>rfl
 unfold Ly
 rw [A42 (by omega),A42 (by omega),hp,hn,s1,s2,e2]
theorem Aru:Ay 4607182418800017408=2^52∧A3 4607182418800017408=-52∧Aj 4607182418800017408=2∧By 4607182418800017408=false:=by decide +kernel
theorem mul_one {a:Nat} (h:a<2^64) (a3:Aj a≠3) (a4:Aj a≠4):Ly a 4607182418800017408=(a,0):=by
 obtain ⟨o1,o2,o3,o4⟩:=Aru
 have e:A3 a+-52+52=A3 a:=by omega
 rw [mul_pow a3 a4 (by omega) (by omega) o1 o4,o2,e,Aim h a4,Apf a3 a4]
end Go.Rnd
namespace Go.Rnd
def Tq (n:Nat):Nat:=Ieee.Datum.rootFrom n (n.log2 / 2+1) 0
theorem Au3 (k:Nat):1 <<< k=2^k:=by rw [Nat.shiftLeft_eq,Nat.one_mul]
theorem Xe {n:Nat}:∀ (todo root:Nat),root*root≤n→n<(root+2^todo)*(root+2^todo) →
 Ieee.Datum.rootFrom n todo root*Ieee.Datum.rootFrom n todo root≤n∧n<(Ieee.Datum.rootFrom n todo root+1)*(Ieee.Datum.rootFrom n todo root+1)
 | 0,root,h1,h2=>⟨h1,h2⟩
 | todo+1,root,h1,h2=>by
   unfold Ieee.Datum.rootFrom
   simp only [Au3]
   have hp:2^(todo+1)=2^todo+2^todo:=by rw [Nat.pow_succ]; omega
   rw [hp] at h2
   by_cases h:(root+2^todo)*(root+2^todo)≤n
   ·rw [A43 h]
    exact Xe todo _ h (by rw [Nat.add_assoc]; exact h2)
   ·rw [A42 h]
    exact Xe todo _ h1 (by omega)
theorem Qn (n:Nat):Tq n*Tq n≤n∧n<(Tq n+1)*(Tq n+1):=by
 refine Xe _ _ (by simp) ?_
 rw [A5q,← A45]
 rcases Nat.eq_zero_or_pos n with rfl | hn
 ·decide
 ·refine (A5w (by omega)).1 ?_
  omega
theorem Ag2 {a b:Nat} (h:a*a<b*b):a<b:=by
 rcases A5d a b with h1 | h1
 ·exact h1
 ·have:=A5c h1 h1; omega
theorem Aa9 {n w:Nat} (h1:w*w≤n) (h2:n<(w+1)*(w+1)):w=Tq n:=by
 obtain ⟨a,b⟩:=Qn n
 have c1:=Ag2 (A5i h1 b)
 have c2:=Ag2 (A5i a h2)
 omega
theorem Ast {n w:Nat} (h:w*w≤n):w≤Tq n:=by
 have:=Ag2 (A5i h (Qn n).2)
 omega
def Hd (n:Nat):Nat:=2*Tq n+(if Tq n*Tq n=n then 0 else 1)
theorem Xa (a c:Nat):a*c*(a*c)=a*a*(c*c):=by
 rw [A47,Nat.mul_left_comm c,← A47 a a]
theorem Ac9 {n:Nat} (d:Nat) (E:Int) (h:2^53≤Tq n) :
 Ck (Hd (n*(2^d*2^d))) (E-d)=Ck (Hd n) E∧flagsOf (Hd (n*(2^d*2^d))) (E-d)=flagsOf (Hd n) E:=by
 have hA:=Cp d
 obtain ⟨h1,h2⟩:=Qn n
 unfold Hd
 generalize hw:Tq n=w at *
 generalize hc:2^d=c at *
 have hcc:0<c*c:=Nat.mul_pos hA hA
 by_cases h0:w*w=n
 ·have e1:Tq (n*(c*c))=w*c:=by
   refine (Aa9 ?_ ?_).symm
   ·rw [Xa,h0]; exact A5a _
   ·have:=Xa w c
    rw [h0] at this
    rw [A5k,Nat.mul_add,this]; omega
  rw [e1,Xa,h0,A43 rfl,A43 rfl]
  have:=D1 (2*w+0) d E
  rw [hc,show (2*w+0)*c=2*(w*c)+0 by rw [A5o,A5o,A47]] at this
  exact this
 ·rw [A42 h0]
  obtain ⟨g1,g2⟩:=Qn (n*(c*c))
  have q1:w*c≤Tq (n*(c*c)):=Ast (by rw [Xa]; exact A4s _ h1)
  have q2:Tq (n*(c*c))<(w+1)*c:=by
   refine Ag2 (A5i g1 ?_)
   rw [Xa]
   exact (Nat.mul_lt_mul_right hcc).2 h2
  have q3:Tq (n*(c*c))=w*c→Tq (n*(c*c))*Tq (n*(c*c))≠n*(c*c):=fun h5 h6=>by
   rw [h5,Xa] at h6
   exact h0 (Nat.eq_of_mul_eq_mul_right hcc h6)
  generalize hQ:Tq (n*(c*c))=Q at *
  have p1:(2*w+1-1)*c=2*(w*c):=by rw [Nat.add_sub_cancel,A47]
  have p2:(2*w+1+1)*c=2*((w+1)*c):=by rw [show 2*w+1+1=2*(w+1) by omega,A47]
  have od:(2*w+1)%2=1:=by omega
  generalize hV:2*Q+(if Q*Q=n*(c*c) then 0 else 1)=V
  have v1:(2*w+1-1)*2^d<V:=by
   rw [hc,p1,← hV]
   by_cases h5:Q=w*c
   ·rw [A42 (q3 h5)]; omega
   ·split<;>omega
  have v2:V<(2*w+1+1)*2^d:=by
   rw [hc,p2,← hV]
   split<;>omega
  have lV:=Sj od (by omega) v1 v2
  have hs:54≤(2*w+1).log2:=by rw [Nat.le_log2 (by omega)]; omega
  have ee:E-(d:Int)+d=E:=by omega
  have:=Sb (E:=E-d) od v1 v2 (by unfold Da; rw [lV]; omega) (by unfold Da; omega)
  rw [ee] at this
  exact this
theorem Afn {n t:Nat} (h:2^(t+t)≤n):2^t≤Tq n:=Ast (by rw [← A45]; exact h)
theorem pow_two (k d:Nat):2^(k+2*d)=2^k*(2^d*2^d):=by rw [A45,Nat.two_mul,A45]
theorem Ada {m k l:Nat} {E F:Int} (h1:2^106≤m*2^k) (h2:2^106≤m*2^l) (he:2*E+k=2*F+l) :
 Ck (Hd (m*2^k)) E=Ck (Hd (m*2^l)) F∧flagsOf (Hd (m*2^k)) E=flagsOf (Hd (m*2^l)) F:=by
 rcases Nat.le_total k l with h | h
 ·obtain ⟨d,rfl⟩:∃ d,l=k+2*d:=⟨(l-k) / 2,by omega⟩
  have:=Ac9 (n:=m*2^k) d E (Afn (t:=53) h1)
  rw [A47,← pow_two,show E-(d:Int)=F by omega] at this
  exact ⟨this.1.symm,this.2.symm⟩
 ·obtain ⟨d,rfl⟩:∃ d,k=l+2*d:=⟨(k-l) / 2,by omega⟩
  have:=Ac9 (n:=m*2^l) d F (Afn (t:=53) h2)
  rw [A47,← pow_two,show F-(d:Int)=E by omega] at this
  exact this
def K0 (b:Nat):Nat:=128+(A3 b%2).toNat
def Oh (b:Nat):Nat × Nat :=
 if Aj b=4 then (Oc,0)
 else if Aj b=0∨b=Ek then (b,0)
 else if By b=true then (Oc,16)
 else (Ck (Hd (Ay b*2^K0 b)) ((A3 b-K0 b) / 2-1),flagsOf (Hd (Ay b*2^K0 b)) ((A3 b-K0 b) / 2-1))
theorem Hp {b:Nat} (h3:Aj b≠3) (h4:Aj b≠4):Ay b=0↔Aj b=0:=by
 have:=Kj b
 have:=J4 b
 unfold Ay
 unfold Aj at *
 split at h3<;>split<;>(try split)<;>(try split)<;>simp_all<;>omega
theorem Z1 {b:Nat} (h:Aj b=4):Oh b=(Oc,0):=A43 h
theorem N5 {b:Nat} (h4:Aj b≠4) (h:Aj b=0∨b=Ek):Oh b=(b,0):=by unfold Oh; rw [A42 h4,A43 h]
theorem Vj {b:Nat} (h4:Aj b≠4) (h:¬ (Aj b=0∨b=Ek)) (hn:By b=true):Oh b=(Oc,16):=by unfold Oh; rw [A42 h4,A42 h,A43 hn]
theorem Z0 {b:Nat} (h4:Aj b≠4) (h:¬ (Aj b=0∨b=Ek)) (hn:By b=false) :
 Oh b=(Ck (Hd (Ay b*2^K0 b)) ((A3 b-K0 b) / 2-1),flagsOf (Hd (Ay b*2^K0 b)) ((A3 b-K0 b) / 2-1)):=by
 unfold Oh; rw [A42 h4,A42 h,A42 (by rw [hn]; decide)]
theorem Av0:By Ek=false:=by decide
theorem Aid:Aj Ek=3:=by decide
theorem Me:Es Ek=Ek:=by decide
theorem Apt {d:Nat} (h:Aj d=4):Es d=Oc:=A43 h
theorem Ag1 (b d:Nat) (x:Ieee.Datum) (h:Ieee.double.read b=x):(Ieee.double.sqrt b).getD d=((x.root 54).map Ieee.double.write).getD d:=by
 rw [← h]; rfl
theorem Kf (r:Nat):Bo false r=r:=rfl
def Qk (m:Nat) (i:Int):Nat:=2*54-m.log2+((i-((2*54-m.log2:Nat):Int))%2).toNat
theorem Ari {m:Nat} {i:Int} (h:m≠0):(Ieee.Datum.number false m i).root 54=some (.number false (2*Ieee.Datum.rootFrom (m <<< Qk m i) ((m <<< Qk m i).log2 / 2+1) 0+(Ieee.Datum.rootFrom (m <<< Qk m i) ((m <<< Qk m i).log2 / 2+1) 0*Ieee.Datum.rootFrom (m <<< Qk m i) ((m <<< Qk m i).log2 / 2+1) 0 !=m <<< Qk m i).toNat) ((i-Qk m i) / 2-1)):=by
 unfold Ieee.Datum.root Qk
 dsimp only
 rw [A42 h,A42 (by decide)]
theorem Ayb {m:Nat} {i:Int} {d:Nat} (h:m≠0) (hlog:m.log2≤52) (r:Int) (k:Nat) (hk:2^106≤m*2^k) (hr:2*r+k=i-2) :
 Es ((((Ieee.Datum.number false m i).root 54).map Ieee.double.write).getD d)=Ck (Hd (m*2^k)) r:=by
 have hpow:2^m.log2≤m:=Nat.log2_self_le h
 have hmo:108≤m.log2+Qk m i∧(i-Qk m i)%2=0:=by unfold Qk; omega
 rw [Ari h,Option.map_some,A50,N2,H8 _ (Km _ _),Kf]
 generalize Qk m i=F6 at *
 have g1:2^106≤m*2^F6:=by
  have:2^108≤2^(m.log2+F6):=A4v (by decide) hmo.1
  rw [A45] at this
  have h5:=A4s (2^F6) hpow
  omega
 have pe2:2*((i-(F6:Int)) / 2-1)+F6=i-2:=by omega
 rw [← (Ada g1 hk (E:=(i-(F6:Int)) / 2-1) (F:=r) (by omega)).1,Nat.shiftLeft_eq]
 have e:∀ w:Nat,2*w+(w*w !=m*2^F6).toNat=2*w+(if w*w=m*2^F6 then 0 else 1):=fun w=>by
  by_cases hww:w*w=m*2^F6
  ·rw [A43 hww,hww]; simp
  ·rw [A42 hww]
   have:(w*w !=m*2^F6)=true:=by simpa using hww
   rw [this]; rfl
 rw [e]
 unfold Hd Tq
 rfl
theorem Aaa {b:Nat} (hm:Ay b≠0):2^106≤Ay b*2^K0 b∧2*((A3 b-(K0 b:Int)) / 2-1)+K0 b=A3 b-2:=by
 refine ⟨?_,by unfold K0; omega⟩
 have:2^128≤2^K0 b:=A4v (by decide) (by unfold K0; omega)
 have h5:=A5c (show 1≤Ay b by omega) this
 omega
theorem Ahz {b:Nat} (hm:Ay b≠0):(Ay b).log2≤52:=by
 have:=(A5w hm).2 (show Ay b<2^53 from Ge b)
 omega
theorem Arj (s:Bool) (f:Nat):(Ieee.Datum.nan s f).root 54=none:=rfl
theorem An2:(Ieee.Datum.infinity true).root 54=none:=rfl
theorem An3:(Ieee.Datum.infinity false).root 54=some (.infinity false):=rfl
theorem An1 (s:Bool) (i:Int):(Ieee.Datum.number s 0 i).root 54=some (.number s 0 i):=rfl
theorem Aj9 {m:Nat} (i:Int) (h:m≠0):(Ieee.Datum.number true m i).root 54=none:=by
 unfold Ieee.Datum.root
 dsimp only
 rw [A42 h,A43 rfl]
theorem U9 {d:Nat} (hd:Aj d=4):Es ((Option.map Ieee.double.write none).getD d)=Oc:=Apt hd
theorem An4 {b:Nat} (hb:b<2^64) {d:Nat} (hd:Aj d=4):Es ((Ieee.double.sqrt b).getD d)=(Oh b).1:=by
 rw [Ag1 b d _ (J3 hb)]
 by_cases h4:Aj b=4
 ·rw [Z1 h4,Ik h4,Arj,U9 hd]
 by_cases h3:Aj b=3
 ·rw [Fh h3]
  have hw:=Mn hb h3
  cases hn:By b with
  | true =>
    have hne:¬ (Aj b=0∨b=Ek):=by
     intro h
     rcases h with h | h
     ·omega
     ·rw [h,Av0] at hn; cases hn
    rw [Vj h4 hne hn,An2,U9 hd]
  | false =>
    rw [hn,Kf] at hw
    rw [N5 h4 (.inr hw.symm),An3,Option.map_some,A50,Am8,Kf,Me]
    exact hw
 rw [Fg h3 h4]
 have hz:=Hp h3 h4
 by_cases h0:Aj b=0
 ·have hm:=hz.2 h0
  have:=Aim hb h4
  rw [hm] at this
  rw [N5 h4 (.inl h0),hm,An1,Option.map_some,A50,N2,H8 _ (Km _ _),this]
 have hi:¬ (Aj b=0∨b=Ek):=by
  intro h
  rcases h with h | h
  ·exact h0 h
  ·rw [h,Aid] at h3; exact h3 rfl
 have hm:Ay b≠0:=fun h=>h0 (hz.1 h)
 cases hn:By b with
 | true=>rw [Vj h4 hi hn,Aj9 _ hm,U9 hd]
 | false =>
   obtain ⟨k1,k2⟩:=Aaa hm
   rw [Z0 h4 hi hn,Ayb hm (Ahz hm) _ _ k1 k2]
end Go.Rnd
namespace Go.Rnd
def Fi (b:Nat) (n:Int):Nat × Nat :=
 if Aj b=4 then (Oc,0)
 else if Aj b=3∨Aj b=0 then (b,0)
 else (Bo (By b) (Ck (Ay b) (A3 b+n)),flagsOf (Ay b) (A3 b+n))
theorem Ani {V:Nat} {E:Int} (h0:V≠0) (h:E+V.log2+1≤-1075):Ck V E=0∧flagsOf V E=3:=by
 have hl:Da V E=-1074:=by unfold Da; omega
 obtain ⟨k,hk⟩:∃ k:Nat,(-1074:Int)-E=((k:Nat):Int):=⟨(-1074-E).toNat,by omega⟩
 have hV:V<2^(V.log2+1):=(A5w h0).1 (by omega)
 have hp:2^(V.log2+1)*2≤2^k:=by rw [← Nat.pow_succ]; exact A4v (by decide) (by omega)
 have e1:V*2^(-((-1074:Int)-E)).toNat=V:=by rw [hk]; simp
 have e2:((-1074:Int)-E).toNat=k:=by rw [hk]; rfl
 have hk2:kept V E=0:=by
  unfold kept Lj
  rw [hl,e1,e2]
  unfold Oj
  rw [Nat.div_eq_of_lt (by omega),A4t (by omega),A42 (by omega)]
 have hx:exact V E=false:=by
  unfold exact Od
  rw [hl,e1,e2,A4t (by omega)]
  exact A4l h0
 have hr:Ck V E=0:=by
  unfold Ck
  rw [A42 h0,hl,hk2]
  rfl
 refine ⟨hr,?_⟩
 unfold flagsOf
 rw [A42 h0,hr,hx]
 rfl
theorem Aom (n:Bool) {m:Nat} {e:Int} {F6:Bool} (hm:m<2^53) (h0:m≠0∨F6=true) (he:e≤-1130) :
 Hu n m e F6=(Bo n 0,3):=by
 have h1:F6.toNat≤1:=by cases F6<;>decide
 have hV:4*m+F6.toNat≠0:=by
  rcases h0 with h | h
  ·omega
  ·rw [h]; simp
 have hl:(4*m+F6.toNat).log2≤54:=by
  have:=(A5w hV).2 (show 4*m+F6.toNat<2^55 by omega); omega
 have:=Ani hV (E:=e-2) (by omega)
 unfold Hu
 rw [this.1,this.2]
theorem Ar7 (n:Bool):Hu n 0 (-1074) true=(Bo n 0,3):=by
 cases n<;>decide +kernel
theorem Aj2 {b:Nat} {n:Int} (h4:Aj b≠4) (h:¬ (Aj b=3∨Aj b=0)) (hn:A3 b+n≤-1130):Fi b n=(Bo (By b) 0,3):=by
 have hm:Ay b≠0:=fun h5=>h (.inr ((Hp (by omega) h4).1 h5))
 have:=Ani hm (E:=A3 b+n) (by have:=Ahz hm; omega)
 unfold Fi
 rw [A42 h4,A42 h,this.1,this.2]
theorem Xb {b:Nat} {n:Int} (h4:Aj b≠4) (h:¬ (Aj b=3∨Aj b=0)):Fi b n=(Bo (By b) (Ck (Ay b) (A3 b+n)),flagsOf (Ay b) (A3 b+n)):=by
 unfold Fi; rw [A42 h4,A42 h]
def Aco (b:Nat):Int:=if Jy b=true∧Aj b≠0 then ((Ay b).log2:Int)+A3 b else 0
def Gg (b:Nat):Nat:=b%2^63
def Aci (a b:Nat):Int:=if Aj a=4∨Aj b=4 then 0 else if Hr a<Hr b then -1 else if Hr b<Hr a then 1 else 0
def Aal (a b:Nat):Bool:=!(decide (Aj a=4∨Aj b=4))
def Aks (a b:Nat):Nat:=if Aal a b=true then (if Aci a b<0 then b else a) else Oc
end Go.Rnd
namespace Go.Rnd
open Go.Den
def Adb (b:Int):Int:=Hr b.toNat
def Hq (a b:Int):Int:=Aci a.toNat b.toNat
def Qh (a b:Int):Bool:=Aal a.toNat b.toNat
def Iw (x:Int):Int:=Gg x.toNat
def Uz (a b:Int):Int:=Aks a.toNat b.toNat
def Bg (x n:Int):Int:=(Fi x.toNat n).1
def Au5 (x n:Int):Int:=(Fi x.toNat n).2
def Df (x n:Int):Bool:=Af x&&B5 (-2300≤n∧n≤2300)
def B1 (x:Int):Int:=Aco x.toNat
def P2:List Int→Nat→Nat
 | [],m=>m
 | x::l,m=>if Aj x.toNat=4 then Oc else P2 l (max m (Gg x.toNat))
def Bk (l:List Int):Int:=P2 l 0
def Dc (l:List Int):Bool:=l.all Dz
def D5 (r c:Int) (l:List Int):Int:=if A0 r c l=true then (if Dc l=true then 0 else 4) else 1
def Avj (c:Int) (l:List Int) (n:Nat):Bool:=(List.range n).any fun i:Nat=>decide (Bz (Fp c l (i:Int) (i:Int))=0)
def A1w (r c:Int) (l:List Int) (p q:Int) (m:List Int):Int :=
 if D5 r c l≠0 then D5 r c l else if D5 p q m≠0 then D5 p q m
 else if r≠c∨r≠p then 3 else if Avj c l r.toNat=true then 5 else 0
def Axb (c:Int) (l:List Int) (i:Int):Int→Int→List Int→Int
 | s,_,[]=>s
 | s,j,x::xs=>Axb c l i (E4 s (Cc (Fp c l i j) x)) (j+1) xs
def loL (c:Int) (l:List Int) (b:Nat→Int):Nat→List Int
 | 0=>[]
 | k+1=>loL c l b k++[Ey (Axb c l (k:Int) (b k) 0 (loL c l b k)) (Fp c l (k:Int) (k:Int))]
def loG (c:Int) (l:List Int) (q:Int) (m:List Int) (n w:Nat):List Int:=Cx n w fun i j=>(loL c l (fun i=>Fp q m (i:Int) (j:Int)) n).getD i 0
def A3q (r c:Int) (l:List Int):MX:=if Dc l=true then (r,c,l,0) else L8 2
def loX (r c:Int) (l:List Int) (p q:Int) (m:List Int):MX :=
 if A1w r c l p q m≠0 then L8 (A1w r c l p q m) else A3q r q (loG c l q m r.toNat q.toNat)
def A1v (c:Int) (l:List Int) (n:Nat):List Int:=(List.range n).map fun i:Nat=>Iw (Fp c l (i:Int) (i:Int))
def A1r (d:List Int):Bool:=d.any fun x=>!(decide (Hq (Bg (Bk d) (-40)) x<0))
def Ayt (r c:Int) (l:List Int):Bool:=A1r (A1v c l (min r.toNat c.toNat))
def Axd (r c:Int) (l:List Int):Bool × Int:=if D5 r c l≠0 then (false,D5 r c l) else (Ayt r c l,0)
def Ax0 (r c:Int) (l:List Int) (p q:Int) (m:List Int):Bool:=(A0 r c l&&A0 p q m)&&((Al l&&Al m)&&B5 (r=c∧r=p))
def Ic (n:Nat):List Int:=Cx n n fun i k=>N0 (i:Int) (k:Int)
end Go.Rnd
namespace Go.Rnd
open Go.Den
theorem Awe {a b:Nat}:(Afy a b).1<2^64:=by
 have h1:Ek<2^63:=by decide
 have hs:∀ (s:Bool) {r:Nat},r<2^63→Bo s r<2^64:=by
  intro s r h
  unfold Bo
  cases s
  ·rw [A42 (by decide)]; omega
  ·rw [A43 rfl]; omega
 have hN:Oc<2^64:=by decide
 unfold Afy
 by_cases c1:Aj a=4∨Aj b=4
 ·rw [A43 c1]; exact hN
 rw [A42 c1]
 by_cases c2:Aj a=Aj b∧(Aj a=3∨Aj a=0)
 ·rw [A43 c2]; exact hN
 rw [A42 c2]
 by_cases c3:Aj a=3
 ·rw [A43 c3]; exact hs _ h1
 rw [A42 c3]
 by_cases c4:Aj b=3∨Aj a=0
 ·rw [A43 c4]; exact hs _ (by decide)
 rw [A42 c4]
 by_cases c5:Aj b=0
 ·rw [A43 c5]; exact hs _ h1
 rw [A42 c5]
 exact hs _ (Q2 _ _)
theorem Lp (a b:Int):Af (Ey a b)=true:=Cm Awe
theorem Pw {a b:Int} (ha:Af a=true) (hb:Af b=true):Af (E4 a b)=true:=by
 obtain ⟨x,rfl,hx⟩:=Bw ha
 obtain ⟨y,rfl,hy⟩:=Bw hb
 exact Cm (Tz (by rw [A4i]; exact hx) (Xt (by rw [A4i]; exact hy))).1
theorem Mk {r c:Nat} {f:Nat→Nat→Int} (h:∀ i k,Af (f i k)=true):Al (Cx r c f)=true:=Aq.2 fun x hx=>by
 obtain ⟨j,_,rfl⟩:=List.mem_map.1 hx
 exact h _ _
theorem Ew (a b:Int):Af (Cc a b)=true:=Cm Tj
theorem Av3 {l:List Int} (h:∀ x∈l,Af x=true) (i:Nat):Af (l.getD i 0)=true:=by
 rw [A4q]
 cases hi:l[i]? with
 | none=>exact Cm (n:=0) (by decide)
 | some x=>exact h x (List.mem_of_getElem? hi)
end Go.Rnd
namespace Go.Rnd
open Go.Den
def Ae9:Int:=4607182418800017408
def Ed (x:Int):Int:=(Oh x.toNat).1
def R9 (x:Int):Int:=(Oh x.toNat).2
def Vi (k:Int):Int→List Int→Int
 | s,[]=>s
 | s,x::l=>Vi k (Dt s (Cc (Bg x k) (Bg x k))) l
def Bt (x:List Int):Int :=
 if Bk x=0∨Dz (Bk x)=false then Bk x else Bg (Ed (Vi (-B1 (Bk x)) 0 x)) (B1 (Bk x))
def E7 (l:List Int):Bool:=l.all fun x=>decide (Bz x=0)
def Qm:List Int→Int
 | []=>0
 | x::l=>if Bz x=0 then Qm l else x
def A9 (l:List Int) (k:Int):List Int:=l.map fun x=>Bg x k
def Kg (n:Nat) (f:Nat→Int):List Int:=Ae9::(List.range (n-1)).map fun j=>f (j+1)
def muI (x:List Int):Int:=if Eb (Qm x)=true then Bt (A9 x (-B1 (Bk x))) else Cz (Bt (A9 x (-B1 (Bk x))))
def F4 (x:List Int):Int:=Bg (muI x) (B1 (Bk x))
def As9 (x:List Int):Int:=Bg (x.getD 0 0) (-B1 (Bk x))
def T5 (x:List Int):List Int:=Kg x.length fun j=>Ey (Bg (x.getD j 0) (-B1 (Bk x))) (E4 (As9 x) (muI x))
def Uw (x:List Int):Int:=Ey (E4 (muI x) (As9 x)) (muI x)
def Mz (x:List Int):List Int × Int × Int × Int :=
 if E7 (x.drop 1)=true then (Kg x.length fun _=>0,0,x.getD 0 0,0)
 else if Dz (F4 x)=true then (T5 x,Uw x,F4 x,0) else ([],0,0,2)
def C1 (x:List Int):List Int × Int × Int × Int :=
 if x.length=0∨64<x.length then ([],0,0,3) else if Dc x=true then Mz x else ([],0,0,4)
def Ci (c:Int) (l:List Int) (b i:Int) (n:Nat):List Int:=(List.range n).map fun j:Nat=>Fp c l (i+(j:Int)) b
def Vb (c:Int) (l:List Int) (i:Int) (v:List Int) (t b:Int):Int:=Cc t (Hj v (Ci c l b i v.length))
def Rs (c:Int) (l:List Int) (i k:Int) (v:List Int) (t a b:Int):Int :=
 if k≤b∧i≤a∧a<i+v.length then E4 (Fp c l a b) (Cc (Vb c l i v t b) (v.getD (a-i).toNat 0)) else Fp c l a b
def Gj (r c:Nat) (l:List Int) (i k:Int) (v:List Int) (t:Int):List Int:=Cx r c fun a b=>Rs (c:Int) l i k v t (a:Int) (b:Int)
def Ke (r c i k:Int) (v:List Int):Bool:=decide (0≤i∧(v.length:Int)≤r∧i≤r-v.length∧0≤k∧k≤c)
def Oz (r c:Nat) (l:List Int) (j:Nat) (x:Int):List Int:=Cx r c fun a b=>if b=j∧j≤a then (if a=j then x else 0) else Fp (c:Int) l (a:Int) (b:Int)
def F3 (r c:Nat) (l:List Int) (j:Nat):List Int:=Ci (c:Int) l (j:Int) (j:Int) (r-j)
def Aaw (r c:Nat) (l:List Int) (j:Nat):List Int:=Oz r c (Gj r c l (j:Int) (j:Int) (C1 (F3 r c l j)).1 (C1 (F3 r c l j)).2.1) j (C1 (F3 r c l j)).2.2.1
def Ox (r c:Nat):Nat→Nat→List Int→Option (List Int × List (List Int × Int))
 | 0,_,l=>some (l,[])
 | n+1,j,l=>if (C1 (F3 r c l j)).2.2.2=0 then
  (Ox r c n (j+1) (Aaw r c l j)).map fun x=>(x.1,((C1 (F3 r c l j)).1,(C1 (F3 r c l j)).2.1)::x.2) else none
def Jj (r c:Nat):Nat:=min c (r-1)
def I3 (n:Nat):Nat→List (List Int × Int)→List Int→List Int
 | _,[],q=>q
 | j,m::ms,q=>Gj n n (I3 n (j+1) ms q) (j:Int) 0 m.1 m.2
def Ln (r c:Nat) (l:List Int):Option (List Int × List (List Int × Int)):=Ox r c (Jj r c) 0 l
def Pa (r c:Nat) (l:List Int):List Int:=match Ln r c l with
 | some x=>I3 r 0 x.2 (Ic r)
 | none=>[]
def Na (r c:Nat) (l:List Int):List Int:=match Ln r c l with
 | some x=>x.1
 | none=>[]
def Hv (r c:Int) (l:List Int):MX:=if (Ln r.toNat c.toNat l).isSome=true then (r,c,Na r.toNat c.toNat l,0) else L8 2
def Aav (ms:List (List Int × Int)):List (List DV):=ms.map fun m=>[.ints .arg .u64 m.1,.int .u64 m.2]
def Ql (r c:Int) (l:List Int):List (List DV):=match Ln r.toNat c.toNat l with
 | some x=>Aav x.2
 | none=>[]
def Wf (m:Int):Int:=Tq (m.toNat*2^64)
def Wg (m:Int):Bool:=decide (Tq (m.toNat*2^64)*Tq (m.toNat*2^64)=m.toNat*2^64)
def Rx:List Int→Int→Int
 | [],_=>0
 | x::l,i=>if Bz x=0 then Rx l (i+1) else i
def Ow (r c:Nat) (l:List Int):Bool:=(Ln r c l).isSome&&(Dc (Pa r c l)&&Dc (Na r c l))
def Fa (r c:Int) (l:List Int):Int:=if D5 r c l≠0 then D5 r c l else if Ow r.toNat c.toNat l=true then 0 else 2
def qX (r c:Int) (l:List Int):MX:=if Fa r c l≠0 then L8 (Fa r c l) else (r,r,Pa r.toNat c.toNat l,0)
def rX (r c:Int) (l:List Int):MX:=if Fa r c l≠0 then L8 (Fa r c l) else (r,c,Na r.toNat c.toNat l,0)
def Un (r c:Int) (l:List Int):MX:=if Fa r c l≠0 then L8 (Fa r c l) else (r,min r c,(Cv r r (Pa r.toNat c.toNat l) 0 0 r (min r c)).2.2.1,0)
def Og (r c:Int) (l:List Int):MX:=if Fa r c l≠0 then L8 (Fa r c l) else (min r c,c,(Cv r c (Na r.toNat c.toNat l) 0 0 (min r c) c).2.2.1,0)
def Wx (x:Nat):Bool:=B5 (x<2^64)
def Ain (x:Nat):Bool:=B5 (x<2^64∧Aj x≠3∧Aj x≠4)
def Jw (x:Nat) (k:Int):Nat:=if Aj x=4 then x else (Fi x k).1
def Nu (x:Nat):Nat:=if Gg x<4503599627370496 then (Ly x 4841369599423283200).1 else x
def J7 (x:Nat):Int:=if Gg x<4503599627370496 then -52 else 0
def U5 (b:Int):Int:=if Dz b=true then 0 else if Eb b=true then -1 else 1
end Go.Rnd
namespace Go.Rnd
open Go.Den
def mulM (x y:MX):MX:=O7 x.1 x.2.1 x.2.2.1 y.1 y.2.1 y.2.2.1
def Az2 (x:MX):MX:=Fb x.1 x.2.1 x.2.2.1
def Q6 (x:MX) (i k a b:Int):MX:=Cv x.1 x.2.1 x.2.2.1 i k a b
def eqT (p q:Int) (m:List Int):List Int:=(Fb p q m).2.2.1
def eqR (p q:Int) (m:List Int):MX:=rX q p (eqT p q m)
def eqS (p q:Int) (m:List Int):MX:=Az2 (Q6 (eqR p q m) 0 0 p p)
def hY (p q:Int) (m:List Int) (u v:Int) (h:List Int):MX :=
 if Fa q p (eqT p q m)≠0 then L8 (Fa q p (eqT p q m)) else if (Axd (eqS p q m).1 (eqS p q m).2.1 (eqS p q m).2.2.1).1=true then L8 5
 else loX (eqS p q m).1 (eqS p q m).2.1 (eqS p q m).2.2.1 u v h
def hQ (p q:Int) (m:List Int):MX :=
 if Fa q p (eqT p q m)≠0 then L8 (Fa q p (eqT p q m)) else if (Axd (eqS p q m).1 (eqS p q m).2.1 (eqS p q m).2.2.1).1=true then L8 5
 else qX q p (eqT p q m)
end Go.Rnd
namespace Go.Rnd
open Go.Den
def A3s (x:MX):Int:=D5 x.1 x.2.1 x.2.2.1
end Go.Rnd
namespace Go.Rnd
open Go.Den
end Go.Rnd
namespace Go.Rnd
open Go.Den
structure Wh (x:Int) (v:Int):Prop where
 word:Af x=true
 k3:Aj x.toNat≠3
 k4:Aj x.toNat≠4
 val:∃ g:Int,g≤0∧g≤A3 x.toNat∧Hl x.toNat g=v*((2^(-g).toNat:Nat):Int)
end Go.Rnd
namespace Go.Rnd
open Go.Den
theorem Lb:Af (0:Int)=true:=Cm (n:=0) (by decide)
theorem Ae8:Af Ae9=true:=Cm (n:=4607182418800017408) (by decide)
theorem Anr {b:Nat} {n:Int} (h:b<2^64):(Fi b n).1<2^64:=by
 unfold Fi
 by_cases h4:Aj b=4
 ·rw [A43 h4]; exact (by decide:Oc<2^64)
 rw [A42 h4]
 by_cases h3:Aj b=3∨Aj b=0
 ·rw [A43 h3]; exact h
 rw [A42 h3]
 exact Vl _ _ _
theorem G8 {b n:Int} (h:Af b=true):Af (Bg b n)=true:=by
 obtain ⟨x,rfl,hx⟩:=Bw h
 exact Cm (Anr (by rw [A4i]; exact hx))
theorem T0 (b:Nat):Gg b<2^63:=Nat.mod_lt _ (by decide)
theorem Aby:∀ (l:List Int) (m:Nat),m<2^64→P2 l m<2^64
 | [],m,h=>h
 | x::l,m,h=>by
   unfold P2
   split
   ·exact (by decide:Oc<2^64)
   ·have h2:=T0 x.toNat
    exact Aby l _ (by omega)
theorem Rr (l:List Int):Af (Bk l)=true:=Cm (Aby l 0 (by decide))
theorem Rd (x:Int):Af (Iw x)=true:=Cm (Nat.lt_trans (T0 x.toNat) (by decide))
theorem Nm {a b:Int} (ha:Af a=true) (hb:Af b=true):Af (Dt a b)=true:=by
 obtain ⟨x,rfl,hx⟩:=Bw ha
 obtain ⟨y,rfl,hy⟩:=Bw hb
 exact Cm (Tz (by rw [A4i]; exact hx) (by rw [A4i]; exact hy)).1
theorem Oq {a:Int} (ha:Af a=true):Af (Cz a)=true:=by
 obtain ⟨x,rfl,hx⟩:=Bw ha
 exact Cm (Xt (by rw [A4i]; exact hx))
theorem Aq1 {b:Nat} (h:b<2^64):(Oh b).1<2^64:=by
 by_cases h4:Aj b=4
 ·rw [Z1 h4]; exact (by decide:Oc<2^64)
 by_cases h0:Aj b=0∨b=Ek
 ·rw [N5 h4 h0]; exact h
 cases hn:By b with
 | true=>rw [Vj h4 h0 hn]; exact (by decide:Oc<2^64)
 | false =>
   unfold Oh
   rw [A42 h4,A42 h0,hn,A42 (by decide)]
   exact Nat.lt_trans (Q2 _ _) (by decide)
theorem Q1 {a:Int} (ha:Af a=true):Af (Ed a)=true:=by
 obtain ⟨x,rfl,hx⟩:=Bw ha
 exact Cm (Aq1 (by rw [A4i]; exact hx))
theorem Aq0 (k:Int):∀ (l:List Int) {s:Int},Af s=true→Af (Vi k s l)=true
 | [],_,h=>h
 | _::l,_,h=>Aq0 k l (Nm h (Ew _ _))
theorem J8 (x:List Int):Af (Bt x)=true:=by
 unfold Bt
 split
 ·exact Rr x
 ·exact G8 (Q1 (Aq0 _ _ Lb))
theorem A1o (x:List Int):Af (muI x)=true:=by
 unfold muI
 split
 ·exact J8 _
 ·exact Oq (J8 _)
theorem Awp (x:List Int):Af (F4 x)=true:=G8 (A1o x)
theorem Api (b:Nat):-1100≤Aco b∧Aco b≤1100:=by
 unfold Aco
 split
 ·have h1:=Dy b
  have h2:=Ge b
  rename_i h
  have h3:(Ay b).log2<53:=by
   by_cases h0:Ay b=0
   ·rw [h0]; decide
   ·exact (A5w h0).2 h2
  omega
 ·omega
theorem Rm (x:Int):-1100≤B1 x∧B1 x≤1100:=Api x.toNat
theorem J0 {l:List Int} (h:Al l=true) (j:Nat):Af (l.getD j 0)=true:=Av3 (Aq.1 h) j
theorem Ty {l:List Int} (h:∀ x∈l,Af x=true):Al l=true:=Aq.2 h
theorem At9:Al []=true:=Ty fun _ h=>by cases h
theorem Ab2 {α:Type} {l:List α} {f:α→Int} (h:∀ j,Af (f j)=true):Al (l.map f)=true:=Ty fun x hx=>by
 obtain ⟨j,_,rfl⟩:=List.mem_map.1 hx
 exact h j
theorem Apz {x:Int} {l:List Int} (h1:Af x=true) (h2:Al l=true):Al (x::l)=true:=Ty fun y hy=>by
 rcases List.mem_cons.1 hy with rfl | hy
 ·exact h1
 ·exact Aq.1 h2 y hy
theorem Kq {c i k:Int} {l:List Int} (h:Al l=true):Af (Fp c l i k)=true:=J0 h _
theorem F9 (c b i:Int) (n:Nat) (l:List Int):(Ci c l b i n).length=n:=by unfold Ci; rw [A5m,A5j]
theorem Kt {c b i:Int} {n:Nat} {l:List Int} (h:Al l=true):Al (Ci c l b i n)=true:=Ab2 fun _=>Kq h
theorem Are (n:Nat) {f:Nat→Int} (h:∀ j,Af (f j)=true):Al (Kg n f)=true:=Apz Ae8 (Ab2 fun _=>h _)
theorem Q5 {n:Nat} (h:n≠0) (f:Nat→Int):(Kg n f).length=n:=by
 unfold Kg
 rw [List.length_cons,A5m,A5j]
 omega
theorem Wc {x:List Int} (h:Al x=true):Al (C1 x).1=true∧Af (C1 x).2.1=true∧Af (C1 x).2.2.1=true:=by
 have hz:Al []=true∧Af (0:Int)=true∧Af (0:Int)=true:=⟨At9,Lb,Lb⟩
 unfold C1
 split
 ·exact hz
 split
 ·unfold Mz
  split
  ·dsimp only
   exact ⟨Are _ fun _=>Lb,Lb,J0 h 0⟩
  ·split
   ·dsimp only
    exact ⟨Are _ fun _=>Lp _ _,Lp _ _,Awp x⟩
   ·exact hz
 ·exact hz
theorem Wb {x:List Int} (h:(C1 x).2.2.2=0):(C1 x).1.length=x.length:=by
 unfold C1 at h ⊢
 by_cases h1:x.length=0∨64<x.length
 ·rw [A43 h1] at h; exact absurd h (by decide)
 rw [A42 h1] at h ⊢
 by_cases h2:Dc x=true
 ·rw [A43 h2] at h ⊢
  unfold Mz at h ⊢
  by_cases h3:E7 (x.drop 1)=true
  ·rw [A43 h3]; dsimp only; exact Q5 (n:=x.length) (by omega) _
  ·rw [A42 h3] at h ⊢
   by_cases h4:Dz (F4 x)=true
   ·rw [A43 h4]; dsimp only [T5]; exact Q5 (n:=x.length) (by omega) _
   ·rw [A42 h4] at h; exact absurd h (by decide)
 ·rw [A42 h2] at h; exact absurd h (by decide)
theorem G6 (x y:List Int):Af (Hj x y)=true:=Cm (Afw x y 0 (by decide))
theorem Apy {c i k t a b:Int} {l v:List Int} (h:Al l=true):Af (Rs c l i k v t a b)=true:=by
 unfold Rs
 split
 ·exact Pw (Kq h) (Ew _ _)
 ·exact Kq h
theorem Aeb {r c:Nat} {l:List Int} (h:Al l=true) (i k:Int) (v:List Int) (t:Int):Al (Gj r c l i k v t)=true:=Mk fun _ _=>Apy h
theorem Mm (r c:Nat) (l:List Int) (i k:Int) (v:List Int) (t:Int):(Gj r c l i k v t).length=r*c:=Cl _ _ _
theorem Apq {r c:Nat} {l:List Int} (h:Al l=true) (j:Nat) {x:Int} (hx:Af x=true):Al (Oz r c l j x)=true:=Mk fun a b=>by
 split
 ·split
  ·exact hx
  ·exact Lb
 ·exact Kq h
theorem Pn (r c:Nat) (l:List Int) (j:Nat):(Aaw r c l j).length=r*c:=by unfold Aaw Oz; exact Cl _ _ _
theorem Zf {r c:Nat} {l:List Int} (h:Al l=true) (j:Nat):Al (Aaw r c l j)=true:=Apq (Aeb h _ _ _ _) _ (Wc (Kt h)).2.2
def Adj (r:Nat):Nat→List (List Int × Int)→Prop
 | _,[]=>True
 | j,m::ms=>(Al m.1=true∧Af m.2=true∧m.1.length+j=r)∧Adj r (j+1) ms
theorem Abr (r c:Nat):∀ (n j:Nat) (l:List Int) (x:List Int × List (List Int × Int)),Al l=true→l.length=r*c→j+n≤r→Ox r c n j l=some x→Al x.1=true∧x.1.length=r*c∧x.2.length=n∧Adj r j x.2
 | 0,j,l,x,ha,hl,_,h=>by
   cases h
   exact ⟨ha,hl,rfl,trivial⟩
 | n+1,j,l,x,ha,hl,hj,h=>by
   unfold Ox at h
   by_cases h1:(C1 (F3 r c l j)).2.2.2=0
   ·rw [A43 h1,Option.map_eq_some_iff] at h
    obtain ⟨y,hy,rfl⟩:=h
    obtain ⟨a1,a2,a3,a4⟩:=Abr r c n (j+1) _ y (Zf ha j) (Pn r c l j) (by omega) hy
    have hm:=Wc (x:=F3 r c l j) (Kt ha)
    have hlen:=Wb h1
    refine ⟨a1,a2,by rw [List.length_cons,a3],⟨hm.1,hm.2.1,?_⟩,a4⟩
    show (C1 (F3 r c l j)).1.length+j=r
    rw [hlen]
    unfold F3
    rw [F9]
    omega
   ·rw [A42 h1] at h; cases h
theorem Ws (n:Nat):Al (Ic n)=true:=Mk fun i k=>by
 unfold N0
 split
 ·exact Ae8
 ·exact Lb
theorem Tw (n:Nat):∀ (ms:List (List Int × Int)) (j:Nat) (q:List Int),Al q=true→q.length=n*n→Al (I3 n j ms q)=true∧(I3 n j ms q).length=n*n
 | [],_,_,h1,h2=>⟨h1,h2⟩
 | m::ms,j,q,h1,h2=>by
   unfold I3
   exact ⟨Aeb (Tw n ms (j+1) q h1 h2).1 _ _ _ _,Mm _ _ _ _ _ _ _⟩
theorem Av8 {r c:Nat} {l:List Int} (h:(Ln r c l).isSome=true):Al (Pa r c l)=true∧(Pa r c l).length=r*r:=by
 unfold Pa
 cases hd:Ln r c l with
 | none=>rw [hd] at h; cases h
 | some x=>exact Tw r x.2 0 _ (Ws r) (by unfold Ic; exact Cl _ _ _)
theorem Av7 {r c:Nat} {l:List Int} (ha:Al l=true) (hl:l.length=r*c) (h:(Ln r c l).isSome=true):Al (Na r c l)=true∧(Na r c l).length=r*c:=by
 unfold Na
 cases hd:Ln r c l with
 | none=>rw [hd] at h; cases h
 | some x =>
   have hn:Jj r c≤r:=by unfold Jj; omega
   have:=Abr r c (Jj r c) 0 l x ha hl (by omega) hd
   exact ⟨this.1,this.2.1⟩
end Go.Rnd
end
