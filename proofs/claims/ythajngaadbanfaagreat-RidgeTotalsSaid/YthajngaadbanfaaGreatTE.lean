/- A verified evaluator of the program's form and its use for this seat: S1Env, Rnd, Flt, Words, NearL, IeeL, OrdL, MulL, Limb, DyL, DyV, ExactL, MulW, SumL, MatL, MatW, PowL, RootL, ScaleL, SolW, TriL, HouW, LseW, GgW, RidW, WhoW. -/
import Derived.Test.YthajngaadbanfaaGreatProg
import Derived.Test.YthajngaadbanfaaGreatTD
set_option linter.unusedVariables false
set_option linter.unusedSimpArgs false
noncomputable section
open Int (toNat)
open List (length getD)
namespace Go.Proofs.S1
open Go Go.Den Go.Proofs
set_option maxRecDepth 100000
abbrev tB:Nat:=43
abbrev tI:Nat:=3
abbrev tMR:Nat:=161
abbrev tW:Nat:=121
def tys:List (Nat × TI):=[
 (2,⟨1,8,(.int .i64),[.int .i64 (0:Int)]⟩),
 (3,⟨1,8,(.int .i64),[.int .i64 (0:Int)]⟩),
 (4,⟨1,1,.bool,[.bool false]⟩),
 (5,⟨1,1,(.int .u8),[.int .u8 (0:Int)]⟩),
 (22,⟨1,24,(.slice 43),[.nil]⟩),
 (24,⟨3,40,(.struct [(0,3),(1,3),(2,22)]),[.int .i64 (0:Int),.int .i64 (0:Int),.nil]⟩),
 (26,⟨14,208,(.struct [(0,24),(3,24),(6,24),(9,24),(12,22),(13,22)]),[.int .i64 (0:Int),.int .i64 (0:Int),.nil,.int .i64 (0:Int),.int .i64 (0:Int),.nil,.int .i64 (0:Int),.int .i64 (0:Int),.nil,.int .i64 (0:Int),.int .i64 (0:Int),.nil,.nil,.nil]⟩),
 (30,⟨1,24,(.slice 121),[.nil]⟩),
 (32,⟨2,32,(.struct [(0,4),(1,30)]),[.bool false,.nil]⟩),
 (34,⟨3,40,(.struct [(0,32),(2,3)]),[.bool false,.nil,.int .i64 (0:Int)]⟩),
 (42,⟨1,8,(.int .u64),[.int .u64 (0:Int)]⟩),
 (43,⟨1,8,(.int .u64),[.int .u64 (0:Int)]⟩),
 (49,⟨1,8,(.int .i64),[.int .i64 (0:Int)]⟩),
 (54,⟨15,216,(.struct [(0,24),(3,24),(6,24),(9,24),(12,22),(13,22),(14,49)]),[.int .i64 (0:Int),.int .i64 (0:Int),.nil,.int .i64 (0:Int),.int .i64 (0:Int),.nil,.int .i64 (0:Int),.int .i64 (0:Int),.nil,.int .i64 (0:Int),.int .i64 (0:Int),.nil,.nil,.nil,.int .i64 (0:Int)]⟩),
 (63,⟨8,112,(.struct [(0,24),(3,24),(6,22),(7,49)]),[.int .i64 (0:Int),.int .i64 (0:Int),.nil,.int .i64 (0:Int),.int .i64 (0:Int),.nil,.nil,.int .i64 (0:Int)]⟩),
 (77,⟨1,24,(.slice 34),[.nil]⟩),
 (79,⟨3,40,(.struct [(0,3),(1,3),(2,77)]),[.int .i64 (0:Int),.int .i64 (0:Int),.nil]⟩),
 (95,⟨6,80,(.array 2 24),[.int .i64 (0:Int),.int .i64 (0:Int),.nil,.int .i64 (0:Int),.int .i64 (0:Int),.nil]⟩),
 (97,⟨7,88,(.struct [(0,24),(3,24),(6,4)]),[.int .i64 (0:Int),.int .i64 (0:Int),.nil,.int .i64 (0:Int),.int .i64 (0:Int),.nil,.bool false]⟩),
 (115,⟨1,24,(.slice 3),[.nil]⟩),
 (121,⟨1,4,(.int .u32),[.int .u32 (0:Int)]⟩),
 (126,⟨1,24,(.slice 24),[.nil]⟩),
 (139,⟨1,1,(.int .u8),[.int .u8 (0:Int)]⟩),
 (144,⟨1,8,.fl,[.fl 0]⟩),
 (156,⟨1,24,(.slice 161),[.nil]⟩),
 (161,⟨2,32,(.struct [(0,22),(1,43)]),[.nil,.int .u64 (0:Int)]⟩),
 (167,⟨3,24,(.struct [(0,43),(1,43),(2,4)]),[.int .u64 (0:Int),.int .u64 (0:Int),.bool false]⟩),
 (173,⟨1,24,(.slice 175),[.nil]⟩),
 (175,⟨3,40,(.struct [(0,22),(1,43),(2,43)]),[.nil,.int .u64 (0:Int),.int .u64 (0:Int)]⟩),
 (180,⟨1,8,(.int .u64),[.int .u64 (0:Int)]⟩),
 (194,⟨3,24,(.struct [(0,4),(1,3),(2,42)]),[.bool false,.int .i64 (0:Int),.int .u64 (0:Int)]⟩),
 (214,⟨1,8,(.int .i64),[.int .i64 (0:Int)]⟩)]
theorem ty2:Cs Tryz.prog 2 ⟨1,8,(.int .i64),[.int .i64 (0:Int)]⟩:=Dh (z:=.int .i64 (0:Int)) (by kernel_rfl) (fun c w=>by simp [Bj,As,Value.cells]) rfl (by simp [Value.cells,Value.oneCell']) (by simp only [C0]; exact Tryz.underlying2)
theorem ty3:Cs Tryz.prog 3 ⟨1,8,(.int .i64),[.int .i64 (0:Int)]⟩:=Dh (z:=.int .i64 (0:Int)) (by kernel_rfl) (fun c w=>by simp [Bj,As,Value.cells]) rfl (by simp [Value.cells,Value.oneCell']) (by simp only [C0]; exact Tryz.underlying3)
theorem ty4:Cs Tryz.prog 4 ⟨1,1,.bool,[.bool false]⟩:=Dh (z:=.bool false) (by kernel_rfl) (fun c w=>by simp [Bj,As,Value.cells]) rfl (by simp [Value.cells,Value.oneCell']) (by simp only [C0]; exact Tryz.underlying4)
theorem ty5:Cs Tryz.prog 5 ⟨1,1,(.int .u8),[.int .u8 (0:Int)]⟩:=Dh (z:=.int .u8 (0:Int)) (by kernel_rfl) (fun c w=>by simp [Bj,As,Value.cells]) rfl (by simp [Value.cells,Value.oneCell']) (by simp only [C0]; exact Tryz.underlying5)
theorem A25:Cs Tryz.prog 22 ⟨1,24,(.slice 43),[.nil]⟩:=Dh (z:=.slice none 0 0) (by kernel_rfl) (fun c w=>by simp [Bj,As,Value.cells]) rfl (by simp [Value.cells,Value.oneCell']) (by simp only [C0]; exact Tryz.underlying22)
theorem A24:Cs Tryz.prog 24 ⟨3,40,(.struct [(0,3),(1,3),(2,22)]),[.int .i64 (0:Int),.int .i64 (0:Int),.nil]⟩:=Dh (z:=.agg #[.int .i64 (0:Int),.int .i64 (0:Int),.slice none 0 0]) (by kernel_rfl) (fun c w=>by simp [Bj,As,Value.cells]) rfl (by simp [Value.cells,Value.oneCell']) (by simp only [C0]; exact ⟨_,Tryz.underlying24,by kernel_rfl⟩)
theorem A23:Cs Tryz.prog 26 ⟨14,208,(.struct [(0,24),(3,24),(6,24),(9,24),(12,22),(13,22)]),[.int .i64 (0:Int),.int .i64 (0:Int),.nil,.int .i64 (0:Int),.int .i64 (0:Int),.nil,.int .i64 (0:Int),.int .i64 (0:Int),.nil,.int .i64 (0:Int),.int .i64 (0:Int),.nil,.nil,.nil]⟩:=Dh (z:=.agg #[.int .i64 (0:Int),.int .i64 (0:Int),.slice none 0 0,.int .i64 (0:Int),.int .i64 (0:Int),.slice none 0 0,.int .i64 (0:Int),.int .i64 (0:Int),.slice none 0 0,.int .i64 (0:Int),.int .i64 (0:Int),.slice none 0 0,.slice none 0 0,.slice none 0 0]) (by kernel_rfl) (fun c w=>by simp [Bj,As,Value.cells]) rfl (by simp [Value.cells,Value.oneCell']) (by simp only [C0]; exact ⟨_,Tryz.underlying26,by kernel_rfl⟩)
theorem A22:Cs Tryz.prog 30 ⟨1,24,(.slice 121),[.nil]⟩:=Dh (z:=.slice none 0 0) (by kernel_rfl) (fun c w=>by simp [Bj,As,Value.cells]) rfl (by simp [Value.cells,Value.oneCell']) (by simp only [C0]; exact Tryz.underlying30)
theorem A21:Cs Tryz.prog 32 ⟨2,32,(.struct [(0,4),(1,30)]),[.bool false,.nil]⟩:=Dh (z:=.agg #[.bool false,.slice none 0 0]) (by kernel_rfl) (fun c w=>by simp [Bj,As,Value.cells]) rfl (by simp [Value.cells,Value.oneCell']) (by simp only [C0]; exact ⟨_,Tryz.underlying32,by kernel_rfl⟩)
theorem A20:Cs Tryz.prog 34 ⟨3,40,(.struct [(0,32),(2,3)]),[.bool false,.nil,.int .i64 (0:Int)]⟩:=Dh (z:=.agg #[.bool false,.slice none 0 0,.int .i64 (0:Int)]) (by kernel_rfl) (fun c w=>by simp [Bj,As,Value.cells]) rfl (by simp [Value.cells,Value.oneCell']) (by simp only [C0]; exact ⟨_,Tryz.underlying34,by kernel_rfl⟩)
theorem A0j:Cs Tryz.prog 42 ⟨1,8,(.int .u64),[.int .u64 (0:Int)]⟩:=Dh (z:=.int .u64 (0:Int)) (by kernel_rfl) (fun c w=>by simp [Bj,As,Value.cells]) rfl (by simp [Value.cells,Value.oneCell']) (by simp only [C0]; exact Tryz.underlying42)
theorem A2z:Cs Tryz.prog 43 ⟨1,8,(.int .u64),[.int .u64 (0:Int)]⟩:=Dh (z:=.int .u64 (0:Int)) (by kernel_rfl) (fun c w=>by simp [Bj,As,Value.cells]) rfl (by simp [Value.cells,Value.oneCell']) (by simp only [C0]; exact Tryz.underlying43)
theorem A2y:Cs Tryz.prog 49 ⟨1,8,(.int .i64),[.int .i64 (0:Int)]⟩:=Dh (z:=.int .i64 (0:Int)) (by kernel_rfl) (fun c w=>by simp [Bj,As,Value.cells]) rfl (by simp [Value.cells,Value.oneCell']) (by simp only [C0]; exact Tryz.underlying49)
theorem A2x:Cs Tryz.prog 54 ⟨15,216,(.struct [(0,24),(3,24),(6,24),(9,24),(12,22),(13,22),(14,49)]),[.int .i64 (0:Int),.int .i64 (0:Int),.nil,.int .i64 (0:Int),.int .i64 (0:Int),.nil,.int .i64 (0:Int),.int .i64 (0:Int),.nil,.int .i64 (0:Int),.int .i64 (0:Int),.nil,.nil,.nil,.int .i64 (0:Int)]⟩:=Dh (z:=.agg #[.int .i64 (0:Int),.int .i64 (0:Int),.slice none 0 0,.int .i64 (0:Int),.int .i64 (0:Int),.slice none 0 0,.int .i64 (0:Int),.int .i64 (0:Int),.slice none 0 0,.int .i64 (0:Int),.int .i64 (0:Int),.slice none 0 0,.slice none 0 0,.slice none 0 0,.int .i64 (0:Int)]) (by kernel_rfl) (fun c w=>by simp [Bj,As,Value.cells]) rfl (by simp [Value.cells,Value.oneCell']) (by simp only [C0]; exact ⟨_,Tryz.underlying54,by kernel_rfl⟩)
theorem A2w:Cs Tryz.prog 63 ⟨8,112,(.struct [(0,24),(3,24),(6,22),(7,49)]),[.int .i64 (0:Int),.int .i64 (0:Int),.nil,.int .i64 (0:Int),.int .i64 (0:Int),.nil,.nil,.int .i64 (0:Int)]⟩:=Dh (z:=.agg #[.int .i64 (0:Int),.int .i64 (0:Int),.slice none 0 0,.int .i64 (0:Int),.int .i64 (0:Int),.slice none 0 0,.slice none 0 0,.int .i64 (0:Int)]) (by kernel_rfl) (fun c w=>by simp [Bj,As,Value.cells]) rfl (by simp [Value.cells,Value.oneCell']) (by simp only [C0]; exact ⟨_,Tryz.underlying63,by kernel_rfl⟩)
theorem A2v:Cs Tryz.prog 77 ⟨1,24,(.slice 34),[.nil]⟩:=Dh (z:=.slice none 0 0) (by kernel_rfl) (fun c w=>by simp [Bj,As,Value.cells]) rfl (by simp [Value.cells,Value.oneCell']) (by simp only [C0]; exact Tryz.underlying77)
theorem A2u:Cs Tryz.prog 79 ⟨3,40,(.struct [(0,3),(1,3),(2,77)]),[.int .i64 (0:Int),.int .i64 (0:Int),.nil]⟩:=Dh (z:=.agg #[.int .i64 (0:Int),.int .i64 (0:Int),.slice none 0 0]) (by kernel_rfl) (fun c w=>by simp [Bj,As,Value.cells]) rfl (by simp [Value.cells,Value.oneCell']) (by simp only [C0]; exact ⟨_,Tryz.underlying79,by kernel_rfl⟩)
theorem A2t:Cs Tryz.prog 95 ⟨6,80,(.array 2 24),[.int .i64 (0:Int),.int .i64 (0:Int),.nil,.int .i64 (0:Int),.int .i64 (0:Int),.nil]⟩:=Dh (z:=.agg #[.int .i64 (0:Int),.int .i64 (0:Int),.slice none 0 0,.int .i64 (0:Int),.int .i64 (0:Int),.slice none 0 0]) (by kernel_rfl) (fun c w=>by simp [Bj,As,Value.cells]) rfl (by simp [Value.cells,Value.oneCell']) (by simp only [C0]; exact Tryz.underlying95)
theorem A2s:Cs Tryz.prog 97 ⟨7,88,(.struct [(0,24),(3,24),(6,4)]),[.int .i64 (0:Int),.int .i64 (0:Int),.nil,.int .i64 (0:Int),.int .i64 (0:Int),.nil,.bool false]⟩:=Dh (z:=.agg #[.int .i64 (0:Int),.int .i64 (0:Int),.slice none 0 0,.int .i64 (0:Int),.int .i64 (0:Int),.slice none 0 0,.bool false]) (by kernel_rfl) (fun c w=>by simp [Bj,As,Value.cells]) rfl (by simp [Value.cells,Value.oneCell']) (by simp only [C0]; exact ⟨_,Tryz.underlying97,by kernel_rfl⟩)
theorem A0w:Cs Tryz.prog 115 ⟨1,24,(.slice 3),[.nil]⟩:=Dh (z:=.slice none 0 0) (by kernel_rfl) (fun c w=>by simp [Bj,As,Value.cells]) rfl (by simp [Value.cells,Value.oneCell']) (by simp only [C0]; exact Tryz.underlying115)
theorem A0v:Cs Tryz.prog 121 ⟨1,4,(.int .u32),[.int .u32 (0:Int)]⟩:=Dh (z:=.int .u32 (0:Int)) (by kernel_rfl) (fun c w=>by simp [Bj,As,Value.cells]) rfl (by simp [Value.cells,Value.oneCell']) (by simp only [C0]; exact Tryz.underlying121)
theorem A0u:Cs Tryz.prog 126 ⟨1,24,(.slice 24),[.nil]⟩:=Dh (z:=.slice none 0 0) (by kernel_rfl) (fun c w=>by simp [Bj,As,Value.cells]) rfl (by simp [Value.cells,Value.oneCell']) (by simp only [C0]; exact Tryz.underlying126)
theorem A0t:Cs Tryz.prog 139 ⟨1,1,(.int .u8),[.int .u8 (0:Int)]⟩:=Dh (z:=.int .u8 (0:Int)) (by kernel_rfl) (fun c w=>by simp [Bj,As,Value.cells]) rfl (by simp [Value.cells,Value.oneCell']) (by simp only [C0]; exact Tryz.underlying139)
theorem A0s:Cs Tryz.prog 144 ⟨1,8,.fl,[.fl 0]⟩:=Dh (z:=.float .f64 0) (by kernel_rfl) (fun c w=>by simp [Bj,As,Value.cells,R4]) rfl (by simp [Value.cells,Value.oneCell']) (by simp only [C0]; exact Tryz.underlying144)
theorem A0r:Cs Tryz.prog 156 ⟨1,24,(.slice 161),[.nil]⟩:=Dh (z:=.slice none 0 0) (by kernel_rfl) (fun c w=>by simp [Bj,As,Value.cells]) rfl (by simp [Value.cells,Value.oneCell']) (by simp only [C0]; exact Tryz.underlying156)
theorem A0q:Cs Tryz.prog 161 ⟨2,32,(.struct [(0,22),(1,43)]),[.nil,.int .u64 (0:Int)]⟩:=Dh (z:=.agg #[.slice none 0 0,.int .u64 (0:Int)]) (by kernel_rfl) (fun c w=>by simp [Bj,As,Value.cells]) rfl (by simp [Value.cells,Value.oneCell']) (by simp only [C0]; exact ⟨_,Tryz.underlying161,by kernel_rfl⟩)
theorem A0p:Cs Tryz.prog 167 ⟨3,24,(.struct [(0,43),(1,43),(2,4)]),[.int .u64 (0:Int),.int .u64 (0:Int),.bool false]⟩:=Dh (z:=.agg #[.int .u64 (0:Int),.int .u64 (0:Int),.bool false]) (by kernel_rfl) (fun c w=>by simp [Bj,As,Value.cells]) rfl (by simp [Value.cells,Value.oneCell']) (by simp only [C0]; exact ⟨_,Tryz.underlying167,by kernel_rfl⟩)
theorem A0o:Cs Tryz.prog 173 ⟨1,24,(.slice 175),[.nil]⟩:=Dh (z:=.slice none 0 0) (by kernel_rfl) (fun c w=>by simp [Bj,As,Value.cells]) rfl (by simp [Value.cells,Value.oneCell']) (by simp only [C0]; exact Tryz.underlying173)
theorem A0n:Cs Tryz.prog 175 ⟨3,40,(.struct [(0,22),(1,43),(2,43)]),[.nil,.int .u64 (0:Int),.int .u64 (0:Int)]⟩:=Dh (z:=.agg #[.slice none 0 0,.int .u64 (0:Int),.int .u64 (0:Int)]) (by kernel_rfl) (fun c w=>by simp [Bj,As,Value.cells]) rfl (by simp [Value.cells,Value.oneCell']) (by simp only [C0]; exact ⟨_,Tryz.underlying175,by kernel_rfl⟩)
theorem A0m:Cs Tryz.prog 180 ⟨1,8,(.int .u64),[.int .u64 (0:Int)]⟩:=Dh (z:=.int .u64 (0:Int)) (by kernel_rfl) (fun c w=>by simp [Bj,As,Value.cells]) rfl (by simp [Value.cells,Value.oneCell']) (by simp only [C0]; exact Tryz.underlying180)
theorem A0l:Cs Tryz.prog 194 ⟨3,24,(.struct [(0,4),(1,3),(2,42)]),[.bool false,.int .i64 (0:Int),.int .u64 (0:Int)]⟩:=Dh (z:=.agg #[.bool false,.int .i64 (0:Int),.int .u64 (0:Int)]) (by kernel_rfl) (fun c w=>by simp [Bj,As,Value.cells]) rfl (by simp [Value.cells,Value.oneCell']) (by simp only [C0]; exact ⟨_,Tryz.underlying194,by kernel_rfl⟩)
theorem A0k:Cs Tryz.prog 214 ⟨1,8,(.int .i64),[.int .i64 (0:Int)]⟩:=Dh (z:=.int .i64 (0:Int)) (by kernel_rfl) (fun c w=>by simp [Bj,As,Value.cells]) rfl (by simp [Value.cells,Value.oneCell']) (by simp only [C0]; exact Tryz.underlying214)
theorem Aye:T0 Tryz.prog tys:=.cons ty2 <| .cons ty3 <| .cons ty4 <| .cons ty5 <| .cons A25 <| .cons A24 <| .cons A23 <| .cons A22 <| .cons A21 <| .cons A20 <| .cons A0j <| .cons A2z <| .cons A2y <| .cons A2x <| .cons A2w <| .cons A2v <| .cons A2u <| .cons A2t <| .cons A2s <| .cons A0w <| .cons A0v <| .cons A0u <| .cons A0t <| .cons A0s <| .cons A0r <| .cons A0q <| .cons A0p <| .cons A0o <| .cons A0n <| .cons A0m <| .cons A0l <| .cons A0k <| .nil
def exts:List (Nat × Ext):=[(187,.bits),(190,.frombits),(224,.sqrt),(234,.sub64)]
def Adw:List (Nat × Ext)→Nat→Option Ext
 | [],_=>none
 | (m,e)::l,n=>bif Nat.beq m n then some e else Adw l n
theorem Atj (args:Array Value) (w:World):(callFunc 187 args).run Tryz.prog w=((U5 .bits args).run Tryz.prog w).andThen fun v w'=>.ok (.value v) w':=run_callFunc_extern (e:=Extern.MathFloatBits.float64bits) Tryz.func187 (by kernel_rfl) (by kernel_rfl) (by kernel_rfl) (by kernel_rfl) args w
theorem Ati (args:Array Value) (w:World):(callFunc 190 args).run Tryz.prog w=((U5 .frombits args).run Tryz.prog w).andThen fun v w'=>.ok (.value v) w':=run_callFunc_extern (e:=Extern.MathFloatBits.float64frombits) Tryz.func190 (by kernel_rfl) (by kernel_rfl) (by kernel_rfl) (by kernel_rfl) args w
theorem Ath (args:Array Value) (w:World):(callFunc 224 args).run Tryz.prog w=((U5 .sqrt args).run Tryz.prog w).andThen fun v w'=>.ok (.value v) w':=run_callFunc_extern (e:=Extern.MathSqrt.sqrt) Tryz.func224 (by kernel_rfl) (by kernel_rfl) (by kernel_rfl) (by kernel_rfl) args w
theorem Atg (args:Array Value) (w:World):(callFunc 234 args).run Tryz.prog w=((U5 .sub64 args).run Tryz.prog w).andThen fun v w'=>.ok (.value v) w':=run_callFunc_extern (e:=Z0) Tryz.func234 (by kernel_rfl) (by kernel_rfl) (by kernel_rfl) (by kernel_rfl) args w
def Aww:List Nat:=[194]
theorem A16:Alg Tryz.prog 194 ⟨3,24,(.struct [(0,4),(1,3),(2,42)]),[.bool false,.int .i64 (0:Int),.int .u64 (0:Int)]⟩ where
 guard:=by kernel_rfl
 eq:=by
  intro w c x y xs ys hx hy hlx hly
  obtain ⟨a0,x1,rfl,hx1⟩:=Z7 hx
  obtain ⟨a1,x2,rfl,hx2⟩:=Tc hx1
  obtain ⟨a2,x3,rfl,hx3⟩:=Tc hx2
  obtain rfl:=Ac6 hx3
  obtain ⟨b0,y1,rfl,hy1⟩:=Z7 hy
  obtain ⟨b1,y2,rfl,hy2⟩:=Tc hy1
  obtain ⟨b2,y3,rfl,hy3⟩:=Tc hy2
  obtain rfl:=Ac6 hy3
  obtain ⟨xs⟩:=xs
  obtain ⟨ys⟩:=ys
  simp only [Bj.Df,Bj.Hw,As] at hlx hly
  obtain ⟨_,_,rfl,rfl,_,_,rfl,rfl,_,_,rfl,rfl,rfl⟩:=hlx
  obtain ⟨_,_,rfl,rfl,_,_,rfl,rfl,_,_,rfl,rfl,rfl⟩:=hly
  have hu:Tryz.prog.underlying 194=some (.struct (Tryz.prog.fieldsOf 194)):=by kernel_rfl
  have hp:Tryz.prog.stoodInHeld 194=false:=by kernel_rfl
  unfold Op.equal Op.maxDepth
  rw [run_equalIn_struct w 9999 194 _ _ hu hp]
  have hfs:Tryz.prog.fieldsOf 194=(match Tryz.prog.underlying 194 with | some (.struct fs)=>fs | _=>#[]):=rfl
  rw [hfs,Tryz.underlying194]
  simp [Op.eqFields,Q6 w ty3 rfl,Q6 w ty4 rfl,Q6 w A0j rfl,run_equalIn_int w _ _ _ _ _ _ Tryz.underlying3,run_equalIn_bool w _ _ _ _ Tryz.underlying4,run_equalIn_int w _ _ _ _ _ _ Tryz.underlying42,Air,Aiq]
  by_cases h0:a0=b0<;>by_cases h1:a1=b1<;>by_cases h2:a2=b2<;>simp [h0,h1,h2]
def Bg (Ba:Nat→Option Entry) (adopt:Nat→Bool) (hint:Nat→Option Bc) (live:Nat→Option (List Nat)):Env:={ ty:=Am9 tys,Ba:=Ba,ext:=Adw exts,eqs:=fun t=>Nr t Aww,adopt:=adopt,live:=live,hint:=hint }
theorem A4 {l:List (Nat × Entry)} (h:A1 Tryz.prog l) (adopt:Nat→Bool) (hint:Nat→Option Bc) (live:Nat→Option (List Nat)):Ka Tryz.prog (Bg (Bb l) adopt hint live) where
 ty:=fun t ti ht=>Aye.get ht
 Ba:=fun g e hg=>(h.get hg).meets
 call:=fun g e hg=>(h.get hg).call
 ext:=by
  intro g x hx args w
  simp only [Bg,exts,Adw] at hx
  cases hb:Nat.beq 187 g with
  | true =>
    rw [hb] at hx
    cases hx
    obtain rfl:=A48 hb
    exact Atj args w
  | false =>
  rw [hb,A4u] at hx
  clear hb
  cases hb:Nat.beq 190 g with
  | true =>
    rw [hb] at hx
    cases hx
    obtain rfl:=A48 hb
    exact Ati args w
  | false =>
  rw [hb,A4u] at hx
  clear hb
  cases hb:Nat.beq 224 g with
  | true =>
    rw [hb] at hx
    cases hx
    obtain rfl:=A48 hb
    exact Ath args w
  | false =>
  rw [hb,A4u] at hx
  clear hb
  cases hb:Nat.beq 234 g with
  | true =>
    rw [hb] at hx
    cases hx
    obtain rfl:=A48 hb
    exact Atg args w
  | false =>
  rw [hb,A4u] at hx
  clear hb
  cases hx
 eqs:=by
  intro t ti ht hti
  simp only [Bg,Aww,Nr] at ht hti
  cases hb:Nat.beq t 194 with
  | true =>
    obtain rfl:=A48 hb
    cases hti
    exact A16
  | false =>
  rw [hb,A4u] at ht
  clear hb
  cases ht
 mixed:=by kernel_rfl
def Ax5:List (Nat × Ext):=[(187,.bitsN),(190,.frombits),(224,.sqrt),(234,.sub64)]
def Amy:List (Nat × List CK)→Nat→List CK
 | [],_=>[]
 | (m,e)::l,n=>bif Nat.beq m n then e else Amy l n
def Abp (Ba:Nat→Option Entry) (adopt:Nat→Bool) (hint:Nat→Option Bc) (live:Nat→Option (List Nat)) (adv:Nat→List CK):Env:={ ty:=Am9 tys,Ba:=Ba,ext:=Adw Ax5,eqs:=fun t=>Nr t Aww,adopt:=adopt,live:=live,hint:=hint,adv:=adv }
theorem Afu {l:List (Nat × Entry)} (h:A1 Tryz.prog l) (adopt:Nat→Bool) (hint:Nat→Option Bc) (live:Nat→Option (List Nat)) (adv:Nat→List CK):Ka Tryz.prog (Abp (Bb l) adopt hint live adv) :=
 have k:=A4 h adopt hint live
 ⟨k.ty,k.Ba,k.call,(by
  intro g x hx args w
  simp only [Abp,Ax5,Adw] at hx
  cases hb:Nat.beq 187 g with
  | true =>
    rw [hb] at hx
    cases hx
    obtain rfl:=A48 hb
    exact Atj args w
  | false =>
  rw [hb,A4u] at hx
  clear hb
  cases hb:Nat.beq 190 g with
  | true =>
    rw [hb] at hx
    cases hx
    obtain rfl:=A48 hb
    exact Ati args w
  | false =>
  rw [hb,A4u] at hx
  clear hb
  cases hb:Nat.beq 224 g with
  | true =>
    rw [hb] at hx
    cases hx
    obtain rfl:=A48 hb
    exact Ath args w
  | false =>
  rw [hb,A4u] at hx
  clear hb
  cases hb:Nat.beq 234 g with
  | true =>
    rw [hb] at hx
    cases hx
    obtain rfl:=A48 hb
    exact Atg args w
  | false =>
  rw [hb,A4u] at hx
  clear hb
  cases hx),k.eqs,k.mixed,k.spoil,k.wr⟩
def wr1 (g:Nat) (W:Writer):Nat→Option Writer:=fun h=>bif Nat.beq h g then some W else none
theorem Ax9 {P:Program}:∀ g W,(fun _=>none:Nat→Option Writer) g=some W→P9 P g W:=fun _ _ h=>by cases h
theorem Aje {P:Program} {a:Nat} {V:Writer} (h:P9 P a V):∀ g W,wr1 a V g=some W→P9 P g W:=by
 intro g W hg
 unfold wr1 at hg
 cases hb:Nat.beq g a with
 | true =>
   rw [hb] at hg
   cases hg
   obtain rfl:=A48 hb
   exact h
 | false=>rw [hb] at hg; cases hg
def Abo (Ba:Nat→Option Entry) (adopt:Nat→Bool) (hint:Nat→Option Bc) (live:Nat→Option (List Nat)) (wr:Nat→Option Writer) (np:Nat):Env:={ ty:=Am9 tys,Ba:=Ba,ext:=Adw exts,eqs:=fun t=>Nr t Aww,adopt:=adopt,live:=live,hint:=hint,wr:=wr,np:=np }
theorem Zq {l:List (Nat × Entry)} (h:A1 Tryz.prog l) {wr:Nat→Option Writer} (hw:∀ g W,wr g=some W→P9 Tryz.prog g W) (adopt:Nat→Bool) (hint:Nat→Option Bc) (live:Nat→Option (List Nat)) (np:Nat):Ka Tryz.prog (Abo (Bb l) adopt hint live wr np) :=
 have k:=A4 h adopt hint live
 ⟨k.ty,k.Ba,k.call,k.ext,k.eqs,k.mixed,k.spoil,hw⟩
end Go.Proofs.S1
namespace Go.Rnd
def Ov (V k:Nat):Nat:=V / 2^k+(if 2^k<2*(V%2^k)∨(2*(V%2^k)=2^k∧V / 2^k%2=1) then 1 else 0)
def Ln (V:Nat) (s:Int):Nat:=Ov (V*2^(-s).toNat) s.toNat
def Om (V:Nat) (s:Int):Bool:=decide (V*2^(-s).toNat%2^s.toNat=0)
def Cy (M:Nat) (E:Int):Int:=max (E+M.log2-52) (-1074)
def kept (M:Nat) (E:Int):Nat:=Ln M (Cy M E-E)
def Eh:Nat:=2047*2^52
def Cl (M:Nat) (E:Int):Nat:=if M=0 then 0 else min ((Cy M E+1074).toNat*2^52+kept M E) Eh
def exact (M:Nat) (E:Int):Bool:=Om M (Cy M E-E)
def flags (r:Nat) (ex:Bool):Nat:=if r=Eh then 5 else if ex then 0 else if 2^52≤r then 1 else 3
def flagsOf (M:Nat) (E:Int):Nat:=if M=0 then 0 else flags (Cl M E) (exact M E)
theorem Co (k:Nat):0<2^k:=Nat.pow_pos (by decide)
theorem Qf (V:Nat):Ov V 0=V:=by
 unfold Ov; simp [Nat.mod_one]
theorem V0 (V a k:Nat):Ov (V*2^a) (a+k)=Ov V k:=by
 unfold Ov
 have hA:=Co a
 have e:2^(a+k)=2^a*2^k:=A5f 2 a k
 have hd:V*2^a / 2^(a+k)=V / 2^k:=by
  rw [e,A5e V,Nat.mul_div_mul_left _ _ hA]
 have hm:V*2^a%2^(a+k)=2^a*(V%2^k):=by
  rw [e,A5e V,Nat.mul_mod_mul_left]
 rw [hd,hm,e]
 have h1:(2^a*2^k<2*(2^a*(V%2^k)))↔(2^k<2*(V%2^k)):=by
  rw [Nat.mul_left_comm 2]
  exact Nat.mul_lt_mul_left hA
 have h2:(2*(2^a*(V%2^k))=2^a*2^k)↔(2*(V%2^k)=2^k):=by
  rw [Nat.mul_left_comm 2]
  exact Nat.mul_right_inj (by omega)
 simp only [h1,h2]
theorem mod_mul (V a k:Nat):(V*2^a%2^(a+k)=0)↔(V%2^k=0):=by
 have hA:=Co a
 rw [A5f,A5e V,Nat.mul_mod_mul_left]
 constructor
 ·intro h
  rcases Nat.mul_eq_zero.1 h with h | h
  ·omega
  ·exact h
 ·intro h; rw [h]; rfl
theorem Yn (V k:Nat) (s:Int):Ln (V*2^k) (s+k)=Ln V s∧Om (V*2^k) (s+k)=Om V s:=by
 unfold Ln Om
 by_cases h0:0≤s
 ·have e1:(-(s+k)).toNat=0:=by omega
  have e2:(-s).toNat=0:=by omega
  have e3:(s+k).toNat=k+s.toNat:=by omega
  rw [e1,e2,e3,A5o,A5z,A5z]
  exact ⟨V0 V k _,by simp only [mod_mul]⟩
 ·by_cases h1:0≤s+k
  ·have e1:(-(s+k)).toNat=0:=by omega
   have e2:s.toNat=0:=by omega
   have e3:k=(s+k).toNat+(-s).toNat:=by omega
   rw [e1,e2,A5o,A5z]
   have e4:V*2^k=V*2^(-s).toNat*2^(s+k).toNat:=by
    rw [A5h,← A5f,Nat.add_comm (-s).toNat,← e3]
   rw [e4]
   refine ⟨?_,?_⟩
   ·have:=V0 (V*2^(-s).toNat) (s+k).toNat 0
    rw [A5y] at this; exact this
   ·have:=mod_mul (V*2^(-s).toNat) (s+k).toNat 0
    rw [A5y,A5o] at this
    simp only [this]
  ·have e1:(s+k).toNat=0:=by omega
   have e2:s.toNat=0:=by omega
   have e3:(-s).toNat=k+(-(s+k)).toNat:=by omega
   rw [e1,e2,e3,A5f,A5h]
   exact ⟨rfl,rfl⟩
theorem Nd (M k:Nat) (hM:M≠0):(M*2^k).log2=M.log2+k:=by
 have hk:=Co k
 have hne:M*2^k≠0:=by
  intro h
  rcases Nat.mul_eq_zero.1 h with h | h<;>omega
 have h1:=Nat.log2_self_le hM
 have h2:=Nat.lt_log2_self (n:=M)
 have a:M.log2+k≤(M*2^k).log2:=by
  rw [Nat.le_log2 hne,A5f]
  exact A42 _ h1
 have b:(M*2^k).log2<M.log2+k+1:=by
  rw [A56 hne,Nat.add_right_comm,A5f]
  exact (Nat.mul_lt_mul_right hk).2 h2
 omega
theorem Wn {n a:Nat} (h1:2^a≤n) (h2:n<2^(a+1)):n.log2=a:=by
 have:=Co a
 have hn:n≠0:=by omega
 have b1:=(Nat.le_log2 hn).2 h1
 have b2:=(A56 hn).2 h2
 omega
theorem Akv (M k:Nat) (E:Int) (hM:M≠0):Cy (M*2^k) (E-k)=Cy M E:=by
 unfold Cy; rw [Nd M k hM]; congr 1; omega
theorem Jw {M k:Nat} (hM:M≠0):M*2^k≠0:=by
 have:=Co k
 intro h
 rcases Nat.mul_eq_zero.1 h with h | h<;>omega
theorem Dv (M k:Nat) (E:Int):Cl (M*2^k) (E-k)=Cl M E∧flagsOf (M*2^k) (E-k)=flagsOf M E:=by
 by_cases hM:M=0
 ·subst hM; simp [Cl,flagsOf]
 ·have hl:=Akv M k E hM
  have e:Cy M E-(E-k)=Cy M E-E+k:=by omega
  have h1:Cl (M*2^k) (E-k)=Cl M E:=by
   unfold Cl kept
   rw [A5c (Jw hM),A5c hM,hl,e,(Yn M k _).1]
  refine ⟨h1,?_⟩
  unfold flagsOf
  rw [A5c (Jw hM),A5c hM,h1]
  unfold exact
  rw [hl,e,(Yn M k _).2]
theorem Arp {V s d k:Nat} (hs:s%2=1) (h1:(s-1)*2^d<V) (h2:V<(s+1)*2^d) (hk:2≤k) :
 Ov V (d+k)=Ov s k∧V%2^(d+k)≠0∧s%2^k≠0:=by
 have hA:=Co d
 obtain ⟨j,rfl⟩:∃ j,k=j+2:=⟨k-2,by omega⟩
 have hB:2^(j+2)=4*2^j:=by rw [A5f]; omega
 have hBp:=Co (j+2)
 have hC:=Co j
 have hsd:=Nat.div_add_mod s (2^(j+2))
 have hr2:s%2^(j+2)%2=1:=by
  rw [hB,show 4*2^j=2*(2*2^j) by omega,Nat.mod_mul_right_mod]; exact hs
 have hrlt:=Nat.mod_lt s hBp
 generalize hq:s / 2^(j+2)=q at *
 generalize hr:s%2^(j+2)=r at *
 have hAB:2^(d+(j+2))=2^d*2^(j+2):=A5f 2 d (j+2)
 generalize hBB:2^(j+2)=b at *
 generalize hAA:2^d=a at *
 have e1:(s-1)*a=q*(a*b)+(r-1)*a:=by
  have:s-1=b*q+(r-1):=by omega
  rw [this,A5u,A5e b q,A5h,A5e b a]
 have e2:(s+1)*a=q*(a*b)+(r+1)*a:=by
  have:s+1=b*q+(r+1):=by omega
  rw [this,A5u,A5e b q,A5h,A5e b a]
 have e3:(r+1)*a≤b*a:=A42 a (by omega)
 rw [A5e b a] at e3
 rw [e1] at h1
 rw [e2] at h2
 have hdiv:V / (a*b)=q:=Nat.div_eq_of_lt_le (by omega) (by rw [A5u]; omega)
 have hmod:V%(a*b)=V-q*(a*b):=by
  have:=Nat.div_add_mod V (a*b)
  rw [hdiv,A5e (a*b) q] at this; omega
 have hb2:b=2*(2*2^j):=by omega
 generalize hc:2^j=c at *
 have hR1:(r-1)*a<V-q*(a*b):=by omega
 have hR2:V-q*(a*b)<(r+1)*a:=by omega
 generalize hR:V-q*(a*b)=R at *
 have hab:a*b=2*(2*c*a):=by rw [hb2,A5e a,A5h]
 have key:(a*b<2*R∨(2*R=a*b∧q%2=1))↔(b<2*r∨(2*r=b∧q%2=1)):=by
  rw [hab,hb2]
  rcases A5n r (2*c) with hlt | hge
  ·have:(r+1)*a≤2*c*a:=A42 a (by omega)
   constructor<;>(intro h; omega)
  ·have hgt:2*c+1≤r:=by omega
   have:2*c*a≤(r-1)*a:=A42 a (by omega)
   constructor
   ·intro _; left; omega
   ·intro _; left; omega
 refine ⟨?_,?_,?_⟩
 ·unfold Ov
  rw [hAB,hdiv,hmod,hBB,hq,hr]
  simp only [key]
 ·rw [hAB,hmod]
  have:=Nat.zero_le ((r-1)*a)
  omega
 ·omega
theorem Sa {V s d:Nat} {E:Int} (hs:s%2=1) (h1:(s-1)*2^d<V) (h2:V<(s+1)*2^d) (hl:Cy V E=Cy s (E+d)) (hk:E+d+2≤Cy s (E+d)) :
 Cl V E=Cl s (E+d)∧flagsOf V E=flagsOf s (E+d):=by
 have hV:V≠0:=by omega
 have hs0:s≠0:=by omega
 generalize hL:Cy s (E+d)=L at *
 obtain ⟨k,hk2⟩:∃ k:Nat,L-(E+d)=k+2:=⟨(L-(E+d)-2).toNat,by omega⟩
 obtain ⟨a1,a2,a3⟩:=Arp (k:=k+2) hs h1 h2 (by omega)
 have e1:(L-E).toNat=d+(k+2):=by omega
 have e2:(-(L-E)).toNat=0:=by omega
 have e3:(L-(E+d)).toNat=k+2:=by omega
 have e4:(-(L-(E+d))).toNat=0:=by omega
 have hr:Cl V E=Cl s (E+d):=by
  unfold Cl kept Ln
  rw [A5c hV,A5c hs0,hl,hL,e1,e2,e3,e4]
  simp only [A5o,A5z]
  rw [a1]
 refine ⟨hr,?_⟩
 unfold flagsOf exact Om
 rw [A5c hV,A5c hs0,hr,hl,hL,e1,e2,e3,e4]
 simp only [A5o,A5z,a2,a3,decide_false]
theorem Sj {V s d:Nat} (hs:s%2=1) (hs3:3≤s) (h1:(s-1)*2^d<V) (h2:V<(s+1)*2^d):V.log2=s.log2+d:=by
 have hs0:s≠0:=by omega
 have a1:=Nat.log2_self_le hs0
 have a2:=Nat.lt_log2_self (n:=s)
 have hl:1≤s.log2:=by rw [Nat.le_log2 hs0]; omega
 obtain ⟨t,ht⟩:∃ t,s.log2=t+1:=⟨s.log2-1,by omega⟩
 rw [ht] at a1 a2 ⊢
 have ev1:2^(t+1)=2*2^t:=by rw [Nat.pow_succ]; omega
 have ev2:2^(t+1+1)=2*(2*2^t):=by rw [Nat.pow_succ,ev1]; omega
 refine Wn ?_ ?_
 ·rw [A5f]
  have:2^(t+1)*2^d≤(s-1)*2^d:=A42 _ (by omega)
  omega
 ·have e:t+1+d+1=(t+1+1)+d:=by omega
  rw [e,A5f]
  have:(s+1)*2^d≤2^(t+1+1)*2^d:=A42 _ (by omega)
  omega
end Go.Rnd
namespace Go.Rnd
def Bx (b:Nat):Bool:=decide (2^63≤b)
def D7 (b:Nat):Nat:=b / 2^52%2048
def Dj (b:Nat):Nat:=b%2^52
def Ai (b:Nat):Nat:=if D7 b=2047 then (if Dj b=0 then 3 else 4) else if 0<D7 b then 2 else if 0<Dj b then 1 else 0
def J1 (b:Nat):Bool:=decide (D7 b<2047)
def I5 (b:Nat):Nat:=if 2^63≤b then b-2^63 else b+2^63
def Ax (b:Nat):Nat:=if D7 b=0 then Dj b else Dj b+2^52
def A2 (b:Nat):Int:=if D7 b=0 then -1074 else (D7 b:Int)-1075
def Bl (neg:Bool) (r:Nat):Nat:=if neg then 2^63+r else r
def Jb (neg:Bool) (m:Nat):Int:=if neg then -(m:Int) else m
def Ho (b:Nat) (e:Int):Int:=Jb (Bx b) (Ax b*2^(A2 b-e).toNat)
def Ok:Nat:=0x7ff8000000000000
def L9 (z:Nat) (S:Int) (e:Int):Nat × Nat :=
 if S=0 then (z,0) else (Bl (decide (S<0)) (Cl S.natAbs e),flagsOf S.natAbs e)
def Hz (a b:Nat):Nat × Nat :=
 if Ai a=4∨Ai b=4 then (Ok,0)
 else if Ai a=3 then (if Ai b=3∧a≠b then (Ok,16) else (a,0))
 else if Ai b=3 then (b,0)
 else L9 (Bl (Bx a&&Bx b) 0) (Ho a (min (A2 a) (A2 b))+Ho b (min (A2 a) (A2 b))) (min (A2 a) (A2 b))
def Ays (a b:Nat):Nat × Nat:=Hz a (I5 b)
def Ht (neg:Bool) (m:Nat) (e:Int) (F3:Bool):Nat × Nat :=
 (Bl neg (Cl (4*m+F3.toNat) (e-2)),flagsOf (4*m+F3.toNat) (e-2))
def Eb (x:Int):Bool:=Bx x.toNat
def N0 (x:Int):Int:=D7 x.toNat
def Dq (x:Int):Int:=Dj x.toNat
def Bz (x:Int):Int:=Ai x.toNat
def Dw (x:Int):Bool:=J1 x.toNat
def Da (x:Int):Int:=I5 x.toNat
def B7 (x:Int):Int:=Ax x.toNat
def Bo (x:Int):Int:=A2 x.toNat
def F1 (neg:Bool) (m e:Int) (F3:Bool):Int:=(Ht neg m.toNat e F3).1
def F0 (neg:Bool) (m e:Int) (F3:Bool):Int:=(Ht neg m.toNat e F3).2
def Dm (a b:Int):Int:=(Hz a.toNat b.toNat).1
def Y3 (a b:Int):Int:=(Hz a.toNat b.toNat).2
def Gb (a b:Int):Int:=(Ays a.toNat b.toNat).1
def A1s (a b:Int):Int:=(Ays a.toNat b.toNat).2
theorem J4 (b:Nat):D7 b<2048:=Nat.mod_lt _ (by decide)
theorem Kh (b:Nat):Dj b<4503599627370496:=Nat.mod_lt _ (by decide)
theorem Gc (b:Nat):Ax b<9007199254740992:=by
 have:=Kh b
 unfold Ax; split<;>omega
theorem Dt (b:Nat):-1074≤A2 b∧A2 b≤972:=by
 have:=J4 b
 unfold A2; split<;>omega
theorem Od {m:Nat} {e:Int} (h1:2^52≤m) (h2:m<2^53) (he:-1074≤e):Cl m e=min ((e+1074).toNat*2^52+m) Eh:=by
 have hl:m.log2=52:=Wn h1 h2
 have hm:m≠0:=by omega
 have hle:Cy m e=e:=by unfold Cy; rw [hl]; omega
 unfold Cl kept
 rw [A5c hm,hle,Int.sub_self]
 unfold Ln
 simp [Qf]
theorem Aab {m:Nat} (h2:m<2^52):Cl m (-1074)=m:=by
 by_cases hm:m=0
 ·subst hm; rfl
 ·have hl:m.log2<52:=(A56 hm).2 h2
  have hle:Cy m (-1074)=-1074:=by unfold Cy; omega
  unfold Cl kept
  rw [A5c hm,hle,Int.sub_self]
  unfold Ln Eh
  simp [Qf]
  omega
theorem Kp (m:Nat) (e:Int):Cl m e≤Eh:=by
 unfold Cl
 split
 ·exact Nat.zero_le _
 ·exact Nat.min_le_right _ _
theorem F6:Eh=9218868437227405312:=rfl
theorem Q5 (m:Nat) (e:Int):Cl m e<2^63:=by
 have:=Kp m e
 rw [F6] at this
 omega
theorem Vq (n:Bool) (m:Nat) (e:Int):Bl n (Cl m e)<2^64:=by
 have:=Q5 m e
 unfold Bl; split<;>omega
theorem Aax {r:Nat} (h:r<2^63):I5 r=2^63+r:=by
 unfold I5; rw [A5c (by omega)]; omega
end Go.Rnd
namespace Go.Rnd
open Go.Den
def Mn (m e:Int):Bool:=B3 (0≤m∧m≤9007199254740992∧-1074≤e∧e+m / 9007199254740992≤100000)
def Q8 (m e:Int):Nat:=if 9007199254740992≤m then 1 else if m<4503599627370496 then 2+(e+1074).toNat else 0
def V3 (n:Bool) (m e:Int):Int:=Bl n (Cl m.toNat e)
def Fe (m e:Int) (r:Bool):Bool :=
 B3 (0≤m∧m<18446744073709551616∧e≤50000∧(-1137≤e∨(m<4611686018427387904∧-1140≤e))∧(r=true→4503599627370496≤m∨e≤-1074))
def Hf (n D:Nat):Nat:=if n%2^D=0 then n / 2^D else 2*(n / 2^D / 2)+1
def Gh (m d:Int):Int:=Hf m.toNat (min d.toNat 63)
def B4 (l:List Int):Bool:=B3 (l.length<4611686018427387904∧∀ x∈l,Af x=true)
def Ep (x:Nat):Nat:=if Ai x=4 then Ok else x
def Abx (x:Int):Int:=Ep x.toNat
def Hi (x:Nat):Int:=Ep x
def Re (x:Int):Bool:=B3 (0≤x)
theorem Na (n:Nat):Re (n:Int)=true:=Aq.2 (Int.natCast_nonneg n)
theorem Wf {x:Int} (h:Re x=true):∃ n:Nat,x=n:=⟨x.toNat,by have:=Aq.1 h; omega⟩
end Go.Rnd
namespace Go.Rnd
theorem A1v (a c:Nat):(a+1)*c+c=a*c+(c+c):=by rw [A5u,Nat.one_mul,Nat.add_assoc]
theorem A0x:2^52+2^52=2^53:=by decide
theorem A1u (a:Nat):(a+1)*2^52+2^52=a*2^52+2^53:=(A1v a (2^52)).trans (congrArg (fun x=>a*2^52+x) A0x)
theorem Ayf:2^52*2^1=2^53:=by decide
theorem Avm {E:Int}:Cl (2^53) E=Cl (2^52) (E+1):=by
 have:=(Dv (2^52) 1 (E+1)).1
 have e1:E+1-((1:Nat):Int)=E:=by omega
 rw [e1,Ayf] at this
 exact this
theorem Ari {E:Int} (hE:-1074≤E):Cl (2^53) E=min ((E+1074).toNat*2^52+2^53) Eh:=by
 have e3:(E+1+1074).toNat=(E+1074).toNat+1:=by omega
 rw [Avm,Od (by decide) (by decide) (by omega),e3]
 exact congrArg (fun x=>min x Eh) (A1u _)
theorem An2 {q:Nat} {E:Int} (h1:q≤2^53) (hE:-1074≤E) (h2:2^52≤q∨E=-1074):Cl q E=min ((E+1074).toNat*2^52+q) Eh:=by
 by_cases ha:q=2^53
 ·rw [ha]; exact Ari hE
 ·by_cases hb:2^52≤q
  ·exact Od hb (by omega) hE
  ·obtain rfl:E=-1074:=h2.resolve_left hb
   rw [Aab (by omega)]
   unfold Eh
   simp
   omega
theorem Aof {M D s:Nat} (hs:s≤1):Ov (4*M+s) (D+2)=M / 2^D+(if 0<D∧(2^(D-1)<M%2^D∨(M%2^D=2^(D-1)∧(s=1∨M / 2^D%2=1))) then 1 else 0) ∧
 ((4*M+s)%2^(D+2)=0↔M%2^D=0∧s=0):=by
 have hp:2^(D+2)=2^D*4:=by rw [A5f]
 have hA:=Co D
 have hdm:=Nat.div_add_mod M (2^D)
 have hlt:=Nat.mod_lt M hA
 have hdiv:(4*M+s) / (2^D*4)=M / 2^D:=by
  rw [A5e (2^D) 4,← A5j]
  congr 1; omega
 have hmod:(4*M+s)%(2^D*4)=4*(M%2^D)+s:=by
  have h:=Nat.div_add_mod (4*M+s) (2^D*4)
  rw [hdiv] at h
  have e:2^D*4*(M / 2^D)=4*(2^D*(M / 2^D)):=by rw [A5e (2^D) 4,A5h]
  rw [e] at h
  omega
 unfold Ov
 rw [hp,hdiv,hmod]
 generalize M%2^D=r at *
 generalize M / 2^D=q at *
 refine ⟨?_,by omega⟩
 congr 1
 have key:(2^D*4<2*(4*r+s)∨2*(4*r+s)=2^D*4∧q%2=1)↔(0<D∧(2^(D-1)<r∨(r=2^(D-1)∧(s=1∨q%2=1)))):=by
  cases D with
  | zero=>simp only [A5o] at hlt ⊢; omega
  | succ d =>
    rw [Nat.pow_succ] at hlt ⊢
    simp only [Nat.add_sub_cancel]
    generalize 2^d=c at *
    omega
 simp only [key]
structure Drop (M:Nat) (e:Int) (D:Nat):Prop where
 le:D≤63
 stop:D<63→M / 2^D<2^53∧-1074≤e+D
 least:∀ d,d<D→2^53≤M / 2^d∨e+d < -1074
def qOf (M D s:Nat):Nat:=M / 2^D+(if 0<D∧(2^(D-1)<M%2^D∨(M%2^D=2^(D-1)∧(s=1∨M / 2^D%2=1))) then 1 else 0)
theorem Aru {M D s:Nat} (h:M / 2^D<2^53):qOf M D s≤2^53:=by
 unfold qOf; split<;>omega
theorem Arv {M D s:Nat}:M / 2^D≤qOf M D s:=by unfold qOf; omega
theorem Azu {M D:Nat} {c:Nat} (h:M / 2^D<c):M<c*2^D:=(Nat.div_lt_iff_lt_mul (Co D)).1 h
theorem As0 {M D:Nat} {c:Nat} (h:c≤M / 2^D):c*2^D≤M:=(Nat.le_div_iff_mul_le (Co D)).1 h
theorem Aa7 {V:Nat} {E L:Int} (h:(E+V.log2-52=L∧-1074≤L)∨(E+V.log2-52≤L∧L=-1074)):Cy V E=L:=by unfold Cy; omega
theorem Ao5 {M s:Nat} (hs:s≤1) (hM:M≠0):(4*M+s).log2=M.log2+2:=by
 have h1:=Nat.log2_self_le hM
 have h2:=Nat.lt_log2_self (n:=M)
 refine Wn ?_ ?_
 ·rw [A5f]; omega
 ·have e:2^(M.log2+2+1)=2^(M.log2+1)*4:=by rw [show M.log2+2+1=M.log2+1+2 by omega,A5f]
  omega
theorem Aow {M D s:Nat} {e:Int} (hD:Drop M e D) (hs:s≤1) (hV:4*M+s≠0) (hM:M<2^64) (he:-1137≤e∨(M<2^62∧-1140≤e)) (hr:s=1→2^52≤M∨e≤-1074) :
 Cl (4*M+s) (e-2)=Cl (if e+D < -1074 then 0 else qOf M D s) (max (e+D) (-1074)) ∧
 flagsOf (4*M+s) (e-2)=flags (Cl (4*M+s) (e-2)) (decide (M%2^D=0∧s=0)) ∧
 (if e+D < -1074 then 0 else qOf M D s)≤2^53:=by
 have hA:=Co D
 by_cases hlow:e+D < -1074
 ·
  have hD63:D=63:=by
   rcases A5n D 63 with h | h
   ·have:=(hD.stop h).2; omega
   ·have:=hD.le; omega
  subst hD63
  have hM62:M<2^62:=by rcases he with h | h; omega; exact h.1
  have he2:-1140≤e:=by rcases he with h | h; omega; exact h.2
  have hV64:4*M+s<2^64:=by omega
  have hlog:(4*M+s).log2<64:=(A56 hV).2 hV64
  have hl:Cy (4*M+s) (e-2)=-1074:=Aa7 (.inr ⟨by omega,rfl⟩)
  obtain ⟨k,hk⟩:∃ k:Nat,(-1074-(e-2)).toNat=66+k:=⟨(-1074-(e-2)).toNat-66,by omega⟩
  have e2:(-(-1074-(e-2))).toNat=0:=by omega
  have hp:2^66≤2^(66+k):=A45 (by decide) (by omega)
  have hsm:4*M+s<2^(66+k):=by omega
  have hz:Ln (4*M+s) (-1074-(e-2))=0:=by
   unfold Ln Ov
   rw [e2,hk,A5o,A5z,Nat.div_eq_of_lt hsm,A43 hsm,A5c (by omega)]
  have hru:Cl (4*M+s) (e-2)=0:=by
   unfold Cl kept
   rw [A5c hV,hl,hz]
   simp
  refine ⟨?_,?_,?_⟩
  ·rw [hru,A5d hlow]; rfl
  ·unfold flagsOf exact Om
   rw [A5c hV,hl,e2,hk,A5o,A5z,A43 hsm]
   congr 1
   have h63:M%2^63=M:=A43 (by omega)
   rw [h63,A46]
   simp only [A4x]
   omega
  ·rw [A5d hlow]; exact Nat.zero_le _
 ·have hmax:max (e+D) (-1074)=e+D:=by omega
  have hq:M / 2^D<2^53:=by
   rcases A5n D 63 with h | h
   ·exact (hD.stop h).1
   ·have:D=63:=by have:=hD.le; omega
    subst this
    exact A5s (Nat.div_le_of_le_mul (show M≤2^63*2 by omega)) (by decide)
  obtain ⟨c1,c2⟩:=Aof (M:=M) (D:=D) hs
  rw [A5c hlow,hmax]
  refine ⟨?_,?_,Aru hq⟩
  all_goals
   by_cases hD0:D=0∧s=0
   ·obtain ⟨rfl,rfl⟩:=hD0
    have hM0:M≠0:=by omega
    obtain ⟨s1,s2⟩:=Dv M 2 e
    have e1:M*2^2=4*M+0:=by omega
    have e2:e-((2:Nat):Int)=e-2:=by omega
    rw [e1,e2] at s1 s2
    have hq0:qOf M 0 0=M:=by unfold qOf; simp
    have hle:Cy M e≤e:=by
     have:M.log2<53:=(A56 hM0).2 (by simpa using hq)
     unfold Cy; simp only [Int.natCast_zero,Int.add_zero] at hlow; omega
    first
    | (rw [s1,hq0]; simp; done)
    | (rw [s2,s1]
       unfold flagsOf exact Om
       have z:(Cy M e-e).toNat=0:=by omega
       rw [A5c hM0,z]
       simp [Nat.mod_one])
   ·
    have hl:Cy (4*M+s) (e-2)=e+D:=by
     by_cases hM0:M=0
     ·subst hM0
      have hs1:s=1:=by omega
      subst hs1
      have hle:e+D=-1074:=by
       rcases Nat.eq_zero_or_pos D with rfl | hpos
       ·have:=hr rfl; omega
       ·have h:=hD.least (D-1) (by omega)
        simp only [Nat.zero_div] at h
        omega
      refine Aa7 (.inr ⟨?_,hle⟩)
      have:(4*0+1:Nat).log2=0:=by decide
      rw [this]; omega
     ·have hlog:=Ao5 hs hM0
      have hub:M.log2<53+D:=by
       rw [A56 hM0,A5f]; exact Azu hq
      have hcase:52+D≤M.log2∨e+D=-1074:=by
       rcases Nat.eq_zero_or_pos D with rfl | hpos
       ·have hs1:s=1:=by omega
        rcases hr hs1 with h | h
        ·left; rw [Nat.le_log2 hM0]; simpa using h
        ·right; simp only [Int.natCast_zero,Int.add_zero] at hlow ⊢; omega
       ·rcases hD.least (D-1) (by omega) with h | h
        ·left
         rw [Nat.le_log2 hM0]
         have:=As0 h
         have e1:2^(52+D)=2^53*2^(D-1):=by rw [← A5f]; congr 1; omega
         rw [e1]; exact this
        ·right; omega
      refine Aa7 ?_
      rw [hlog]
      rcases hcase with h | h
      ·left; omega
      ·right; omega
    have e1:(e+D-(e-2)).toNat=D+2:=by omega
    have e2:(-(e+(D:Int)-(e-2))).toNat=0:=by omega
    have hkept:kept (4*M+s) (e-2)=qOf M D s:=by
     unfold kept Ln
     rw [hl,e1,e2,A5o,A5z,c1]; rfl
    first
    | (have hbig:2^52≤qOf M D s∨e+D=-1074:=by
        rcases Nat.eq_zero_or_pos D with rfl | hpos
        ·have hs1:s=1:=by omega
         rcases hr hs1 with h | h
         ·left; exact A5x (by simpa using h) Arv
         ·right; simp only [Int.natCast_zero,Int.add_zero] at hlow ⊢; omega
        ·rcases hD.least (D-1) (by omega) with h | h
         ·left
          refine A5x ?_ Arv
          rw [Nat.le_div_iff_mul_le hA]
          have:=As0 h
          have e1:2^52*2^D=2^53*2^(D-1):=by rw [← A5f,← A5f]; congr 1; omega
          rw [e1]; exact this
         ·right; omega
       rw [An2 (Aru hq) (by omega) hbig]
       unfold Cl
       rw [A5c hV,hl,hkept]; done)
    | (unfold flagsOf exact Om
       rw [A5c hV,hl,e1,e2,A5o,A5z]
       congr 1
       rw [A46]
       simp only [A4x]
       exact c2)
theorem Xp (n:Bool) {r:Nat} (h:r<2^63):D7 (Bl n r)=r / 2^52:=by
 unfold D7 Bl; cases n
 ·simp only [Bool.false_eq_true,if_false]; omega
 ·simp only [if_true]; omega
theorem U2 (n:Bool) (r:Nat):Dj (Bl n r)=r%2^52:=by
 unfold Dj Bl; cases n
 ·rfl
 ·simp only [if_true]; omega
theorem X0 (n:Bool) {r:Nat} (h:r≤Eh):Ai (Bl n r)=if r=Eh then 3 else if 2^52≤r then 2 else if 0<r then 1 else 0:=by
 rw [F6] at *
 unfold Ai
 rw [Xp n (by omega),U2]
 by_cases h1:r=9218868437227405312
 ·subst h1; simp
 ·rw [A5c h1,A5c (by omega)]
  by_cases h2:2^52≤r
  ·rw [A5d h2,A5d (by omega)]
  ·rw [A5c h2,A5c (by omega)]
   by_cases h3:0<r
   ·rw [A5d h3,A5d (by omega)]
   ·rw [A5c h3,A5c (by omega)]
end Go.Rnd
namespace Go.Rnd
open Ieee
theorem Azv (neg:Bool) (V k:Nat):Toward.even.cut neg V k=Ov V k:=by
 unfold Toward.cut Ov
 simp only [Nat.shiftLeft_eq,Nat.one_mul]
 by_cases h:k≤V.log2+2
 ·rw [Nat.min_eq_left h]
  congr 1
  by_cases h1:2^k<2*(V%2^k)
  ·simp [h1]
  ·by_cases h2:2*(V%2^k)=2^k∧V / 2^k%2=1
   ·simp [h2.1,h2.2]
   ·simp [h1,h2]
    intro h3
    have:=Nat.mod_lt (V / 2^k) (show 0<2 by decide)
    omega
 ·rw [Nat.min_eq_right (by omega)]
  have hV:V<2^(V.log2+1):=Nat.lt_log2_self
  have e:2^(V.log2+2)=2*2^(V.log2+1):=by rw [Nat.pow_succ,A5e]
  have hk:2^(V.log2+2)≤2^k:=A45 (by decide) (by omega)
  have d1:V / 2^(V.log2+2)=0:=Nat.div_eq_of_lt (by omega)
  have d2:V / 2^k=0:=Nat.div_eq_of_lt (by omega)
  have m1:V%2^(V.log2+2)=V:=A43 (by omega)
  have m2:V%2^k=V:=A43 (by omega)
  rw [d1,d2,m1,m2]
  have c1:¬ (2^(V.log2+2)<2*V):=by omega
  have c2:¬ (2^k<2*V):=by omega
  simp [c1,c2]
theorem Aus (neg:Bool) (r:Nat):Ieee.double.word neg r=Bl neg r:=rfl
theorem Akh (neg:Bool) (M:Nat) (E:Int):Ieee.double.nearest neg M E=Bl neg (Cl M E):=by
 unfold Format.nearest Cl
 by_cases h:M=0
 ·rw [A5d h,A5d h]; rfl
 ·rw [A5c h,A5c h,Aus]
  have e1:Ieee.double.leastPlace=-1074:=by decide
  have e2:max (E+(M.log2:Int)-(Ieee.double.fractionBits:Int)) Ieee.double.leastPlace=Cy M E:=by rw [e1]; rfl
  rw [e2,e1,Azv,Nat.shiftLeft_eq]
  unfold kept Ln
  have e3:(-(Cy M E-E)).toNat=(E-Cy M E).toNat:=by congr 1; omega
  have e4:Cy M E - -1074=Cy M E+1074:=by omega
  rw [e3,e4]
  rfl
theorem H3 (b:Nat):(D7 b=2047∧Dj b=0∧Ai b=3)∨(D7 b=2047∧Dj b≠0∧Ai b=4)∨(D7 b<2047∧Ai b≠3∧Ai b≠4):=by
 have:=J4 b
 unfold Ai
 by_cases h1:D7 b=2047
 ·by_cases h2:Dj b=0<;>simp [h1,h2]
 ·refine .inr (.inr ⟨by omega,?_⟩)
  rw [A5c h1]
  split
  ·decide
  ·split<;>decide
theorem Pk (b:Nat):b%2^63=D7 b*2^52+Dj b:=by unfold D7 Dj; omega
def Qe (b:Nat):Datum:=if Ai b=4 then .nan (Bx b) (Dj b) else if Ai b=3 then .infinity (Bx b) else .number (Bx b) (Ax b) (A2 b)
theorem J3 {b:Nat} (h:b<2^64):Ieee.double.read b=Qe b:=by
 unfold Format.read Qe
 have e0:Ieee.double.signWeight=2^63:=rfl
 have e1:Ieee.double.leastPlace=-1074:=by decide
 have e2:Ieee.double.binade=2^52:=rfl
 have e3:Ieee.double.infRung=Eh:=rfl
 have hn:(b / 2^63%2==1)=Bx b:=by
  unfold Bx
  rw [A46]
  simp only [beq_iff_eq,A4x]
  omega
 dsimp only
 rw [e0,e1,e2,e3,hn,Pk,F6]
 have hf:Dj b<2^52:=Kh b
 rcases H3 b with ⟨h1,h2,h3⟩ | ⟨h1,h2,h3⟩ | ⟨h1,h2,h3⟩
 ·rw [A5c (by omega),A5c (by omega),A5d (by omega),A5c (by omega),A5d h3]
 ·rw [A5c (by omega),A5c (by omega),A5c (by omega),A5d h3]
  have e:D7 b*2^52+Dj b-9218868437227405312=Dj b:=by omega
  rw [e]
 ·rw [A5c h3,A5c h2]
  by_cases h0:D7 b=0
  ·rw [A5d (by omega)]
   unfold Ax A2
   rw [A5d h0,A5d h0,h0,Nat.zero_mul,A50]
  ·rw [A5c (by omega),A5d (by omega)]
   unfold Ax A2
   rw [A5c h0,A5c h0]
   have m1:(D7 b*2^52+Dj b)%2^52=Dj b:=by omega
   have m2:(D7 b*2^52+Dj b) / 2^52=D7 b:=by omega
   have e:(-1074:Int)+((D7 b-1:Nat):Int)=(D7 b:Int)-1075:=by omega
   rw [m1,m2,Nat.add_comm (2^52),e]
theorem Am5 (s:Bool):Ieee.double.write (.infinity s)=Bl s Eh:=rfl
theorem N8 (s:Bool) (m:Nat) (e:Int):Ieee.double.write (.number s m e)=Bl s (Cl m e):=Akh s m e
theorem Ms {b:Nat} (h:b<2^64) (h3:Ai b=3):Bl (Bx b) Eh=b:=by
 rcases H3 b with ⟨h1,h2,_⟩ | ⟨_,_,h4⟩ | ⟨_,h4,_⟩
 ·have e:=Pk b
  rw [h1,h2] at e
  rw [F6]
  unfold Bl Bx
  by_cases hb:2^63≤b
  ·simp [hb]; omega
  ·simp [hb]; omega
 ·omega
 ·omega
theorem H4 (s:Bool) {r:Nat} (h:r≤Eh):Ep (Bl s r)=Bl s r:=by
 unfold Ep
 rw [A5c]
 rw [X0 s h]
 split
 ·decide
 ·split
  ·decide
  ·split<;>decide
theorem Tb (s:Bool) (m up:Nat):Ieee.signed s m up=Jb s (m*2^up):=by
 unfold Ieee.signed Jb
 rw [Nat.shiftLeft_eq]
theorem Ie {b:Nat} (h:Ai b=4):Qe b=.nan (Bx b) (Dj b):=A5d h
theorem Fi {b:Nat} (h:Ai b=3):Qe b=.infinity (Bx b):=by unfold Qe; rw [A5c (by omega),A5d h]
theorem Fh {b:Nat} (h3:Ai b≠3) (h4:Ai b≠4):Qe b=.number (Bx b) (Ax b) (A2 b):=by unfold Qe; rw [A5c h4,A5c h3]
theorem Auf {a b:Nat} (h:Ai a=4∨Ai b=4):Hz a b=(Ok,0):=A5d h
theorem Ai8 {a b:Nat} (h4:¬ (Ai a=4∨Ai b=4)) (h:Ai a=3):Hz a b=(if Ai b=3∧a≠b then (Ok,16) else (a,0)):=by unfold Hz; rw [A5c h4,A5d h]
theorem Aeb {a b:Nat} (h4:¬ (Ai a=4∨Ai b=4)) (h:Ai a≠3) (h':Ai b=3):Hz a b=(b,0):=by unfold Hz; rw [A5c h4,A5c h,A5d h']
theorem W5 {a b:Nat} (h4:¬ (Ai a=4∨Ai b=4)) (h:Ai a≠3) (h':Ai b≠3) :
 Hz a b=L9 (Bl (Bx a&&Bx b) 0) (Ho a (min (A2 a) (A2 b))+Ho b (min (A2 a) (A2 b))) (min (A2 a) (A2 b)):=by
 unfold Hz; rw [A5c h4,A5c h,A5c h']
theorem Avf (s:Bool) (m:Nat) (i:Int) (t:Bool) (n:Nat) (j:Int):(Datum.number s m i).sum (Datum.number t n j) =
 some (.number (if Jb s (m*2^(i-min i j).toNat)+Jb t (n*2^(j-min i j).toNat)=0 then s&&t else Jb s (m*2^(i-min i j).toNat)+Jb t (n*2^(j-min i j).toNat)<0)
  (Jb s (m*2^(i-min i j).toNat)+Jb t (n*2^(j-min i j).toNat)).natAbs (min i j)):=by
 rw [← Tb,← Tb]
 rfl
theorem Ags {a b:Nat} (ha:a<2^64) (hb:b<2^64) {d:Nat} (hd:Ai d=4) :
 Ep ((((Qe a).sum (Qe b)).map Ieee.double.write).getD d)=(Hz a b).1:=by
 have cd:Ep d=Ok:=A5d hd
 by_cases h4:Ai a=4∨Ai b=4
 ·rw [Auf h4]
  by_cases a4:Ai a=4
  ·rw [Ie a4]; exact cd
  ·have b4:=h4.resolve_left a4
   rw [Ie b4]
   by_cases a3:Ai a=3
   ·rw [Fi a3]; exact cd
   ·rw [Fh a3 a4]; exact cd
 ·have a4:Ai a≠4:=fun h=>h4 (.inl h)
  have b4:Ai b≠4:=fun h=>h4 (.inr h)
  by_cases a3:Ai a=3
  ·have wa:=Ms ha a3
   rw [Ai8 h4 a3,Fi a3]
   by_cases b3:Ai b=3
   ·have wb:=Ms hb b3
    rw [Fi b3]
    by_cases hs:Bx a=Bx b
    ·have hab:a=b:=by rw [← wa,← wb,hs]
     rw [A5c (fun h=>h.2 hab)]
     have:(Datum.infinity (Bx a)).sum (.infinity (Bx b))=some (.infinity (Bx a)):=A5d hs
     rw [this]
     show Ep (Bl (Bx a) Eh)=a
     rw [H4 _ (A5k _),wa]
    ·have hab:a≠b:=fun h=>hs (by rw [h])
     have:(Datum.infinity (Bx a)).sum (.infinity (Bx b))=none:=A5c hs
     rw [this,A5d ⟨b3,hab⟩]
     exact cd
   ·rw [Fh b3 b4,A5c (fun h=>b3 h.1)]
    show Ep (Bl (Bx a) Eh)=a
    rw [H4 _ (A5k _),wa]
  ·rw [Fh a3 a4]
   by_cases b3:Ai b=3
   ·have wb:=Ms hb b3
    rw [Aeb h4 a3 b3,Fi b3]
    show Ep (Bl (Bx b) Eh)=b
    rw [H4 _ (A5k _),wb]
   ·rw [W5 h4 a3 b3,Fh b3 b4,Avf]
    show Ep (Ieee.double.write (.number _ _ _))=_
    rw [N8,H4 _ (Kp _ _)]
    unfold L9 Ho
    by_cases h0:Jb (Bx a) (Ax a*2^(A2 a-min (A2 a) (A2 b)).toNat)+Jb (Bx b) (Ax b*2^(A2 b-min (A2 a) (A2 b)).toNat)=0
    ·rw [A5d h0,A5d h0,h0]
     have:Cl (Int.natAbs 0) (min (A2 a) (A2 b))=0:=A5d rfl
     rw [this]
    ·rw [A5c h0,A5c h0]
theorem Aud {a b:Nat} (ha:a<2^64) (hb:b<2^64) {d:Nat} (hd:Ai d=4):Ep ((Ieee.double.add a b).getD d)=(Hz a b).1:=by
 unfold Format.add
 rw [J3 ha,J3 hb]
 exact Ags ha hb hd
theorem Ahr {b:Nat} (h:b<2^64):Bx (I5 b)=!(Bx b)∧D7 (I5 b)=D7 b∧Dj (I5 b)=Dj b:=by
 unfold Bx D7 Dj I5
 by_cases hb:2^63≤b
 ·rw [A5d hb]
  refine ⟨?_,by omega,by omega⟩
  have:¬ 2^63≤b-2^63:=by omega
  simp [hb,this]
 ·rw [A5c hb]
  refine ⟨?_,by omega,by omega⟩
  have:2^63≤b+2^63:=by omega
  simp [hb,this]
theorem Akn {b:Nat} (h:b<2^64):I5 b<2^64:=by unfold I5; split<;>omega
theorem Aj5 {b:Nat} (h:b<2^64):Qe (I5 b)=(Qe b).opposite:=by
 obtain ⟨h1,h2,h3⟩:=Ahr h
 have hk:Ai (I5 b)=Ai b:=by unfold Ai; rw [h2,h3]
 have hm:Ax (I5 b)=Ax b:=by unfold Ax; rw [h2,h3]
 have he:A2 (I5 b)=A2 b:=by unfold A2; rw [h2]
 by_cases b4:Ai b=4
 ·rw [Ie b4,Ie (by omega),h1,h3]; rfl
 ·by_cases b3:Ai b=3
  ·rw [Fi b3,Fi (by omega),h1]; rfl
  ·rw [Fh b3 b4,Fh (by omega) (by omega),h1,hm,he]; rfl
theorem Aq2 {a b:Nat} (ha:a<2^64) (hb:b<2^64) {d:Nat} (hd:Ai d=4):Ep ((Ieee.double.sub a b).getD d)=(Ays a b).1:=by
 unfold Format.sub
 rw [J3 ha,J3 hb,← Aj5 hb]
 exact Ags ha (Akn hb) hd
theorem Aat (b:Nat):(Ieee.double.read b).isNaN=decide (Ai b=4):=by
 unfold Format.read
 have e0:Ieee.double.signWeight=2^63:=rfl
 have e2:Ieee.double.binade=2^52:=rfl
 have e3:Ieee.double.infRung=Eh:=rfl
 dsimp only
 rw [e0,e2,e3,Pk,F6]
 have hf:Dj b<2^52:=Kh b
 rcases H3 b with ⟨h1,h2,h3⟩ | ⟨h1,h2,h3⟩ | ⟨h1,h2,h3⟩
 ·rw [A5c (by omega),A5c (by omega),A5d (by omega),A4v (by omega)]; rfl
 ·rw [A5c (by omega),A5c (by omega),A5c (by omega),A4r h3]; rfl
 ·rw [A4v h3]
  by_cases h0:D7 b=0
  ·rw [A5d (by omega)]; rfl
  ·rw [A5c (by omega),A5d (by omega)]; rfl
end Go.Rnd
namespace Go.Rnd
open Ieee
theorem Xn {V W k:Nat} (h:V≤W):Ov V k≤Ov W k:=by
 unfold Ov
 have hA:=Co k
 have hq:V / 2^k≤W / 2^k:=Nat.div_le_div_right h
 rcases A5n (V / 2^k) (W / 2^k) with h1 | h1
 ·split<;>split<;>omega
 ·have he:V / 2^k=W / 2^k:=by omega
  have v:=Nat.div_add_mod V (2^k)
  have w:=Nat.div_add_mod W (2^k)
  rw [he] at v ⊢
  have hr:V%2^k≤W%2^k:=by omega
  by_cases hc:2^k<2*(V%2^k)∨2*(V%2^k)=2^k∧W / 2^k%2=1
  ·have hc':2^k<2*(W%2^k)∨2*(W%2^k)=2^k∧W / 2^k%2=1:=by
    rcases hc with hc | ⟨hc,hd⟩
    ·exact .inl (by omega)
    ·rcases A5n (2^k) (2*(W%2^k)) with h2 | h2
     ·exact .inl h2
     ·exact .inr ⟨by omega,hd⟩
   rw [A5d hc,A5d hc']
   exact A5k _
  ·rw [A5c hc]
   exact Nat.le_add_right _ _
theorem Avt {V c k:Nat} (h:V≤c*2^k):Ov V k≤c:=by
 have h1:=Xn (k:=k) h
 have:Ov (c*2^k) k=c:=by
  have:=V0 c k 0
  rw [A5y,Qf] at this
  exact this
 omega
theorem Awk {V c k:Nat} (h:c*2^k≤V):c≤Ov V k:=by
 have h1:=Xn (k:=k) h
 have:Ov (c*2^k) k=c:=by
  have:=V0 c k 0
  rw [A5y,Qf] at this
  exact this
 omega
theorem Aj6 {V W:Nat} {s:Int} (h:V≤W):Ln V s≤Ln W s:=Xn (A42 _ h)
theorem Akw {V W:Nat} {E:Int} (hV:V≠0) (h:V≤W):Cy V E≤Cy W E:=by
 have:V.log2≤W.log2:=(Nat.le_log2 (by omega)).2 (A5x (Nat.log2_self_le hV) h)
 unfold Cy; omega
theorem Awl {V:Nat} {E:Int}:kept V E≤2^53:=by
 have hV:V<2^(V.log2+1):=Nat.lt_log2_self
 unfold kept Ln
 refine Avt ?_
 have hl:E+V.log2-52≤Cy V E:=by unfold Cy; omega
 rw [← A5f]
 have h1:V*2^(-(Cy V E-E)).toNat≤2^(V.log2+1)*2^(-(Cy V E-E)).toNat:=A42 _ (Nat.le_of_lt hV)
 rw [← A5f] at h1
 exact A5x h1 (A45 (by decide) (by omega))
theorem Afm {V:Nat} {E:Int} (hV:V≠0) (hl:Cy V E=E+V.log2-52):2^52≤kept V E:=by
 have h1:2^V.log2≤V:=Nat.log2_self_le hV
 unfold kept Ln
 refine Awk ?_
 rw [← A5f]
 have h2:2^V.log2*2^(-(Cy V E-E)).toNat≤V*2^(-(Cy V E-E)).toNat:=A42 _ h1
 rw [← A5f] at h2
 exact A5x (A45 (by decide) (by omega)) h2
theorem Ib {V W:Nat} {E:Int} (h:V≤W):Cl V E≤Cl W E:=by
 unfold Cl
 by_cases hV:V=0
 ·rw [A5d hV]; exact Nat.zero_le _
 ·have hW:W≠0:=by omega
  rw [A5c hV,A5c hW]
  have hl:=Akw (E:=E) hV h
  have key:(Cy V E+1074).toNat*2^52+kept V E≤(Cy W E+1074).toNat*2^52+kept W E:=by
   rcases Int.lt_or_eq_of_le hl with h1 | h1
   ·have hb:-1074≤Cy V E:=by unfold Cy; omega
    have hn:Cy W E=E+W.log2-52:=by unfold Cy at h1 hb ⊢; omega
    have k1:=Awl (V:=V) (E:=E)
    have k2:=Afm hW hn
    have h2:(Cy V E+1074).toNat+1≤(Cy W E+1074).toNat:=by omega
    have h3:((Cy V E+1074).toNat+1)*2^52≤(Cy W E+1074).toNat*2^52:=A42 _ h2
    rw [A5u (Cy V E+1074).toNat 1 (2^52),Nat.one_mul] at h3
    omega
   ·unfold kept
    rw [h1]
    exact Nat.add_le_add_left (Aj6 h) _
  omega
theorem Tf {b:Nat} (h4:Ai b≠4):Cl (Ax b) (A2 b)=b%2^63:=by
 have hf:Dj b<2^52:=Kh b
 have hr:=Pk b
 rw [hr]
 unfold Ax A2
 by_cases h0:D7 b=0
 ·rw [A5d h0,A5d h0,Aab hf,h0,Nat.zero_mul,A50]
 ·rw [A5c h0,A5c h0,Od (by omega) (by omega) (by omega),F6]
  have e:((D7 b:Int)-1075+1074).toNat=D7 b-1:=by omega
  rw [e]
  have h5:(D7 b-1)*2^52+(Dj b+2^52)=D7 b*2^52+Dj b:=by omega
  rw [h5]
  rcases H3 b with ⟨h1,h2,_⟩ | ⟨_,_,h⟩ | ⟨h1,_,_⟩
  ·rw [h1,h2]; decide
  ·exact absurd h h4
  ·omega
def Hr (b:Nat):Int:=Jb (Bx b) (b%2^63)
def Gv (b:Nat) (f:Int):Nat:=Ax b*2^(A2 b-f).toNat
theorem O0 {b:Nat} {f:Int} (h4:Ai b≠4) (hf:f≤A2 b):Cl (Gv b f) f=b%2^63:=by
 rw [← Tf h4]
 have h:=(Dv (Ax b) (A2 b-f).toNat (A2 b)).1
 have e:A2 b-((A2 b-f).toNat:Int)=f:=by omega
 rw [e] at h
 exact h
theorem Aso {a b:Nat} (h:a%2^63=b%2^63) (f:Int):Gv a f=Gv b f:=by
 have h1:D7 a=D7 b:=by unfold D7; omega
 have h2:Dj a=Dj b:=by unfold Dj; omega
 unfold Gv Ax A2
 rw [h1,h2]
theorem Aaz {a b:Nat} {f:Int} (ha:Ai a≠4) (hb:Ai b≠4) (hfa:f≤A2 a) (hfb:f≤A2 b):Gv a f<Gv b f↔a%2^63<b%2^63:=by
 constructor
 ·intro h
  have h1:=Ib (E:=f) (Nat.le_of_lt h)
  rw [O0 ha hfa,O0 hb hfb] at h1
  rcases Nat.lt_or_eq_of_le h1 with h2 | h2
  ·exact h2
  ·have:=Aso h2 f; omega
 ·intro h
  rcases A5n (Gv a f) (Gv b f) with h1 | h1
  ·exact h1
  ·have h1:=Ib (E:=f) h1
   rw [O0 ha hfa,O0 hb hfb] at h1
   omega
theorem Ahx (b:Nat) (f:Int):Gv b f=0↔b%2^63=0:=by
 have hp:=Co (A2 b-f).toNat
 unfold Gv
 rw [Nat.mul_eq_zero,Pk]
 have h1:¬ (2^(A2 b-f).toNat=0):=by omega
 have h2:Ax b=0↔D7 b*2^52+Dj b=0:=by unfold Ax; split<;>omega
 rw [h2]
 exact ⟨fun h=>h.resolve_right h1,.inl⟩
theorem Ayz {s t:Bool} {m n m' n':Nat} (h1:m<n↔m'<n') (h2:n<m↔n'<m') (h3:m=0↔m'=0) (h4:n=0↔n'=0):Jb s m<Jb t n↔Jb s m'<Jb t n':=by
 unfold Jb
 cases s<;>cases t<;>simp<;>omega
theorem Aei {a b:Nat} {f:Int} (ha:Ai a≠4) (hb:Ai b≠4) (hfa:f≤A2 a) (hfb:f≤A2 b):Ho a f<Ho b f↔Hr a<Hr b :=
 Ayz (Aaz ha hb hfa hfb) (Aaz hb ha hfb hfa) (Ahx a f) (Ahx b f)
theorem Apv {x y x' y':Int} (h1:x<y↔x'<y') (h2:y<x↔y'<x'):compare x y=compare x' y':=by
 show compareOfLessAndEq x y=compareOfLessAndEq x' y'
 unfold compareOfLessAndEq
 by_cases h:x<y
 ·rw [A5d h,A5d (h1.1 h)]
 ·rw [A5c h,A5c (fun k=>h (h1.2 k))]
  by_cases e:x=y
  ·rw [A5d e,A5d (by omega)]
  ·rw [A5c e,A5c (by omega)]
theorem Azm {b:Nat} (h4:Ai b≠4):b%2^63≤Eh:=by
 rw [← Tf h4]; exact Kp _ _
theorem Rg {b:Nat} (h:Ai b=3):b%2^63=Eh:=by
 rw [Pk]
 rcases H3 b with ⟨h1,h2,_⟩ | ⟨_,_,h4⟩ | ⟨_,h4,_⟩
 ·rw [h1,h2]; rfl
 ·omega
 ·omega
theorem Tp {b:Nat} (h3:Ai b≠3) (h4:Ai b≠4):b%2^63<Eh:=by
 have hf:Dj b<2^52:=Kh b
 rw [Pk,F6]
 rcases H3 b with ⟨_,_,h⟩ | ⟨_,_,h⟩ | ⟨h1,_,_⟩
 ·exact absurd h h3
 ·exact absurd h h4
 ·omega
theorem Ak5 {x y:Int} (h:x<y):compare x y=.lt:=by
 show compareOfLessAndEq x y=_; unfold compareOfLessAndEq; rw [A5d h]
theorem Ak6 {x y:Int} (h:y<x):compare x y=.gt:=by
 show compareOfLessAndEq x y=_; unfold compareOfLessAndEq; rw [A5c (by omega),A5c (by omega)]
theorem Ql {a b:Nat} (ha:a<2^64) (hb:b<2^64) (a4:Ai a≠4) (b4:Ai b≠4):Ieee.double.order a b=some (compare (Hr a) (Hr b)):=by
 unfold Format.order
 rw [J3 ha,J3 hb]
 have hpos:0<Eh:=by decide
 by_cases a3:Ai a=3
 ·have ka:=Rg a3
  rw [Fi a3]
  by_cases b3:Ai b=3
  ·have kb:=Rg b3
   rw [Fi b3]
   show some (compare (Bx b).toNat (Bx a).toNat)=_
   unfold Hr
   rw [ka,kb]
   cases Bx a<;>cases Bx b<;>decide
  ·have kb:=Tp b3 b4
   rw [Fh b3 b4]
   show some (if Bx a then Ordering.lt else .gt)=_
   unfold Hr Jb
   rw [ka]
   cases Bx a
   ·rw [Ak6 (by simp; split<;>omega)]; rfl
   ·rw [Ak5 (by simp; split<;>omega)]; rfl
 ·have ka:=Tp a3 a4
  rw [Fh a3 a4]
  by_cases b3:Ai b=3
  ·have kb:=Rg b3
   rw [Fi b3]
   show some (if Bx b then Ordering.gt else .lt)=_
   unfold Hr Jb
   rw [kb]
   cases Bx b
   ·rw [Ak5 (by simp; split<;>omega)]; rfl
   ·rw [Ak6 (by simp; split<;>omega)]; rfl
  ·rw [Fh b3 b4]
   show some (compare (Ieee.signed _ _ _) (Ieee.signed _ _ _))=_
   rw [Tb,Tb]
   congr 1
   exact Apv (Aei a4 b4 (Int.min_le_left _ _) (Int.min_le_right _ _)) (Aei b4 a4 (Int.min_le_right _ _) (Int.min_le_left _ _))
theorem Xt {a b:Nat} (ha:a<2^64) (hb:b<2^64) (h:Ai a=4∨Ai b=4):Ieee.double.order a b=none:=by
 unfold Format.order
 rw [J3 ha,J3 hb]
 by_cases a4:Ai a=4
 ·rw [Ie a4]; cases Qe b<;>rfl
 ·rw [Ie (h.resolve_left a4)]; cases Qe a<;>rfl
def Ag9 (S:Int) (f:Int):Int:=if S<0 then -(Cl S.natAbs f:Int) else Cl S.natAbs f
theorem Aj3 (S:Int) (k:Nat) (f:Int):Ag9 (S*((2^k:Nat):Int)) (f-k)=Ag9 S f:=by
 have hp:=Co k
 have h0:S*((2^k:Nat):Int)<0↔S<0:=by
  constructor
  ·intro h
   rcases Int.lt_or_le S 0 with h1 | h1
   ·exact h1
   ·have:=Int.mul_nonneg h1 (Int.natCast_nonneg (2^k)); omega
  ·intro h
   exact Int.mul_neg_of_neg_of_pos h (by omega)
 unfold Ag9
 rw [Int.natAbs_mul,Int.natAbs_natCast,(Dv S.natAbs k f).1]
 by_cases h:S<0
 ·rw [A5d h,A5d (h0.2 h)]
 ·rw [A5c h,A5c (fun k=>h (h0.1 k))]
theorem Nf (s:Bool) {r:Nat} (h:r<2^63):Hr (Bl s r)=Jb s r:=by
 unfold Hr Bl Bx
 cases s
 ·have h1:¬ 2^63≤r:=by omega
  have h2:r%2^63=r:=A43 h
  simp only [Bool.false_eq_true,if_false,A4v h1,h2]
 ·have h1:2^63≤2^63+r:=by omega
  have h2:(2^63+r)%2^63=r:=by omega
  simp only [if_true,A4r h1,h2]
theorem Apa (s:Bool) (S f:Int):Hr (L9 (Bl s 0) S f).1=Ag9 S f:=by
 unfold L9 Ag9
 by_cases h:S=0
 ·subst h
  have e:Cl (Int.natAbs 0) f=0:=A5d rfl
  rw [A5d rfl,e,Nf s (by decide)]
  cases s<;>rfl
 ·rw [A5c h]
  show Hr (Bl _ _)=_
  rw [Nf _ (Q5 _ _)]
  unfold Jb
  by_cases h1:S<0
  ·rw [A5d h1,A4r h1,A5d rfl]
  ·rw [A5c h1,A4v h1,A5c (by decide)]
theorem Acq {b:Nat} {f g:Int} {k:Nat} (hk:g=f-k) (hf:f≤A2 b):Ho b g=Ho b f*((2^k:Nat):Int):=by
 unfold Ho
 have e:(A2 b-g).toNat=(A2 b-f).toNat+k:=by omega
 rw [e,A5f,← A5h]
 generalize Ax b*2^(A2 b-f).toNat=m
 generalize 2^k=p
 unfold Jb
 cases Bx b
 ·exact A5b m p
 ·show -((m*p:Nat):Int)=-(m:Int)*(p:Int)
  rw [A5b,Int.neg_mul]
theorem Am0 {a c:Nat} (a3:Ai a≠3) (a4:Ai a≠4) (c3:Ai c≠3) (c4:Ai c≠4) {g:Int} (hg:g≤min (A2 a) (A2 c)) :
 Hr (Hz a c).1=Ag9 (Ho a g+Ho c g) g:=by
 rw [W5 (fun h=>h.elim a4 c4) a3 c3,Apa]
 obtain ⟨k,hk⟩:∃ k:Nat,g=min (A2 a) (A2 c)-k:=⟨(min (A2 a) (A2 c)-g).toNat,by omega⟩
 rw [Acq (b:=a) hk (Int.min_le_left _ _),Acq (b:=c) hk (Int.min_le_right _ _),← Int.add_mul,hk,Aj3]
end Go.Rnd
namespace Go.Rnd
def Ly (a b:Nat):Nat × Nat :=
 if Ai a=4∨Ai b=4 then (Ok,0)
 else if Ai a=3∨Ai b=3 then (if Ai a=0∨Ai b=0 then (Ok,16) else (Bl (Bx a !=Bx b) Eh,0))
 else (Bl (Bx a !=Bx b) (Cl (Ax a*Ax b) (A2 a+A2 b)),flagsOf (Ax a*Ax b) (A2 a+A2 b))
def G1 (X Y K:Nat):Nat:=2*(X*2^K / Y)+(if X*2^K%Y=0 then 0 else 1)
def Afy (a b:Nat):Nat × Nat :=
 if Ai a=4∨Ai b=4 then (Ok,0)
 else if Ai a=Ai b∧(Ai a=3∨Ai a=0) then (Ok,16)
 else if Ai a=3 then (Bl (Bx a !=Bx b) Eh,0)
 else if Ai b=3∨Ai a=0 then (Bl (Bx a !=Bx b) 0,0)
 else if Ai b=0 then (Bl (Bx a !=Bx b) Eh,8)
 else (Bl (Bx a !=Bx b) (Cl (G1 (Ax a) (Ax b) 120) (A2 a-A2 b-121)),flagsOf (G1 (Ax a) (Ax b) 120) (A2 a-A2 b-121))
theorem Adh (a b:Nat):Ly a b=Ly b a:=by
 have e:(Bx a !=Bx b)=(Bx b !=Bx a):=by cases Bx a<;>cases Bx b<;>rfl
 unfold Ly
 rw [e,A5e (Ax a),Int.add_comm (A2 a)]
 simp only [or_comm]
theorem Aki {V k:Nat} {E:Int} (hm:1≤V / 2^k) (hc:2^53≤V / 2^k∨E+k+1≤-1074) :
 Cl (4*(V / 2^k)+(if V%2^k=0 then 0 else 1)) (E+k-2)=Cl V E∧flagsOf (4*(V / 2^k)+(if V%2^k=0 then 0 else 1)) (E+k-2)=flagsOf V E:=by
 have hA:=Co k
 have h1:=Nat.div_add_mod V (2^k)
 have h2:=Nat.mod_lt V hA
 generalize hq:V / 2^k=q at *
 generalize hr:V%2^k=r at *
 by_cases h0:r=0
 ·rw [A5d h0]
  obtain ⟨a1,a2⟩:=Dv q k (E+k)
  obtain ⟨b1,b2⟩:=Dv q 2 (E+k)
  have e1:E+(k:Int)-k=E:=by omega
  have e2:V=q*2^k:=by rw [A5e]; omega
  have e3:q*2^2=4*q+0:=by omega
  have e4:E+(k:Int)-((2:Nat):Int)=E+k-2:=by omega
  rw [e1,← e2] at a1 a2
  rw [e3,e4] at b1 b2
  rw [a1,a2,b1,b2]
  exact ⟨rfl,rfl⟩
 ·rw [A5c h0]
  obtain ⟨d,rfl⟩:∃ d,k=d+1:=by
   cases k with
   | zero=>simp only [A5o] at h2; omega
   | succ d=>exact ⟨d,rfl⟩
  have hD:2^(d+1)=2*2^d:=by rw [Nat.pow_succ]; omega
  rw [hD] at h1 h2
  generalize hc2:2^d=c at *
  have p1:(2*q+1-1)*c=2*c*q:=by rw [Nat.add_sub_cancel,A5e,Nat.mul_left_comm,A5h]
  have p2:(2*q+1+1)*c=2*c*q+2*c:=by
   rw [show 2*q+1+1=2*(q+1) by omega,A5h,A5u,Nat.mul_add,A5e q c,A5h]; omega
  have lt1:(2*q+1-1)*2^d<V:=by rw [hc2,p1]; omega
  have lt2:V<(2*q+1+1)*2^d:=by rw [hc2,p2]; omega
  have od:(2*q+1)%2=1:=by omega
  have lV:=Sj od (by omega) lt1 lt2
  have l4:(4*q+1).log2=(2*q+1).log2+1:=Sj (d:=1) od (by omega) (by omega) (by omega)
  have hs:(2*q+1).log2≥54∨E+d+2≤-1074:=by
   rcases hc with h | h
   ·left; rw [ge_iff_le,Nat.le_log2 (by omega)]; omega
   ·right; omega
  have hk:E+d+2≤Cy (2*q+1) (E+d):=by unfold Cy; omega
  obtain ⟨a1,a2⟩:=Sa (E:=E) od lt1 lt2 (by unfold Cy; rw [lV]; omega) hk
  have ee:E+((d+1:Nat):Int)-2+((1:Nat):Int)=E+d:=by omega
  obtain ⟨b1,b2⟩:=Sa (V:=4*q+1) (d:=1) (E:=E+((d+1:Nat):Int)-2) od (by omega) (by omega) (by unfold Cy; rw [l4]; omega) (by rw [ee]; unfold Cy; omega)
  rw [ee] at b1 b2
  rw [a1,a2,b1,b2]
  exact ⟨rfl,rfl⟩
theorem We (n:Bool) {V k:Nat} {E e:Int} {s:Bool} (he:e=E+k) (hs:s=decide (V%2^k≠0)) (hm:1≤V / 2^k) (hc:2^53≤V / 2^k∨E+k+1≤-1074) :
 Ht n (V / 2^k) e s=(Bl n (Cl V E),flagsOf V E):=by
 obtain ⟨a,b⟩:=Aki hm hc
 have e1:s.toNat=if V%2^k=0 then 0 else 1:=by
  rw [hs]
  by_cases h:V%2^k=0
  ·rw [A4v (by omega),A5d h]; rfl
  ·rw [A4r h,A5c h]; rfl
 unfold Ht
 rw [he,e1,a,b]
theorem Z1 {X Y K:Nat} (d:Nat) (E:Int) (hY:0<Y) (h:2^53≤X*2^K / Y) :
 Cl (G1 X Y (K+d)) (E-d)=Cl (G1 X Y K) E∧flagsOf (G1 X Y (K+d)) (E-d)=flagsOf (G1 X Y K) E:=by
 have hA:=Co d
 unfold G1
 have e:X*2^(K+d)=X*2^K*2^d:=by rw [A5f,A5h]
 rw [e]
 generalize X*2^K=Z at *
 have h1:=Nat.div_add_mod Z Y
 have h2:=Nat.mod_lt Z hY
 by_cases h0:Z%Y=0
 ·obtain ⟨q,rfl⟩:=Nat.dvd_of_mod_eq_zero h0
  have e1:Y*q*2^d=Y*(q*2^d):=A5h _ _ _
  rw [e1,Nat.mul_mod_right,Nat.mul_mod_right,Nat.mul_div_cancel_left _ hY,Nat.mul_div_cancel_left _ hY,A5d rfl]
  have:=Dv (2*q+0) d E
  rw [show (2*q+0)*2^d=2*(q*2^d)+0 by rw [A5y,A5y,A5h]] at this
  exact this
 ·have h3:=Nat.div_add_mod (Z*2^d) Y
  have h4:=Nat.mod_lt (Z*2^d) hY
  rw [A5c h0]
  generalize hq:Z / Y=q at *
  generalize hr:Z%Y=r at *
  generalize hc:2^d=c at *
  have hz:Z*c=Y*(q*c)+r*c:=by rw [← h1,A5u,A5h]
  have hrc:r*c<Y*c:=(Nat.mul_lt_mul_right hA).2 h2
  have hrc0:0<r*c:=Nat.mul_pos (by omega) hA
  have q1:q*c≤Z*c / Y:=by rw [Nat.le_div_iff_mul_le hY,A5e (q*c)]; omega
  have q2:Z*c / Y<(q+1)*c:=by
   rw [Nat.div_lt_iff_lt_mul hY,A5u,A5u,Nat.one_mul,A5e (q*c),A5e c Y]; omega
  have q3:Z*c / Y=q*c→Z*c%Y≠0:=fun h5 h6=>by rw [h5,h6] at h3; omega
  generalize hQ:Z*c / Y=Q at *
  have p1:(2*q+1-1)*c=2*(q*c):=by rw [Nat.add_sub_cancel,A5h]
  have p2:(2*q+1+1)*c=2*((q+1)*c):=by rw [show 2*q+1+1=2*(q+1) by omega,A5h]
  have od:(2*q+1)%2=1:=by omega
  generalize hV:2*Q+(if Z*c%Y=0 then 0 else 1)=V
  have v1:(2*q+1-1)*2^d<V:=by
   rw [hc,p1,← hV]
   by_cases h5:Q=q*c
   ·rw [A5c (q3 h5)]; omega
   ·split<;>omega
  have v2:V<(2*q+1+1)*2^d:=by
   rw [hc,p2,← hV]
   split<;>omega
  have lV:=Sj od (by omega) v1 v2
  have hs:54≤(2*q+1).log2:=by rw [Nat.le_log2 (by omega)]; omega
  have ee:E-(d:Int)+d=E:=by omega
  have:=Sa (E:=E-d) od v1 v2 (by unfold Cy; rw [lV]; omega) (by unfold Cy; omega)
  rw [ee] at this
  exact this
theorem Z2 {X Y K L:Nat} {E F:Int} (hY:0<Y) (h1:2^53≤X*2^K / Y) (h2:2^53≤X*2^L / Y) (he:E+K=F+L) :
 Cl (G1 X Y K) E=Cl (G1 X Y L) F∧flagsOf (G1 X Y K) E=flagsOf (G1 X Y L) F:=by
 rcases Nat.le_total K L with h | h
 ·obtain ⟨d,rfl⟩:=Nat.exists_eq_add_of_le h
  have:=Z1 d E hY h1
  rw [show E-(d:Int)=F by omega] at this
  exact ⟨this.1.symm,this.2.symm⟩
 ·obtain ⟨d,rfl⟩:=Nat.exists_eq_add_of_le h
  have:=Z1 d F hY h2
  rw [show F-(d:Int)=E by omega] at this
  exact this
theorem Ajp (X Y a K:Nat):G1 (X*2^a) Y K=G1 X Y (K+a):=by
 unfold G1
 have:X*2^a*2^K=X*2^(K+a):=by rw [A5h,← A5f,Nat.add_comm a K]
 rw [this]
theorem Agu (X Y b K:Nat):G1 X (Y*2^b) (K+b)=G1 X Y K:=by
 have hp:=Co b
 unfold G1
 have:X*2^(K+b)=X*2^K*2^b:=by rw [A5f,A5h]
 rw [this,Nat.mul_div_mul_right _ _ hp,Nat.mul_mod_mul_right]
 have:(X*2^K%Y*2^b=0)↔(X*2^K%Y=0):=by
  constructor
  ·intro h
   rcases Nat.mul_eq_zero.1 h with h | h
   ·exact h
   ·omega
  ·intro h; rw [h,Nat.zero_mul]
 simp only [this]
theorem Ars {X Y K t:Nat} (hX:0<X) (hY0:0<Y) (hY:Y<2^t) (hK:53+t≤K):2^53≤X*2^K / Y:=by
 rw [Nat.le_div_iff_mul_le hY0]
 have h1:2^53*Y≤2^53*2^t:=Nat.mul_le_mul_left _ (by omega)
 have h2:2^(53+t)≤2^K:=A45 (by decide) hK
 have h3:1*2^K≤X*2^K:=A42 _ (by omega)
 rw [A5f] at h2
 omega
theorem Aox (n:Bool) {X Y K:Nat} {e E:Int} {s:Bool} (hs:s=decide (X*2^K%Y≠0)) (he:E=e-1) (hq:2^53≤X*2^K / Y) :
 Ht n (X*2^K / Y) e s=(Bl n (Cl (G1 X Y K) E),flagsOf (G1 X Y K) E):=by
 have e1:G1 X Y K / 2^1=X*2^K / Y:=by
  unfold G1
  split<;>omega
 have e2:decide (G1 X Y K%2^1≠0)=decide (X*2^K%Y≠0):=by
  unfold G1
  by_cases h:X*2^K%Y=0
  ·rw [A5d h,A4v (by omega),A4v (by omega)]
  ·rw [A5c h,A4r (by omega),A4r h]
 have:=We n (V:=G1 X Y K) (k:=1) (E:=E) (e:=e) (s:=s) (by omega) (by rw [e2]; exact hs) (by omega) (.inl (by omega))
 rw [e1] at this
 exact this
end Go.Rnd
namespace Go.Rnd
open Go.Den
def C1:List Int→Nat
 | []=>0
 | x::l=>x.toNat+4294967296*C1 l
def digits:Nat→Nat→List Int
 | 0,_=>[]
 | k+1,v=>((v%4294967296:Nat):Int)::digits k (v / 4294967296)
def El (n:Nat):Nat:=if n=0 then 0 else n.log2 / 32+1
def Sk (n:Nat):List Int:=digits (El n) n
def Aw (v:Int):List Int:=Sk v.natAbs
def Bu (v:Int):Bool:=decide (v<0)
def wv (n:Bool) (l:List Int):Int:=Jb n (C1 l)
def inL (l:List Int):Prop:=∀ x∈l,0≤x∧x<4294967296
def Lf (l:List Int):Bool:=B3 (l.length<1073741824∧inL l)
def Og (n:Bool) (l:List Int):Bool:=B3 (l.length<268435456∧l=Sk (C1 l)∧(n=true→l≠[]))
def okV (n:Bool) (l:List Int):Bool:=B3 (l.length<134217728∧l=Sk (C1 l)∧(n=true→l≠[]))
def Aze (k:Int):Bool:=B3 (-1000000≤k∧k≤1000000)
def Amk (k:Int):Bool:=B3 (-9223372036854775808≤k∧k≤9223372036854775807)
def Ii (l:List Int) (i:Int):Int:=if 0≤i then l.getD i.toNat 0 else 0
def M5 (a b:List Int):List Int:=digits (max a.length b.length+1) (C1 a+C1 b)
def Jx (a b:List Int):List Int:=digits a.length (C1 a-C1 b)
def leL (a b:List Int):Bool:=B3 (C1 a≤C1 b)
def X7 (a b:Nat):Int:=if a<b then -1 else if b<a then 1 else 0
def Y9 (a b:Int):Int:=if a<b then -1 else if b<a then 1 else 0
def Mm (v:Int) (j:Nat):Int:=Jb (Bu v) (v.natAbs / 2^j)
def Jo (v k:Int):Int:=if 0≤k then v*((2^k.toNat:Nat):Int) else Mm v (-k).toNat
def Aa5 (v:Int):Int:=if v=0 then 0 else (v.natAbs.log2:Int)+1
def Aon (v:Int):Bool:=decide (v%2=1)
theorem two32:2^32=4294967296:=by decide
theorem Qg (k:Nat):2^(32*(k+1))=4294967296*2^(32*k):=by
 rw [Nat.mul_add,A5z,A5f,A5e,two32]
theorem Gs:∀ (k v:Nat),(digits k v).length=k
 | 0,_=>rfl
 | k+1,v=>by rw [digits,List.length_cons,Gs k]
theorem Qv:∀ (k v:Nat),inL (digits k v)
 | 0,_=>fun x h=>by cases h
 | k+1,v=>fun x h=>by
   rw [digits,List.mem_cons] at h
   rcases h with rfl | h
   ·omega
   ·exact Qv k _ x h
theorem Mv:∀ (k v:Nat),C1 (digits k v)=v%2^(32*k)
 | 0,v=>by rw [digits,C1,Nat.mul_zero,A5o,Nat.mod_one]
 | k+1,v=>by
   rw [digits,C1,Mv k,A4s,Qg,Nat.mod_mul]
theorem Pg:∀ {l:List Int},inL l→C1 l<2^(32*l.length)
 | [],_=>by decide
 | x::l,h=>by
   have h1:=h x (A55 ..)
   have h2:=Pg (l:=l) (fun y hy=>h y (A5v _ hy))
   rw [C1,List.length_cons,Qg]
   omega
theorem Su:∀ {l:List Int},inL l→digits l.length (C1 l)=l
 | [],_=>rfl
 | x::l,h=>by
   have h1:=h x (A55 ..)
   have h2:=Su (l:=l) (fun y hy=>h y (A5v _ hy))
   rw [C1,List.length_cons,digits]
   have e1:(x.toNat+4294967296*C1 l)%4294967296=x.toNat:=by omega
   have e2:(x.toNat+4294967296*C1 l) / 4294967296=C1 l:=by omega
   rw [e1,e2,h2]
   congr 1
   omega
theorem N5 (n:Nat):n<2^(32*El n):=by
 unfold El
 by_cases h:n=0
 ·rw [A5d h,h]; decide
 ·rw [A5c h]
  exact A51 Nat.lt_log2_self (A45 (by decide) (by omega))
theorem Pp {n k:Nat} (h:n<2^(32*k)):El n≤k:=by
 unfold El
 by_cases h0:n=0
 ·rw [A5d h0]; exact Nat.zero_le _
 ·rw [A5c h0]
  have:=(A56 h0).2 h
  omega
theorem Awg {n k:Nat} (h:2^(32*k)≤n):k+1≤El n:=by
 have hp:=Co (32*k)
 unfold El
 rw [A5c (by omega)]
 have:=(Nat.le_log2 (by omega)).2 h
 omega
theorem Oi {n m:Nat} (h:n≤m):El n≤El m:=Pp (A5s h (N5 m))
theorem Ul (n:Nat):C1 (Sk n)=n:=by
 unfold Sk
 rw [Mv,A43 (N5 n)]
theorem I7 (n:Nat):(Sk n).length=El n:=Gs _ _
theorem Ah2 (n:Nat):inL (Sk n):=Qv _ _
theorem Abu:∀ (k v i:Nat),i<k→(digits k v).getD i 0=((v / 2^(32*i)%4294967296:Nat):Int)
 | k+1,v,0,_=>by rw [digits,List.getD_cons_zero,Nat.mul_zero,A5o,Nat.div_one]
 | k+1,v,i+1,h=>by
   rw [digits,List.getD_cons_succ,Abu k _ i (by omega),Qg,A5j]
theorem Tt {l:List Int} (h:inL l) (i:Nat):l.getD i 0=((C1 l / 2^(32*i)%4294967296:Nat):Int):=by
 by_cases hi:i<l.length
 ·have:=Abu l.length (C1 l) i hi
  rw [Su h] at this
  exact this
 ·have h1:=Pg h
  have h2:2^(32*l.length)≤2^(32*i):=A45 (by decide) (by omega)
  rw [Nat.div_eq_of_lt (by omega),A40,A58 (by omega)]
  rfl
theorem I8 {l:List Int} (h:inL l) (i:Nat):Ii l (i:Int)=((C1 l / 2^(32*i)%4294967296:Nat):Int):=by
 unfold Ii
 rw [A5d (by omega),A4s,Tt h]
theorem Ps:∀ (k v:Nat),digits (k+1) v=digits k v++[((v / 2^(32*k)%4294967296:Nat):Int)]
 | 0,v=>by rw [digits,digits,digits,Nat.mul_zero,A5o,Nat.div_one]; rfl
 | k+1,v=>by
   rw [digits,Ps k,Qg,← A5j]
   rfl
theorem Yx:∀ (j k v:Nat),j≤k→(digits k v).take j=digits j v
 | 0,_,_,_=>by rw [List.take_zero,digits]
 | j+1,k+1,v,h=>by rw [digits,List.take_succ_cons,Yx j k _ (by omega),digits]
theorem Aku {l:List Int} (h:inL l):l.take (El (C1 l))=Sk (C1 l):=by
 have h1:=Yx (El (C1 l)) l.length (C1 l) (Pp (Pg h))
 rw [Su h] at h1
 exact h1
theorem Kg {n:Nat} (h:n≠0):0<El n:=by unfold El; rw [A5c h]; omega
theorem Jc (v:Int):wv (Bu v) (Aw v)=v:=by
 unfold wv Bu Aw Jb
 rw [Ul]
 by_cases h:v<0
 ·rw [A4r h,A5d rfl]; omega
 ·rw [A4v h,A5c (by decide)]; omega
theorem P0 {l:List Int} (h:l.length<1073741824) (hi:inL l):Lf l=true:=Aq.2 ⟨h,hi⟩
theorem Mo {l:List Int} (h:Lf l=true):l.length<1073741824∧inL l:=Aq.1 h
theorem Aiz (v:Int):Aw v=Sk (C1 (Aw v))∧(Bu v=true→Aw v≠[]):=by
 unfold Aw
 rw [Ul]
 refine ⟨rfl,fun h e=>?_⟩
 have h1:v<0:=A5g h
 have h2:=I7 v.natAbs
 rw [e] at h2
 have:=Kg (n:=v.natAbs) (by omega)
 rw [← h2] at this
 exact absurd this (by decide)
theorem K0 {v:Int} (h:El v.natAbs<268435456):Og (Bu v) (Aw v)=true :=
 Aq.2 ⟨by unfold Aw; rw [I7]; exact h,Aiz v⟩
theorem Ar4 {v:Int} (h:El v.natAbs<134217728):okV (Bu v) (Aw v)=true :=
 Aq.2 ⟨by unfold Aw; rw [I7]; exact h,Aiz v⟩
theorem Ad3 {n:Bool} {l:List Int} (h1:l=Sk (C1 l)) (h2:n=true→l≠[]):n=Bu (wv n l)∧l=Aw (wv n l):=by
 have e:(wv n l).natAbs=C1 l:=by unfold wv Jb; split<;>omega
 refine ⟨?_,by unfold Aw; rw [e]; exact h1⟩
 unfold Bu wv Jb
 cases n
 ·simp
 ·have h3:=h2 rfl
  have h4:C1 l≠0:=fun h=>by
   rw [h] at h1
   exact h3 h1
  simp; omega
theorem Kq {n:Bool} {l:List Int} (h:Og n l=true):∃ v,n=Bu v∧l=Aw v∧El v.natAbs<268435456:=by
 obtain ⟨h0,h1,h2⟩:=Aq.1 h
 obtain ⟨e1,e2⟩:=Ad3 h1 h2
 refine ⟨_,e1,e2,?_⟩
 have:=congrArg length e2
 unfold Aw at this
 rw [I7] at this
 omega
theorem Rd {n:Bool} {l:List Int} (h:okV n l=true):∃ v,n=Bu v∧l=Aw v∧El v.natAbs<134217728:=by
 obtain ⟨h0,h1,h2⟩:=Aq.1 h
 obtain ⟨e1,e2⟩:=Ad3 h1 h2
 refine ⟨_,e1,e2,?_⟩
 have:=congrArg length e2
 unfold Aw at this
 rw [I7] at this
 omega
theorem Qm {v:Int} (h:El v.natAbs<1073741824):Lf (Aw v)=true :=
 P0 (by unfold Aw; rw [I7]; exact h) (Ah2 _)
theorem Et (v:Int):C1 (Aw v)=v.natAbs:=Ul _
theorem Di (v:Int):(Aw v).length=El v.natAbs:=I7 _
theorem Ax8 (n:Bool) (l:List Int):wv (!n) l=- wv n l:=by
 unfold wv Jb
 cases n<;>simp
theorem Aoj {a b:List Int} (ha:inL a) (hb:inL b):C1 (M5 a b)=C1 a+C1 b:=by
 unfold M5
 rw [Mv,A43]
 have h1:=Pg ha
 have h2:=Pg hb
 have h3:2^(32*a.length)≤2^(32*max a.length b.length):=A45 (by decide) (by omega)
 have h4:2^(32*b.length)≤2^(32*max a.length b.length):=A45 (by decide) (by omega)
 rw [Qg]
 omega
theorem V1 (a b:List Int):(M5 a b).length=max a.length b.length+1:=Gs _ _
theorem Ahi (a b:List Int):inL (M5 a b):=Qv _ _
theorem Ako {a:List Int} (b:List Int) (ha:inL a):C1 (Jx a b)=C1 a-C1 b:=by
 unfold Jx
 rw [Mv,A43]
 have h1:=Pg ha
 omega
theorem Uc (a b:List Int):(Jx a b).length=a.length:=Gs _ _
theorem Adj (a b:List Int):inL (Jx a b):=Qv _ _
theorem Nz (v:Int) (j:Nat):(Mm v j).natAbs=v.natAbs / 2^j:=by
 unfold Mm
 generalize v.natAbs / 2^j=m
 unfold Jb; split<;>omega
theorem Vt {v:Int} (h:v<0) (m:Nat):Jb (Bu v) m=-(m:Int):=by
 unfold Jb Bu; rw [A4r h,A5d rfl]
theorem Vs {v:Int} (h:¬ v<0) (m:Nat):Jb (Bu v) m=(m:Int):=by
 unfold Jb Bu; rw [A4v h,A5c (by decide)]
theorem Aew (v:Int) (i j:Nat):Mm (Mm v i) j=Mm v (i+j):=by
 have e:v.natAbs / 2^(i+j)=v.natAbs / 2^i / 2^j:=by rw [A5f,A5j]
 have h1:=Nz v i
 by_cases hv:v<0
 ·have h2:Mm v i=-((v.natAbs / 2^i:Nat):Int):=Vt hv _
  rw [show Mm v (i+j)=-((v.natAbs / 2^(i+j):Nat):Int) from Vt hv _,e]
  by_cases h0:v.natAbs / 2^i=0
  ·rw [h2,h0]
   show Mm 0 j=_
   rw [Nat.zero_div]
   show Jb (Bu 0) (0 / 2^j)=_
   rw [Nat.zero_div]; rfl
  ·have h3:Mm v i<0:=by omega
   rw [show Mm (Mm v i) j=-(((Mm v i).natAbs / 2^j:Nat):Int) from Vt h3 _,h1]
 ·have h2:Mm v i=((v.natAbs / 2^i:Nat):Int):=Vs hv _
  have h3:¬ Mm v i<0:=by omega
  rw [show Mm (Mm v i) j=(((Mm v i).natAbs / 2^j:Nat):Int) from Vs h3 _,h1,show Mm v (i+j)=((v.natAbs / 2^(i+j):Nat):Int) from Vs hv _,e]
theorem Ag2 (v:Int):Mm v 0=v:=by
 unfold Mm Jb Bu
 rw [A5o,Nat.div_one]
 by_cases h:v<0
 ·rw [A4r h,A5d rfl]; omega
 ·rw [A4v h,A5c (by decide)]; omega
theorem Td (j:Nat):Mm 0 j=0:=by
 unfold Mm
 rw [show (Int.natAbs 0)=0 from rfl,Nat.zero_div]
 rfl
theorem Am8 {l:List Int} (h:inL l):C1 (l.drop 1)=C1 l / 4294967296:=by
 cases l with
 | nil=>rfl
 | cons x l =>
   have:=h x (A55 ..)
   show C1 l=_
   rw [C1]; omega
theorem Aid {l:List Int} (h:inL l):inL (l.drop 1):=fun x hx=>h x (List.mem_of_mem_drop hx)
theorem As7 {l:List Int} (h:inL l):inL ([(0:Int)]++l):=fun x hx=>by
 rcases List.mem_cons.1 hx with rfl | hx
 ·omega
 ·exact h x hx
theorem Asv (n:Nat):El (2*n)≤El n+1:=by
 refine Pp ?_
 have h:=N5 n
 rw [Qg]
 omega
theorem Awf (n:Nat):El (n*4294967296)≤El n+1:=by
 refine Pp ?_
 have h:=N5 n
 rw [Qg]
 omega
theorem Ah0 {n m:Nat} (h:2^m≤n):(n / 2^m).log2+m=n.log2:=by
 have hp:=Co m
 have h0:n≠0:=by omega
 have hm:m≤n.log2:=(Nat.le_log2 h0).2 h
 have e:(n / 2^m).log2=n.log2-m:=by
  refine Wn ?_ ?_
  ·rw [Nat.le_div_iff_mul_le hp,← A5f]
   exact A5x (A45 (by decide) (by omega)) (Nat.log2_self_le h0)
  ·rw [Nat.div_lt_iff_lt_mul hp,← A5f]
   exact A51 Nat.lt_log2_self (A45 (by decide) (by omega))
 omega
end Go.Rnd
namespace Go.Rnd
open Go.Den
def T2 (n:Nat):Nat:=if h:n=0∨n%2=1 then 0 else T2 (n / 2)+1
termination_by n
decreasing_by omega
def mD (v:Int):Int:=Mm v (T2 v.natAbs)
def eD (v e:Int):Int:=if v=0 then 0 else e+T2 v.natAbs
def Ec (v e w f:Int):Int:=if v=0 then f else if w=0 then e else min e f
def Aue (v e w f:Int):Int:=Jo v (e-Ec v e w f)+Jo w (f-Ec v e w f)
def S4 (v e w f:Int):Int:=mD (Aue v e w f)
def Aui (v e w f:Int):Int:=eD (Aue v e w f) (Ec v e w f)
def Jq (v e:Int):Int:=if v=0 then 0 else Aa5 v+e
def Pc (v:Int):Int:=if v<0 then -1 else if v=0 then 0 else 1
def Za (v e w f:Int):Int:=Y9 (Jo v (e-Ec v e w f)) (Jo w (f-Ec v e w f))
def Afb (e:Int):Bool:=B3 (-2000000≤e∧e≤2000000)
def okE (e:Int):Bool:=B3 (-400000≤e∧e≤400000)
def Aom (v e f:Int):Bool:=B3 (v=0∨(-1000000≤e-f∧e-f≤1000000))&&B3 (-400000≤e∧e≤400000∧-1000000≤f∧f≤1000000)
theorem Ajl {n:Nat} (h:n=0∨n%2=1):T2 n=0:=by rw [T2,dif_pos h]
theorem Aln {n:Nat} (h0:n≠0) (h:n%2=0):T2 n=T2 (n / 2)+1:=by rw [T2,dif_neg (by omega)]
theorem Aem {n:Nat} (h:n≠0):∀ k,T2 (n*2^k)=k+T2 n
 | 0=>by rw [A5o,A5z,A50]
 | k+1=>by
   have hp:=Co k
   have h1:n*2^k≠0:=by
    intro e
    rcases Nat.mul_eq_zero.1 e with e | e<;>omega
   have e:n*2^(k+1)=n*2^k*2:=by rw [Nat.pow_succ,A5h]
   rw [e,Aln (by omega) (by omega),Nat.mul_div_cancel _ (by decide),Aem h k]
   omega
theorem Alm (n:Nat) (h:n≠0):∃ m,n=m*2^T2 n∧m%2=1:=by
 induction n using Nat.strongRecOn with
 | _ n ih =>
   by_cases h2:n%2=1
   ·refine ⟨n,?_,h2⟩
    rw [Ajl (.inr h2),A5o,A5z]
   ·obtain ⟨m,h3,h4⟩:=ih (n / 2) (by omega) (by omega)
    refine ⟨m,?_,h4⟩
    rw [Aln h (by omega),Nat.pow_succ,← A5h,← h3]
    omega
theorem Axt {n:Nat} (h:n≠0):T2 n≤n.log2:=by
 obtain ⟨m,h1,h2⟩:=Alm n h
 refine (Nat.le_log2 h).2 ?_
 have:1*2^T2 n≤m*2^T2 n:=A42 _ (by omega)
 omega
theorem Adl {n:Nat}:n.log2<32*El n+1:=by
 unfold El
 by_cases h:n=0
 ·rw [h]; decide
 ·rw [A5c h]; omega
theorem Asp {v:Int} {k:Nat} (h:v.natAbs%2^k=0):mD (Mm v k)=mD v:=by
 unfold mD
 by_cases h0:v=0
 ·rw [h0,Td]
 ·have hp:=Co k
  have hv:=Nat.div_add_mod v.natAbs (2^k)
  rw [h,A5y,A5e] at hv
  have hq:v.natAbs / 2^k≠0:=by
   intro e; rw [e] at hv; omega
  have:=Aem hq k
  rw [hv] at this
  rw [Nz,Aew,this]
theorem Atm {v e:Int} {k:Nat} (h:v.natAbs%2^k=0) (h0:v≠0):eD (Mm v k) (e+k)=eD v e:=by
 unfold eD
 have hp:=Co k
 have hv:=Nat.div_add_mod v.natAbs (2^k)
 rw [h,A5y,A5e] at hv
 have hq:v.natAbs / 2^k≠0:=by
  intro e; rw [e] at hv; omega
 have ht:=Aem hq k
 rw [hv] at ht
 have ha:=Nz v k
 rw [A5c h0,A5c (by omega),ha,ht]
 omega
theorem Azk {v:Int} (h:v%2=1):mD v=v:=by
 unfold mD
 rw [Ajl (.inr (by omega)),Ag2]
theorem Azs {v:Int} (h:v%2=1) (e:Int):eD v e=e:=by
 unfold eD
 rw [Ajl (.inr (by omega)),A5c (by omega)]
 omega
theorem Asj {v:Int} (h:v≠0) (k:Nat):v*((2^k:Nat):Int)≠0:=by
 have hp:=Co k
 intro e
 rcases Int.mul_eq_zero.1 e with e | e
 ·exact h e
 ·omega
theorem Zm (v:Int):v=mD v*((2^T2 v.natAbs:Nat):Int):=by
 by_cases h:v=0
 ·rw [h]
  show (0:Int)=Mm 0 _*_
  rw [Td,Int.zero_mul]
 ·obtain ⟨m,h1,h2⟩:=Alm v.natAbs (by omega)
  have hp:=Co (T2 v.natAbs)
  have hq:v.natAbs / 2^T2 v.natAbs=m:=Nat.div_eq_of_eq_mul_left hp h1
  unfold mD Mm
  rw [hq]
  by_cases hv:v<0
  ·rw [Vt hv,Int.neg_mul,← A5b,← h1]; omega
  ·rw [Vs hv,← A5b,← h1]; omega
theorem Rf {v:Int}:mD v=0↔v=0:=by
 constructor
 ·intro h
  have:=Zm v
  rw [h,Int.zero_mul] at this
  exact this
 ·intro h
  rw [h]
  exact Td _
theorem Adk (v:Int):(mD v).natAbs≤v.natAbs:=by
 unfold mD
 rw [Nz]
 exact Nat.div_le_self _ _
end Go.Rnd
namespace Go.Rnd
open Go.Den
def vAt (v e g:Int):Int:=v*((2^(e-g).toNat:Nat):Int)
theorem Jp (e g:Int):vAt 0 e g=0:=Int.zero_mul _
theorem Acr {v e g h:Int} (h1:h≤e) (h2:g≤h):vAt v e g=vAt v e h*((2^(h-g).toNat:Nat):Int):=by
 unfold vAt
 rw [Int.mul_assoc,← A5b,← A5f]
 have:(e-h).toNat+(h-g).toNat=(e-g).toNat:=by omega
 rw [this]
theorem Alk {S l g:Int} (h:g≤l):vAt (mD S) (eD S l) g=vAt S l g:=by
 by_cases h0:S=0
 ·rw [h0,Rf.2 rfl,Jp,Jp]
 ·have e:eD S l=l+T2 S.natAbs:=by unfold eD; rw [A5c h0]
  rw [e]
  unfold vAt
  have e1:(l+(T2 S.natAbs:Int)-g).toNat=T2 S.natAbs+(l-g).toNat:=by omega
  rw [e1,A5f,A5b,← Int.mul_assoc,← Zm]
theorem Alu {v e l:Int} (h:v≠0→l≤e):Jo v (e-l)=vAt v e l:=by
 by_cases h0:v=0
 ·rw [h0,Jp]
  unfold Jo
  split
  ·exact Int.zero_mul _
  ·exact Td _
 ·unfold Jo vAt
  rw [A5d (by have:=h h0; omega)]
theorem Azl {v e w f:Int}:(v≠0→Ec v e w f≤e)∧(w≠0→Ec v e w f≤f):=by
 unfold Ec
 constructor
 ·intro h
  rw [A5c h]
  split<;>omega
 ·intro h
  split
  ·omega
  ·omega
theorem Ax6 {v e g:Int} (h:g≤e) (h0:v≠0):g≤eD v e:=by
 unfold eD
 rw [A5c h0]
 omega
theorem At0 (x y:Int) (k:Nat):Y9 (x*((2^k:Nat):Int)) (y*((2^k:Nat):Int))=Y9 x y:=by
 have hp:=Co k
 have h1:x*((2^k:Nat):Int)<y*((2^k:Nat):Int)↔x<y:=Int.mul_lt_mul_right (by omega)
 have h2:y*((2^k:Nat):Int)<x*((2^k:Nat):Int)↔y<x:=Int.mul_lt_mul_right (by omega)
 unfold Y9
 simp only [h1,h2]
theorem Aw6 {v e w f g:Int} (h1:v≠0→g≤e) (h2:w≠0→g≤f):Za v e w f=Y9 (vAt v e g) (vAt w f g):=by
 obtain ⟨l1,l2⟩:=Azl (v:=v) (e:=e) (w:=w) (f:=f)
 unfold Za
 rw [Alu l1,Alu l2]
 by_cases h0:v=0∧w=0
 ·rw [h0.1,h0.2,Jp,Jp,Jp,Jp]
 ·have hg:g≤Ec v e w f:=by
   unfold Ec
   split
   ·rename_i hv
    exact h2 (fun k=>h0 ⟨hv,k⟩)
   ·split
    ·exact h1 (by assumption)
    ·have:=h1 (by assumption); have:=h2 (by assumption); omega
  have e1:vAt v e g=vAt v e (Ec v e w f)*((2^(Ec v e w f-g).toNat:Nat):Int):=by
   by_cases h0:v=0
   ·rw [h0,Jp,Jp,Int.zero_mul]
   ·exact Acr (l1 h0) hg
  have e2:vAt w f g=vAt w f (Ec v e w f)*((2^(Ec v e w f-g).toNat:Nat):Int):=by
   by_cases h0:w=0
   ·rw [h0,Jp,Jp,Int.zero_mul]
   ·exact Acr (l2 h0) hg
  rw [e1,e2,At0]
def Aj (l:List Int):Bool:=B3 (∀ x∈l,Af x=true)
def F8 (x:Int):Int:=Jb (Bx x.toNat) (Ax x.toNat)
def T8 (n:Bool) (b:Int):Int:=if n then Da b else b
end Go.Rnd
namespace Go.Rnd
open Go.Den
theorem Ajg (s:Bool) {q:Nat} {L:Int} (hq:q<2^53) (hL:-1074≤L) (h:2^52≤q∨L=-1074) (hr:(L+1074).toNat*2^52+q<Eh) :
 Ax (Bl s ((L+1074).toNat*2^52+q))=q∧A2 (Bl s ((L+1074).toNat*2^52+q))=L:=by
 rw [F6] at hr
 obtain ⟨t,ht⟩:∃ t:Nat,L=t-1074:=⟨(L+1074).toNat,by omega⟩
 have et:(L+1074).toNat=t:=by omega
 rw [et] at hr ⊢
 have hp:=Xp s (r:=t*2^52+q) (by omega)
 have hf:=U2 s (t*2^52+q)
 unfold Ax A2
 by_cases h52:2^52≤q
 ·have e1:D7 (Bl s (t*2^52+q))=t+1:=by rw [hp]; omega
  rw [e1,hf,A5c (by omega),A5c (by omega)]
  omega
 ·have t0:t=0:=by omega
  subst t0
  have e1:D7 (Bl s (0*2^52+q))=0:=by rw [hp]; omega
  rw [e1,hf,A5d rfl,A5d rfl]
  omega
theorem sign_neg (s:Bool) {r:Nat} (h:r<2^63):Bx (Bl s r)=s:=by
 unfold Bx Bl
 cases s
 ·simp only [Bool.false_eq_true,if_false,A49]; omega
 ·simp only [if_true,A4x]; omega
theorem Abn (s:Bool) {V:Nat} {E:Int} (h0:V≠0) (hE:Cy V E≤E) (hi:Cl V E<Eh) :
 flagsOf V E=0∧∃ k:Nat,Ax (Bl s (Cl V E))=V*2^k∧A2 (Bl s (Cl V E))=E-k:=by
 have hl2:V.log2=V.log2:=rfl
 have ek:kept V E=V*2^(E-Cy V E).toNat:=by
  unfold kept Ln
  have e1:(Cy V E-E).toNat=0:=by omega
  have e2:(-(Cy V E-E)).toNat=(E-Cy V E).toNat:=by omega
  rw [e1,e2,Qf]
 have eex:exact V E=true:=by
  unfold exact Om
  have e1:(Cy V E-E).toNat=0:=by omega
  rw [e1,A5o,Nat.mod_one]; rfl
 constructor
 ·unfold flagsOf flags
  rw [A5c h0,A5c (by omega),eex]; rfl
 ·have hr:Cl V E=(Cy V E+1074).toNat*2^52+kept V E:=by
   unfold Cl at hi ⊢
   rw [A5c h0] at hi ⊢
   omega
  have hk:kept V E<2^53:=by
   rw [ek,← A56 (Jw h0),Nd V _ h0]
   unfold Cy at hE ⊢
   omega
  have hb:2^52≤kept V E∨Cy V E=-1074:=by
   by_cases h:Cy V E=-1074
   ·exact .inr h
   ·left
    refine Afm h0 ?_
    unfold Cy at h ⊢
    omega
  rw [hr] at hi
  obtain ⟨p1,p2⟩:=Ajg s hk (by unfold Cy; omega) hb hi
  refine ⟨(E-Cy V E).toNat,?_,?_⟩
  ·rw [hr,p1,ek]
  ·rw [hr,p2]; omega
theorem Ys {V:Nat} {E:Int} (h:V<2^53) (hE:-1074≤E):Cy V E≤E:=by
 by_cases h0:V=0
 ·subst h0; unfold Cy; rw [Nat.log2_zero]; omega
 ·have:=(A56 h0).2 h
  unfold Cy; omega
end Go.Rnd
namespace Go.Rnd
open Go.Den
def F2 (x:Int):Int:=if x=0 then 0 else (x.toNat.log2:Int)+1
def Ub (x y:Int):Int:=((x.toNat*y.toNat / 18446744073709551616:Nat):Int)
def Pn (x y:Int):Int:=((x.toNat*y.toNat%18446744073709551616:Nat):Int)
def Ash (a b:Int):Bool:=decide (Bz a=4)||decide (Bz b=4)
def Cp (b:Nat):Nat:=52-(Ax b).log2
def Du (b:Int):Int:=((Ax b.toNat*2^Cp b.toNat:Nat):Int)
def I2 (b:Int):Int:=A2 b.toNat-Cp b.toNat
def N2 (b:Int):Bool:=B3 (Ax b.toNat≠0)
def Q0 (m e:Int):Bool:=B3 (1152921504606846976≤m∧m<4611686018427387904∧-6000≤e∧e≤6000)
def Ca (a b:Int):Int:=(Ly a.toNat b.toNat).1
def A10 (a b:Int):Int:=(Ly a.toNat b.toNat).2
def Es (a b:Int):Int:=(Afy a.toNat b.toNat).1
def A17 (a b:Int):Int:=(Afy a.toNat b.toNat).2
end Go.Rnd
namespace Go.Rnd
theorem Aqa (a b:Nat):Hz a b=Hz b a:=by
 unfold Hz
 by_cases ha:Ai a=4
 ·simp only [ha,true_or,or_true,if_true]
 ·by_cases hb:Ai b=4
  ·simp only [hb,true_or,or_true,if_true]
  ·simp only [ha,hb,or_self,if_false]
   by_cases ha3:Ai a=3
   ·by_cases hb3:Ai b=3
    ·simp only [ha3,hb3,if_true,true_and]
     by_cases e:a=b
     ·subst e; rfl
     ·rw [A5d e,A5d (fun h=>e h.symm)]
    ·simp only [ha3,hb3,if_true,if_false,false_and]
   ·by_cases hb3:Ai b=3
    ·simp only [ha3,hb3,if_true,if_false,false_and]
    ·simp only [ha3,hb3,if_false]
     rw [Bool.and_comm,Int.min_comm,Int.add_comm]
theorem Ahb {Y D:Nat} (h:Y%2^D=0):Hf Y D=Y / 2^D:=by unfold Hf; rw [A5d h]
theorem Aj4 {Y D:Nat} (h:Y%2^D≠0):Hf Y D%2=1:=by unfold Hf; rw [A5c h]; omega
theorem Ahc {Y d:Nat} (hY:Y<2^62) (h:Y%2^d≠0):(Hf Y (min d 63)-1)*2^d<Y∧Y<(Hf Y (min d 63)+1)*2^d∧Hf Y (min d 63)%2=1:=by
 have hA:=Co d
 by_cases hd:d≤63
 ·rw [Nat.min_eq_left hd]
  refine ⟨?_,?_,Aj4 h⟩
  all_goals
   unfold Hf
   rw [A5c h]
   have h1:=Nat.div_add_mod Y (2^d)
   have h2:=Nat.mod_lt Y hA
   generalize Y / 2^d=q at *
   generalize Y%2^d=r at *
   generalize 2^d=c at *
   rw [A5e] at h1
  ·have h3:(2*(q / 2)+1-1)*c≤q*c:=A42 c (by omega)
   omega
  ·have h3:(q+1)*c≤(2*(q / 2)+1+1)*c:=A42 c (by omega)
   rw [A5u,Nat.one_mul] at h3
   omega
 ·rw [Nat.min_eq_right (by omega)]
  have h63:Y%2^63=Y:=A43 (by omega)
  have hd0:Y / 2^63=0:=Nat.div_eq_of_lt (by omega)
  have hY0:Y≠0:=by intro e; rw [e] at h; simp at h
  have hr:Hf Y 63=1:=by unfold Hf; rw [h63,A5c hY0,hd0]
  have hp:2^62≤2^d:=A45 (by decide) (by omega)
  rw [hr]
  refine ⟨by simp; omega,by omega,rfl⟩
theorem A33 {d M:Nat} (h:(M*2^9)%2^d≠0):10≤d:=by
 refine Nat.lt_of_not_le fun hle=>h ?_
 obtain ⟨k,hk⟩:∃ k,9=d+k:=⟨9-d,by omega⟩
 rw [hk,A5f,A5e (2^d),← A5h,Nat.mul_mod_left]
theorem Qz {V m d:Nat} {e f:Int} (hd:e=f+d) (h:V=m*2^d∨(m%2=1∧(m-1)*2^d<V∧V<(m+1)*2^d∧2^60≤m)) :
 Cl m (e-9)=Cl V (f-9)∧flagsOf m (e-9)=flagsOf V (f-9):=by
 rcases h with rfl | ⟨h1,h2,h3,h4⟩
 ·have:=Dv m d (e-9)
  have e1:e-9-(d:Int)=f-9:=by omega
  rw [e1] at this
  exact ⟨this.1.symm,this.2.symm⟩
 ·have hm0:m≠0:=by omega
  have hlog:=Sj h1 (by omega) h2 h3
  have hl60:60≤m.log2:=(Nat.le_log2 hm0).2 h4
  have e1:f-9+(d:Int)=e-9:=by omega
  have hle:Cy V (f-9)=Cy m (f-9+d):=by unfold Cy; rw [hlog]; congr 1; omega
  have hk:f-9+d+2≤Cy m (f-9+d):=by unfold Cy; omega
  obtain ⟨a1,a2⟩:=Sa h1 h2 h3 hle hk
  rw [e1] at a1 a2
  exact ⟨a1.symm,a2.symm⟩
theorem Ajv (V:Nat) (f:Int):Cl (V*2^9) (f-9)=Cl V f∧flagsOf (V*2^9) (f-9)=flagsOf V f:=Dv V 9 f
structure Axr (Mx My d:Nat) (e f:Int) (X r:Nat):Prop where
 plus:Cl (X+r) (e-9)=Cl (Mx*2^d+My) f∧flagsOf (X+r) (e-9)=flagsOf (Mx*2^d+My) f
 less:r<X→My<Mx*2^d∧Cl (X-r) (e-9)=Cl (Mx*2^d-My) f∧flagsOf (X-r) (e-9)=flagsOf (Mx*2^d-My) f
 F3:X<r→Mx*2^d<My∧Cl (r-X) (e-9)=Cl (My-Mx*2^d) f∧flagsOf (r-X) (e-9)=flagsOf (My-Mx*2^d) f
 same:X=r→Mx*2^d=My
 small:r≤2^62
theorem Axo {X My r d p:Nat} {e f:Int} (hd:e=f+d) (comm:X*2^d=p*2^9) (n1:(r-1)*2^d<My*2^9) (n2:My*2^9<r*2^d+2^d) (n3:r%2=1) (hX2:X%2=0) (hX:2^61≤X) (hr:r≤2^53) :
 (Cl (X+r) (e-9)=Cl (p+My) f∧flagsOf (X+r) (e-9)=flagsOf (p+My) f)∧My<p∧Cl (X-r) (e-9)=Cl (p-My) f∧flagsOf (X-r) (e-9)=flagsOf (p-My) f:=by
 have e1:(r-1)*2^d+2^d=r*2^d:=by
  obtain ⟨k,rfl⟩:∃ k,r=k+1:=⟨r-1,by omega⟩
  rw [Nat.add_sub_cancel,A5u,Nat.one_mul]
 have e2:(r+1)*2^d=r*2^d+2^d:=by rw [A5u,Nat.one_mul]
 have hXd:(r+1)*2^d≤X*2^d:=A42 _ (by omega)
 have hlt:My<p:=by rw [e2,comm] at hXd; omega
 have a1:Cl (X+r) (e-9)=Cl ((p+My)*2^9) (f-9)∧flagsOf (X+r) (e-9)=flagsOf ((p+My)*2^9) (f-9):=by
  refine Qz hd (.inr ⟨by omega,?_,?_,by omega⟩)
  ·have h1:X+r-1=X+(r-1):=by omega
   rw [h1,A5u X (r-1) (2^d),A5u p My (2^9),comm]
   exact Nat.add_lt_add_left n1 _
  ·have h1:X+r+1=X+(r+1):=by omega
   rw [h1,A5u X (r+1) (2^d),A5u p My (2^9),comm,e2]
   exact Nat.add_lt_add_left n2 _
 have a2:Cl (X-r) (e-9)=Cl ((p-My)*2^9) (f-9)∧flagsOf (X-r) (e-9)=flagsOf ((p-My)*2^9) (f-9):=by
  rw [e2,comm] at hXd
  refine Qz hd (.inr ⟨by omega,?_,?_,by omega⟩)
  ·have h1:X-r-1=X-(r+1):=by omega
   rw [h1,Nat.sub_mul X (r+1) (2^d),Nat.sub_mul p My (2^9),comm,e2]
   omega
  ·have h1:X-r+1=X-(r-1):=by omega
   rw [h1,Nat.sub_mul X (r-1) (2^d),Nat.sub_mul p My (2^9),comm]
   omega
 rw [(Ajv _ f).1,(Ajv _ f).2] at a1 a2
 exact ⟨a1,hlt,a2⟩
theorem Ai6 {Mx My d:Nat} {e f:Int} (hd:e=f+d) (hx:Mx<2^53) (hy:My<2^53) (hbig:10≤d→2^52≤Mx) :
 Axr Mx My d e f (Mx*2^9) (Hf (My*2^9) (min d 63)):=by
 have hA:=Co d
 have hY:My*2^9<2^62:=by omega
 have comm:Mx*2^9*2^d=Mx*2^d*2^9:=by rw [A5h,A5e (2^9),← A5h]
 have s9:=fun V=>Ajv V f
 by_cases hz:(My*2^9)%2^d=0
 ·
  have hr:∃ r,Hf (My*2^9) (min d 63)=r∧My*2^9=r*2^d:=by
   by_cases hd63:d≤63
   ·rw [Nat.min_eq_left hd63]
    exact ⟨_,rfl,by rw [Ahb hz]; exact (Nat.div_mul_cancel (Nat.dvd_of_mod_eq_zero hz)).symm⟩
   ·have hp:2^62≤2^d:=A45 (by decide) (by omega)
    have:My*2^9=0:=by rw [A43 (by omega)] at hz; exact hz
    rw [Nat.min_eq_right (by omega),this]
    exact ⟨0,by decide,by omega⟩
  obtain ⟨r,hr,hYr⟩:=hr
  rw [hr]
  have hle:r≤2^62:=by
   have:r*1≤r*2^d:=Nat.mul_le_mul_left r hA
   omega
  have cmp:∀ x y:Nat,x*2^d<y*2^d↔x<y:=fun x y=>Nat.mul_lt_mul_right hA
  refine ⟨?_,fun h=>?_,fun h=>?_,fun h=>?_,hle⟩
  ·rw [← (s9 _).1,← (s9 _).2]
   exact Qz hd (.inl (by rw [A5u (Mx*2^d) My (2^9),A5u (Mx*2^9) r (2^d),comm,hYr]))
  ·have h1:=(cmp r (Mx*2^9)).2 h
   refine ⟨by omega,?_⟩
   rw [← (s9 _).1,← (s9 _).2]
   exact Qz hd (.inl (by first | rw [Nat.sub_mul (Mx*2^d) My (2^9),Nat.sub_mul (Mx*2^9) r (2^d),comm,hYr] | rw [Nat.sub_mul My (Mx*2^d) (2^9),Nat.sub_mul r (Mx*2^9) (2^d),comm,hYr]))
  ·have h1:=(cmp (Mx*2^9) r).2 h
   refine ⟨by omega,?_⟩
   rw [← (s9 _).1,← (s9 _).2]
   exact Qz hd (.inl (by first | rw [Nat.sub_mul (Mx*2^d) My (2^9),Nat.sub_mul (Mx*2^9) r (2^d),comm,hYr] | rw [Nat.sub_mul My (Mx*2^d) (2^9),Nat.sub_mul r (Mx*2^9) (2^d),comm,hYr]))
  ·rw [← h] at hYr
   omega
 ·
  have hd10:=A33 hz
  have hMx:=hbig hd10
  obtain ⟨n1,n2,n3⟩:=Ahc hY hz
  have hrle:Hf (My*2^9) (min d 63)≤2^53:=by
   refine Nat.le_of_not_lt fun h=>?_
   have h1:2^53*2^d≤(Hf (My*2^9) (min d 63)-1)*2^d:=A42 _ (by omega)
   have h2:2^10≤2^d:=A45 (by decide) hd10
   have h3:2^53*2^10≤2^53*2^d:=Nat.mul_le_mul_left _ h2
   omega
  generalize Hf (My*2^9) (min d 63)=r at *
  have hr1:1≤r:=by omega
  have e1:(r-1)*2^d+2^d=r*2^d:=by
   obtain ⟨k,rfl⟩:∃ k,r=k+1:=⟨r-1,by omega⟩
   rw [Nat.add_sub_cancel,A5u,Nat.one_mul]
  have e2:(r+1)*2^d=r*2^d+2^d:=by rw [A5u,Nat.one_mul]
  rw [e2] at n2
  have hXr:r<Mx*2^9:=by omega
  have hXd:(r+1)*2^d≤Mx*2^9*2^d:=A42 _ (by omega)
  rw [e2,comm] at hXd
  obtain ⟨p1,p2,p3⟩:=Axo hd comm n1 n2 n3 (by omega) (by omega) hrle
  exact ⟨p1,fun _=>⟨p2,p3⟩,fun h=>by omega,fun h=>by omega,by omega⟩
theorem Yp (n:Bool) (m:Nat) (e:Int):Ht n m e false=(Bl n (Cl m e),flagsOf m e):=by
 unfold Ht
 have:=Dv m 2 e
 have e1:m*2^2=4*m+false.toNat:=by simp; omega
 have e2:e-((2:Nat):Int)=e-2:=by omega
 rw [e1,e2] at this
 rw [this.1,this.2]
theorem Te (E:Int):Cl 0 E=0:=A5d rfl
theorem Rj (E:Int):flagsOf 0 E=0:=A5d rfl
theorem Nh {b:Nat} (h:J1 b=true):Ai b≠4∧Ai b≠3:=by
 unfold J1 at h
 simp only [A4x] at h
 unfold Ai
 rw [A5c (by omega)]
 split
 ·omega
 ·split<;>omega
theorem Adb {b:Nat} (h:-1064≤A2 b):2^52≤Ax b:=by
 unfold A2 at h
 unfold Ax
 split at h
 ·omega
 ·rw [A5c (by assumption)]; omega
theorem Ur (z:Nat) (s:Bool) {V:Nat} (hV:V≠0) (f:Int):L9 z (Jb s V) f=(Bl s (Cl V f),flagsOf V f):=by
 unfold L9 Jb
 cases s
 ·have h1:¬ (V:Int)=0:=by omega
  have h2:¬ (V:Int)<0:=by omega
  simp only [Bool.false_eq_true,if_false,h1,h2,decide_false,Int.natAbs_natCast]
 ·have h1:¬ -(V:Int)=0:=by omega
  have h2:-(V:Int)<0:=by omega
  simp only [if_true,h1,if_false,h2,decide_true,Int.natAbs_neg,Int.natAbs_natCast]
theorem Axp {p q X r:Nat} {e f:Int} (s t:Bool)
 (plus:Cl (X+r) e=Cl (p+q) f∧flagsOf (X+r) e=flagsOf (p+q) f)
 (less:r<X→q<p∧Cl (X-r) e=Cl (p-q) f∧flagsOf (X-r) e=flagsOf (p-q) f)
 (F3:X<r→p<q∧Cl (r-X) e=Cl (q-p) f∧flagsOf (r-X) e=flagsOf (q-p) f)
 (same:X=r→p=q) :
 L9 (Bl (s&&t) 0) (Jb s p+Jb t q) f=(if s=t then Ht s (X+r) e false
  else if r<X then Ht s (X-r) e false
  else if X<r then Ht t (r-X) e false
  else (0,0)):=by
 simp only [Yp]
 by_cases hs:s=t
 ·rw [A5d hs,← hs]
  have hsum:Jb s p+Jb s q=Jb s (p+q):=by unfold Jb; cases s<;>simp<;>omega
  rw [hsum,plus.1,plus.2]
  by_cases h0:p+q=0
  ·rw [h0,Te,Rj]
   unfold L9
   have:Jb s 0=0:=by unfold Jb; cases s<;>rfl
   rw [A5d this,A4w]
  ·exact Ur _ _ h0 _
 ·rw [A5c hs]
  by_cases h1:r<X
  ·obtain ⟨c1,c2,c3⟩:=less h1
   rw [A5d h1,c2,c3]
   have hsum:Jb s p+Jb t q=Jb s (p-q):=by
    unfold Jb; cases s<;>cases t<;>simp at hs ⊢<;>omega
   rw [hsum]
   exact Ur _ _ (by omega) _
  ·rw [A5c h1]
   by_cases h2:X<r
   ·obtain ⟨c1,c2,c3⟩:=F3 h2
    rw [A5d h2,c2,c3]
    have hsum:Jb s p+Jb t q=Jb t (q-p):=by
     unfold Jb; cases s<;>cases t<;>simp at hs ⊢<;>omega
    rw [hsum]
    exact Ur _ _ (by omega) _
   ·rw [A5c h2]
    have c:=same (by omega)
    have hsum:Jb s p+Jb t q=0:=by
     unfold Jb; cases s<;>cases t<;>simp at hs ⊢<;>omega
    have hz:(s&&t)=false:=by cases s<;>cases t<;>simp at hs ⊢
    rw [hsum,hz]
    rfl
theorem Aug {a b:Nat} (ha:J1 a=true) (hb:J1 b=true) :
 Hz a b=L9 (Bl (Bx a&&Bx b) 0) (Ho a (min (A2 a) (A2 b))+Ho b (min (A2 a) (A2 b))) (min (A2 a) (A2 b)):=by
 have k1:=Nh ha
 have k2:=Nh hb
 unfold Hz
 rw [A5c (fun h=>h.elim k1.1 k2.1),A5c k1.2,A5c k2.2]
theorem Aji (b:Nat):Ho b (A2 b)=Jb (Bx b) (Ax b):=by
 unfold Ho; rw [Int.sub_self,Int.toNat_zero,A5o,A5z]
theorem Aqj {b:Nat} {f:Int} {d:Nat} (h:A2 b=f+d):Ho b f=Jb (Bx b) (Ax b*2^d):=by
 unfold Ho
 have:(A2 b-f).toNat=d:=by omega
 rw [this]
theorem Ai5 {a b:Nat} (ha:J1 a=true) (hb:J1 b=true) {d:Nat} (hd:A2 a=A2 b+d) :
 Hz a b=(if Bx a=Bx b then Ht (Bx a) (Ax a*2^9+Hf (Ax b*2^9) (min d 63)) (A2 a-9) false
  else if Hf (Ax b*2^9) (min d 63)<Ax a*2^9 then Ht (Bx a) (Ax a*2^9-Hf (Ax b*2^9) (min d 63)) (A2 a-9) false
  else if Ax a*2^9<Hf (Ax b*2^9) (min d 63) then Ht (Bx b) (Hf (Ax b*2^9) (min d 63)-Ax a*2^9) (A2 a-9) false
  else (0,0)):=by
 have hx:=Gc a
 have hy:=Gc b
 have C:=Ai6 (Mx:=Ax a) (My:=Ax b) hd hx hy (fun h=>Adb (by have:=Dt b; omega))
 rw [Aug ha hb,Int.min_eq_right (by omega),Aji,Aqj hd]
 exact Axp _ _ C.plus C.less C.F3 C.same
theorem Xx {b:Nat} (h:b<2^64):I5 b<2^64:=by unfold I5; split<;>omega
theorem Akz (m:Nat) (e:Int):flagsOf m e<32:=by
 unfold flagsOf flags
 split
 ·decide
 ·split
  ·decide
  ·split
   ·decide
   ·split<;>decide
theorem Ty {a b:Nat} (ha:a<2^64) (hb:b<2^64):(Hz a b).1<2^64∧(Hz a b).2<32:=by
 unfold Hz
 split
 ·exact ⟨by decide,by decide⟩
 ·split
  ·split
   ·decide
   ·exact ⟨ha,(by decide:0<32)⟩
  ·split
   ·exact ⟨hb,(by decide:0<32)⟩
   ·unfold L9
    split
    ·refine ⟨?_,(by decide:0<32)⟩
     unfold Bl; split<;>decide
    ·exact ⟨Vq _ _ _,Akz _ _⟩
end Go.Rnd
namespace Go.Rnd
open Go.Den
def B8 (r c:Nat) (f:Nat→Nat→Int):List Int:=(List.range (r*c)).map fun j=>f (j / c) (j%c)
theorem Cd (r c:Nat) (f:Nat→Nat→Int):(B8 r c f).length=r*c:=by unfold B8; rw [A5w,A5t]
theorem Ig {r c i k:Nat} (hi:i<r) (hk:k<c):i*c+k<r*c:=by
 have:(i+1)*c≤r*c:=A42 c hi
 rw [A5u,Nat.one_mul] at this
 omega
theorem Xq {c i k:Nat} (hk:k<c):(i*c+k) / c=i∧(i*c+k)%c=k:=by
 constructor
 ·rw [A5e,Nat.mul_add_div (by omega),Nat.div_eq_of_lt hk,A5y]
 ·rw [A5e,Nat.mul_add_mod,A43 hk]
theorem Jg {r c:Nat} {f:Nat→Nat→Int} {j:Nat} (h:j<r*c):(B8 r c f)[j]?=some (f (j / c) (j%c)):=by
 unfold B8
 rw [A57,List.getElem?_range h]
 rfl
theorem Abe {r c i k:Nat} {f:Nat→Nat→Int} (hi:i<r) (hk:k<c):(B8 r c f).getD (i*c+k) 0=f i k:=by
 obtain ⟨d1,d2⟩:=Xq (i:=i) hk
 rw [A40,Jg (Ig hi hk),d1,d2]
 rfl
theorem Wo {l m:List Int} (h:l.length=m.length) (he:∀ j,j<l.length→l[j]?=m[j]?):l=m:=by
 refine List.ext_getElem? fun j=>?_
 by_cases hj:j<l.length
 ·exact he j hj
 ·rw [A58 (by omega),A58 (by omega)]
theorem D6 {r c:Nat} {f g:Nat→Nat→Int} (h:∀ i k,i<r→k<c→f i k=g i k):B8 r c f=B8 r c g:=by
 refine Wo (by rw [Cd,Cd]) fun j hj=>?_
 rw [Cd] at hj
 have hc:0<c:=by
  rcases Nat.eq_zero_or_pos c with h0 | h0
  ·subst h0; rw [Nat.mul_zero] at hj; omega
  ·exact h0
 rw [Jg hj,Jg hj,h (j / c) (j%c) ((Nat.div_lt_iff_lt_mul hc).2 hj) (Nat.mod_lt _ hc)]
theorem Apg {r c:Nat} {l:List Int} (h:l.length=r*c):l=B8 r c fun i k=>l.getD (i*c+k) 0:=by
 refine Wo (by rw [Cd,h]) fun j hj=>?_
 rw [Jg (by omega)]
 have e:j / c*c+j%c=j:=by rw [A5e]; exact Nat.div_add_mod j c
 rw [e,A40,A47 hj]
 rfl
theorem Qt {r c i k:Nat} {f:Nat→Nat→Int} (hk:k<c) (x:Int) :
 (B8 r c f).set (i*c+k) x=B8 r c fun a b=>if a=i∧b=k then x else f a b:=by
 refine Wo (by rw [List.length_set,Cd,Cd]) fun j hj=>?_
 rw [List.length_set,Cd] at hj
 obtain ⟨d1,d2⟩:=Xq (i:=i) hk
 rw [Jg hj,List.getElem?_set]
 by_cases h:i*c+k=j
 ·subst h
  rw [A5d rfl,A5d (by rw [Cd]; exact hj),d1,d2,A5d ⟨rfl,rfl⟩]
 ·rw [A5c h,Jg hj,A5c]
  rintro ⟨h1,h2⟩
  exact h (by rw [← h1,← h2,A5e]; exact Nat.div_add_mod j c)
theorem Md (r c:Nat) (f:Nat→Nat→Int):B8 (r+1) c f=B8 r c f++(List.range c).map (f r):=by
 unfold B8
 rw [A5u,Nat.one_mul,List.range_add,List.map_append,List.map_map]
 congr 1
 refine List.map_congr_left fun k hk=>?_
 have hk:=List.mem_range.1 hk
 obtain ⟨d1,d2⟩:=Xq (i:=r) hk
 show f ((r*c+k) / c) ((r*c+k)%c)=f r k
 rw [d1,d2]
theorem La (c:Nat) (f:Nat→Nat→Int):B8 0 c f=[]:=by
 unfold B8; rw [Nat.zero_mul]; rfl
theorem Jt (k:Nat) (g:Nat→Int):(List.range (k+1)).map g=(List.range k).map g++[g k]:=by
 rw [List.range_succ,List.map_append]; rfl
theorem Abf (r c:Nat):B8 r c (fun _ _=>0)=List.replicate (r*c) 0:=by
 unfold B8
 rw [List.map_const',A5t]
def Afx:Nat→List Int→List Int→Nat
 | s,x::xs,y::ys=>Afx (Hz s (Ly x.toNat y.toNat).1).1 xs ys
 | s,_,_=>s
def Ik (x y:List Int):Int:=Afx 0 x y
theorem Tk {a b:Nat}:(Ly a b).1<2^64:=by
 unfold Ly
 split
 ·decide
 ·split
  ·split
   ·decide
   ·unfold Bl; split<;>decide
  ·exact Vq _ _ _
theorem Afw:∀ (x y:List Int) (s:Nat),s<2^64→Afx s x y<2^64
 | x::xs,y::ys,s,h=>Afw xs ys _ (Ty h Tk).1
 | [],_,_,h=>by unfold Afx; exact h
 | _::_,[],_,h=>by unfold Afx; exact h
end Go.Rnd
namespace Go.Rnd
open Go.Den
def Bp (n:Int):Bool:=decide (0≤n)&&decide (n≤6)
def A3 (r c:Int) (l:List Int):Bool:=(Bp r&&Bp c)&&decide ((l.length:Int)=r*c)
def Lt (r c:Int) (l:List Int):Int:=if A3 r c l=true then 0 else 1
def Xb (r c:Int) (l:List Int) (p q:Int) (m:List Int):Int:=if (A3 r c l&&A3 p q m)=true then 0 else 1
def Em (_r c:Int) (l:List Int) (i k:Int):Bool:=B3 (0≤i∧i<10∧0≤k∧k<10∧0≤c∧c<10∧i*c+k<l.length∧l.length<1000)
def D8 (c:Int) (l:List Int) (i k:Int):Int:=l.getD (i*c+k).toNat 0
def N7 (i k:Int):Int:=if i=k then 4607182418800017408 else 0
def Z6 (x y i k:Int):Bool:=B3 (0≤x∧x<10∧0≤y∧y<10∧0≤i∧i<10∧0≤k∧k<10)
def Rx (r c x y a b:Int):Bool:=decide (0≤x∧0≤y∧0≤a∧0≤b∧x≤r∧y≤c∧a≤r-x∧b≤c-y)
def Qd (r c:Int) (l:List Int) (p q:Int) (m:List Int) (i k:Int):Bool:=B3 (0≤r∧r<10∧0≤i∧i<20∧(if i<r then Em r c l i k=true else Em p q m (i-r) k=true))
def Jr (r c:Int) (l:List Int) (q:Int) (m:List Int) (i k:Int):Int:=if i<r then D8 c l i k else D8 q m (i-r) k
def Oj (r c:Int) (l:List Int) (p q:Int) (m:List Int) (i k:Int):Bool:=B3 (0≤c∧c<10∧0≤k∧k<20∧(if k<c then Em r c l i k=true else Em p q m i (k-c)=true))
def Er (c:Int) (l:List Int) (q:Int) (m:List Int) (i k:Int):Int:=if k<c then D8 c l i k else D8 q m i (k-c)
def Ae2 (r c:Int) (l:List Int) (i:Int):Bool:=A3 r c l&&B3 (0≤i∧i<r)
def Hh (r c:Int) (l:List Int) (k:Int):Bool:=A3 r c l&&B3 (0≤k∧k<c)
def Xw (r c:Int) (l:List Int) (p q:Int) (m:List Int) (i k:Int):Bool:=(Ae2 r c l i&&Hh p q m k)&&((Aj l&&Aj m)&&B3 (c=p))
def Q7 (c:Int) (l:List Int) (i:Int):List Int:=List.drop (i*c).toNat (List.take ((i+1)*c).toNat l)
def U9 (r c:Int) (l:List Int) (k:Int):List Int:=(List.range r.toNat).map fun j:Nat=>D8 c l (j:Int) k
abbrev MX:=Int × Int × List Int × Int
def M9 (e:Int):MX:=(0,0,[],e)
def Dr (a b:Int):MX:=if (Bp a&&Bp b)=true then (a,b,B8 a.toNat b.toNat fun _ _=>0,0) else M9 3
def Pf (n:Int):MX:=if Bp n=true then (n,n,B8 n.toNat n.toNat fun i k=>N7 i k,0) else M9 3
def Ds (r c:Int) (l:List Int):MX:=if A3 r c l=true then (c,r,B8 c.toNat r.toNat fun i k=>D8 c l k i,0) else M9 1
def Kf (r c:Int) (l:List Int) (x y a b:Int):MX :=
 if A3 r c l=true then (if Rx r c x y a b=true then (a,b,B8 a.toNat b.toNat fun i k=>D8 c l (x+i) (y+k),0) else M9 3) else M9 1
def Xv (r c:Int) (l:List Int) (p q:Int) (m:List Int):MX :=
 if (A3 r c l&&A3 p q m)=true then (if c=p then (r,q,B8 r.toNat q.toNat fun i k=>Ik (Q7 c l i) (U9 p q m k),0) else M9 3) else M9 1
def E0 (r c:Int) (l:List Int) (p q:Int) (m:List Int):MX :=
 if (A3 r c l&&A3 p q m)=true then (if c=q∧r+p≤6 then (r+p,c,B8 (r+p).toNat c.toNat fun i k=>Jr r c l q m i k,0) else M9 3) else M9 1
def Jk (r c:Int) (l:List Int) (p q:Int) (m:List Int):MX :=
 if (A3 r c l&&A3 p q m)=true then (if r=p∧c+q≤6 then (r,c+q,B8 r.toNat (c+q).toNat fun i k=>Er c l q m i k,0) else M9 3) else M9 1
def O5 (x y:List Int):Bool:=decide (x.length=y.length)&&decide (x.length≤64)
def Vw (x y:List Int):Bool:=decide (x=y)
def Yl (r c:Int) (l:List Int) (p q:Int) (m:List Int):Bool:=(decide (r=p)&&decide (c=q))&&decide (l=m)
def Aao (l:List Int):Bool:=B3 (l.length≤17592186044416)
theorem Jd {n:Int}:Bp n=true↔0≤n∧n≤6:=by unfold Bp; simp
theorem G2 {r c:Int} {l:List Int}:A3 r c l=true↔(0≤r∧r≤6)∧(0≤c∧c≤6)∧(l.length:Int)=r*c:=by
 unfold A3
 rw [A41,A41,Jd,Jd,A4x,and_assoc]
theorem Cu {r c:Int} {l:List Int} (h:A3 r c l=true):∃ R C:Nat,r=R∧c=C∧R≤6∧C≤6∧l.length=R*C:=by
 obtain ⟨h1,h2,h3⟩:=G2.1 h
 refine ⟨r.toNat,c.toNat,by omega,by omega,by omega,by omega,?_⟩
 have:(((r.toNat*c.toNat:Nat)):Int)=r*c:=by rw [A5b,Int.toNat_of_nonneg h1.1,Int.toNat_of_nonneg h2.1]
 omega
theorem Fj {n:Int} (h:Bp n=true):∃ R:Nat,n=R∧R≤6:=by
 have:=Jd.1 h
 exact ⟨n.toNat,by omega,by omega⟩
theorem Ml {n:Nat} (h:n≤6):Bp (n:Int)=true:=Jd.2 ⟨by omega,by omega⟩
theorem Ew {r c:Nat} {l:List Int} (hr:r≤6) (hc:c≤6) (hl:l.length=r*c):A3 (r:Int) (c:Int) l=true :=
 G2.2 ⟨⟨by omega,by omega⟩,⟨by omega,by omega⟩,by rw [hl,A5b]⟩
theorem Tv (c:Nat) (l:List Int) (i k:Nat):D8 (c:Int) l (i:Int) (k:Int)=l.getD (i*c+k) 0:=by
 unfold D8
 have:((i:Int)*(c:Int)+(k:Int)).toNat=i*c+k:=by
  rw [← A5b,← Int.natCast_add,A4s]
 rw [this]
theorem Fa {r c i k:Nat} {R:Int} {l:List Int} (hr:r≤6) (hc:c≤6) (hl:l.length=r*c) (hi:i<r) (hk:k<c):Em R (c:Int) l (i:Int) (k:Int)=true:=by
 have:=Ig hi hk
 have h36:=A5m hr hc
 refine Aq.2 ⟨by omega,by omega,by omega,by omega,by omega,by omega,?_,by omega⟩
 rw [← A5b]
 omega
theorem Mp {r c i k:Nat} {f:Nat→Nat→Int} (hi:i<r) (hk:k<c):D8 (c:Int) (B8 r c f) (i:Int) (k:Int)=f i k:=by
 rw [Tv,Abe hi hk]
theorem Me {r c:Nat} (f:Nat→Nat→Int) (hr:r≤6) (hc:c≤6):A3 (r:Int) (c:Int) (B8 r c f)=true:=Ew hr hc (Cd r c f)
theorem Ts {r c:Nat} {l:List Int} (h:l.length=r*c):(B8 r c fun i k=>D8 (c:Int) l (i:Int) (k:Int))=l:=by
 conv=>rhs; rw [Apg h]
 exact D6 fun i k _ _=>Tv c l i k
theorem Tw {l:List Int} (h:Aj l=true) {j:Nat} (hj:j<l.length):Af (l.getD j 0)=true:=by
 have h:=Aq.1 h
 rw [A40,A47 hj]
 exact h _ (List.getElem_mem hj)
end Go.Rnd
namespace Go.Rnd
theorem Oc {b:Nat} (h:b<2^64):Bl (Bx b) (b%2^63)=b:=by
 unfold Bl Bx
 by_cases hb:2^63≤b
 ·simp only [hb,decide_true,if_true]; omega
 ·simp only [hb,decide_false,Bool.false_eq_true,if_false]; omega
theorem Ail {b:Nat} (h:b<2^64) (h4:Ai b≠4):Bl (Bx b) (Cl (Ax b) (A2 b))=b:=by
 rw [Tf h4,Oc h]
theorem Apm {b:Nat} (h3:Ai b≠3) (h4:Ai b≠4):flagsOf (Ax b) (A2 b)=0:=by
 by_cases h0:Ax b=0
 ·rw [h0]; exact Rj _
 ·have h1:=Gc b
  have h2:=Dt b
  have h5:=Tp h3 h4
  exact (Abn false h0 (Ys (by omega) h2.1) (by rw [Tf h4]; exact h5)).1
theorem mul_pow {a p:Nat} (a3:Ai a≠3) (a4:Ai a≠4) (p3:Ai p≠3) (p4:Ai p≠4) (hp:Ax p=2^52) (hn:Bx p=false) :
 Ly a p=(Bl (Bx a) (Cl (Ax a) (A2 a+A2 p+52)),flagsOf (Ax a) (A2 a+A2 p+52)):=by
 obtain ⟨s1,s2⟩:=Dv (Ax a) 52 (A2 a+A2 p+52)
 have e:A2 a+A2 p+52-((52:Nat):Int)=A2 a+A2 p:=by omega
 rw [e] at s1 s2
 have e2:(Bx a !=false)=Bx a:=by cases Bx a<;>rfl
 unfold Ly
 rw [A5c (by omega),A5c (by omega),hp,hn,s1,s2,e2]
theorem Ar1:Ax 4607182418800017408=2^52∧A2 4607182418800017408=-52∧Ai 4607182418800017408=2∧Bx 4607182418800017408=false:=by decide +kernel
theorem mul_one {a:Nat} (h:a<2^64) (a3:Ai a≠3) (a4:Ai a≠4):Ly a 4607182418800017408=(a,0):=by
 obtain ⟨o1,o2,o3,o4⟩:=Ar1
 have e:A2 a+-52+52=A2 a:=by omega
 rw [mul_pow a3 a4 (by omega) (by omega) o1 o4,o2,e,Ail h a4,Apm a3 a4]
end Go.Rnd
namespace Go.Rnd
def Tq (n:Nat):Nat:=Ieee.Datum.rootFrom n (n.log2 / 2+1) 0
theorem Avi (k:Nat):1 <<< k=2^k:=by rw [Nat.shiftLeft_eq,Nat.one_mul]
theorem Xk {n:Nat}:∀ (todo root:Nat),root*root≤n→n<(root+2^todo)*(root+2^todo) →
 Ieee.Datum.rootFrom n todo root*Ieee.Datum.rootFrom n todo root≤n∧n<(Ieee.Datum.rootFrom n todo root+1)*(Ieee.Datum.rootFrom n todo root+1)
 | 0,root,h1,h2=>⟨h1,h2⟩
 | todo+1,root,h1,h2=>by
   unfold Ieee.Datum.rootFrom
   simp only [Avi]
   have hp:2^(todo+1)=2^todo+2^todo:=by rw [Nat.pow_succ]; omega
   rw [hp] at h2
   by_cases h:(root+2^todo)*(root+2^todo)≤n
   ·rw [A5d h]
    exact Xk todo _ h (by rw [Nat.add_assoc]; exact h2)
   ·rw [A5c h]
    exact Xk todo _ h1 (by omega)
theorem Qr (n:Nat):Tq n*Tq n≤n∧n<(Tq n+1)*(Tq n+1):=by
 refine Xk _ _ (by simp) ?_
 rw [A50,← A5f]
 rcases Nat.eq_zero_or_pos n with rfl | hn
 ·decide
 ·refine (A56 (by omega)).1 ?_
  omega
theorem Ag1 {a b:Nat} (h:a*a<b*b):a<b:=by
 rcases A5n a b with h1 | h1
 ·exact h1
 ·have:=A5m h1 h1; omega
theorem Aa9 {n w:Nat} (h1:w*w≤n) (h2:n<(w+1)*(w+1)):w=Tq n:=by
 obtain ⟨a,b⟩:=Qr n
 have c1:=Ag1 (A5s h1 b)
 have c2:=Ag1 (A5s a h2)
 omega
theorem As2 {n w:Nat} (h:w*w≤n):w≤Tq n:=by
 have:=Ag1 (A5s h (Qr n).2)
 omega
def He (n:Nat):Nat:=2*Tq n+(if Tq n*Tq n=n then 0 else 1)
theorem Xf (a c:Nat):a*c*(a*c)=a*a*(c*c):=by
 rw [A5h,Nat.mul_left_comm c,← A5h a a]
theorem Ac7 {n:Nat} (d:Nat) (E:Int) (h:2^53≤Tq n) :
 Cl (He (n*(2^d*2^d))) (E-d)=Cl (He n) E∧flagsOf (He (n*(2^d*2^d))) (E-d)=flagsOf (He n) E:=by
 have hA:=Co d
 obtain ⟨h1,h2⟩:=Qr n
 unfold He
 generalize hw:Tq n=w at *
 generalize hc:2^d=c at *
 have hcc:0<c*c:=Nat.mul_pos hA hA
 by_cases h0:w*w=n
 ·have e1:Tq (n*(c*c))=w*c:=by
   refine (Aa9 ?_ ?_).symm
   ·rw [Xf,h0]; exact A5k _
   ·have:=Xf w c
    rw [h0] at this
    rw [A5u,Nat.mul_add,this]; omega
  rw [e1,Xf,h0,A5d rfl,A5d rfl]
  have:=Dv (2*w+0) d E
  rw [hc,show (2*w+0)*c=2*(w*c)+0 by rw [A5y,A5y,A5h]] at this
  exact this
 ·rw [A5c h0]
  obtain ⟨g1,g2⟩:=Qr (n*(c*c))
  have q1:w*c≤Tq (n*(c*c)):=As2 (by rw [Xf]; exact A42 _ h1)
  have q2:Tq (n*(c*c))<(w+1)*c:=by
   refine Ag1 (A5s g1 ?_)
   rw [Xf]
   exact (Nat.mul_lt_mul_right hcc).2 h2
  have q3:Tq (n*(c*c))=w*c→Tq (n*(c*c))*Tq (n*(c*c))≠n*(c*c):=fun h5 h6=>by
   rw [h5,Xf] at h6
   exact h0 (Nat.eq_of_mul_eq_mul_right hcc h6)
  generalize hQ:Tq (n*(c*c))=Q at *
  have p1:(2*w+1-1)*c=2*(w*c):=by rw [Nat.add_sub_cancel,A5h]
  have p2:(2*w+1+1)*c=2*((w+1)*c):=by rw [show 2*w+1+1=2*(w+1) by omega,A5h]
  have od:(2*w+1)%2=1:=by omega
  generalize hV:2*Q+(if Q*Q=n*(c*c) then 0 else 1)=V
  have v1:(2*w+1-1)*2^d<V:=by
   rw [hc,p1,← hV]
   by_cases h5:Q=w*c
   ·rw [A5c (q3 h5)]; omega
   ·split<;>omega
  have v2:V<(2*w+1+1)*2^d:=by
   rw [hc,p2,← hV]
   split<;>omega
  have lV:=Sj od (by omega) v1 v2
  have hs:54≤(2*w+1).log2:=by rw [Nat.le_log2 (by omega)]; omega
  have ee:E-(d:Int)+d=E:=by omega
  have:=Sa (E:=E-d) od v1 v2 (by unfold Cy; rw [lV]; omega) (by unfold Cy; omega)
  rw [ee] at this
  exact this
theorem Afn {n t:Nat} (h:2^(t+t)≤n):2^t≤Tq n:=As2 (by rw [← A5f]; exact h)
theorem pow_two (k d:Nat):2^(k+2*d)=2^k*(2^d*2^d):=by rw [A5f,Nat.two_mul,A5f]
theorem Ac8 {m k l:Nat} {E F:Int} (h1:2^106≤m*2^k) (h2:2^106≤m*2^l) (he:2*E+k=2*F+l) :
 Cl (He (m*2^k)) E=Cl (He (m*2^l)) F∧flagsOf (He (m*2^k)) E=flagsOf (He (m*2^l)) F:=by
 rcases Nat.le_total k l with h | h
 ·obtain ⟨d,rfl⟩:∃ d,l=k+2*d:=⟨(l-k) / 2,by omega⟩
  have:=Ac7 (n:=m*2^k) d E (Afn (t:=53) h1)
  rw [A5h,← pow_two,show E-(d:Int)=F by omega] at this
  exact ⟨this.1.symm,this.2.symm⟩
 ·obtain ⟨d,rfl⟩:∃ d,k=l+2*d:=⟨(k-l) / 2,by omega⟩
  have:=Ac7 (n:=m*2^l) d F (Afn (t:=53) h2)
  rw [A5h,← pow_two,show F-(d:Int)=E by omega] at this
  exact this
def K5 (b:Nat):Nat:=128+(A2 b%2).toNat
def Oq (b:Nat):Nat × Nat :=
 if Ai b=4 then (Ok,0)
 else if Ai b=0∨b=Eh then (b,0)
 else if Bx b=true then (Ok,16)
 else (Cl (He (Ax b*2^K5 b)) ((A2 b-K5 b) / 2-1),flagsOf (He (Ax b*2^K5 b)) ((A2 b-K5 b) / 2-1))
theorem Hq {b:Nat} (h3:Ai b≠3) (h4:Ai b≠4):Ax b=0↔Ai b=0:=by
 have:=Kh b
 have:=J4 b
 unfold Ax
 unfold Ai at *
 split at h3<;>split<;>(try split)<;>(try split)<;>simp_all<;>omega
theorem Z5 {b:Nat} (h:Ai b=4):Oq b=(Ok,0):=A5d h
theorem Ob {b:Nat} (h4:Ai b≠4) (h:Ai b=0∨b=Eh):Oq b=(b,0):=by unfold Oq; rw [A5c h4,A5d h]
theorem Vo {b:Nat} (h4:Ai b≠4) (h:¬ (Ai b=0∨b=Eh)) (hn:Bx b=true):Oq b=(Ok,16):=by unfold Oq; rw [A5c h4,A5c h,A5d hn]
theorem Z4 {b:Nat} (h4:Ai b≠4) (h:¬ (Ai b=0∨b=Eh)) (hn:Bx b=false) :
 Oq b=(Cl (He (Ax b*2^K5 b)) ((A2 b-K5 b) / 2-1),flagsOf (He (Ax b*2^K5 b)) ((A2 b-K5 b) / 2-1)):=by
 unfold Oq; rw [A5c h4,A5c h,A5c (by rw [hn]; decide)]
theorem Awn:Bx Eh=false:=by decide
theorem Aic:Ai Eh=3:=by decide
theorem Mh:Ep Eh=Eh:=by decide
theorem Ap1 {d:Nat} (h:Ai d=4):Ep d=Ok:=A5d h
theorem Ag0 (b d:Nat) (x:Ieee.Datum) (h:Ieee.double.read b=x):(Ieee.double.sqrt b).getD d=((x.root 54).map Ieee.double.write).getD d:=by
 rw [← h]; rfl
theorem Ke (r:Nat):Bl false r=r:=rfl
def Qp (m:Nat) (i:Int):Nat:=2*54-m.log2+((i-((2*54-m.log2:Nat):Int))%2).toNat
theorem Arn {m:Nat} {i:Int} (h:m≠0):(Ieee.Datum.number false m i).root 54=some (.number false (2*Ieee.Datum.rootFrom (m <<< Qp m i) ((m <<< Qp m i).log2 / 2+1) 0+(Ieee.Datum.rootFrom (m <<< Qp m i) ((m <<< Qp m i).log2 / 2+1) 0*Ieee.Datum.rootFrom (m <<< Qp m i) ((m <<< Qp m i).log2 / 2+1) 0 !=m <<< Qp m i).toNat) ((i-Qp m i) / 2-1)):=by
 unfold Ieee.Datum.root Qp
 dsimp only
 rw [A5c h,A5c (by decide)]
theorem Ay2 {m:Nat} {i:Int} {d:Nat} (h:m≠0) (hlog:m.log2≤52) (r:Int) (k:Nat) (hk:2^106≤m*2^k) (hr:2*r+k=i-2) :
 Ep ((((Ieee.Datum.number false m i).root 54).map Ieee.double.write).getD d)=Cl (He (m*2^k)) r:=by
 have hpow:2^m.log2≤m:=Nat.log2_self_le h
 have hmo:108≤m.log2+Qp m i∧(i-Qp m i)%2=0:=by unfold Qp; omega
 rw [Arn h,Option.map_some,A6a,N8,H4 _ (Kp _ _),Ke]
 generalize Qp m i=F3 at *
 have g1:2^106≤m*2^F3:=by
  have:2^108≤2^(m.log2+F3):=A45 (by decide) hmo.1
  rw [A5f] at this
  have h5:=A42 (2^F3) hpow
  omega
 have pe2:2*((i-(F3:Int)) / 2-1)+F3=i-2:=by omega
 rw [← (Ac8 g1 hk (E:=(i-(F3:Int)) / 2-1) (F:=r) (by omega)).1,Nat.shiftLeft_eq]
 have e:∀ w:Nat,2*w+(w*w !=m*2^F3).toNat=2*w+(if w*w=m*2^F3 then 0 else 1):=fun w=>by
  by_cases hww:w*w=m*2^F3
  ·rw [A5d hww,hww]; simp
  ·rw [A5c hww]
   have:(w*w !=m*2^F3)=true:=by simpa using hww
   rw [this]; rfl
 rw [e]
 unfold He Tq
 rfl
theorem Aaf {b:Nat} (hm:Ax b≠0):2^106≤Ax b*2^K5 b∧2*((A2 b-(K5 b:Int)) / 2-1)+K5 b=A2 b-2:=by
 refine ⟨?_,by unfold K5; omega⟩
 have:2^128≤2^K5 b:=A45 (by decide) (by unfold K5; omega)
 have h5:=A5m (show 1≤Ax b by omega) this
 omega
theorem Ahz {b:Nat} (hm:Ax b≠0):(Ax b).log2≤52:=by
 have:=(A56 hm).2 (show Ax b<2^53 from Gc b)
 omega
theorem Aro (s:Bool) (f:Nat):(Ieee.Datum.nan s f).root 54=none:=rfl
theorem Aoa:(Ieee.Datum.infinity true).root 54=none:=rfl
theorem Aob:(Ieee.Datum.infinity false).root 54=some (.infinity false):=rfl
theorem An9 (s:Bool) (i:Int):(Ieee.Datum.number s 0 i).root 54=some (.number s 0 i):=rfl
theorem Aj2 {m:Nat} (i:Int) (h:m≠0):(Ieee.Datum.number true m i).root 54=none:=by
 unfold Ieee.Datum.root
 dsimp only
 rw [A5c h,A5d rfl]
theorem Vd {d:Nat} (hd:Ai d=4):Ep ((Option.map Ieee.double.write none).getD d)=Ok:=Ap1 hd
theorem Aoc {b:Nat} (hb:b<2^64) {d:Nat} (hd:Ai d=4):Ep ((Ieee.double.sqrt b).getD d)=(Oq b).1:=by
 rw [Ag0 b d _ (J3 hb)]
 by_cases h4:Ai b=4
 ·rw [Z5 h4,Ie h4,Aro,Vd hd]
 by_cases h3:Ai b=3
 ·rw [Fi h3]
  have hw:=Ms hb h3
  cases hn:Bx b with
  | true =>
    have hne:¬ (Ai b=0∨b=Eh):=by
     intro h
     rcases h with h | h
     ·omega
     ·rw [h,Awn] at hn; cases hn
    rw [Vo h4 hne hn,Aoa,Vd hd]
  | false =>
    rw [hn,Ke] at hw
    rw [Ob h4 (.inr hw.symm),Aob,Option.map_some,A6a,Am5,Ke,Mh]
    exact hw
 rw [Fh h3 h4]
 have hz:=Hq h3 h4
 by_cases h0:Ai b=0
 ·have hm:=hz.2 h0
  have:=Ail hb h4
  rw [hm] at this
  rw [Ob h4 (.inl h0),hm,An9,Option.map_some,A6a,N8,H4 _ (Kp _ _),this]
 have hi:¬ (Ai b=0∨b=Eh):=by
  intro h
  rcases h with h | h
  ·exact h0 h
  ·rw [h,Aic] at h3; exact h3 rfl
 have hm:Ax b≠0:=fun h=>h0 (hz.1 h)
 cases hn:Bx b with
 | true=>rw [Vo h4 hi hn,Aj2 _ hm,Vd hd]
 | false =>
   obtain ⟨k1,k2⟩:=Aaf hm
   rw [Z4 h4 hi hn,Ay2 hm (Ahz hm) _ _ k1 k2]
end Go.Rnd
namespace Go.Rnd
def Fk (b:Nat) (n:Int):Nat × Nat :=
 if Ai b=4 then (Ok,0)
 else if Ai b=3∨Ai b=0 then (b,0)
 else (Bl (Bx b) (Cl (Ax b) (A2 b+n)),flagsOf (Ax b) (A2 b+n))
theorem Anm {V:Nat} {E:Int} (h0:V≠0) (h:E+V.log2+1≤-1075):Cl V E=0∧flagsOf V E=3:=by
 have hl:Cy V E=-1074:=by unfold Cy; omega
 obtain ⟨k,hk⟩:∃ k:Nat,(-1074:Int)-E=((k:Nat):Int):=⟨(-1074-E).toNat,by omega⟩
 have hV:V<2^(V.log2+1):=(A56 h0).1 (by omega)
 have hp:2^(V.log2+1)*2≤2^k:=by rw [← Nat.pow_succ]; exact A45 (by decide) (by omega)
 have e1:V*2^(-((-1074:Int)-E)).toNat=V:=by rw [hk]; simp
 have e2:((-1074:Int)-E).toNat=k:=by rw [hk]; rfl
 have hk2:kept V E=0:=by
  unfold kept Ln
  rw [hl,e1,e2]
  unfold Ov
  rw [Nat.div_eq_of_lt (by omega),A43 (by omega),A5c (by omega)]
 have hx:exact V E=false:=by
  unfold exact Om
  rw [hl,e1,e2,A43 (by omega)]
  exact A4v h0
 have hr:Cl V E=0:=by
  unfold Cl
  rw [A5c h0,hl,hk2]
  rfl
 refine ⟨hr,?_⟩
 unfold flagsOf
 rw [A5c h0,hr,hx]
 rfl
theorem Aos (n:Bool) {m:Nat} {e:Int} {F3:Bool} (hm:m<2^53) (h0:m≠0∨F3=true) (he:e≤-1130) :
 Ht n m e F3=(Bl n 0,3):=by
 have h1:F3.toNat≤1:=by cases F3<;>decide
 have hV:4*m+F3.toNat≠0:=by
  rcases h0 with h | h
  ·omega
  ·rw [h]; simp
 have hl:(4*m+F3.toNat).log2≤54:=by
  have:=(A56 hV).2 (show 4*m+F3.toNat<2^55 by omega); omega
 have:=Anm hV (E:=e-2) (by omega)
 unfold Ht
 rw [this.1,this.2]
theorem Ase (n:Bool):Ht n 0 (-1074) true=(Bl n 0,3):=by
 cases n<;>decide +kernel
theorem Ajw {b:Nat} {n:Int} (h4:Ai b≠4) (h:¬ (Ai b=3∨Ai b=0)) (hn:A2 b+n≤-1130):Fk b n=(Bl (Bx b) 0,3):=by
 have hm:Ax b≠0:=fun h5=>h (.inr ((Hq (by omega) h4).1 h5))
 have:=Anm hm (E:=A2 b+n) (by have:=Ahz hm; omega)
 unfold Fk
 rw [A5c h4,A5c h,this.1,this.2]
theorem Xh {b:Nat} {n:Int} (h4:Ai b≠4) (h:¬ (Ai b=3∨Ai b=0)):Fk b n=(Bl (Bx b) (Cl (Ax b) (A2 b+n)),flagsOf (Ax b) (A2 b+n)):=by
 unfold Fk; rw [A5c h4,A5c h]
def Acm (b:Nat):Int:=if J1 b=true∧Ai b≠0 then ((Ax b).log2:Int)+A2 b else 0
def Ge (b:Nat):Nat:=b%2^63
def Acf (a b:Nat):Int:=if Ai a=4∨Ai b=4 then 0 else if Hr a<Hr b then -1 else if Hr b<Hr a then 1 else 0
def Aal (a b:Nat):Bool:=!(decide (Ai a=4∨Ai b=4))
def Akq (a b:Nat):Nat:=if Aal a b=true then (if Acf a b<0 then b else a) else Ok
end Go.Rnd
namespace Go.Rnd
open Go.Den
def Ac9 (b:Int):Int:=Hr b.toNat
def G7 (a b:Int):Int:=Acf a.toNat b.toNat
def Nu (a b:Int):Bool:=Aal a.toNat b.toNat
def Gj (x:Int):Int:=Ge x.toNat
def Uz (a b:Int):Int:=Akq a.toNat b.toNat
def Bf (x n:Int):Int:=(Fk x.toNat n).1
def Avk (x n:Int):Int:=(Fk x.toNat n).2
def Dd (x n:Int):Bool:=Af x&&B3 (-2300≤n∧n≤2300)
def Ck (x:Int):Int:=Acm x.toNat
def P6:List Int→Nat→Nat
 | [],m=>m
 | x::l,m=>if Ai x.toNat=4 then Ok else P6 l (max m (Ge x.toNat))
def Bw (l:List Int):Int:=P6 l 0
def D2 (l:List Int):Bool:=l.all Dw
def Cj (r c:Int) (l:List Int):Int:=if A3 r c l=true then (if D2 l=true then 0 else 4) else 1
def Av4 (c:Int) (l:List Int) (n:Nat):Bool:=(List.range n).any fun i:Nat=>decide (Bz (D8 c l (i:Int) (i:Int))=0)
def Zb (r c:Int) (l:List Int) (p q:Int) (m:List Int):Int :=
 if Cj r c l≠0 then Cj r c l else if Cj p q m≠0 then Cj p q m
 else if r≠c∨r≠p then 3 else if Av4 c l r.toNat=true then 5 else 0
def Wp (c:Int) (l:List Int) (i:Int):Int→Int→List Int→Int
 | s,_,[]=>s
 | s,j,x::xs=>Wp c l i (Gb s (Ca (D8 c l i j) x)) (j+1) xs
def upL (c:Int) (l:List Int) (b:Nat→Int) (n:Nat):Nat→List Int
 | 0=>[]
 | k+1=>Es (Wp c l ((n-1-k:Nat):Int) (b (n-1-k)) ((n-k:Nat):Int) (upL c l b n k)) (D8 c l ((n-1-k:Nat):Int) ((n-1-k:Nat):Int))::upL c l b n k
def loL (c:Int) (l:List Int) (b:Nat→Int):Nat→List Int
 | 0=>[]
 | k+1=>loL c l b k++[Es (Wp c l (k:Int) (b k) 0 (loL c l b k)) (D8 c l (k:Int) (k:Int))]
def upG (c:Int) (l:List Int) (q:Int) (m:List Int) (n w:Nat):List Int:=B8 n w fun i j=>(upL c l (fun i=>D8 q m (i:Int) (j:Int)) n n).getD i 0
def loG (c:Int) (l:List Int) (q:Int) (m:List Int) (n w:Nat):List Int:=B8 n w fun i j=>(loL c l (fun i=>D8 q m (i:Int) (j:Int)) n).getD i 0
def T5 (r c:Int) (l:List Int):MX:=if D2 l=true then (r,c,l,0) else M9 2
def upX (r c:Int) (l:List Int) (p q:Int) (m:List Int):MX :=
 if Zb r c l p q m≠0 then M9 (Zb r c l p q m) else T5 r q (upG c l q m r.toNat q.toNat)
def loX (r c:Int) (l:List Int) (p q:Int) (m:List Int):MX :=
 if Zb r c l p q m≠0 then M9 (Zb r c l p q m) else T5 r q (loG c l q m r.toNat q.toNat)
def Yy (c:Int) (l:List Int) (n:Nat):List Int:=(List.range n).map fun i:Nat=>Gj (D8 c l (i:Int) (i:Int))
def Ax4 (d:List Int):Bool:=d.any fun x=>!(decide (G7 (Bf (Bw d) (-40)) x<0))
def Atc (r c:Int) (l:List Int):Bool:=Ax4 (Yy c l (min r.toNat c.toNat))
def Ss (r c:Int) (l:List Int):Bool × Int:=if Cj r c l≠0 then (false,Cj r c l) else (Atc r c l,0)
def Aeq (r c:Int) (l:List Int) (p q:Int) (m:List Int):Bool:=(A3 r c l&&A3 p q m)&&((Aj l&&Aj m)&&B3 (r=c∧r=p))
def Ni (n:Nat):List Int:=B8 n n fun i k=>N7 (i:Int) (k:Int)
def Ev (r c:Int) (l:List Int) (p q:Int) (m:List Int):MX :=
 if (Ds r c l).2.2.2≠0 then M9 (Ds r c l).2.2.2 else Xv (Ds r c l).1 (Ds r c l).2.1 (Ds r c l).2.2.1 p q m
end Go.Rnd
namespace Go.Rnd
open Go.Den
theorem Awz {a b:Nat}:(Afy a b).1<2^64:=by
 have h1:Eh<2^63:=by decide
 have hs:∀ (s:Bool) {r:Nat},r<2^63→Bl s r<2^64:=by
  intro s r h
  unfold Bl
  cases s
  ·rw [A5c (by decide)]; omega
  ·rw [A5d rfl]; omega
 have hN:Ok<2^64:=by decide
 unfold Afy
 by_cases c1:Ai a=4∨Ai b=4
 ·rw [A5d c1]; exact hN
 rw [A5c c1]
 by_cases c2:Ai a=Ai b∧(Ai a=3∨Ai a=0)
 ·rw [A5d c2]; exact hN
 rw [A5c c2]
 by_cases c3:Ai a=3
 ·rw [A5d c3]; exact hs _ h1
 rw [A5c c3]
 by_cases c4:Ai b=3∨Ai a=0
 ·rw [A5d c4]; exact hs _ (by decide)
 rw [A5c c4]
 by_cases c5:Ai b=0
 ·rw [A5d c5]; exact hs _ h1
 rw [A5c c5]
 exact hs _ (Q5 _ _)
theorem Ji (a b:Int):Af (Es a b)=true:=Cm Awz
theorem Q3 {a b:Int} (ha:Af a=true) (hb:Af b=true):Af (Gb a b)=true:=by
 obtain ⟨x,rfl,hx⟩:=By ha
 obtain ⟨y,rfl,hy⟩:=By hb
 exact Cm (Ty (by rw [A4s]; exact hx) (Xx (by rw [A4s]; exact hy))).1
theorem I9 {r c:Nat} {f:Nat→Nat→Int} (h:∀ i k,Af (f i k)=true):Aj (B8 r c f)=true:=Aq.2 fun x hx=>by
 obtain ⟨j,_,rfl⟩:=List.mem_map.1 hx
 exact h _ _
theorem Eu (a b:Int):Af (Ca a b)=true:=Cm Tk
theorem Um (c:Int) (l:List Int) (b:Nat→Int) (n:Nat):∀ k,(upL c l b n k).length=k
 | 0=>rfl
 | k+1=>by rw [upL,List.length_cons,Um c l b n k]
theorem Aqp (c:Int) (l:List Int) (b:Nat→Int) (n:Nat):∀ k,∀ x∈upL c l b n k,Af x=true
 | 0,x,h=>by cases h
 | k+1,x,h=>by
   rw [upL] at h
   rcases List.mem_cons.1 h with rfl | h
   ·exact Ji _ _
   ·exact Aqp c l b n k x h
theorem Agk (c:Int) (l:List Int) (b:Nat→Int) (n k:Nat):∀ d,(upL c l b n (k+d)).drop d=upL c l b n k
 | 0=>rfl
 | d+1=>by
   rw [← Nat.add_assoc,upL,List.drop_succ_cons]
   exact Agk c l b n k d
theorem Agj {c:Int} {l:List Int} {b:Nat→Int} {n k:Nat} (h:k≤n):(upL c l b n n).drop (n-k)=upL c l b n k:=by
 have:=Agk c l b n k (n-k)
 rw [Nat.add_sub_cancel' h] at this
 exact this
theorem Au3 {c:Int} {l:List Int} {b:Nat→Int} {n i:Nat} (h:i<n) :
 (upL c l b n n).getD i 0=Es (Wp c l (i:Int) (b i) ((i+1:Nat):Int) ((upL c l b n n).drop (i+1))) (D8 c l (i:Int) (i:Int)):=by
 have e1:=Agj (c:=c) (l:=l) (b:=b) (n:=n) (k:=n-i) (by omega)
 have e2:=Agj (c:=c) (l:=l) (b:=b) (n:=n) (k:=n-i-1) (by omega)
 rw [show n-(n-i)=i by omega] at e1
 rw [show n-(n-i-1)=i+1 by omega] at e2
 rw [e2]
 have e3:(upL c l b n n).getD i 0=((upL c l b n n).drop i).getD 0 0:=by
  rw [A40,A40,List.getElem?_drop,A5y]
 rw [e3,e1,show n-i=(n-i-1)+1 by omega,upL]
 have e4:n-1-(n-i-1)=i:=by omega
 have e5:n-(n-i-1)=i+1:=by omega
 rw [e4,e5]
 rfl
theorem Aml {l:List Int} (h:∀ x∈l,Af x=true) (i:Nat):Af (l.getD i 0)=true:=by
 rw [A40]
 cases hi:l[i]? with
 | none=>exact Cm (n:=0) (by decide)
 | some x=>exact h x (List.mem_of_getElem? hi)
theorem Ao7 {c:Int} {l:List Int} {i s j:Int} {xs:List Int} {t:Nat} (h:t<xs.length):Wp c l i s j (xs.drop t)=Wp c l i (Gb s (Ca (D8 c l i j) (xs.getD t 0))) (j+1) (xs.drop (t+1)):=by
 rw [List.drop_eq_getElem_cons h,Wp,A40,A47 h]; rfl
end Go.Rnd
namespace Go.Rnd
open Go.Den
def V8:Int:=4607182418800017408
def Ea (x:Int):Int:=(Oq x.toNat).1
def R8 (x:Int):Int:=(Oq x.toNat).2
def Vn (k:Int):Int→List Int→Int
 | s,[]=>s
 | s,x::l=>Vn k (Dm s (Ca (Bf x k) (Bf x k))) l
def B6 (x:List Int):Int :=
 if Bw x=0∨Dw (Bw x)=false then Bw x else Bf (Ea (Vn (-Ck (Bw x)) 0 x)) (Ck (Bw x))
def M8 (l:List Int):Bool:=l.all fun x=>decide (Bz x=0)
def Ud:List Int→Int
 | []=>0
 | x::l=>if Bz x=0 then Ud l else x
def Bh (l:List Int) (k:Int):List Int:=l.map fun x=>Bf x k
def L8 (n:Nat) (f:Nat→Int):List Int:=V8::(List.range (n-1)).map fun j=>f (j+1)
def muI (x:List Int):Int:=if Eb (Ud x)=true then B6 (Bh x (-Ck (Bw x))) else Da (B6 (Bh x (-Ck (Bw x))))
def Kj (x:List Int):Int:=Bf (muI x) (Ck (Bw x))
def Ate (x:List Int):Int:=Bf (x.getD 0 0) (-Ck (Bw x))
def Aho (x:List Int):List Int:=L8 x.length fun j=>Es (Bf (x.getD j 0) (-Ck (Bw x))) (Gb (Ate x) (muI x))
def Akl (x:List Int):Int:=Es (Gb (muI x) (Ate x)) (muI x)
def Av8 (x:List Int):List Int × Int × Int × Int :=
 if M8 (x.drop 1)=true then (L8 x.length fun _=>0,0,x.getD 0 0,0)
 else if Dw (Kj x)=true then (Aho x,Akl x,Kj x,0) else ([],0,0,2)
def Dp (x:List Int):List Int × Int × Int × Int :=
 if x.length=0∨64<x.length then ([],0,0,3) else if D2 x=true then Av8 x else ([],0,0,4)
def Cn (c:Int) (l:List Int) (b i:Int) (n:Nat):List Int:=(List.range n).map fun j:Nat=>D8 c l (i+(j:Int)) b
def Af5 (c:Int) (l:List Int) (i:Int) (v:List Int) (t b:Int):Int:=Ca t (Ik v (Cn c l b i v.length))
def Sz (c:Int) (l:List Int) (i k:Int) (v:List Int) (t a b:Int):Int :=
 if k≤b∧i≤a∧a<i+v.length then Gb (D8 c l a b) (Ca (Af5 c l i v t b) (v.getD (a-i).toNat 0)) else D8 c l a b
def Im (r c:Nat) (l:List Int) (i k:Int) (v:List Int) (t:Int):List Int:=B8 r c fun a b=>Sz (c:Int) l i k v t (a:Int) (b:Int)
def Rq (r c i k:Int) (v:List Int):Bool:=decide (0≤i∧(v.length:Int)≤r∧i≤r-v.length∧0≤k∧k≤c)
def X8 (r c:Nat) (l:List Int) (j:Nat) (x:Int):List Int:=B8 r c fun a b=>if b=j∧j≤a then (if a=j then x else 0) else D8 (c:Int) l (a:Int) (b:Int)
def Iw (r c:Nat) (l:List Int) (j:Nat):List Int:=Cn (c:Int) l (j:Int) (j:Int) (r-j)
def Acg (r c:Nat) (l:List Int) (j:Nat):List Int:=X8 r c (Im r c l (j:Int) (j:Int) (Dp (Iw r c l j)).1 (Dp (Iw r c l j)).2.1) j (Dp (Iw r c l j)).2.2.1
def Rz (r c:Nat):Nat→Nat→List Int→Option (List Int × List (List Int × Int))
 | 0,_,l=>some (l,[])
 | n+1,j,l=>if (Dp (Iw r c l j)).2.2.2=0 then
  (Rz r c n (j+1) (Acg r c l j)).map fun x=>(x.1,((Dp (Iw r c l j)).1,(Dp (Iw r c l j)).2.1)::x.2) else none
def L5 (r c:Nat):Nat:=min c (r-1)
def Nw (n:Nat):Nat→List (List Int × Int)→List Int→List Int
 | _,[],q=>q
 | j,m::ms,q=>Im n n (Nw n (j+1) ms q) (j:Int) 0 m.1 m.2
def L4 (r c:Nat) (l:List Int):Option (List Int × List (List Int × Int)):=Rz r c (L5 r c) 0 l
def U4 (r c:Nat) (l:List Int):List Int:=match L4 r c l with
 | some x=>Nw r 0 x.2 (Ni r)
 | none=>[]
def Rl (r c:Nat) (l:List Int):List Int:=match L4 r c l with
 | some x=>x.1
 | none=>[]
def Hu (r c:Int) (l:List Int):MX:=if (L4 r.toNat c.toNat l).isSome=true then (r,c,Rl r.toNat c.toNat l,0) else M9 2
def Aaw (ms:List (List Int × Int)):List (List DV):=ms.map fun m=>[.ints .arg .u64 m.1,.int .u64 m.2]
def Qq (r c:Int) (l:List Int):List (List DV):=match L4 r.toNat c.toNat l with
 | some x=>Aaw x.2
 | none=>[]
def Wl (m:Int):Int:=Tq (m.toNat*2^64)
def Wm (m:Int):Bool:=decide (Tq (m.toNat*2^64)*Tq (m.toNat*2^64)=m.toNat*2^64)
def Uj (r c:Nat) (l:List Int):Bool:=(L4 r c l).isSome&&(D2 (U4 r c l)&&D2 (Rl r c l))
def Ij (r c:Int) (l:List Int):Int:=if Cj r c l≠0 then Cj r c l else if Uj r.toNat c.toNat l=true then 0 else 2
def qX (r c:Int) (l:List Int):MX:=if Ij r c l≠0 then M9 (Ij r c l) else (r,r,U4 r.toNat c.toNat l,0)
def rX (r c:Int) (l:List Int):MX:=if Ij r c l≠0 then M9 (Ij r c l) else (r,c,Rl r.toNat c.toNat l,0)
def Ko (r c:Int) (l:List Int):MX:=if Ij r c l≠0 then M9 (Ij r c l) else (r,min r c,(Kf r r (U4 r.toNat c.toNat l) 0 0 r (min r c)).2.2.1,0)
def Qc (r c:Int) (l:List Int):MX:=if Ij r c l≠0 then M9 (Ij r c l) else (min r c,c,(Kf r c (Rl r.toNat c.toNat l) 0 0 (min r c) c).2.2.1,0)
def A0i (a b:MX) (p q:Int) (m:List Int):MX :=
 if (Ev a.1 a.2.1 a.2.2.1 p q m).2.2.2≠0 then M9 (Ev a.1 a.2.1 a.2.2.1 p q m).2.2.2
 else upX b.1 b.2.1 b.2.2.1 (Ev a.1 a.2.1 a.2.2.1 p q m).1 (Ev a.1 a.2.1 a.2.2.1 p q m).2.1 (Ev a.1 a.2.1 a.2.2.1 p q m).2.2.1
def O2 (r c:Int) (l:List Int) (p q:Int) (m:List Int):MX :=
 if Cj r c l≠0 then M9 (Cj r c l) else if Cj p q m≠0 then M9 (Cj p q m) else if r<c∨r≠p then M9 3
 else if Ij r c l≠0 then M9 (Ij r c l)
 else if (Ss (Qc r c l).1 (Qc r c l).2.1 (Qc r c l).2.2.1).1=true then M9 5
 else A0i (Ko r c l) (Qc r c l) p q m
def W2 (x:Nat):Bool:=B3 (x<2^64)
def Aim (x:Nat):Bool:=B3 (x<2^64∧Ai x≠3∧Ai x≠4)
def Jz (x:Nat) (k:Int):Nat:=if Ai x=4 then x else (Fk x k).1
def N1 (x:Nat):Nat:=if Ge x<4503599627370496 then (Ly x 4841369599423283200).1 else x
def J7 (x:Nat):Int:=if Ge x<4503599627370496 then -52 else 0
def U7 (b:Int):Int:=if Dw b=true then 0 else if Eb b=true then -1 else 1
end Go.Rnd
namespace Go.Rnd
open Go.Den
def A0y (x:MX):MX:=Ds x.1 x.2.1 x.2.2.1
def Azb (x:MX) (i k a b:Int):MX:=Kf x.1 x.2.1 x.2.2.1 i k a b
def eqT (p q:Int) (m:List Int):List Int:=(Ds p q m).2.2.1
def eqR (p q:Int) (m:List Int):MX:=rX q p (eqT p q m)
def eqS (p q:Int) (m:List Int):MX:=A0y (Azb (eqR p q m) 0 0 p p)
def hY (p q:Int) (m:List Int) (u v:Int) (h:List Int):MX :=
 if Ij q p (eqT p q m)≠0 then M9 (Ij q p (eqT p q m)) else if (Ss (eqS p q m).1 (eqS p q m).2.1 (eqS p q m).2.2.1).1=true then M9 5
 else loX (eqS p q m).1 (eqS p q m).2.1 (eqS p q m).2.2.1 u v h
def hQ (p q:Int) (m:List Int):MX :=
 if Ij q p (eqT p q m)≠0 then M9 (Ij q p (eqT p q m)) else if (Ss (eqS p q m).1 (eqS p q m).2.1 (eqS p q m).2.2.1).1=true then M9 5
 else qX q p (eqT p q m)
def Asz (x y:MX):MX:=O2 x.1 x.2.1 x.2.2.1 y.1 y.2.1 y.2.2.1
end Go.Rnd
namespace Go.Rnd
open Go.Den
def Zd (l m h:List Int):Bool:=(Aj l&&Aj m)&&Aj h
def Fw (x:Int) (l:List Int):List Int:=l.map fun y=>Ca x y
def O7 (r c:Int) (l:List Int) (p q:Int) (m:List Int) (u v:Int) (h:List Int):Int :=
 if Cj r c l≠0 then Cj r c l else if Cj p q m≠0 then Cj p q m else Cj u v h
def Vz (r c:Int) (l:List Int) (p q:Int) (m:List Int) (u v:Int) (h:List Int) (x:Int):Int :=
 if O7 r c l p q m u v h≠0 then O7 r c l p q m u v h else if Dw x=false then 4
 else if p≠r∨q≠1∨v≠c∨6<r+u then 3 else if D2 (Fw x h)=false then 2 else 0
def A2c (r c:Int) (l:List Int) (u v:Int) (h:List Int) (x:Int):MX:=E0 r c l u v (Fw x h)
def Axz (p q:Int) (m:List Int) (u:Int):MX:=E0 p q m (Dr u 1).1 (Dr u 1).2.1 (Dr u 1).2.2.1
def Kz (r c:Int) (l:List Int) (p q:Int) (m:List Int) (u v:Int) (h:List Int) (x:Int):MX :=
 if Vz r c l p q m u v h x≠0 then M9 (Vz r c l p q m u v h x) else Asz (A2c r c l u v h x) (Axz p q m u)
end Go.Rnd
namespace Go.Rnd
open Go.Den
end Go.Rnd
namespace Go.Rnd
open Go.Den
structure Wh (x:Int) (v:Int):Prop where
 word:Af x=true
 k3:Ai x.toNat≠3
 k4:Ai x.toNat≠4
 val:∃ g:Int,g≤0∧g≤A2 x.toNat∧Ho x.toNat g=v*((2^(-g).toNat:Nat):Int)
end Go.Rnd
end
