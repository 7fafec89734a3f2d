/- A verified evaluator of the program's form and its use for this seat: S1Env, Rnd, Flt, Words, NearL, IeeL, OrdL, MulL, Limb, DyL, DyV, ExactL, MulW, SumL, MatL, MatW, PowL, RootL, ScaleL, SolW, TriL, HouW, LseW, GgW, RidW, WhoW, HouL, DiffL, MagL, RootM. -/
import Derived.Test.YthajngaadbanfaaGreatProg
import Derived.Test.YthajngaadbanfaaGreatTD
set_option linter.unusedVariables false
set_option linter.unusedSimpArgs false
open Option renaming some->wM,none->wN
open Bool renaming true->wc,false->wh
open List renaming length->wj
open Nat renaming beq->zf,mod_one->xR,mul_mod_mul_left->vJ,mul_left_comm->yM,mul_eq_zero->xg,add_comm->xf,log2_self_le->zY,lt_log2_self->yv,le_log2->zM,mul_lt_mul_right->xh,div_add_mod->zC,mod_lt->zt,zero_le->zl,pow_succ->zD,one_mul->zv,add_assoc->yo,add_sub_cancel->yC,div_lt_iff_lt_mul->yw,le_div_iff_mul_le->yZ,div_eq_of_lt->yd,eq_zero_or_pos->yN,zero_div->xl,zero_mul->zK,le_of_lt->xA,mul_add->z7,dvd_of_mod_eq_zero->vM,mul_div_cancel_left->vN,mul_pos->xU,exists_eq_add_of_le->vO,mul_le_mul_left->yI,mul_zero->yk,div_one->yE,mul_div_cancel->xW,min_eq_left->yq,min_eq_right->xO,add_lt_add_left->vS,sub_mul->yf,lt_trans->y5,mul_mul_mul_comm->y6
open Int renaming natCast_nonneg->xi,natCast_zero->wG,add_zero->xj,min_le_left->wI,min_le_right->wJ,mul_nonneg->xS,mul_neg_of_neg_of_pos->wK,natAbs_mul->yj,natAbs_natCast->zS,neg_mul->xT,zero_mul->ym,mul_lt_mul_right->vP,natAbs_neg->xm,toNat_of_nonneg->xv
open Bool renaming false_eq_true->zT
open List renaming length_cons->zj,mem_cons->zB,range->zg,length_set->yJ,map_append->yu,mem_map->zh
noncomputable section
namespace Go.Proofs.S1
open Go Go.Den Go.Proofs
set_option maxRecDepth 100000
abbrev tB:Nat:=43
abbrev tI:Nat:=3
abbrev tMR:Nat:=161
abbrev tW:Nat:=121
def tys:List (Nat × TI):=[
 (2,⟨1,8,(.int .i64),[.int .i64 (0:Int)]⟩),
 (3,⟨1,8,(.int .i64),[.int .i64 (0:Int)]⟩),
 (4,⟨1,1,.bool,[.bool wh]⟩),
 (5,⟨1,1,(.int .u8),[.int .u8 (0:Int)]⟩),
 (22,⟨1,24,(.slice 43),[.nil]⟩),
 (24,⟨3,40,(.struct [(0,3),(1,3),(2,22)]),[.int .i64 (0:Int),.int .i64 (0:Int),.nil]⟩),
 (26,⟨14,208,(.struct [(0,24),(3,24),(6,24),(9,24),(12,22),(13,22)]),[.int .i64 (0:Int),.int .i64 (0:Int),.nil,.int .i64 (0:Int),.int .i64 (0:Int),.nil,.int .i64 (0:Int),.int .i64 (0:Int),.nil,.int .i64 (0:Int),.int .i64 (0:Int),.nil,.nil,.nil]⟩),
 (30,⟨1,24,(.slice 121),[.nil]⟩),
 (32,⟨2,32,(.struct [(0,4),(1,30)]),[.bool wh,.nil]⟩),
 (34,⟨3,40,(.struct [(0,32),(2,3)]),[.bool wh,.nil,.int .i64 (0:Int)]⟩),
 (42,⟨1,8,(.int .u64),[.int .u64 (0:Int)]⟩),
 (43,⟨1,8,(.int .u64),[.int .u64 (0:Int)]⟩),
 (49,⟨1,8,(.int .i64),[.int .i64 (0:Int)]⟩),
 (54,⟨15,216,(.struct [(0,24),(3,24),(6,24),(9,24),(12,22),(13,22),(14,49)]),[.int .i64 (0:Int),.int .i64 (0:Int),.nil,.int .i64 (0:Int),.int .i64 (0:Int),.nil,.int .i64 (0:Int),.int .i64 (0:Int),.nil,.int .i64 (0:Int),.int .i64 (0:Int),.nil,.nil,.nil,.int .i64 (0:Int)]⟩),
 (63,⟨8,112,(.struct [(0,24),(3,24),(6,22),(7,49)]),[.int .i64 (0:Int),.int .i64 (0:Int),.nil,.int .i64 (0:Int),.int .i64 (0:Int),.nil,.nil,.int .i64 (0:Int)]⟩),
 (77,⟨1,24,(.slice 34),[.nil]⟩),
 (79,⟨3,40,(.struct [(0,3),(1,3),(2,77)]),[.int .i64 (0:Int),.int .i64 (0:Int),.nil]⟩),
 (95,⟨6,80,(.array 2 24),[.int .i64 (0:Int),.int .i64 (0:Int),.nil,.int .i64 (0:Int),.int .i64 (0:Int),.nil]⟩),
 (97,⟨7,88,(.struct [(0,24),(3,24),(6,4)]),[.int .i64 (0:Int),.int .i64 (0:Int),.nil,.int .i64 (0:Int),.int .i64 (0:Int),.nil,.bool wh]⟩),
 (115,⟨1,24,(.slice 3),[.nil]⟩),
 (121,⟨1,4,(.int .u32),[.int .u32 (0:Int)]⟩),
 (126,⟨1,24,(.slice 24),[.nil]⟩),
 (139,⟨1,1,(.int .u8),[.int .u8 (0:Int)]⟩),
 (144,⟨1,8,.fl,[.fl 0]⟩),
 (156,⟨1,24,(.slice 161),[.nil]⟩),
 (161,⟨2,32,(.struct [(0,22),(1,43)]),[.nil,.int .u64 (0:Int)]⟩),
 (167,⟨3,24,(.struct [(0,43),(1,43),(2,4)]),[.int .u64 (0:Int),.int .u64 (0:Int),.bool wh]⟩),
 (173,⟨1,24,(.slice 175),[.nil]⟩),
 (175,⟨3,40,(.struct [(0,22),(1,43),(2,43)]),[.nil,.int .u64 (0:Int),.int .u64 (0:Int)]⟩),
 (180,⟨1,8,(.int .u64),[.int .u64 (0:Int)]⟩),
 (194,⟨3,24,(.struct [(0,4),(1,3),(2,42)]),[.bool wh,.int .i64 (0:Int),.int .u64 (0:Int)]⟩),
 (214,⟨1,8,(.int .i64),[.int .i64 (0:Int)]⟩)]
theorem ty2:CC Tryz.prog 2 ⟨1,8,(.int .i64),[.int .i64 (0:Int)]⟩:=CT (z:=.int .i64 (0:Int)) (by kernel_rfl) (fun c w=>by simp[BJ,By,Value.cells]) rfl (by simp[Value.cells,Value.oneCell']) (by simp only[CP]; exact Tryz.underlying2)
theorem ty3:CC Tryz.prog 3 ⟨1,8,(.int .i64),[.int .i64 (0:Int)]⟩:=CT (z:=.int .i64 (0:Int)) (by kernel_rfl) (fun c w=>by simp[BJ,By,Value.cells]) rfl (by simp[Value.cells,Value.oneCell']) (by simp only[CP]; exact Tryz.underlying3)
theorem ty4:CC Tryz.prog 4 ⟨1,1,.bool,[.bool wh]⟩:=CT (z:=.bool wh) (by kernel_rfl) (fun c w=>by simp[BJ,By,Value.cells]) rfl (by simp[Value.cells,Value.oneCell']) (by simp only[CP]; exact Tryz.underlying4)
theorem ty5:CC Tryz.prog 5 ⟨1,1,(.int .u8),[.int .u8 (0:Int)]⟩:=CT (z:=.int .u8 (0:Int)) (by kernel_rfl) (fun c w=>by simp[BJ,By,Value.cells]) rfl (by simp[Value.cells,Value.oneCell']) (by simp only[CP]; exact Tryz.underlying5)
theorem Amg:CC Tryz.prog 22 ⟨1,24,(.slice 43),[.nil]⟩:=CT (z:=.slice wN 0 0) (by kernel_rfl) (fun c w=>by simp[BJ,By,Value.cells]) rfl (by simp[Value.cells,Value.oneCell']) (by simp only[CP]; exact Tryz.underlying22)
theorem Amf:CC Tryz.prog 24 ⟨3,40,(.struct [(0,3),(1,3),(2,22)]),[.int .i64 (0:Int),.int .i64 (0:Int),.nil]⟩:=CT (z:=.agg #[.int .i64 (0:Int),.int .i64 (0:Int),.slice wN 0 0]) (by kernel_rfl) (fun c w=>by simp[BJ,By,Value.cells]) rfl (by simp[Value.cells,Value.oneCell']) (by simp only[CP]; exact⟨_,Tryz.underlying24,by kernel_rfl⟩)
theorem Ame:CC Tryz.prog 26 ⟨14,208,(.struct [(0,24),(3,24),(6,24),(9,24),(12,22),(13,22)]),[.int .i64 (0:Int),.int .i64 (0:Int),.nil,.int .i64 (0:Int),.int .i64 (0:Int),.nil,.int .i64 (0:Int),.int .i64 (0:Int),.nil,.int .i64 (0:Int),.int .i64 (0:Int),.nil,.nil,.nil]⟩:=CT (z:=.agg #[.int .i64 (0:Int),.int .i64 (0:Int),.slice wN 0 0,.int .i64 (0:Int),.int .i64 (0:Int),.slice wN 0 0,.int .i64 (0:Int),.int .i64 (0:Int),.slice wN 0 0,.int .i64 (0:Int),.int .i64 (0:Int),.slice wN 0 0,.slice wN 0 0,.slice wN 0 0]) (by kernel_rfl) (fun c w=>by simp[BJ,By,Value.cells]) rfl (by simp[Value.cells,Value.oneCell']) (by simp only[CP]; exact⟨_,Tryz.underlying26,by kernel_rfl⟩)
theorem Amd:CC Tryz.prog 30 ⟨1,24,(.slice 121),[.nil]⟩:=CT (z:=.slice wN 0 0) (by kernel_rfl) (fun c w=>by simp[BJ,By,Value.cells]) rfl (by simp[Value.cells,Value.oneCell']) (by simp only[CP]; exact Tryz.underlying30)
theorem Amc:CC Tryz.prog 32 ⟨2,32,(.struct [(0,4),(1,30)]),[.bool wh,.nil]⟩:=CT (z:=.agg #[.bool wh,.slice wN 0 0]) (by kernel_rfl) (fun c w=>by simp[BJ,By,Value.cells]) rfl (by simp[Value.cells,Value.oneCell']) (by simp only[CP]; exact⟨_,Tryz.underlying32,by kernel_rfl⟩)
theorem Amb:CC Tryz.prog 34 ⟨3,40,(.struct [(0,32),(2,3)]),[.bool wh,.nil,.int .i64 (0:Int)]⟩:=CT (z:=.agg #[.bool wh,.slice wN 0 0,.int .i64 (0:Int)]) (by kernel_rfl) (fun c w=>by simp[BJ,By,Value.cells]) rfl (by simp[Value.cells,Value.oneCell']) (by simp only[CP]; exact⟨_,Tryz.underlying34,by kernel_rfl⟩)
theorem Akm:CC Tryz.prog 42 ⟨1,8,(.int .u64),[.int .u64 (0:Int)]⟩:=CT (z:=.int .u64 (0:Int)) (by kernel_rfl) (fun c w=>by simp[BJ,By,Value.cells]) rfl (by simp[Value.cells,Value.oneCell']) (by simp only[CP]; exact Tryz.underlying42)
theorem Ama:CC Tryz.prog 43 ⟨1,8,(.int .u64),[.int .u64 (0:Int)]⟩:=CT (z:=.int .u64 (0:Int)) (by kernel_rfl) (fun c w=>by simp[BJ,By,Value.cells]) rfl (by simp[Value.cells,Value.oneCell']) (by simp only[CP]; exact Tryz.underlying43)
theorem AlZ:CC Tryz.prog 49 ⟨1,8,(.int .i64),[.int .i64 (0:Int)]⟩:=CT (z:=.int .i64 (0:Int)) (by kernel_rfl) (fun c w=>by simp[BJ,By,Value.cells]) rfl (by simp[Value.cells,Value.oneCell']) (by simp only[CP]; exact Tryz.underlying49)
theorem AlY:CC Tryz.prog 54 ⟨15,216,(.struct [(0,24),(3,24),(6,24),(9,24),(12,22),(13,22),(14,49)]),[.int .i64 (0:Int),.int .i64 (0:Int),.nil,.int .i64 (0:Int),.int .i64 (0:Int),.nil,.int .i64 (0:Int),.int .i64 (0:Int),.nil,.int .i64 (0:Int),.int .i64 (0:Int),.nil,.nil,.nil,.int .i64 (0:Int)]⟩:=CT (z:=.agg #[.int .i64 (0:Int),.int .i64 (0:Int),.slice wN 0 0,.int .i64 (0:Int),.int .i64 (0:Int),.slice wN 0 0,.int .i64 (0:Int),.int .i64 (0:Int),.slice wN 0 0,.int .i64 (0:Int),.int .i64 (0:Int),.slice wN 0 0,.slice wN 0 0,.slice wN 0 0,.int .i64 (0:Int)]) (by kernel_rfl) (fun c w=>by simp[BJ,By,Value.cells]) rfl (by simp[Value.cells,Value.oneCell']) (by simp only[CP]; exact⟨_,Tryz.underlying54,by kernel_rfl⟩)
theorem AlX:CC Tryz.prog 63 ⟨8,112,(.struct [(0,24),(3,24),(6,22),(7,49)]),[.int .i64 (0:Int),.int .i64 (0:Int),.nil,.int .i64 (0:Int),.int .i64 (0:Int),.nil,.nil,.int .i64 (0:Int)]⟩:=CT (z:=.agg #[.int .i64 (0:Int),.int .i64 (0:Int),.slice wN 0 0,.int .i64 (0:Int),.int .i64 (0:Int),.slice wN 0 0,.slice wN 0 0,.int .i64 (0:Int)]) (by kernel_rfl) (fun c w=>by simp[BJ,By,Value.cells]) rfl (by simp[Value.cells,Value.oneCell']) (by simp only[CP]; exact⟨_,Tryz.underlying63,by kernel_rfl⟩)
theorem AlW:CC Tryz.prog 77 ⟨1,24,(.slice 34),[.nil]⟩:=CT (z:=.slice wN 0 0) (by kernel_rfl) (fun c w=>by simp[BJ,By,Value.cells]) rfl (by simp[Value.cells,Value.oneCell']) (by simp only[CP]; exact Tryz.underlying77)
theorem AlV:CC Tryz.prog 79 ⟨3,40,(.struct [(0,3),(1,3),(2,77)]),[.int .i64 (0:Int),.int .i64 (0:Int),.nil]⟩:=CT (z:=.agg #[.int .i64 (0:Int),.int .i64 (0:Int),.slice wN 0 0]) (by kernel_rfl) (fun c w=>by simp[BJ,By,Value.cells]) rfl (by simp[Value.cells,Value.oneCell']) (by simp only[CP]; exact⟨_,Tryz.underlying79,by kernel_rfl⟩)
theorem AlU:CC Tryz.prog 95 ⟨6,80,(.array 2 24),[.int .i64 (0:Int),.int .i64 (0:Int),.nil,.int .i64 (0:Int),.int .i64 (0:Int),.nil]⟩:=CT (z:=.agg #[.int .i64 (0:Int),.int .i64 (0:Int),.slice wN 0 0,.int .i64 (0:Int),.int .i64 (0:Int),.slice wN 0 0]) (by kernel_rfl) (fun c w=>by simp[BJ,By,Value.cells]) rfl (by simp[Value.cells,Value.oneCell']) (by simp only[CP]; exact Tryz.underlying95)
theorem AlT:CC Tryz.prog 97 ⟨7,88,(.struct [(0,24),(3,24),(6,4)]),[.int .i64 (0:Int),.int .i64 (0:Int),.nil,.int .i64 (0:Int),.int .i64 (0:Int),.nil,.bool wh]⟩:=CT (z:=.agg #[.int .i64 (0:Int),.int .i64 (0:Int),.slice wN 0 0,.int .i64 (0:Int),.int .i64 (0:Int),.slice wN 0 0,.bool wh]) (by kernel_rfl) (fun c w=>by simp[BJ,By,Value.cells]) rfl (by simp[Value.cells,Value.oneCell']) (by simp only[CP]; exact⟨_,Tryz.underlying97,by kernel_rfl⟩)
theorem Akz:CC Tryz.prog 115 ⟨1,24,(.slice 3),[.nil]⟩:=CT (z:=.slice wN 0 0) (by kernel_rfl) (fun c w=>by simp[BJ,By,Value.cells]) rfl (by simp[Value.cells,Value.oneCell']) (by simp only[CP]; exact Tryz.underlying115)
theorem Aky:CC Tryz.prog 121 ⟨1,4,(.int .u32),[.int .u32 (0:Int)]⟩:=CT (z:=.int .u32 (0:Int)) (by kernel_rfl) (fun c w=>by simp[BJ,By,Value.cells]) rfl (by simp[Value.cells,Value.oneCell']) (by simp only[CP]; exact Tryz.underlying121)
theorem Akx:CC Tryz.prog 126 ⟨1,24,(.slice 24),[.nil]⟩:=CT (z:=.slice wN 0 0) (by kernel_rfl) (fun c w=>by simp[BJ,By,Value.cells]) rfl (by simp[Value.cells,Value.oneCell']) (by simp only[CP]; exact Tryz.underlying126)
theorem Akw:CC Tryz.prog 139 ⟨1,1,(.int .u8),[.int .u8 (0:Int)]⟩:=CT (z:=.int .u8 (0:Int)) (by kernel_rfl) (fun c w=>by simp[BJ,By,Value.cells]) rfl (by simp[Value.cells,Value.oneCell']) (by simp only[CP]; exact Tryz.underlying139)
theorem Akv:CC Tryz.prog 144 ⟨1,8,.fl,[.fl 0]⟩:=CT (z:=.float .f64 0) (by kernel_rfl) (fun c w=>by simp[BJ,By,Value.cells,M6]) rfl (by simp[Value.cells,Value.oneCell']) (by simp only[CP]; exact Tryz.underlying144)
theorem Aku:CC Tryz.prog 156 ⟨1,24,(.slice 161),[.nil]⟩:=CT (z:=.slice wN 0 0) (by kernel_rfl) (fun c w=>by simp[BJ,By,Value.cells]) rfl (by simp[Value.cells,Value.oneCell']) (by simp only[CP]; exact Tryz.underlying156)
theorem Akt:CC Tryz.prog 161 ⟨2,32,(.struct [(0,22),(1,43)]),[.nil,.int .u64 (0:Int)]⟩:=CT (z:=.agg #[.slice wN 0 0,.int .u64 (0:Int)]) (by kernel_rfl) (fun c w=>by simp[BJ,By,Value.cells]) rfl (by simp[Value.cells,Value.oneCell']) (by simp only[CP]; exact⟨_,Tryz.underlying161,by kernel_rfl⟩)
theorem Aks:CC Tryz.prog 167 ⟨3,24,(.struct [(0,43),(1,43),(2,4)]),[.int .u64 (0:Int),.int .u64 (0:Int),.bool wh]⟩:=CT (z:=.agg #[.int .u64 (0:Int),.int .u64 (0:Int),.bool wh]) (by kernel_rfl) (fun c w=>by simp[BJ,By,Value.cells]) rfl (by simp[Value.cells,Value.oneCell']) (by simp only[CP]; exact⟨_,Tryz.underlying167,by kernel_rfl⟩)
theorem Akr:CC Tryz.prog 173 ⟨1,24,(.slice 175),[.nil]⟩:=CT (z:=.slice wN 0 0) (by kernel_rfl) (fun c w=>by simp[BJ,By,Value.cells]) rfl (by simp[Value.cells,Value.oneCell']) (by simp only[CP]; exact Tryz.underlying173)
theorem Akq:CC Tryz.prog 175 ⟨3,40,(.struct [(0,22),(1,43),(2,43)]),[.nil,.int .u64 (0:Int),.int .u64 (0:Int)]⟩:=CT (z:=.agg #[.slice wN 0 0,.int .u64 (0:Int),.int .u64 (0:Int)]) (by kernel_rfl) (fun c w=>by simp[BJ,By,Value.cells]) rfl (by simp[Value.cells,Value.oneCell']) (by simp only[CP]; exact⟨_,Tryz.underlying175,by kernel_rfl⟩)
theorem Akp:CC Tryz.prog 180 ⟨1,8,(.int .u64),[.int .u64 (0:Int)]⟩:=CT (z:=.int .u64 (0:Int)) (by kernel_rfl) (fun c w=>by simp[BJ,By,Value.cells]) rfl (by simp[Value.cells,Value.oneCell']) (by simp only[CP]; exact Tryz.underlying180)
theorem Ako:CC Tryz.prog 194 ⟨3,24,(.struct [(0,4),(1,3),(2,42)]),[.bool wh,.int .i64 (0:Int),.int .u64 (0:Int)]⟩:=CT (z:=.agg #[.bool wh,.int .i64 (0:Int),.int .u64 (0:Int)]) (by kernel_rfl) (fun c w=>by simp[BJ,By,Value.cells]) rfl (by simp[Value.cells,Value.oneCell']) (by simp only[CP]; exact⟨_,Tryz.underlying194,by kernel_rfl⟩)
theorem Akn:CC Tryz.prog 214 ⟨1,8,(.int .i64),[.int .i64 (0:Int)]⟩:=CT (z:=.int .i64 (0:Int)) (by kernel_rfl) (fun c w=>by simp[BJ,By,Value.cells]) rfl (by simp[Value.cells,Value.oneCell']) (by simp only[CP]; exact Tryz.underlying214)
theorem AiE:Oa Tryz.prog tys:=.cons ty2 <| .cons ty3 <| .cons ty4 <| .cons ty5 <| .cons Amg <| .cons Amf <| .cons Ame <| .cons Amd <| .cons Amc <| .cons Amb <| .cons Akm <| .cons Ama <| .cons AlZ <| .cons AlY <| .cons AlX <| .cons AlW <| .cons AlV <| .cons AlU <| .cons AlT <| .cons Akz <| .cons Aky <| .cons Akx <| .cons Akw <| .cons Akv <| .cons Aku <| .cons Akt <| .cons Aks <| .cons Akr <| .cons Akq <| .cons Akp <| .cons Ako <| .cons Akn <| .nil
def exts:List (Nat × Ext):=[(187,.bits),(190,.Lz),(224,.sqrt),(234,.Xe)]
def UY:List (Nat × Ext)->Nat->Option Ext
 | [],_=>wN
 | (m,e)::l,n=>bif zf m n then wM e else UY l n
theorem AfI(args:Array Value)(w:World):(callFunc 187 args).run Tryz.prog w=((OU .bits args).run Tryz.prog w).andThen fun v w'=>.ok (.value v) w':=run_callFunc_extern (e:=Extern.MathFloatBits.float64bits) Tryz.func187 (by kernel_rfl) (by kernel_rfl) (by kernel_rfl) (by kernel_rfl) args w
theorem AfH(args:Array Value)(w:World):(callFunc 190 args).run Tryz.prog w=((OU .Lz args).run Tryz.prog w).andThen fun v w'=>.ok (.value v) w':=run_callFunc_extern (e:=Extern.MathFloatBits.float64frombits) Tryz.func190 (by kernel_rfl) (by kernel_rfl) (by kernel_rfl) (by kernel_rfl) args w
theorem AfG(args:Array Value)(w:World):(callFunc 224 args).run Tryz.prog w=((OU .sqrt args).run Tryz.prog w).andThen fun v w'=>.ok (.value v) w':=run_callFunc_extern (e:=Extern.MathSqrt.sqrt) Tryz.func224 (by kernel_rfl) (by kernel_rfl) (by kernel_rfl) (by kernel_rfl) args w
theorem AfF(args:Array Value)(w:World):(callFunc 234 args).run Tryz.prog w=((OU .Xe args).run Tryz.prog w).andThen fun v w'=>.ok (.value v) w':=run_callFunc_extern (e:=Sr) Tryz.func234 (by kernel_rfl) (by kernel_rfl) (by kernel_rfl) (by kernel_rfl) args w
def AhN:List Nat:=[194]
theorem Aly:Aas Tryz.prog 194 ⟨3,24,(.struct [(0,4),(1,3),(2,42)]),[.bool wh,.int .i64 (0:Int),.int .u64 (0:Int)]⟩ where
 guard:=by kernel_rfl
 eq:=by
  intro w c x y xs ys hx hy hlx hly;obtain⟨a0,x1,rfl,hx1⟩:=S2 hx;obtain⟨a1,x2,rfl,hx2⟩:=NB hx1;obtain⟨a2,x3,rfl,hx3⟩:=NB hx2;obtain rfl:=U1 hx3;obtain⟨b0,y1,rfl,hy1⟩:=S2 hy;obtain⟨b1,y2,rfl,hy2⟩:=NB hy1;obtain⟨b2,y3,rfl,hy3⟩:=NB hy2;obtain rfl:=U1 hy3;obtain⟨xs⟩:=xs;obtain⟨ys⟩:=ys;simp only[BJ.CR,BJ.FE,By] at hlx hly;obtain⟨_,_,rfl,rfl,_,_,rfl,rfl,_,_,rfl,rfl,rfl⟩:=hlx;obtain⟨_,_,rfl,rfl,_,_,rfl,rfl,_,_,rfl,rfl,rfl⟩:=hly;have hu:Tryz.prog.underlying 194=wM (.struct (Tryz.prog.fieldsOf 194)):=by kernel_rfl
  have hp:Tryz.prog.stoodInHeld 194=wh:=by kernel_rfl
  unfold Op.equal Op.maxDepth;rw[run_equalIn_struct w 9999 194 _ _ hu hp];have hfs:Tryz.prog.fieldsOf 194=(match Tryz.prog.underlying 194 with | some (.struct fs)=>fs | _=>#[]):=rfl;rw[hfs,Tryz.underlying194];simp[Op.eqFields,LD w ty3 rfl,LD w ty4 rfl,LD w Akm rfl,run_equalIn_int w _ _ _ _ _ _ Tryz.underlying3,run_equalIn_bool w _ _ _ _ Tryz.underlying4,run_equalIn_int w _ _ _ _ _ _ Tryz.underlying42,Yq,Yp];by_cases h0:a0=b0<;>by_cases h1:a1=b1<;>by_cases h2:a2=b2<;>simp[h0,h1,h2]
def Dr(GN:Nat->Option Ew)(I2:Nat->Bool)(hint:Nat->Option BK)(live:Nat->Option (List Nat)):Env:={ ty:=AbB tys,GN:=GN,ext:=UY exts,eqs:=fun t=>Jx t AhN,I2:=I2,live:=live,hint:=hint }
def E0(l:List (Nat × Ew)):Env:=Dr (CW l) (fun _=>wh) (fun _=>wN) (fun _=>wN)
theorem IQ{l:List (Nat × Ew)}(h:Fe Tryz.prog l)(I2:Nat->Bool)(hint:Nat->Option BK)(live:Nat->Option (List Nat)):GH Tryz.prog (Dr (CW l) I2 hint live) where
 ty:=fun t ti ht=>AiE.get ht
 GN:=fun g e hg=>(h.get hg).meets
 call:=fun g e hg=>(h.get hg).call
 ext:=by
  intro g x hx args w;simp only[Dr,exts,UY] at hx;cases hb:zf 187 g with
  | true =>rw[hb] at hx;cases hx;obtain rfl:=Au hb;exact AfI args w
  | false =>
  rw[hb,Af] at hx;clear hb;cases hb:zf 190 g with
  | true =>rw[hb] at hx;cases hx;obtain rfl:=Au hb;exact AfH args w
  | false =>
  rw[hb,Af] at hx;clear hb;cases hb:zf 224 g with
  | true =>rw[hb] at hx;cases hx;obtain rfl:=Au hb;exact AfG args w
  | false =>
  rw[hb,Af] at hx;clear hb;cases hb:zf 234 g with
  | true =>rw[hb] at hx;cases hx;obtain rfl:=Au hb;exact AfF args w
  | false =>
  rw[hb,Af] at hx;clear hb;cases hx
 eqs:=by
  intro t ti ht hti;simp only[Dr,AhN,Jx] at ht hti;cases hb:zf t 194 with
  | true =>obtain rfl:=Au hb;cases hti;exact Aly
  | false =>
  rw[hb,Af] at ht;clear hb;cases ht
 mixed:=by kernel_rfl
def Ai4:List (Nat × Ext):=[(187,.Agi),(190,.Lz),(224,.sqrt),(234,.Xe)]
def Ai7:List (Nat × List CK)->Nat->List CK
 | [],_=>[]
 | (m,e)::l,n=>bif zf m n then e else Ai7 l n
def ZR(GN:Nat->Option Ew)(I2:Nat->Bool)(hint:Nat->Option BK)(live:Nat->Option (List Nat))(adv:Nat->List CK):Env:={ ty:=AbB tys,GN:=GN,ext:=UY Ai4,eqs:=fun t=>Jx t AhN,I2:=I2,live:=live,hint:=hint,adv:=adv }
theorem AhP{l:List (Nat × Ew)}(h:Fe Tryz.prog l)(I2:Nat->Bool)(hint:Nat->Option BK)(live:Nat->Option (List Nat))(adv:Nat->List CK):GH Tryz.prog (ZR (CW l) I2 hint live adv):=
 have k:=IQ h I2 hint live
 ⟨k.ty,k.GN,k.call,(by
  intro g x hx args w;simp only[ZR,Ai4,UY] at hx;cases hb:zf 187 g with
  | true =>rw[hb] at hx;cases hx;obtain rfl:=Au hb;exact AfI args w
  | false =>
  rw[hb,Af] at hx;clear hb;cases hb:zf 190 g with
  | true =>rw[hb] at hx;cases hx;obtain rfl:=Au hb;exact AfH args w
  | false =>
  rw[hb,Af] at hx;clear hb;cases hb:zf 224 g with
  | true =>rw[hb] at hx;cases hx;obtain rfl:=Au hb;exact AfG args w
  | false =>
  rw[hb,Af] at hx;clear hb;cases hb:zf 234 g with
  | true =>rw[hb] at hx;cases hx;obtain rfl:=Au hb;exact AfF args w
  | false =>
  rw[hb,Af] at hx;clear hb;cases hx),k.eqs,k.mixed,k.Lg,k.wr⟩
def wr1(g:Nat)(W:Writer):Nat->Option Writer:=fun h=>bif zf h g then wM W else wN
theorem AiA{P:Program}:∀g W,(fun _=>wN:Nat->Option Writer) g=wM W->KZ P g W:=fun _ _ h=>by cases h
theorem YA{P:Program}{a:Nat}{V:Writer}(h:KZ P a V):∀g W,wr1 a V g=wM W->KZ P g W:=by
 intro g W hg;unfold wr1 at hg;cases hb:zf g a with
 | true =>rw[hb] at hg;cases hg;obtain rfl:=Au hb;exact h
 | false=>rw[hb] at hg; cases hg
def Tw(GN:Nat->Option Ew)(I2:Nat->Bool)(hint:Nat->Option BK)(live:Nat->Option (List Nat))(wr:Nat->Option Writer)(np:Nat):Env:={ ty:=AbB tys,GN:=GN,ext:=UY exts,eqs:=fun t=>Jx t AhN,I2:=I2,live:=live,hint:=hint,wr:=wr,np:=np }
theorem Sc{l:List (Nat × Ew)}(h:Fe Tryz.prog l){wr:Nat->Option Writer}(hw:∀g W,wr g=wM W->KZ Tryz.prog g W)(I2:Nat->Bool)(hint:Nat->Option BK)(live:Nat->Option (List Nat))(np:Nat):GH Tryz.prog (Tw (CW l) I2 hint live wr np):=
 have k:=IQ h I2 hint live
 ⟨k.ty,k.GN,k.call,k.ext,k.eqs,k.mixed,k.Lg,hw⟩
theorem Et{α:Type}{a b c:α}(h:b=c)(g:a=b:=by kernel_rfl):a=c:=g.trans h
abbrev Kq(g:Nat)(e:Ew):Prop:=Ev Tryz.prog g e
theorem kc{g:Nat}{e:Ew}{l:List (Nat × Ew)}(h:Ev Tryz.prog g e)(k:Fe Tryz.prog l):Fe Tryz.prog ((g,e)::l):=.cons h k
theorem E1(E:Env){l:List (Nat × Ew)}{g:FuncId}{fn:Func}{ts:List AT}{pre:List Fk->Bool}{out:List Fk->DV}(hf:Tryz.prog.funcs[g]?=wM fn)(hk:Fe Tryz.prog l)(h:Hyp E fn ts pre out)(e:E=Dr (CW l) E.I2 E.hint E.live:=by rfl)(hb:fn.body=wM (Bw fn):=by kernel_rfl)(hn:(fn.name== "runtime.NumGoroutine")=wh:=by kernel_rfl):Ev Tryz.prog g (BP ts pre out) :=Gc (Eq.mpr (congrArg (GH Tryz.prog) e) (IQ hk _ _ _)) hf hb hn h
end Go.Proofs.S1
namespace Go.Cn
def H5(V k:Nat):Nat:=V / 2^k+(if 2^k<2*(V%2^k)\/(2*(V%2^k)=2^k/\V / 2^k%2=1) then 1 else 0)
def H4(V:Nat)(s:Int):Nat:=H5 (V*2^(-s).toNat) s.toNat
def JV(V:Nat)(s:Int):Bool:=decide (V*2^(-s).toNat%2^s.toNat=0)
def Cp(M:Nat)(E:Int):Int:=max (E+M.log2-52) (-1074)
def kept(M:Nat)(E:Int):Nat:=H4 M (Cp M E-E)
def Er:Nat:=2047*2^52
def Cu(M:Nat)(E:Int):Nat:=if M=0 then 0 else min ((Cp M E+1074).toNat*2^52+kept M E) Er
def exact(M:Nat)(E:Int):Bool:=JV M (Cp M E-E)
def flags(r:Nat)(ex:Bool):Nat:=if r=Er then 5 else if ex then 0 else if 2^52<=r then 1 else 3
def flagsOf(M:Nat)(E:Int):Nat:=if M=0 then 0 else flags (Cu M E) (exact M E)
theorem Cs(k:Nat):0<2^k:=Nat.pow_pos (by decide)
theorem JP(V:Nat):H5 V 0=V:=by unfold H5; simp[xR]
theorem Pw(V a k:Nat):H5 (V*2^a) (a+k)=H5 V k:=by
 unfold H5;have hA:=Cs a;have e:2^(a+k)=2^a*2^k:=A5 2 a k
 have hd:V*2^a / 2^(a+k)=V / 2^k:=by rw[e,A0 V,Nat.mul_div_mul_left _ _ hA]
 have hm:V*2^a%2^(a+k)=2^a*(V%2^k):=by rw[e,A0 V,vJ]
 rw[hd,hm,e]
 have h1:(2^a*2^k<2*(2^a*(V%2^k)))↔(2^k<2*(V%2^k)):=by rw[yM 2];exact Nat.mul_lt_mul_left hA
 have h2:(2*(2^a*(V%2^k))=2^a*2^k)↔(2*(V%2^k)=2^k):=by rw[yM 2];exact Nat.mul_right_inj (by omega)
 simp only[h1,h2]
theorem mod_mul(V a k:Nat):(V*2^a%2^(a+k)=0)↔(V%2^k=0):=by
 have hA:=Cs a;rw[A5,A0 V,vJ];constructor
 ·intro h;rcases xg.1 h with h | h
  ·omega
  ·exact h
 ·intro h; rw[h]; rfl
theorem Re(V k:Nat)(s:Int):H4 (V*2^k) (s+k)=H4 V s/\JV (V*2^k) (s+k)=JV V s:=by
 unfold H4 JV;by_cases h0:0<=s
 ·have e1:(-(s+k)).toNat=0:=by omega
  have e2:(-s).toNat=0:=by omega
  have e3:(s+k).toNat=k+s.toNat:=by omega
  rw[e1,e2,e3,AG,AR,AR];exact⟨Pw V k _,by simp only[mod_mul]⟩
 ·by_cases h1:0<=s+k
  ·have e1:(-(s+k)).toNat=0:=by omega
   have e2:s.toNat=0:=by omega
   have e3:k=(s+k).toNat+(-s).toNat:=by omega
   rw[e1,e2,AG,AR]
   have e4:V*2^k=V*2^(-s).toNat*2^(s+k).toNat:=by rw[A7,<- A5,xf (-s).toNat,<- e3]
   rw[e4];refine⟨?_,?_⟩
   ·have:=Pw (V*2^(-s).toNat) (s+k).toNat 0;rw[AQ] at this; exact this
   ·have:=mod_mul (V*2^(-s).toNat) (s+k).toNat 0;rw[AQ,AG] at this;simp only[this]
  ·have e1:(s+k).toNat=0:=by omega
   have e2:s.toNat=0:=by omega
   have e3:(-s).toNat=k+(-(s+k)).toNat:=by omega
   rw[e1,e2,e3,A5,A7];exact⟨rfl,rfl⟩
theorem Kk(M k:Nat)(hM:M≠0):(M*2^k).log2=M.log2+k:=by
 have hk:=Cs k
 have hne:M*2^k≠0:=by intro h;rcases xg.1 h with h | h<;>omega
 have h1:=zY hM;have h2:=yv (n:=M)
 have a:M.log2+k<=(M*2^k).log2:=by rw[zM hne,A5];exact An _ h1
 have b:(M*2^k).log2<M.log2+k+1:=by rw[AZ hne,Nat.add_right_comm,A5];exact(xh hk).2 h2
 omega
theorem RV{n a:Nat}(h1:2^a<=n)(h2:n<2^(a+1)):n.log2=a:=by
 have:=Cs a;have hn:n≠0:=by omega
 have b1:=(zM hn).2 h1;have b2:=(AZ hn).2 h2;omega
theorem ZG(M k:Nat)(E:Int)(hM:M≠0):Cp (M*2^k) (E-k)=Cp M E:=by unfold Cp; rw[Kk M k hM]; congr 1; omega
theorem HL{M k:Nat}(hM:M≠0):M*2^k≠0:=by have:=Cs k;intro h;rcases xg.1 h with h | h<;>omega
theorem D2(M k:Nat)(E:Int):Cu (M*2^k) (E-k)=Cu M E/\flagsOf (M*2^k) (E-k)=flagsOf M E:=by
 by_cases hM:M=0
 ·subst hM; simp[Cu,flagsOf]
 ·have hl:=ZG M k E hM;have e:Cp M E-(E-k)=Cp M E-E+k:=by omega
  have h1:Cu (M*2^k) (E-k)=Cu M E:=by unfold Cu kept;rw[Ay (HL hM),Ay hM,hl,e,(Re M k _).1]
  refine⟨h1,?_⟩;unfold flagsOf;rw[Ay (HL hM),Ay hM,h1];unfold exact;rw[hl,e,(Re M k _).2]
theorem Ae7{V s d k:Nat}(hs:s%2=1)(h1:(s-1)*2^d<V)(h2:V<(s+1)*2^d)(hk:2<=k):
 H5 V (d+k)=H5 s k/\V%2^(d+k)≠0/\s%2^k≠0:=by
 have hA:=Cs d;obtain⟨j,rfl⟩:∃j,k=j+2:=⟨k-2,by omega⟩
 have hB:2^(j+2)=4*2^j:=by rw[A5]; omega
 have hBp:=Cs (j+2);have hC:=Cs j;have hsd:=zC s (2^(j+2))
 have hr2:s%2^(j+2)%2=1:=by rw[hB,show 4*2^j=2*(2*2^j) by omega,Nat.mod_mul_right_mod]; exact hs
 have hrlt:=zt s hBp;generalize hq:s / 2^(j+2)=q at *
 generalize hr:s%2^(j+2)=r at *
 have hAB:2^(d+(j+2))=2^d*2^(j+2):=A5 2 d (j+2);generalize hBB:2^(j+2)=b at *
 generalize hAA:2^d=a at *
 have e1:(s-1)*a=q*(a*b)+(r-1)*a:=by
  have:s-1=b*q+(r-1):=by omega
  rw[this,AM,A0 b q,A7,A0 b a]
 have e2:(s+1)*a=q*(a*b)+(r+1)*a:=by
  have:s+1=b*q+(r+1):=by omega
  rw[this,AM,A0 b q,A7,A0 b a]
 have e3:(r+1)*a<=b*a:=An a (by omega);rw[A0 b a] at e3;rw[e1] at h1;rw[e2] at h2;have hdiv:V / (a*b)=q:=Nat.div_eq_of_lt_le (by omega) (by rw[AM]; omega)
 have hmod:V%(a*b)=V-q*(a*b):=by have:=zC V (a*b);rw[hdiv,A0 (a*b) q] at this; omega
 have hb2:b=2*(2*2^j):=by omega
 generalize hc:2^j=c at *
 have hR1:(r-1)*a<V-q*(a*b):=by omega
 have hR2:V-q*(a*b)<(r+1)*a:=by omega
 generalize hR:V-q*(a*b)=R at *
 have hab:a*b=2*(2*c*a):=by rw[hb2,A0 a,A7]
 have key:(a*b<2*R\/(2*R=a*b/\q%2=1))↔(b<2*r\/(2*r=b/\q%2=1)):=by
  rw[hab,hb2];rcases AF r (2*c) with hlt | hge
  ·have:(r+1)*a<=2*c*a:=An a (by omega);constructor<;>(intro h; omega)
  ·have hgt:2*c+1<=r:=by omega
   have:2*c*a<=(r-1)*a:=An a (by omega);constructor
   ·intro _; left; omega
   ·intro _; left; omega
 refine⟨?_,?_,?_⟩
 ·unfold H5;rw[hAB,hdiv,hmod,hBB,hq,hr];simp only[key]
 ·rw[hAB,hmod];have:=zl ((r-1)*a);omega
 ·omega
theorem MN{V s d:Nat}{E:Int}(hs:s%2=1)(h1:(s-1)*2^d<V)(h2:V<(s+1)*2^d)(hl:Cp V E=Cp s (E+d))(hk:E+d+2<=Cp s (E+d)):
 Cu V E=Cu s (E+d)/\flagsOf V E=flagsOf s (E+d):=by
 have hV:V≠0:=by omega
 have hs0:s≠0:=by omega
 generalize hL:Cp s (E+d)=L at *
 obtain⟨k,hk2⟩:∃k:Nat,L-(E+d)=k+2:=⟨(L-(E+d)-2).toNat,by omega⟩
 obtain⟨a1,a2,a3⟩:=Ae7 (k:=k+2) hs h1 h2 (by omega);have e1:(L-E).toNat=d+(k+2):=by omega
 have e2:(-(L-E)).toNat=0:=by omega
 have e3:(L-(E+d)).toNat=k+2:=by omega
 have e4:(-(L-(E+d))).toNat=0:=by omega
 have hr:Cu V E=Cu s (E+d):=by unfold Cu kept H4;rw[Ay hV,Ay hs0,hl,hL,e1,e2,e3,e4];simp only[AG,AR];rw[a1]
 refine⟨hr,?_⟩;unfold flagsOf exact JV;rw[Ay hV,Ay hs0,hr,hl,hL,e1,e2,e3,e4];simp only[AG,AR,a2,a3,decide_false]
theorem Nd{V s d:Nat}(hs:s%2=1)(hs3:3<=s)(h1:(s-1)*2^d<V)(h2:V<(s+1)*2^d):V.log2=s.log2+d:=by
 have hs0:s≠0:=by omega
 have a1:=zY hs0;have a2:=yv (n:=s);have hl:1<=s.log2:=by rw[zM hs0]; omega
 obtain⟨t,ht⟩:∃t,s.log2=t+1:=⟨s.log2-1,by omega⟩
 rw[ht] at a1 a2 ⊢;have ev1:2^(t+1)=2*2^t:=by rw[zD]; omega
 have ev2:2^(t+1+1)=2*(2*2^t):=by rw[zD,ev1]; omega
 refine RV ?_ ?_
 ·rw[A5];have:2^(t+1)*2^d<=(s-1)*2^d:=An _ (by omega);omega
 ·have e:t+1+d+1=(t+1+1)+d:=by omega
  rw[e,A5];have:(s+1)*2^d<=2^(t+1+1)*2^d:=An _ (by omega);omega
def Ce(b:Nat):Bool:=decide (2^63<=b)
def DH(b:Nat):Nat:=b / 2^52%2048
def Df(b:Nat):Nat:=b%2^52
def Bn(b:Nat):Nat:=if DH b=2047 then (if Df b=0 then 3 else 4) else if 0<DH b then 2 else if 0<Df b then 1 else 0
def GJ(b:Nat):Bool:=decide (DH b<2047)
def DR(b:Nat):Nat:=if 2^63<=b then b-2^63 else b+2^63
def Bx(b:Nat):Nat:=if DH b=0 then Df b else Df b+2^52
def B6(b:Nat):Int:=if DH b=0 then -1074 else (DH b:Int)-1075
def Cq(neg:Bool)(r:Nat):Nat:=if neg then 2^63+r else r
def Gx(neg:Bool)(m:Nat):Int:=if neg then -(m:Int) else m
def E3(b:Nat)(e:Int):Int:=Gx (Ce b) (Bx b*2^(B6 b-e).toNat)
def N2:Nat:=0x7ff8000000000000
def HK(z:Nat)(S:Int)(e:Int):Nat × Nat :=if S=0 then (z,0) else (Cq (decide (S<0)) (Cu S.natAbs e),flagsOf S.natAbs e)
def DS(a b:Nat):Nat × Nat:=
 if Bn a=4\/Bn b=4 then (N2,0)
 else if Bn a=3 then (if Bn b=3/\a≠b then (N2,16) else (a,0))
 else if Bn b=3 then (b,0)
 else HK (Cq (Ce a&&Ce b) 0) (E3 a (min (B6 a) (B6 b))+E3 b (min (B6 a) (B6 b))) (min (B6 a) (B6 b))
def Ql(a b:Nat):Nat × Nat:=DS a (DR b)
def FA(neg:Bool)(m:Nat)(e:Int)(Mt:Bool):Nat × Nat :=(Cq neg (Cu (4*m+Mt.toNat) (e-2)),flagsOf (4*m+Mt.toNat) (e-2))
def DN(x:Int):Bool:=Ce x.toNat
def JC(x:Int):Int:=DH x.toNat
def Db(x:Int):Int:=Df x.toNat
def BF(x:Int):Int:=Bn x.toNat
def Du(x:Int):Bool:=GJ x.toNat
def Cy(x:Int):Int:=DR x.toNat
def Cf(x:Int):Int:=Bx x.toNat
def BR(x:Int):Int:=B6 x.toNat
def E9(neg:Bool)(m e:Int)(Mt:Bool):Int:=(FA neg m.toNat e Mt).1
def E8(neg:Bool)(m e:Int)(Mt:Bool):Int:=(FA neg m.toNat e Mt).2
def DD(a b:Int):Int:=(DS a.toNat b.toNat).1
def Ru(a b:Int):Int:=(DS a.toNat b.toNat).2
def DW(a b:Int):Int:=(Ql a.toNat b.toNat).1
def Alf(a b:Int):Int:=(Ql a.toNat b.toNat).2
theorem Il(b:Nat):DH b<2048:=zt _ (by decide)
theorem Jm(b:Nat):Df b<4503599627370496:=zt _ (by decide)
theorem EJ(b:Nat):Bx b<9007199254740992:=by have:=Jm b;unfold Bx; split<;>omega
theorem CH(b:Nat):-1074<=B6 b/\B6 b<=972:=by have:=Il b;unfold B6; split<;>omega
theorem NH{m:Nat}{e:Int}(h1:2^52<=m)(h2:m<2^53)(he:-1074<=e):Cu m e=min ((e+1074).toNat*2^52+m) Er:=by
 have hl:m.log2=52:=RV h1 h2;have hm:m≠0:=by omega
 have hle:Cp m e=e:=by unfold Cp; rw[hl]; omega
 unfold Cu kept;rw[Ay hm,hle,Int.sub_self];unfold H4;simp[JP]
theorem SA{m:Nat}(h2:m<2^52):Cu m (-1074)=m:=by
 by_cases hm:m=0
 ·subst hm; rfl
 ·have hl:m.log2<52:=(AZ hm).2 h2;have hle:Cp m (-1074)=-1074:=by unfold Cp; omega
  unfold Cu kept;rw[Ay hm,hle,Int.sub_self];unfold H4 Er;simp[JP];omega
theorem NI(m:Nat)(e:Int):Cu m e<=Er:=by
 unfold Cu;split
 ·exact zl _
 ·exact Nat.min_le_right _ _
theorem Ex:Er=9218868437227405312:=rfl
theorem IX(m:Nat)(e:Int):Cu m e<2^63:=by have:=NI m e;rw[Ex] at this;omega
theorem ML(n:Bool)(m:Nat)(e:Int):Cq n (Cu m e)<2^64:=by have:=IX m e;unfold Cq; split<;>omega
theorem OO{r:Nat}(h:r<2^63):DR r=2^63+r:=by unfold DR; rw[Ay (by omega)]; omega
open Go.Den
def IY(m e:Int):Bool:=Ci (0<=m/\m<=9007199254740992/\-1074<=e/\e+m / 9007199254740992<=100000)
def LH(m e:Int):Nat:=if 9007199254740992<=m then 1 else if m<4503599627370496 then 2+(e+1074).toNat else 0
def Py(n:Bool)(m e:Int):Int:=Cq n (Cu m.toNat e)
def El(m e:Int)(r:Bool):Bool :=Ci (0<=m/\m<18446744073709551616/\e<=50000/\(-1137<=e\/(m<4611686018427387904/\-1140<=e))/\(r=wc->4503599627370496<=m\/e<=-1074))
def Fm(n D:Nat):Nat:=if n%2^D=0 then n / 2^D else 2*(n / 2^D / 2)+1
def EM(m d:Int):Int:=Fm m.toNat (min d.toNat 63)
def Cw(l:Bf):Bool:=Ci (l.length<4611686018427387904/\∀x∈l,Br x=wc)
def MW(x:Int):Bool:=Ci (0<=x)
theorem MV(n:Nat):MW (n:Int)=wc:=Bv.2 (xi n)
theorem SS{x:Int}(h:MW x=wc):∃n:Nat,x=n:=⟨x.toNat,by have:=Bv.1 h; omega⟩
theorem Ali(a c:Nat):(a+1)*c+c=a*c+(c+c):=by rw[AM,zv,yo]
theorem Ak0:2^52+2^52=2^53:=by decide
theorem Alh(a:Nat):(a+1)*2^52+2^52=a*2^52+2^53:=(Ali a (2^52)).trans (congrArg (fun x=>a*2^52+x) Ak0)
theorem AiF:2^52*2^1=2^53:=by decide
theorem Ahc{E:Int}:Cu (2^53) E=Cu (2^52) (E+1):=by
 have:=(D2 (2^52) 1 (E+1)).1;have e1:E+1-((1:Nat):Int)=E:=by omega
 rw[e1,AiF] at this;exact this
theorem Aey{E:Int}(hE:-1074<=E):Cu (2^53) E=min ((E+1074).toNat*2^52+2^53) Er:=by
 have e3:(E+1+1074).toNat=(E+1074).toNat+1:=by omega
 rw[Ahc,NH (by decide) (by decide) (by omega),e3];exact congrArg (fun x=>min x Er) (Alh _)
theorem Acb{q:Nat}{E:Int}(h1:q<=2^53)(hE:-1074<=E)(h2:2^52<=q\/E=-1074):Cu q E=min ((E+1074).toNat*2^52+q) Er:=by
 by_cases ha:q=2^53
 ·rw[ha]; exact Aey hE
 ·by_cases hb:2^52<=q
  ·exact NH hb (by omega) hE
  ·obtain rfl:E=-1074:=h2.resolve_left hb;rw[SA (by omega)];unfold Er;simp;omega
theorem Acn{M D s:Nat}(hs:s<=1):H5 (4*M+s) (D+2)=M / 2^D+(if 0<D/\(2^(D-1)<M%2^D\/(M%2^D=2^(D-1)/\(s=1\/M / 2^D%2=1))) then 1 else 0) /\
 ((4*M+s)%2^(D+2)=0↔M%2^D=0/\s=0):=by
 have hp:2^(D+2)=2^D*4:=by rw[A5]
 have hA:=Cs D;have hdm:=zC M (2^D);have hlt:=zt M hA
 have hdiv:(4*M+s) / (2^D*4)=M / 2^D:=by rw[A0 (2^D) 4,<- A9];congr 1; omega
 have hmod:(4*M+s)%(2^D*4)=4*(M%2^D)+s:=by
  have h:=zC (4*M+s) (2^D*4);rw[hdiv] at h;have e:2^D*4*(M / 2^D)=4*(2^D*(M / 2^D)):=by rw[A0 (2^D) 4,A7]
  rw[e] at h;omega
 unfold H5;rw[hp,hdiv,hmod];generalize M%2^D=r at *
 generalize M / 2^D=q at *
 refine⟨?_,by omega⟩;congr 1
 have key:(2^D*4<2*(4*r+s)\/2*(4*r+s)=2^D*4/\q%2=1)↔(0<D/\(2^(D-1)<r\/(r=2^(D-1)/\(s=1\/q%2=1)))):=by
  cases D with
  | zero=>simp only[AG] at hlt ⊢; omega
  | succ d =>
    rw[zD] at hlt ⊢;simp only[yC];generalize 2^d=c at *
    omega
 simp only[key]
structure Drop(M:Nat)(e:Int)(D:Nat):Prop where
 le:D<=63
 stop:D<63->M / 2^D<2^53/\-1074<=e+D
 least:∀d,d<D->2^53<=M / 2^d\/e+d < -1074
def X5(M D s:Nat):Nat:=M / 2^D+(if 0<D/\(2^(D-1)<M%2^D\/(M%2^D=2^(D-1)/\(s=1\/M / 2^D%2=1))) then 1 else 0)
theorem AeC{M D s:Nat}(h:M / 2^D<2^53):X5 M D s<=2^53:=by unfold X5; split<;>omega
theorem AeD{M D s:Nat}:M / 2^D<=X5 M D s:=by unfold X5; omega
theorem AjI{M D:Nat}{c:Nat}(h:M / 2^D<c):M<c*2^D:=(yw (Cs D)).1 h
theorem Afr{M D:Nat}{c:Nat}(h:c<=M / 2^D):c*2^D<=M:=(yZ (Cs D)).1 h
theorem Tj{V:Nat}{E L:Int}(h:(E+V.log2-52=L/\-1074<=L)\/(E+V.log2-52<=L/\L=-1074)):Cp V E=L:=by unfold Cp; omega
theorem AcF{M s:Nat}(hs:s<=1)(hM:M≠0):(4*M+s).log2=M.log2+2:=by
 have h1:=zY hM;have h2:=yv (n:=M);refine RV ?_ ?_
 ·rw[A5]; omega
 ·have e:2^(M.log2+2+1)=2^(M.log2+1)*4:=by rw[show M.log2+2+1=M.log2+1+2 by omega,A5]
  omega
theorem Ac5{M D s:Nat}{e:Int}(hD:Drop M e D)(hs:s<=1)(hV:4*M+s≠0)(hM:M<2^64)(he:-1137<=e\/(M<2^62/\-1140<=e))(hr:s=1->2^52<=M\/e<=-1074):
 Cu (4*M+s) (e-2)=Cu (if e+D < -1074 then 0 else X5 M D s) (max (e+D) (-1074)) /\
 flagsOf (4*M+s) (e-2)=flags (Cu (4*M+s) (e-2)) (decide (M%2^D=0/\s=0)) /\
 (if e+D < -1074 then 0 else X5 M D s)<=2^53:=by
 have hA:=Cs D;by_cases hlow:e+D < -1074
 ·
  have hD63:D=63:=by
   rcases AF D 63 with h | h
   ·have:=(hD.stop h).2; omega
   ·have:=hD.le; omega
  subst hD63;have hM62:M<2^62:=by rcases he with h | h; omega; exact h.1
  have he2:-1140<=e:=by rcases he with h | h; omega; exact h.2
  have hV64:4*M+s<2^64:=by omega
  have hlog:(4*M+s).log2<64:=(AZ hV).2 hV64;have hl:Cp (4*M+s) (e-2)=-1074:=Tj (.inr ⟨by omega,rfl⟩);obtain⟨k,hk⟩:∃k:Nat,(-1074-(e-2)).toNat=66+k:=⟨(-1074-(e-2)).toNat-66,by omega⟩
  have e2:(-(-1074-(e-2))).toNat=0:=by omega
  have hp:2^66<=2^(66+k):=Aq (by decide) (by omega);have hsm:4*M+s<2^(66+k):=by omega
  have hz:H4 (4*M+s) (-1074-(e-2))=0:=by unfold H4 H5;rw[e2,hk,AG,AR,yd hsm,Ao hsm,Ay (by omega)]
  have hru:Cu (4*M+s) (e-2)=0:=by unfold Cu kept;rw[Ay hV,hl,hz];simp
  refine⟨?_,?_,?_⟩
  ·rw[hru,Az hlow]; rfl
  ·unfold flagsOf exact JV;rw[Ay hV,hl,e2,hk,AG,AR,Ao hsm];congr 1;have h63:M%2^63=M:=Ao (by omega);rw[h63,Ar];simp only[Ai];omega
  ·rw[Az hlow]; exact zl _
 ·have hmax:max (e+D) (-1074)=e+D:=by omega
  have hq:M / 2^D<2^53:=by
   rcases AF D 63 with h | h
   ·exact(hD.stop h).1
   ·have:D=63:=by have:=hD.le; omega
    subst this;exact AK (Nat.div_le_of_le_mul (show M<=2^63*2 by omega)) (by decide)
  obtain⟨c1,c2⟩:=Acn (M:=M) (D:=D) hs;rw[Ay hlow,hmax];refine⟨?_,?_,AeC hq⟩
  all_goals
   by_cases hD0:D=0/\s=0
   ·obtain⟨rfl,rfl⟩:=hD0;have hM0:M≠0:=by omega
    obtain⟨s1,s2⟩:=D2 M 2 e;have e1:M*2^2=4*M+0:=by omega
    have e2:e-((2:Nat):Int)=e-2:=by omega
    rw[e1,e2] at s1 s2;have hq0:X5 M 0 0=M:=by unfold X5; simp
    have hle:Cp M e<=e:=by have:M.log2<53:=(AZ hM0).2 (by simpa using hq);unfold Cp; simp only[wG,xj] at hlow; omega
    first
    | (rw[s1,hq0]; simp; done)
    | (rw[s2,s1]
       unfold flagsOf exact JV;have z:(Cp M e-e).toNat=0:=by omega
       rw[Ay hM0,z];simp[xR])
   ·
    have hl:Cp (4*M+s) (e-2)=e+D:=by
     by_cases hM0:M=0
     ·subst hM0;have hs1:s=1:=by omega
      subst hs1
      have hle:e+D=-1074:=by
       rcases yN D with rfl | hpos
       ·have:=hr rfl; omega
       ·have h:=hD.least (D-1) (by omega);simp only[xl] at h;omega
      refine Tj (.inr ⟨?_,hle⟩);have:(4*0+1:Nat).log2=0:=by decide
      rw[this]; omega
     ·have hlog:=AcF hs hM0
      have hub:M.log2<53+D:=by rw[AZ hM0,A5]; exact AjI hq
      have hcase:52+D<=M.log2\/e+D=-1074:=by
       rcases yN D with rfl | hpos
       ·have hs1:s=1:=by omega
        rcases hr hs1 with h | h
        ·left; rw[zM hM0]; simpa using h
        ·right; simp only[wG,xj] at hlow ⊢; omega
       ·rcases hD.least (D-1) (by omega) with h | h
        ·left;rw[zM hM0];have:=Afr h;have e1:2^(52+D)=2^53*2^(D-1):=by rw[<- A5]; congr 1; omega
         rw[e1]; exact this
        ·right; omega
      refine Tj ?_;rw[hlog];rcases hcase with h | h
      ·left; omega
      ·right; omega
    have e1:(e+D-(e-2)).toNat=D+2:=by omega
    have e2:(-(e+(D:Int)-(e-2))).toNat=0:=by omega
    have hkept:kept (4*M+s) (e-2)=X5 M D s:=by unfold kept H4;rw[hl,e1,e2,AG,AR,c1]; rfl
    first
    | (have hbig:2^52<=X5 M D s\/e+D=-1074:=by
        rcases yN D with rfl | hpos
        ·have hs1:s=1:=by omega
         rcases hr hs1 with h | h
         ·left; exact AP (by simpa using h) AeD
         ·right; simp only[wG,xj] at hlow ⊢; omega
        ·rcases hD.least (D-1) (by omega) with h | h
         ·left;refine AP ?_ AeD;rw[yZ hA];have:=Afr h;have e1:2^52*2^D=2^53*2^(D-1):=by rw[<- A5,<- A5]; congr 1; omega
          rw[e1]; exact this
         ·right; omega
       rw[Acb (AeC hq) (by omega) hbig];unfold Cu;rw[Ay hV,hl,hkept]; done)
    | (unfold flagsOf exact JV
       rw[Ay hV,hl,e1,e2,AG,AR];congr 1;rw[Ar];simp only[Ai];exact c2)
theorem Q1(n:Bool){r:Nat}(h:r<2^63):DH (Cq n r)=r / 2^52:=by
 unfold DH Cq; cases n
 ·simp only[zT,if_false]; omega
 ·simp only[if_true]; omega
theorem OT(n:Bool)(r:Nat):Df (Cq n r)=r%2^52:=by
 unfold Df Cq; cases n
 ·rfl
 ·simp only[if_true]; omega
theorem UP(n:Bool){r:Nat}(h:r<=Er):Bn (Cq n r)=if r=Er then 3 else if 2^52<=r then 2 else if 0<r then 1 else 0:=by
 rw[Ex] at *
 unfold Bn;rw[Q1 n (by omega),OT];by_cases h1:r=9218868437227405312
 ·subst h1; simp
 ·rw[Ay h1,Ay (by omega)];by_cases h2:2^52<=r
  ·rw[Az h2,Az (by omega)]
  ·rw[Ay h2,Ay (by omega)];by_cases h3:0<r
   ·rw[Az h3,Az (by omega)]
   ·rw[Ay h3,Ay (by omega)]
open Ieee
theorem HN(b:Nat):(DH b=2047/\Df b=0/\Bn b=3)\/(DH b=2047/\Df b≠0/\Bn b=4)\/(DH b<2047/\Bn b≠3/\Bn b≠4):=by
 have:=Il b;unfold Bn;by_cases h1:DH b=2047
 ·by_cases h2:Df b=0<;>simp[h1,h2]
 ·refine .inr (.inr ⟨by omega,?_⟩);rw[Ay h1];split
  ·decide
  ·split<;>decide
theorem LC(b:Nat):b%2^63=DH b*2^52+Df b:=by unfold DH Df; omega
def U9(b:Nat):Datum:=if Bn b=4 then .nan (Ce b) (Df b) else if Bn b=3 then .infinity (Ce b) else .number (Ce b) (Bx b) (B6 b)
theorem AaN{b:Nat}(h:b<2^64):Ieee.double.read b=U9 b:=by
 unfold Format.read U9;have e0:Ieee.double.signWeight=2^63:=rfl;have e1:Ieee.double.leastPlace=-1074:=by decide
 have e2:Ieee.double.binade=2^52:=rfl;have e3:Ieee.double.infRung=Er:=rfl
 have hn:(b / 2^63%2==1)=Ce b:=by unfold Ce;rw[Ar];simp only[beq_iff_eq,Ai];omega
 dsimp only;rw[e0,e1,e2,e3,hn,LC,Ex];have hf:Df b<2^52:=Jm b;rcases HN b with ⟨h1,h2,h3⟩ | ⟨h1,h2,h3⟩ | ⟨h1,h2,h3⟩
 ·rw[Ay (by omega),Ay (by omega),Az (by omega),Ay (by omega),Az h3]
 ·rw[Ay (by omega),Ay (by omega),Ay (by omega),Az h3];have e:DH b*2^52+Df b-9218868437227405312=Df b:=by omega
  rw[e]
 ·rw[Ay h3,Ay h2];by_cases h0:DH b=0
  ·rw[Az (by omega)];unfold Bx B6;rw[Az h0,Az h0,h0,zK,AS]
  ·rw[Ay (by omega),Az (by omega)];unfold Bx B6;rw[Ay h0,Ay h0];have m1:(DH b*2^52+Df b)%2^52=Df b:=by omega
   have m2:(DH b*2^52+Df b) / 2^52=DH b:=by omega
   have e:(-1074:Int)+((DH b-1:Nat):Int)=(DH b:Int)-1075:=by omega
   rw[m1,m2,xf (2^52),e]
theorem WU{b:Nat}(h:b<2^64)(h3:Bn b=3):Cq (Ce b) Er=b:=by
 rcases HN b with ⟨h1,h2,_⟩ | ⟨_,_,h4⟩ | ⟨_,h4,_⟩
 ·have e:=LC b;rw[h1,h2] at e;rw[Ex];unfold Cq Ce;by_cases hb:2^63<=b
  ·simp[hb]; omega
  ·simp[hb]; omega
 ·omega
 ·omega
theorem Ux(s:Bool)(m up:Nat):Ieee.signed s m up=Gx s (m*2^up):=by unfold Ieee.signed Gx;rw[Nat.shiftLeft_eq]
theorem Afs(s:Bool):Bn (Cq s Er)=3:=by rw[UP s (AB _),Az rfl]
theorem Qy{b:Nat}(h:Bn b=3):U9 b=.infinity (Ce b):=by unfold U9; rw[Ay (by omega),Az h]
theorem Qx{b:Nat}(h3:Bn b≠3)(h4:Bn b≠4):U9 b=.number (Ce b) (Bx b) (B6 b):=by unfold U9; rw[Ay h4,Ay h3]
theorem Agu{a b:Nat}(h4:¬(Bn a=4\/Bn b=4))(h:Bn a=3):DS a b=(if Bn b=3/\a≠b then (N2,16) else (a,0)):=by unfold DS; rw[Ay h4,Az h]
theorem Adq{a b:Nat}(h4:¬(Bn a=4\/Bn b=4))(h:Bn a≠3)(h':Bn b=3):DS a b=(b,0):=by unfold DS; rw[Ay h4,Ay h,Az h']
theorem Nx{a b:Nat}(h4:¬(Bn a=4\/Bn b=4))(h:Bn a≠3)(h':Bn b≠3):
 DS a b=HK (Cq (Ce a&&Ce b) 0) (E3 a (min (B6 a) (B6 b))+E3 b (min (B6 a) (B6 b))) (min (B6 a) (B6 b)):=by
 unfold DS; rw[Ay h4,Ay h,Ay h']
theorem HZ{b:Nat}(h:b<2^64):Ce (DR b)=!(Ce b)/\DH (DR b)=DH b/\Df (DR b)=Df b:=by
 unfold Ce DH Df DR;by_cases hb:2^63<=b
 ·rw[Az hb];refine⟨?_,by omega,by omega⟩;have:¬2^63<=b-2^63:=by omega
  simp[hb,this]
 ·rw[Ay hb];refine⟨?_,by omega,by omega⟩;have:2^63<=b+2^63:=by omega
  simp[hb,this]
theorem Z6{b:Nat}(h:b<2^64):DR b<2^64:=by unfold DR; split<;>omega
theorem Qz{V W k:Nat}(h:V<=W):H5 V k<=H5 W k:=by
 unfold H5;have hA:=Cs k;have hq:V / 2^k<=W / 2^k:=Nat.div_le_div_right h;rcases AF (V / 2^k) (W / 2^k) with h1 | h1
 ·split<;>split<;>omega
 ·have he:V / 2^k=W / 2^k:=by omega
  have v:=zC V (2^k);have w:=zC W (2^k);rw[he] at v ⊢;have hr:V%2^k<=W%2^k:=by omega
  by_cases hc:2^k<2*(V%2^k)\/2*(V%2^k)=2^k/\W / 2^k%2=1
  ·have hc':2^k<2*(W%2^k)\/2*(W%2^k)=2^k/\W / 2^k%2=1:=by
    rcases hc with hc | ⟨hc,hd⟩
    ·exact .inl (by omega)
    ·rcases AF (2^k) (2*(W%2^k)) with h2 | h2
     ·exact .inl h2
     ·exact .inr ⟨by omega,hd⟩
   rw[Az hc,Az hc'];exact AB _
  ·rw[Ay hc];exact Nat.le_add_right _ _
theorem Ahi{V c k:Nat}(h:V<=c*2^k):H5 V k<=c:=by
 have h1:=Qz (k:=k) h
 have:H5 (c*2^k) k=c:=by have:=Pw c k 0;rw[AQ,JP] at this;exact this
 omega
theorem AhB{V c k:Nat}(h:c*2^k<=V):c<=H5 V k:=by
 have h1:=Qz (k:=k) h
 have:H5 (c*2^k) k=c:=by have:=Pw c k 0;rw[AQ,JP] at this;exact this
 omega
theorem Zi{V W:Nat}{s:Int}(h:V<=W):H4 V s<=H4 W s:=Qz (An _ h)
theorem ZH{V W:Nat}{E:Int}(hV:V≠0)(h:V<=W):Cp V E<=Cp W E:=by have:V.log2<=W.log2:=(zM (by omega)).2 (AP (zY hV) h);unfold Cp; omega
theorem Abf{V:Nat}{E:Int}:kept V E<=2^53:=by
 have hV:V<2^(V.log2+1):=yv;unfold kept H4;refine Ahi ?_;have hl:E+V.log2-52<=Cp V E:=by unfold Cp; omega
 rw[<- A5];have h1:V*2^(-(Cp V E-E)).toNat<=2^(V.log2+1)*2^(-(Cp V E-E)).toNat:=An _ (xA hV);rw[<- A5] at h1;exact AP h1 (Aq (by decide) (by omega))
theorem Wi{V:Nat}{E:Int}(hV:V≠0)(hl:Cp V E=E+V.log2-52):2^52<=kept V E:=by have h1:2^V.log2<=V:=zY hV;unfold kept H4;refine AhB ?_;rw[<- A5];have h2:2^V.log2*2^(-(Cp V E-E)).toNat<=V*2^(-(Cp V E-E)).toNat:=An _ h1;rw[<- A5] at h2;exact AP (Aq (by decide) (by omega)) h2
theorem Fv{V W:Nat}{E:Int}(h:V<=W):Cu V E<=Cu W E:=by
 unfold Cu;by_cases hV:V=0
 ·rw[Az hV]; exact zl _
 ·have hW:W≠0:=by omega
  rw[Ay hV,Ay hW];have hl:=ZH (E:=E) hV h
  have key:(Cp V E+1074).toNat*2^52+kept V E<=(Cp W E+1074).toNat*2^52+kept W E:=by
   rcases Int.lt_or_eq_of_le hl with h1 | h1
   ·have hb:-1074<=Cp V E:=by unfold Cp; omega
    have hn:Cp W E=E+W.log2-52:=by unfold Cp at h1 hb ⊢; omega
    have k1:=Abf (V:=V) (E:=E);have k2:=Wi hW hn;have h2:(Cp V E+1074).toNat+1<=(Cp W E+1074).toNat:=by omega
    have h3:((Cp V E+1074).toNat+1)*2^52<=(Cp W E+1074).toNat*2^52:=An _ h2;rw[AM (Cp V E+1074).toNat 1 (2^52),zv] at h3;omega
   ·unfold kept;rw[h1];exact Nat.add_le_add_left (Zi h) _
  omega
theorem Qt{b:Nat}(h4:Bn b≠4):Cu (Bx b) (B6 b)=b%2^63:=by
 have hf:Df b<2^52:=Jm b;have hr:=LC b;rw[hr];unfold Bx B6;by_cases h0:DH b=0
 ·rw[Az h0,Az h0,SA hf,h0,zK,AS]
 ·rw[Ay h0,Ay h0,NH (by omega) (by omega) (by omega),Ex];have e:((DH b:Int)-1075+1074).toNat=DH b-1:=by omega
  rw[e];have h5:(DH b-1)*2^52+(Df b+2^52)=DH b*2^52+Df b:=by omega
  rw[h5];rcases HN b with ⟨h1,h2,_⟩ | ⟨_,_,h⟩ | ⟨h1,_,_⟩
  ·rw[h1,h2]; decide
  ·exact absurd h h4
  ·omega
def Gt(b:Nat):Int:=Gx (Ce b) (b%2^63)
def EE(b:Nat)(f:Int):Nat:=Bx b*2^(B6 b-f).toNat
theorem Ji{b:Nat}{f:Int}(h4:Bn b≠4)(hf:f<=B6 b):Cu (EE b f) f=b%2^63:=by
 rw[<- Qt h4];have h:=(D2 (Bx b) (B6 b-f).toNat (B6 b)).1;have e:B6 b-((B6 b-f).toNat:Int)=f:=by omega
 rw[e] at h;exact h
theorem XL{a b:Nat}(h:a%2^63=b%2^63)(f:Int):EE a f=EE b f:=by
 have h1:DH a=DH b:=by unfold DH; omega
 have h2:Df a=Df b:=by unfold Df; omega
 unfold EE Bx B6;rw[h1,h2]
theorem Ta{a b:Nat}{f:Int}(ha:Bn a≠4)(hb:Bn b≠4)(hfa:f<=B6 a)(hfb:f<=B6 b):EE a f<EE b f↔a%2^63<b%2^63:=by
 constructor
 ·intro h;have h1:=Fv (E:=f) (xA h);rw[Ji ha hfa,Ji hb hfb] at h1;rcases Nat.lt_or_eq_of_le h1 with h2 | h2
  ·exact h2
  ·have:=XL h2 f; omega
 ·intro h;rcases AF (EE a f) (EE b f) with h1 | h1
  ·exact h1
  ·have h1:=Fv (E:=f) h1;rw[Ji ha hfa,Ji hb hfb] at h1;omega
theorem XK(b:Nat)(f:Int):EE b f=0↔b%2^63=0:=by
 have hp:=Cs (B6 b-f).toNat;unfold EE;rw[xg,LC];have h1:¬(2^(B6 b-f).toNat=0):=by omega
 have h2:Bx b=0↔DH b*2^52+Df b=0:=by unfold Bx; split<;>omega
 rw[h2];exact⟨fun h=>h.resolve_right h1,.inl⟩
theorem Aja{s t:Bool}{m n m' n':Nat}(h1:m<n↔m'<n')(h2:n<m↔n'<m')(h3:m=0↔m'=0)(h4:n=0↔n'=0):Gx s m<Gx t n↔Gx s m'<Gx t n':=by unfold Gx;cases s<;>cases t<;>simp<;>omega
theorem YE{a b:Nat}{f:Int}(ha:Bn a≠4)(hb:Bn b≠4)(hfa:f<=B6 a)(hfb:f<=B6 b):E3 a f<E3 b f↔Gt a<Gt b :=Aja (Ta ha hb hfa hfb) (Ta hb ha hfb hfa) (XK a f) (XK b f)
theorem Ade{x y x' y':Int}(h1:x<y↔x'<y')(h2:y<x↔y'<x'):compare x y=compare x' y':=by
 show compareOfLessAndEq x y=compareOfLessAndEq x' y';unfold compareOfLessAndEq;by_cases h:x<y
 ·rw[Az h,Az (h1.1 h)]
 ·rw[Ay h,Ay (fun k=>h (h1.2 k))];by_cases e:x=y
  ·rw[Az e,Az (by omega)]
  ·rw[Ay e,Ay (by omega)]
theorem Afu{b:Nat}(h4:Bn b≠4):b%2^63<=Er:=by rw[<- Qt h4]; exact NI _ _
theorem NU{b:Nat}(h:Bn b=3):b%2^63=Er:=by
 rw[LC];rcases HN b with ⟨h1,h2,_⟩ | ⟨_,_,h4⟩ | ⟨_,h4,_⟩
 ·rw[h1,h2]; rfl
 ·omega
 ·omega
theorem RW{b:Nat}(h3:Bn b≠3)(h4:Bn b≠4):b%2^63<Er:=by
 have hf:Df b<2^52:=Jm b;rw[LC,Ex];rcases HN b with ⟨_,_,h⟩ | ⟨_,_,h⟩ | ⟨h1,_,_⟩
 ·exact absurd h h3
 ·exact absurd h h4
 ·omega
theorem ZZ{x y:Int}(h:x<y):compare x y=.lt:=by show compareOfLessAndEq x y=_; unfold compareOfLessAndEq; rw[Az h]
theorem Aaa{x y:Int}(h:y<x):compare x y=.gt:=by show compareOfLessAndEq x y=_; unfold compareOfLessAndEq; rw[Ay (by omega),Ay (by omega)]
theorem Acq{a b:Nat}(ha:a<2^64)(hb:b<2^64)(a4:Bn a≠4)(b4:Bn b≠4):Ieee.double.order a b=wM (compare (Gt a) (Gt b)):=by
 unfold Format.order;rw[AaN ha,AaN hb];have hpos:0<Er:=by decide
 by_cases a3:Bn a=3
 ·have ka:=NU a3;rw[Qy a3];by_cases b3:Bn b=3
  ·have kb:=NU b3;rw[Qy b3];show wM (compare (Ce b).toNat (Ce a).toNat)=_;unfold Gt;rw[ka,kb];cases Ce a<;>cases Ce b<;>decide
  ·have kb:=RW b3 b4;rw[Qx b3 b4];show wM (if Ce a then Ordering.lt else .gt)=_;unfold Gt Gx;rw[ka];cases Ce a
   ·rw[Aaa (by simp; split<;>omega)]; rfl
   ·rw[ZZ (by simp; split<;>omega)]; rfl
 ·have ka:=RW a3 a4;rw[Qx a3 a4];by_cases b3:Bn b=3
  ·have kb:=NU b3;rw[Qy b3];show wM (if Ce b then Ordering.gt else .lt)=_;unfold Gt Gx;rw[kb];cases Ce b
   ·rw[ZZ (by simp; split<;>omega)]; rfl
   ·rw[Aaa (by simp; split<;>omega)]; rfl
  ·rw[Qx b3 b4];show wM (compare (Ieee.signed _ _ _) (Ieee.signed _ _ _))=_;rw[Ux,Ux];congr 1;exact Ade (YE a4 b4 (wI _ _) (wJ _ _)) (YE b4 a4 (wJ _ _) (wI _ _))
def TV(S:Int)(f:Int):Int:=if S<0 then -(Cu S.natAbs f:Int) else Cu S.natAbs f
theorem Zg(S:Int)(k:Nat)(f:Int):TV (S*((2^k:Nat):Int)) (f-k)=TV S f:=by
 have hp:=Cs k
 have h0:S*((2^k:Nat):Int)<0↔S<0:=by
  constructor
  ·intro h;rcases Int.lt_or_le S 0 with h1 | h1
   ·exact h1
   ·have:=xS h1 (xi (2^k)); omega
  ·intro h;exact wK h (by omega)
 unfold TV;rw[yj,zS,(D2 S.natAbs k f).1];by_cases h:S<0
 ·rw[Az h,Az (h0.2 h)]
 ·rw[Ay h,Ay (fun k=>h (h0.1 k))]
theorem Tl(s:Bool){r:Nat}(h:r<2^63):Gt (Cq s r)=Gx s r:=by
 unfold Gt Cq Ce;cases s
 ·have h1:¬2^63<=r:=by omega
  have h2:r%2^63=r:=Ao h;simp only[zT,if_false,Ag h1,h2]
 ·have h1:2^63<=2^63+r:=by omega
  have h2:(2^63+r)%2^63=r:=by omega
  simp only[if_true,Ac h1,h2]
theorem AcJ(s:Bool)(S f:Int):Gt (HK (Cq s 0) S f).1=TV S f:=by
 unfold HK TV;by_cases h:S=0
 ·subst h;have e:Cu (Int.natAbs 0) f=0:=Az rfl;rw[Az rfl,e,Tl s (by decide)];cases s<;>rfl
 ·rw[Ay h];show Gt (Cq _ _)=_;rw[Tl _ (IX _ _)];unfold Gx;by_cases h1:S<0
  ·rw[Az h1,Ac h1,Az rfl]
  ·rw[Ay h1,Ag h1,Ay (by decide)]
theorem Ui{b:Nat}{f g:Int}{k:Nat}(hk:g=f-k)(hf:f<=B6 b):E3 b g=E3 b f*((2^k:Nat):Int):=by
 unfold E3;have e:(B6 b-g).toNat=(B6 b-f).toNat+k:=by omega
 rw[e,A5,<- A7];generalize Bx b*2^(B6 b-f).toNat=m;generalize 2^k=p;unfold Gx;cases Ce b
 ·exact Ax m p
 ·show -((m*p:Nat):Int)=-(m:Int)*(p:Int)
  rw[Ax,xT]
theorem Sf{a c:Nat}(a3:Bn a≠3)(a4:Bn a≠4)(c3:Bn c≠3)(c4:Bn c≠4){g:Int}(hg:g<=min (B6 a) (B6 c)):
 Gt (DS a c).1=TV (E3 a g+E3 c g) g:=by
 rw[Nx (fun h=>h.elim a4 c4) a3 c3,AcJ];obtain⟨k,hk⟩:∃k:Nat,g=min (B6 a) (B6 c)-k:=⟨(min (B6 a) (B6 c)-g).toNat,by omega⟩
 rw[Ui (b:=a) hk (wI _ _),Ui (b:=c) hk (wJ _ _),<- Int.add_mul,hk,Zg]
def Ee(a b:Nat):Nat × Nat:=
 if Bn a=4\/Bn b=4 then (N2,0)
 else if Bn a=3\/Bn b=3 then (if Bn a=0\/Bn b=0 then (N2,16) else (Cq (Ce a !=Ce b) Er,0))
 else (Cq (Ce a !=Ce b) (Cu (Bx a*Bx b) (B6 a+B6 b)),flagsOf (Bx a*Bx b) (B6 a+B6 b))
def EI(X Y K:Nat):Nat:=2*(X*2^K / Y)+(if X*2^K%Y=0 then 0 else 1)
def K5(a b:Nat):Nat × Nat:=
 if Bn a=4\/Bn b=4 then (N2,0)
 else if Bn a=Bn b/\(Bn a=3\/Bn a=0) then (N2,16)
 else if Bn a=3 then (Cq (Ce a !=Ce b) Er,0)
 else if Bn b=3\/Bn a=0 then (Cq (Ce a !=Ce b) 0,0)
 else if Bn b=0 then (Cq (Ce a !=Ce b) Er,8)
 else (Cq (Ce a !=Ce b) (Cu (EI (Bx a) (Bx b) 120) (B6 a-B6 b-121)),flagsOf (EI (Bx a) (Bx b) 120) (B6 a-B6 b-121))
theorem Zw{V k:Nat}{E:Int}(hm:1<=V / 2^k)(hc:2^53<=V / 2^k\/E+k+1<=-1074):
 Cu (4*(V / 2^k)+(if V%2^k=0 then 0 else 1)) (E+k-2)=Cu V E/\flagsOf (4*(V / 2^k)+(if V%2^k=0 then 0 else 1)) (E+k-2)=flagsOf V E:=by
 have hA:=Cs k;have h1:=zC V (2^k);have h2:=zt V hA;generalize hq:V / 2^k=q at *
 generalize hr:V%2^k=r at *
 by_cases h0:r=0
 ·rw[Az h0];obtain⟨a1,a2⟩:=D2 q k (E+k);obtain⟨b1,b2⟩:=D2 q 2 (E+k);have e1:E+(k:Int)-k=E:=by omega
  have e2:V=q*2^k:=by rw[A0]; omega
  have e3:q*2^2=4*q+0:=by omega
  have e4:E+(k:Int)-((2:Nat):Int)=E+k-2:=by omega
  rw[e1,<- e2] at a1 a2;rw[e3,e4] at b1 b2;rw[a1,a2,b1,b2];exact⟨rfl,rfl⟩
 ·rw[Ay h0]
  obtain⟨d,rfl⟩:∃d,k=d+1:=by
   cases k with
   | zero=>simp only[AG] at h2; omega
   | succ d=>exact⟨d,rfl⟩
  have hD:2^(d+1)=2*2^d:=by rw[zD]; omega
  rw[hD] at h1 h2;generalize hc2:2^d=c at *
  have p1:(2*q+1-1)*c=2*c*q:=by rw[yC,A0,yM,A7]
  have p2:(2*q+1+1)*c=2*c*q+2*c:=by rw[show 2*q+1+1=2*(q+1) by omega,A7,AM,z7,A0 q c,A7]; omega
  have lt1:(2*q+1-1)*2^d<V:=by rw[hc2,p1]; omega
  have lt2:V<(2*q+1+1)*2^d:=by rw[hc2,p2]; omega
  have od:(2*q+1)%2=1:=by omega
  have lV:=Nd od (by omega) lt1 lt2;have l4:(4*q+1).log2=(2*q+1).log2+1:=Nd (d:=1) od (by omega) (by omega) (by omega)
  have hs:(2*q+1).log2>=54\/E+d+2<=-1074:=by
   rcases hc with h | h
   ·left; rw[ge_iff_le,zM (by omega)]; omega
   ·right; omega
  have hk:E+d+2<=Cp (2*q+1) (E+d):=by unfold Cp; omega
  obtain⟨a1,a2⟩:=MN (E:=E) od lt1 lt2 (by unfold Cp; rw[lV]; omega) hk;have ee:E+((d+1:Nat):Int)-2+((1:Nat):Int)=E+d:=by omega
  obtain⟨b1,b2⟩:=MN (V:=4*q+1) (d:=1) (E:=E+((d+1:Nat):Int)-2) od (by omega) (by omega) (by unfold Cp; rw[l4]; omega) (by rw[ee]; unfold Cp; omega);rw[ee] at b1 b2;rw[a1,a2,b1,b2];exact⟨rfl,rfl⟩
theorem P6(n:Bool){V k:Nat}{E e:Int}{s:Bool}(he:e=E+k)(hs:s=decide (V%2^k≠0))(hm:1<=V / 2^k)(hc:2^53<=V / 2^k\/E+k+1<=-1074):
 FA n (V / 2^k) e s=(Cq n (Cu V E),flagsOf V E):=by
 obtain⟨a,b⟩:=Zw hm hc
 have e1:s.toNat=if V%2^k=0 then 0 else 1:=by
  rw[hs];by_cases h:V%2^k=0
  ·rw[Ag (by omega),Az h]; rfl
  ·rw[Ac h,Ay h]; rfl
 unfold FA;rw[he,e1,a,b]
theorem Ss{X Y K:Nat}(d:Nat)(E:Int)(hY:0<Y)(h:2^53<=X*2^K / Y):
 Cu (EI X Y (K+d)) (E-d)=Cu (EI X Y K) E/\flagsOf (EI X Y (K+d)) (E-d)=flagsOf (EI X Y K) E:=by
 have hA:=Cs d;unfold EI;have e:X*2^(K+d)=X*2^K*2^d:=by rw[A5,A7]
 rw[e];generalize X*2^K=Z at *
 have h1:=zC Z Y;have h2:=zt Z hY;by_cases h0:Z%Y=0
 ·obtain⟨q,rfl⟩:=vM h0;have e1:Y*q*2^d=Y*(q*2^d):=A7 _ _ _;rw[e1,Nat.mul_mod_right,Nat.mul_mod_right,vN _ hY,vN _ hY,Az rfl];have:=D2 (2*q+0) d E;rw[show(2*q+0)*2^d=2*(q*2^d)+0 by rw[AQ,AQ,A7]] at this;exact this
 ·have h3:=zC (Z*2^d) Y;have h4:=zt (Z*2^d) hY;rw[Ay h0];generalize hq:Z / Y=q at *
  generalize hr:Z%Y=r at *
  generalize hc:2^d=c at *
  have hz:Z*c=Y*(q*c)+r*c:=by rw[<- h1,AM,A7]
  have hrc:r*c<Y*c:=(xh hA).2 h2;have hrc0:0<r*c:=xU (by omega) hA;have q1:q*c<=Z*c / Y:=by rw[yZ hY,A0 (q*c)]; omega
  have q2:Z*c / Y<(q+1)*c:=by rw[yw hY,AM,AM,zv,A0 (q*c),A0 c Y]; omega
  have q3:Z*c / Y=q*c->Z*c%Y≠0:=fun h5 h6=>by rw[h5,h6] at h3; omega
  generalize hQ:Z*c / Y=Q at *
  have p1:(2*q+1-1)*c=2*(q*c):=by rw[yC,A7]
  have p2:(2*q+1+1)*c=2*((q+1)*c):=by rw[show 2*q+1+1=2*(q+1) by omega,A7]
  have od:(2*q+1)%2=1:=by omega
  generalize hV:2*Q+(if Z*c%Y=0 then 0 else 1)=V
  have v1:(2*q+1-1)*2^d<V:=by
   rw[hc,p1,<- hV];by_cases h5:Q=q*c
   ·rw[Ay (q3 h5)]; omega
   ·split<;>omega
  have v2:V<(2*q+1+1)*2^d:=by rw[hc,p2,<- hV];split<;>omega
  have lV:=Nd od (by omega) v1 v2;have hs:54<=(2*q+1).log2:=by rw[zM (by omega)]; omega
  have ee:E-(d:Int)+d=E:=by omega
  have:=MN (E:=E-d) od v1 v2 (by unfold Cp; rw[lV]; omega) (by unfold Cp; omega);rw[ee] at this;exact this
theorem YP{X Y K L:Nat}{E F:Int}(hY:0<Y)(h1:2^53<=X*2^K / Y)(h2:2^53<=X*2^L / Y)(he:E+K=F+L):
 Cu (EI X Y K) E=Cu (EI X Y L) F/\flagsOf (EI X Y K) E=flagsOf (EI X Y L) F:=by
 rcases Nat.le_total K L with h | h
 ·obtain⟨d,rfl⟩:=vO h;have:=Ss d E hY h1;rw[show E-(d:Int)=F by omega] at this;exact⟨this.1.symm,this.2.symm⟩
 ·obtain⟨d,rfl⟩:=vO h;have:=Ss d F hY h2;rw[show F-(d:Int)=E by omega] at this;exact this
theorem YQ(X Y a K:Nat):EI (X*2^a) Y K=EI X Y (K+a):=by
 unfold EI;have:X*2^a*2^K=X*2^(K+a):=by rw[A7,<- A5,xf a K]
 rw[this]
theorem Xg(X Y b K:Nat):EI X (Y*2^b) (K+b)=EI X Y K:=by
 have hp:=Cs b;unfold EI;have:X*2^(K+b)=X*2^K*2^b:=by rw[A5,A7]
 rw[this,Nat.mul_div_mul_right _ _ hp,Nat.mul_mod_mul_right]
 have:(X*2^K%Y*2^b=0)↔(X*2^K%Y=0):=by
  constructor
  ·intro h;rcases xg.1 h with h | h
   ·exact h
   ·omega
  ·intro h; rw[h,zK]
 simp only[this]
theorem Aje{X Y K t:Nat}(hX:0<X)(hY0:0<Y)(hY:Y<2^t)(hK:53+t<=K):2^53<=X*2^K / Y:=by rw[yZ hY0];have h1:2^53*Y<=2^53*2^t:=yI _ (by omega);have h2:2^(53+t)<=2^K:=Aq (by decide) hK;have h3:1*2^K<=X*2^K:=An _ (by omega);rw[A5] at h2;omega
theorem Ac6(n:Bool){X Y K:Nat}{e E:Int}{s:Bool}(hs:s=decide (X*2^K%Y≠0))(he:E=e-1)(hq:2^53<=X*2^K / Y):
 FA n (X*2^K / Y) e s=(Cq n (Cu (EI X Y K) E),flagsOf (EI X Y K) E):=by
 have e1:EI X Y K / 2^1=X*2^K / Y:=by unfold EI;split<;>omega
 have e2:decide (EI X Y K%2^1≠0)=decide (X*2^K%Y≠0):=by
  unfold EI;by_cases h:X*2^K%Y=0
  ·rw[Az h,Ag (by omega),Ag (by omega)]
  ·rw[Ay h,Ac (by omega),Ac h]
 have:=P6 n (V:=EI X Y K) (k:=1) (E:=E) (e:=e) (s:=s) (by omega) (by rw[e2]; exact hs) (by omega) (.inl (by omega));rw[e1] at this;exact this
def C0:Bf->Nat
 | []=>0
 | x::l=>x.toNat+4294967296*C0 l
def digits:Nat->Nat->Bf
 | 0,_=>[]
 | k+1,v=>((v%4294967296:Nat):Int)::digits k (v / 4294967296)
def D0(n:Nat):Nat:=if n=0 then 0 else n.log2 / 32+1
def Mp(n:Nat):Bf:=digits (D0 n) n
def Bk(v:Int):Bf:=Mp v.natAbs
def BB(v:Int):Bool:=decide (v<0)
def wv(n:Bool)(l:Bf):Int:=Gx n (C0 l)
def PN(l:Bf):Prop:=∀x∈l,0<=x/\x<4294967296
def G9(l:Bf):Bool:=Ci (l.length<1073741824/\PN l)
def HD(n:Bool)(l:Bf):Bool:=Ci (l.length<268435456/\l=Mp (C0 l)/\(n=wc->l≠[]))
def Rg(n:Bool)(l:Bf):Bool:=Ci (l.length<134217728/\l=Mp (C0 l)/\(n=wc->l≠[]))
def Ajl(k:Int):Bool:=Ci (-1000000<=k/\k<=1000000)
def Oy(k:Int):Bool:=Ci (-9223372036854775808<=k/\k<=9223372036854775807)
def Gb(l:Bf)(i:Int):Int:=if 0<=i then l.getD i.toNat 0 else 0
def HV(a b:Bf):Bf:=digits (max a.length b.length+1) (C0 a+C0 b)
def GS(a b:Bf):Bf:=digits a.length (C0 a-C0 b)
def leL(a b:Bf):Bool:=Ci (C0 a<=C0 b)
def QM(a b:Nat):Int:=if a<b then -1 else if b<a then 1 else 0
def R3(a b:Int):Int:=if a<b then -1 else if b<a then 1 else 0
def IB(v:Int)(j:Nat):Int:=Gx (BB v) (v.natAbs / 2^j)
def GI(v k:Int):Int:=if 0<=k then v*((2^k.toNat:Nat):Int) else IB v (-k).toNat
def Th(v:Int):Int:=if v=0 then 0 else (v.natAbs.log2:Int)+1
def Acv(v:Int):Bool:=decide (v%2=1)
theorem two32:2^32=4294967296:=by decide
theorem J0(k:Nat):2^(32*(k+1))=4294967296*2^(32*k):=by rw[z7,AR,A5,A0,two32]
theorem DZ:∀(k v:Nat),(digits k v).length=k
 | 0,_=>rfl
 | k+1,v=>by rw[digits,zj,DZ k]
theorem JT:∀(k v:Nat),PN (digits k v)
 | 0,_=>fun x h=>by cases h
 | k+1,v=>fun x h=>by
   rw[digits,zB] at h;rcases h with rfl | h
   ·omega
   ·exact JT k _ x h
theorem HR:∀(k v:Nat),C0 (digits k v)=v%2^(32*k)
 | 0,v=>by rw[digits,C0,yk,AG,xR]
 | k+1,v=>by rw[digits,C0,HR k,Ad,J0,Nat.mod_mul]
theorem Ij:∀{l:Bf},PN l->C0 l<2^(32*l.length)
 | [],_=>by decide
 | x::l,h=>by have h1:=h x (AY ..);have h2:=Ij (l:=l) (fun y hy=>h y (AN _ hy));rw[C0,zj,J0];omega
theorem Nq:∀{l:Bf},PN l->digits l.length (C0 l)=l
 | [],_=>rfl
 | x::l,h=>by
   have h1:=h x (AY ..);have h2:=Nq (l:=l) (fun y hy=>h y (AN _ hy));rw[C0,zj,digits];have e1:(x.toNat+4294967296*C0 l)%4294967296=x.toNat:=by omega
   have e2:(x.toNat+4294967296*C0 l) / 4294967296=C0 l:=by omega
   rw[e1,e2,h2];congr 1;omega
theorem It(n:Nat):n<2^(32*D0 n):=by
 unfold D0;by_cases h:n=0
 ·rw[Az h,h]; decide
 ·rw[Ay h];exact AU yv (Aq (by decide) (by omega))
theorem Ja{n k:Nat}(h:n<2^(32*k)):D0 n<=k:=by
 unfold D0;by_cases h0:n=0
 ·rw[Az h0]; exact zl _
 ·rw[Ay h0];have:=(AZ h0).2 h;omega
theorem Ah7{n k:Nat}(h:2^(32*k)<=n):k+1<=D0 n:=by have hp:=Cs (32*k);unfold D0;rw[Ay (by omega)];have:=(zM (by omega)).2 h;omega
theorem JS{n m:Nat}(h:n<=m):D0 n<=D0 m:=Ja (AK h (It m))
theorem O5(n:Nat):C0 (Mp n)=n:=by unfold Mp;rw[HR,Ao (It n)]
theorem FG(n:Nat):(Mp n).length=D0 n:=DZ _ _
theorem XS(n:Nat):PN (Mp n):=JT _ _
theorem T4:∀(k v i:Nat),i<k->(digits k v).getD i 0=((v / 2^(32*i)%4294967296:Nat):Int)
 | k+1,v,0,_=>by rw[digits,List.getD_cons_zero,yk,AG,yE]
 | k+1,v,i+1,h=>by rw[digits,List.getD_cons_succ,T4 k _ i (by omega),J0,A9]
theorem KK{l:Bf}(h:PN l)(i:Nat):l.getD i 0=((C0 l / 2^(32*i)%4294967296:Nat):Int):=by
 by_cases hi:i<l.length
 ·have:=T4 l.length (C0 l) i hi;rw[Nq h] at this;exact this
 ·have h1:=Ij h;have h2:2^(32*l.length)<=2^(32*i):=Aq (by decide) (by omega);rw[yd (by omega),Al,Bb (by omega)];rfl
theorem Gs{l:Bf}(h:PN l)(i:Nat):Gb l (i:Int)=((C0 l / 2^(32*i)%4294967296:Nat):Int):=by unfold Gb;rw[Az (by omega),Ad,KK h]
theorem Ic:∀(k v:Nat),digits (k+1) v=digits k v++[((v / 2^(32*k)%4294967296:Nat):Int)]
 | 0,v=>by rw[digits,digits,digits,yk,AG,yE]; rfl
 | k+1,v=>by rw[digits,Ic k,J0,<- A9];rfl
theorem Rn:∀(j k v:Nat),j<=k->(digits k v).take j=digits j v
 | 0,_,_,_=>by rw[List.take_zero,digits]
 | j+1,k+1,v,h=>by rw[digits,List.take_succ_cons,Rn j k _ (by omega),digits]
theorem ZF{l:Bf}(h:PN l):l.take (D0 (C0 l))=Mp (C0 l):=by have h1:=Rn (D0 (C0 l)) l.length (C0 l) (Ja (Ij h));rw[Nq h] at h1;exact h1
theorem H6{n:Nat}(h:n≠0):0<D0 n:=by unfold D0; rw[Ay h]; omega
theorem EB(v:Int):wv (BB v) (Bk v)=v:=by
 unfold wv BB Bk Gx;rw[O5];by_cases h:v<0
 ·rw[Ac h,Az rfl]; omega
 ·rw[Ag h,Ay (by decide)]; omega
theorem Ip{l:Bf}(h:l.length<1073741824)(hi:PN l):G9 l=wc:=Bv.2 ⟨h,hi⟩
theorem Iq{l:Bf}(h:G9 l=wc):l.length<1073741824/\PN l:=Bv.1 h
theorem T8(v:Int):Bk v=Mp (C0 (Bk v))/\(BB v=wc->Bk v≠[]):=by unfold Bk;rw[O5];refine⟨rfl,fun h e=>?_⟩;have h1:v<0:=A6 h;have h2:=FG v.natAbs;rw[e] at h2;have:=H6 (n:=v.natAbs) (by omega);rw[<- h2] at this;exact absurd this (by decide)
theorem Gq{v:Int}(h:D0 v.natAbs<268435456):HD (BB v) (Bk v)=wc :=Bv.2 ⟨by unfold Bk; rw[FG]; exact h,T8 v⟩
theorem Zq{v:Int}(h:D0 v.natAbs<134217728):Rg (BB v) (Bk v)=wc :=Bv.2 ⟨by unfold Bk; rw[FG]; exact h,T8 v⟩
theorem QO{n:Bool}{l:Bf}(h1:l=Mp (C0 l))(h2:n=wc->l≠[]):n=BB (wv n l)/\l=Bk (wv n l):=by
 have e:(wv n l).natAbs=C0 l:=by unfold wv Gx; split<;>omega
 refine⟨?_,by unfold Bk; rw[e]; exact h1⟩;unfold BB wv Gx;cases n
 ·simp
 ·have h3:=h2 rfl
  have h4:C0 l≠0:=fun h=>by rw[h] at h1;exact h3 h1
  simp; omega
theorem HC{n:Bool}{l:Bf}(h:HD n l=wc):∃v,n=BB v/\l=Bk v/\D0 v.natAbs<268435456:=by obtain⟨h0,h1,h2⟩:=Bv.1 h;obtain⟨e1,e2⟩:=QO h1 h2;refine⟨_,e1,e2,?_⟩;have:=congrArg wj e2;unfold Bk at this;rw[FG] at this;omega
theorem LM{n:Bool}{l:Bf}(h:Rg n l=wc):∃v,n=BB v/\l=Bk v/\D0 v.natAbs<134217728:=by obtain⟨h0,h1,h2⟩:=Bv.1 h;obtain⟨e1,e2⟩:=QO h1 h2;refine⟨_,e1,e2,?_⟩;have:=congrArg wj e2;unfold Bk at this;rw[FG] at this;omega
theorem Lr{v:Int}(h:D0 v.natAbs<1073741824):G9 (Bk v)=wc :=Ip (by unfold Bk; rw[FG]; exact h) (XS _)
theorem DQ(v:Int):C0 (Bk v)=v.natAbs:=O5 _
theorem CE(v:Int):(Bk v).length=D0 v.natAbs:=FG _
theorem Ai9(n:Bool)(l:Bf):wv (!n) l=- wv n l:=by unfold wv Gx;cases n<;>simp
theorem UC{a b:Bf}(ha:PN a)(hb:PN b):C0 (HV a b)=C0 a+C0 b:=by unfold HV;rw[HR,Ao];have h1:=Ij ha;have h2:=Ij hb;have h3:2^(32*a.length)<=2^(32*max a.length b.length):=Aq (by decide) (by omega);have h4:2^(32*b.length)<=2^(32*max a.length b.length):=Aq (by decide) (by omega);rw[J0];omega
theorem LG(a b:Bf):(HV a b).length=max a.length b.length+1:=DZ _ _
theorem SH(a b:Bf):PN (HV a b):=JT _ _
theorem Z7{a:Bf}(b:Bf)(ha:PN a):C0 (GS a b)=C0 a-C0 b:=by unfold GS;rw[HR,Ao];have h1:=Ij ha;omega
theorem Ov(a b:Bf):(GS a b).length=a.length:=DZ _ _
theorem UK(a b:Bf):PN (GS a b):=JT _ _
theorem JA(v:Int)(j:Nat):(IB v j).natAbs=v.natAbs / 2^j:=by unfold IB;generalize v.natAbs / 2^j=m;unfold Gx; split<;>omega
theorem NF{v:Int}(h:v<0)(m:Nat):Gx (BB v) m=-(m:Int):=by unfold Gx BB; rw[Ac h,Az rfl]
theorem ND{v:Int}(h:¬v<0)(m:Nat):Gx (BB v) m=(m:Int):=by unfold Gx BB; rw[Ag h,Ay (by decide)]
theorem VG(v:Int)(i j:Nat):IB (IB v i) j=IB v (i+j):=by
 have e:v.natAbs / 2^(i+j)=v.natAbs / 2^i / 2^j:=by rw[A5,A9]
 have h1:=JA v i;by_cases hv:v<0
 ·have h2:IB v i=-((v.natAbs / 2^i:Nat):Int):=NF hv _;rw[show IB v (i+j)=-((v.natAbs / 2^(i+j):Nat):Int) from NF hv _,e];by_cases h0:v.natAbs / 2^i=0
  ·rw[h2,h0];show IB 0 j=_;rw[xl];show Gx (BB 0) (0 / 2^j)=_;rw[xl]; rfl
  ·have h3:IB v i<0:=by omega
   rw[show IB (IB v i) j=-(((IB v i).natAbs / 2^j:Nat):Int) from NF h3 _,h1]
 ·have h2:IB v i=((v.natAbs / 2^i:Nat):Int):=ND hv _;have h3:¬IB v i<0:=by omega
  rw[show IB (IB v i) j=(((IB v i).natAbs / 2^j:Nat):Int) from ND h3 _,h1,show IB v (i+j)=((v.natAbs / 2^(i+j):Nat):Int) from ND hv _,e]
theorem Xs(v:Int):IB v 0=v:=by
 unfold IB Gx BB;rw[AG,yE];by_cases h:v<0
 ·rw[Ac h,Az rfl]; omega
 ·rw[Ag h,Ay (by decide)]; omega
theorem NC(j:Nat):IB 0 j=0:=by unfold IB;rw[show(Int.natAbs 0)=0 from rfl,xl];rfl
theorem Ab8{l:Bf}(h:PN l):C0 (l.drop 1)=C0 l / 4294967296:=by
 cases l with
 | nil=>rfl
 | cons x l =>have:=h x (AY ..);show C0 l=_;rw[C0]; omega
theorem Ye{l:Bf}(h:PN l):PN (l.drop 1):=fun x hx=>h x (List.mem_of_mem_drop hx)
theorem Yd{l:Bf}(h:PN l):PN ([(0:Int)]++l):=fun x hx=>by
 rcases zB.1 hx with rfl | hx
 ·omega
 ·exact h x hx
theorem Afm(n:Nat):D0 (2*n)<=D0 n+1:=by refine Ja ?_;have h:=It n;rw[J0];omega
theorem Ah6(n:Nat):D0 (n*4294967296)<=D0 n+1:=by refine Ja ?_;have h:=It n;rw[J0];omega
theorem XO{n m:Nat}(h:2^m<=n):(n / 2^m).log2+m=n.log2:=by
 have hp:=Cs m;have h0:n≠0:=by omega
 have hm:m<=n.log2:=(zM h0).2 h
 have e:(n / 2^m).log2=n.log2-m:=by
  refine RV ?_ ?_
  ·rw[yZ hp,<- A5];exact AP (Aq (by decide) (by omega)) (zY h0)
  ·rw[yw hp,<- A5];exact AU yv (Aq (by decide) (by omega))
 omega
def N6(n:Nat):Nat:=if h:n=0\/n%2=1 then 0 else N6 (n / 2)+1
termination_by n
decreasing_by omega
def mD(v:Int):Int:=IB v (N6 v.natAbs)
def eD(v e:Int):Int:=if v=0 then 0 else e+N6 v.natAbs
def Dz(v e w f:Int):Int:=if v=0 then f else if w=0 then e else min e f
def Aaq(v e w f:Int):Int:=GI v (e-Dz v e w f)+GI w (f-Dz v e w f)
def K6(v e w f:Int):Int:=mD (Aaq v e w f)
def Y6(v e w f:Int):Int:=eD (Aaq v e w f) (Dz v e w f)
def GM(v e:Int):Int:=if v=0 then 0 else Th v+e
def Kz(v:Int):Int:=if v<0 then -1 else if v=0 then 0 else 1
def R4(v e w f:Int):Int:=R3 (GI v (e-Dz v e w f)) (GI w (f-Dz v e w f))
def OK(e:Int):Bool:=Ci (-2000000<=e/\e<=2000000)
def Ms(e:Int):Bool:=Ci (-400000<=e/\e<=400000)
def Acu(v e f:Int):Bool:=Ci (v=0\/(-1000000<=e-f/\e-f<=1000000))&&Ci (-400000<=e/\e<=400000/\-1000000<=f/\f<=1000000)
theorem YJ{n:Nat}(h:n=0\/n%2=1):N6 n=0:=by rw[N6,dif_pos h]
theorem Aa5{n:Nat}(h0:n≠0)(h:n%2=0):N6 n=N6 (n / 2)+1:=by rw[N6,dif_neg (by omega)]
theorem V1{n:Nat}(h:n≠0):∀k,N6 (n*2^k)=k+N6 n
 | 0=>by rw[AG,AR,AS]
 | k+1=>by
   have hp:=Cs k
   have h1:n*2^k≠0:=by intro e;rcases xg.1 e with e | e<;>omega
   have e:n*2^(k+1)=n*2^k*2:=by rw[zD,A7]
   rw[e,Aa5 (by omega) (by omega),xW _ (by decide),V1 h k];omega
theorem Aa4(n:Nat)(h:n≠0):∃m,n=m*2^N6 n/\m%2=1:=by
 induction n using Nat.strongRecOn with
 | _ n ih =>
   by_cases h2:n%2=1
   ·refine⟨n,?_,h2⟩;rw[YJ (.inr h2),AG,AR]
   ·obtain⟨m,h3,h4⟩:=ih (n / 2) (by omega) (by omega);refine⟨m,?_,h4⟩;rw[Aa5 h (by omega),zD,<- A7,<- h3];omega
theorem AdK{n:Nat}(h:n≠0):N6 n<=n.log2:=by obtain⟨m,h1,h2⟩:=Aa4 n h;refine(zM h).2 ?_;have:1*2^N6 n<=m*2^N6 n:=An _ (by omega);omega
theorem UM{n:Nat}:n.log2<32*D0 n+1:=by
 unfold D0;by_cases h:n=0
 ·rw[h]; decide
 ·rw[Ay h]; omega
theorem ZA{v:Int}{k:Nat}(h:v.natAbs%2^k=0):mD (IB v k)=mD v:=by
 unfold mD;by_cases h0:v=0
 ·rw[h0,NC]
 ·have hp:=Cs k;have hv:=zC v.natAbs (2^k);rw[h,AQ,A0] at hv
  have hq:v.natAbs / 2^k≠0:=by intro e; rw[e] at hv; omega
  have:=V1 hq k;rw[hv] at this;rw[JA,VG,this]
theorem ZS{v e:Int}{k:Nat}(h:v.natAbs%2^k=0)(h0:v≠0):eD (IB v k) (e+k)=eD v e:=by
 unfold eD;have hp:=Cs k;have hv:=zC v.natAbs (2^k);rw[h,AQ,A0] at hv
 have hq:v.natAbs / 2^k≠0:=by intro e; rw[e] at hv; omega
 have ht:=V1 hq k;rw[hv] at ht;have ha:=JA v k;rw[Ay h0,Ay (by omega),ha,ht];omega
theorem Ajs{v:Int}(h:v%2=1):mD v=v:=by unfold mD;rw[YJ (.inr (by omega)),Xs]
theorem AjD{v:Int}(h:v%2=1)(e:Int):eD v e=e:=by unfold eD;rw[YJ (.inr (by omega)),Ay (by omega)];omega
theorem AaF(v:Int)(k:Nat):IB (v*((2^k:Nat):Int)) k=v:=by
 have hp:=Cs k;unfold IB;rw[yj,zS,xW _ hp];by_cases h:v<0
 ·have h1:v*((2^k:Nat):Int)<0:=wK h (by omega);rw[NF h1]; omega
 ·have h1:¬v*((2^k:Nat):Int)<0:=by have:=xS (show(0:Int)<=v by omega) (xi (2^k));omega
  rw[ND h1]; omega
theorem P7(v:Int)(k:Nat):(v*((2^k:Nat):Int)).natAbs%2^k=0:=by rw[yj,zS,Nat.mul_mod_left]
theorem Ajt(v:Int)(k:Nat):mD (v*((2^k:Nat):Int))=mD v:=by rw[<- ZA (P7 v k),AaF]
theorem Zy{v:Int}(h:v≠0)(k:Nat):v*((2^k:Nat):Int)≠0:=by
 have hp:=Cs k;intro e;rcases Int.mul_eq_zero.1 e with e | e
 ·exact h e
 ·omega
theorem AjE(v e:Int)(k:Nat):eD (v*((2^k:Nat):Int)) (e-k)=eD v e:=by
 by_cases h:v=0
 ·rw[h,ym]; rfl
 ·rw[<- ZS (P7 v k) (Zy h k),AaF];congr 1;omega
theorem RT(v:Int):v=mD v*((2^N6 v.natAbs:Nat):Int):=by
 by_cases h:v=0
 ·rw[h];show(0:Int)=IB 0 _*_;rw[NC,ym]
 ·obtain⟨m,h1,h2⟩:=Aa4 v.natAbs (by omega);have hp:=Cs (N6 v.natAbs);have hq:v.natAbs / 2^N6 v.natAbs=m:=Nat.div_eq_of_eq_mul_left hp h1;unfold mD IB;rw[hq];by_cases hv:v<0
  ·rw[NF hv,xT,<- Ax,<- h1]; omega
  ·rw[ND hv,<- Ax,<- h1]; omega
theorem KH{v:Int}:mD v=0↔v=0:=by
 constructor
 ·intro h;have:=RT v;rw[h,ym] at this;exact this
 ·intro h;rw[h];exact NC _
theorem QC(v:Int):(mD v).natAbs<=v.natAbs:=by unfold mD;rw[JA];exact Nat.div_le_self _ _
def WN(v e g:Int):Int:=v*((2^(e-g).toNat:Nat):Int)
theorem Hz(e g:Int):WN 0 e g=0:=ym _
theorem Uk{v e g h:Int}(h1:h<=e)(h2:g<=h):WN v e g=WN v e h*((2^(h-g).toNat:Nat):Int):=by
 unfold WN;rw[Int.mul_assoc,<- Ax,<- A5];have:(e-h).toNat+(h-g).toNat=(e-g).toNat:=by omega
 rw[this]
theorem VF{v e l:Int}(h:v≠0->l<=e):GI v (e-l)=WN v e l:=by
 by_cases h0:v=0
 ·rw[h0,Hz];unfold GI;split
  ·exact ym _
  ·exact NC _
 ·unfold GI WN;rw[Az (by have:=h h0; omega)]
theorem Afe{v e w f:Int}:(v≠0->Dz v e w f<=e)/\(w≠0->Dz v e w f<=f):=by
 unfold Dz;constructor
 ·intro h;rw[Ay h];split<;>omega
 ·intro h;split
  ·omega
  ·omega
theorem Age(x y:Int)(k:Nat):R3 (x*((2^k:Nat):Int)) (y*((2^k:Nat):Int))=R3 x y:=by have hp:=Cs k;have h1:x*((2^k:Nat):Int)<y*((2^k:Nat):Int)↔x<y:=vP (by omega);have h2:y*((2^k:Nat):Int)<x*((2^k:Nat):Int)↔y<x:=vP (by omega);unfold R3;simp only[h1,h2]
theorem AhU{v e w f g:Int}(h1:v≠0->g<=e)(h2:w≠0->g<=f):R4 v e w f=R3 (WN v e g) (WN w f g):=by
 obtain⟨l1,l2⟩:=Afe (v:=v) (e:=e) (w:=w) (f:=f);unfold R4;rw[VF l1,VF l2];by_cases h0:v=0/\w=0
 ·rw[h0.1,h0.2,Hz,Hz,Hz,Hz]
 ·have hg:g<=Dz v e w f:=by
   unfold Dz;split
   ·rename_i hv;exact h2 (fun k=>h0 ⟨hv,k⟩)
   ·split
    ·exact h1 (by assumption)
    ·have:=h1 (by assumption); have:=h2 (by assumption); omega
  have e1:WN v e g=WN v e (Dz v e w f)*((2^(Dz v e w f-g).toNat:Nat):Int):=by
   by_cases h0:v=0
   ·rw[h0,Hz,Hz,ym]
   ·exact Uk (l1 h0) hg
  have e2:WN w f g=WN w f (Dz v e w f)*((2^(Dz v e w f-g).toNat:Nat):Int):=by
   by_cases h0:w=0
   ·rw[h0,Hz,Hz,ym]
   ·exact Uk (l2 h0) hg
  rw[e1,e2,Age]
def Bq(l:Bf):Bool:=Ci (∀x∈l,Br x=wc)
def Gj(x:Int):Int:=Gx (Ce x.toNat) (Bx x.toNat)
def Oo(n:Bool)(b:Int):Int:=if n then Cy b else b
theorem O4(s:Bool){q:Nat}{L:Int}(hq:q<2^53)(hL:-1074<=L)(h:2^52<=q\/L=-1074)(hr:(L+1074).toNat*2^52+q<Er):
 Bx (Cq s ((L+1074).toNat*2^52+q))=q/\B6 (Cq s ((L+1074).toNat*2^52+q))=L:=by
 rw[Ex] at hr;obtain⟨t,ht⟩:∃t:Nat,L=t-1074:=⟨(L+1074).toNat,by omega⟩
 have et:(L+1074).toNat=t:=by omega
 rw[et] at hr ⊢;have hp:=Q1 s (r:=t*2^52+q) (by omega);have hf:=OT s (t*2^52+q);unfold Bx B6;by_cases h52:2^52<=q
 ·have e1:DH (Cq s (t*2^52+q))=t+1:=by rw[hp]; omega
  rw[e1,hf,Ay (by omega),Ay (by omega)];omega
 ·have t0:t=0:=by omega
  subst t0;have e1:DH (Cq s (0*2^52+q))=0:=by rw[hp]; omega
  rw[e1,hf,Az rfl,Az rfl];omega
theorem sign_neg(s:Bool){r:Nat}(h:r<2^63):Ce (Cq s r)=s:=by
 unfold Ce Cq;cases s
 ·simp only[zT,if_false,Av]; omega
 ·simp only[if_true,Ai]; omega
theorem ZQ(s:Bool){V:Nat}{E:Int}(h0:V≠0)(hE:Cp V E<=E)(hi:Cu V E<Er):
 flagsOf V E=0/\∃k:Nat,Bx (Cq s (Cu V E))=V*2^k/\B6 (Cq s (Cu V E))=E-k:=by
 have hl2:V.log2=V.log2:=rfl
 have ek:kept V E=V*2^(E-Cp V E).toNat:=by
  unfold kept H4;have e1:(Cp V E-E).toNat=0:=by omega
  have e2:(-(Cp V E-E)).toNat=(E-Cp V E).toNat:=by omega
  rw[e1,e2,JP]
 have eex:exact V E=wc:=by
  unfold exact JV;have e1:(Cp V E-E).toNat=0:=by omega
  rw[e1,AG,xR]; rfl
 constructor
 ·unfold flagsOf flags;rw[Ay h0,Ay (by omega),eex]; rfl
 ·have hr:Cu V E=(Cp V E+1074).toNat*2^52+kept V E:=by unfold Cu at hi ⊢;rw[Ay h0] at hi ⊢;omega
  have hk:kept V E<2^53:=by rw[ek,<- AZ (HL h0),Kk V _ h0];unfold Cp at hE ⊢;omega
  have hb:2^52<=kept V E\/Cp V E=-1074:=by
   by_cases h:Cp V E=-1074
   ·exact .inr h
   ·left;refine Wi h0 ?_;unfold Cp at h ⊢;omega
  rw[hr] at hi;obtain⟨p1,p2⟩:=O4 s hk (by unfold Cp; omega) hb hi;refine⟨(E-Cp V E).toNat,?_,?_⟩
  ·rw[hr,p1,ek]
  ·rw[hr,p2]; omega
theorem XY{V:Nat}{E:Int}(h:V<2^53)(hE:-1074<=E):Cp V E<=E:=by
 by_cases h0:V=0
 ·subst h0; unfold Cp; rw[Nat.log2_zero]; omega
 ·have:=(AZ h0).2 h;unfold Cp; omega
def EA(x:Int):Int:=if x=0 then 0 else (x.toNat.log2:Int)+1
def Ou(x y:Int):Int:=((x.toNat*y.toNat / 18446744073709551616:Nat):Int)
def KG(x y:Int):Int:=((x.toNat*y.toNat%18446744073709551616:Nat):Int)
def AeW(a b:Int):Bool:=decide (BF a=4)||decide (BF b=4)
def C9(b:Nat):Nat:=52-(Bx b).log2
def Di(b:Int):Int:=((Bx b.toNat*2^C9 b.toNat:Nat):Int)
def Gn(b:Int):Int:=B6 b.toNat-C9 b.toNat
def JG(b:Int):Bool:=Ci (Bx b.toNat≠0)
def L9(m e:Int):Bool:=Ci (1152921504606846976<=m/\m<4611686018427387904/\-6000<=e/\e<=6000)
def Cx(a b:Int):Int:=(Ee a.toNat b.toNat).1
def Alp(a b:Int):Int:=(Ee a.toNat b.toNat).2
def EV(a b:Int):Int:=(K5 a.toNat b.toNat).1
def Al0(a b:Int):Int:=(K5 a.toNat b.toNat).2
def Afz(x:Int):Bool:=Ci (0<=x/\x<4294967296)
def singleL(l:Bf)(x:Int):Bf:=digits (l.length+1) (C0 l*x.toNat)
def okM(n:Bool)(l:Bf):Bool:=Ci (l.length<33554432/\l=Mp (C0 l)/\(n=wc->l≠[]))
theorem Adr(a b:Nat):DS a b=DS b a:=by
 unfold DS;by_cases ha:Bn a=4
 ·simp only[ha,true_or,or_true,if_true]
 ·by_cases hb:Bn b=4
  ·simp only[hb,true_or,or_true,if_true]
  ·simp only[ha,hb,or_self,if_false];by_cases ha3:Bn a=3
   ·by_cases hb3:Bn b=3
    ·simp only[ha3,hb3,if_true,true_and];by_cases e:a=b
     ·subst e; rfl
     ·rw[Az e,Az (fun h=>e h.symm)]
    ·simp only[ha3,hb3,if_true,if_false,false_and]
   ·by_cases hb3:Bn b=3
    ·simp only[ha3,hb3,if_true,if_false,false_and]
    ·simp only[ha3,hb3,if_false];rw[Bool.and_comm,Int.min_comm,Int.add_comm]
theorem Xz{Y D:Nat}(h:Y%2^D=0):Fm Y D=Y / 2^D:=by unfold Fm; rw[Az h]
theorem Zh{Y D:Nat}(h:Y%2^D≠0):Fm Y D%2=1:=by unfold Fm; rw[Ay h]; omega
theorem X0{Y d:Nat}(hY:Y<2^62)(h:Y%2^d≠0):(Fm Y (min d 63)-1)*2^d<Y/\Y<(Fm Y (min d 63)+1)*2^d/\Fm Y (min d 63)%2=1:=by
 have hA:=Cs d;by_cases hd:d<=63
 ·rw[yq hd];refine⟨?_,?_,Zh h⟩
  all_goals
   unfold Fm;rw[Ay h];have h1:=zC Y (2^d);have h2:=zt Y hA;generalize Y / 2^d=q at *
   generalize Y%2^d=r at *
   generalize 2^d=c at *
   rw[A0] at h1
  ·have h3:(2*(q / 2)+1-1)*c<=q*c:=An c (by omega);omega
  ·have h3:(q+1)*c<=(2*(q / 2)+1+1)*c:=An c (by omega);rw[AM,zv] at h3;omega
 ·rw[xO (by omega)];have h63:Y%2^63=Y:=Ao (by omega);have hd0:Y / 2^63=0:=yd (by omega);have hY0:Y≠0:=by intro e; rw[e] at h; simp at h
  have hr:Fm Y 63=1:=by unfold Fm; rw[h63,Ay hY0,hd0]
  have hp:2^62<=2^d:=Aq (by decide) (by omega);rw[hr];refine⟨by simp; omega,by omega,rfl⟩
theorem AmF{d M:Nat}(h:(M*2^9)%2^d≠0):10<=d:=by
 refine Nat.lt_of_not_le fun hle=>h ?_
 obtain⟨k,hk⟩:∃k,9=d+k:=⟨9-d,by omega⟩
 rw[hk,A5,A0 (2^d),<- A7,Nat.mul_mod_left]
theorem L8{V m d:Nat}{e f:Int}(hd:e=f+d)(h:V=m*2^d\/(m%2=1/\(m-1)*2^d<V/\V<(m+1)*2^d/\2^60<=m)):
 Cu m (e-9)=Cu V (f-9)/\flagsOf m (e-9)=flagsOf V (f-9):=by
 rcases h with rfl | ⟨h1,h2,h3,h4⟩
 ·have:=D2 m d (e-9);have e1:e-9-(d:Int)=f-9:=by omega
  rw[e1] at this;exact⟨this.1.symm,this.2.symm⟩
 ·have hm0:m≠0:=by omega
  have hlog:=Nd h1 (by omega) h2 h3;have hl60:60<=m.log2:=(zM hm0).2 h4;have e1:f-9+(d:Int)=e-9:=by omega
  have hle:Cp V (f-9)=Cp m (f-9+d):=by unfold Cp; rw[hlog]; congr 1; omega
  have hk:f-9+d+2<=Cp m (f-9+d):=by unfold Cp; omega
  obtain⟨a1,a2⟩:=MN h1 h2 h3 hle hk;rw[e1] at a1 a2;exact⟨a1.symm,a2.symm⟩
theorem YY(V:Nat)(f:Int):Cu (V*2^9) (f-9)=Cu V f/\flagsOf (V*2^9) (f-9)=flagsOf V f:=D2 V 9 f
structure Ait(Mx My d:Nat)(e f:Int)(X r:Nat):Prop where
 plus:Cu (X+r) (e-9)=Cu (Mx*2^d+My) f/\flagsOf (X+r) (e-9)=flagsOf (Mx*2^d+My) f
 less:r<X->My<Mx*2^d/\Cu (X-r) (e-9)=Cu (Mx*2^d-My) f/\flagsOf (X-r) (e-9)=flagsOf (Mx*2^d-My) f
 Mt:X<r->Mx*2^d<My/\Cu (r-X) (e-9)=Cu (My-Mx*2^d) f/\flagsOf (r-X) (e-9)=flagsOf (My-Mx*2^d) f
 same:X=r->Mx*2^d=My
 small:r<=2^62
theorem Ain{X My r d p:Nat}{e f:Int}(hd:e=f+d)(comm:X*2^d=p*2^9)(n1:(r-1)*2^d<My*2^9)(n2:My*2^9<r*2^d+2^d)(n3:r%2=1)(hX2:X%2=0)(hX:2^61<=X)(hr:r<=2^53):
 (Cu (X+r) (e-9)=Cu (p+My) f/\flagsOf (X+r) (e-9)=flagsOf (p+My) f)/\My<p/\Cu (X-r) (e-9)=Cu (p-My) f/\flagsOf (X-r) (e-9)=flagsOf (p-My) f:=by
 have e1:(r-1)*2^d+2^d=r*2^d:=by
  obtain⟨k,rfl⟩:∃k,r=k+1:=⟨r-1,by omega⟩
  rw[yC,AM,zv]
 have e2:(r+1)*2^d=r*2^d+2^d:=by rw[AM,zv]
 have hXd:(r+1)*2^d<=X*2^d:=An _ (by omega);have hlt:My<p:=by rw[e2,comm] at hXd; omega
 have a1:Cu (X+r) (e-9)=Cu ((p+My)*2^9) (f-9)/\flagsOf (X+r) (e-9)=flagsOf ((p+My)*2^9) (f-9):=by
  refine L8 hd (.inr ⟨by omega,?_,?_,by omega⟩)
  ·have h1:X+r-1=X+(r-1):=by omega
   rw[h1,AM X (r-1) (2^d),AM p My (2^9),comm];exact vS n1 _
  ·have h1:X+r+1=X+(r+1):=by omega
   rw[h1,AM X (r+1) (2^d),AM p My (2^9),comm,e2];exact vS n2 _
 have a2:Cu (X-r) (e-9)=Cu ((p-My)*2^9) (f-9)/\flagsOf (X-r) (e-9)=flagsOf ((p-My)*2^9) (f-9):=by
  rw[e2,comm] at hXd;refine L8 hd (.inr ⟨by omega,?_,?_,by omega⟩)
  ·have h1:X-r-1=X-(r+1):=by omega
   rw[h1,yf X (r+1) (2^d),yf p My (2^9),comm,e2];omega
  ·have h1:X-r+1=X-(r-1):=by omega
   rw[h1,yf X (r-1) (2^d),yf p My (2^9),comm];omega
 rw[(YY _ f).1,(YY _ f).2] at a1 a2;exact⟨a1,hlt,a2⟩
theorem Y4{Mx My d:Nat}{e f:Int}(hd:e=f+d)(hx:Mx<2^53)(hy:My<2^53)(hbig:10<=d->2^52<=Mx):
 Ait Mx My d e f (Mx*2^9) (Fm (My*2^9) (min d 63)):=by
 have hA:=Cs d;have hY:My*2^9<2^62:=by omega
 have comm:Mx*2^9*2^d=Mx*2^d*2^9:=by rw[A7,A0 (2^9),<- A7]
 have s9:=fun V=>YY V f
 by_cases hz:(My*2^9)%2^d=0
 ·
  have hr:∃r,Fm (My*2^9) (min d 63)=r/\My*2^9=r*2^d:=by
   by_cases hd63:d<=63
   ·rw[yq hd63];exact⟨_,rfl,by rw[Xz hz]; exact(Nat.div_mul_cancel (vM hz)).symm⟩
   ·have hp:2^62<=2^d:=Aq (by decide) (by omega);have:My*2^9=0:=by rw[Ao (by omega)] at hz; exact hz
    rw[xO (by omega),this];exact⟨0,by decide,by omega⟩
  obtain⟨r,hr,hYr⟩:=hr;rw[hr]
  have hle:r<=2^62:=by have:r*1<=r*2^d:=yI r hA;omega
  have cmp:∀x y:Nat,x*2^d<y*2^d↔x<y:=fun x y=>xh hA
  refine⟨?_,fun h=>?_,fun h=>?_,fun h=>?_,hle⟩
  ·rw[<- (s9 _).1,<- (s9 _).2];exact L8 hd (.inl (by rw[AM (Mx*2^d) My (2^9),AM (Mx*2^9) r (2^d),comm,hYr]))
  ·have h1:=(cmp r (Mx*2^9)).2 h;refine⟨by omega,?_⟩;rw[<- (s9 _).1,<- (s9 _).2];exact L8 hd (.inl (by first | rw[yf (Mx*2^d) My (2^9),yf (Mx*2^9) r (2^d),comm,hYr] | rw[yf My (Mx*2^d) (2^9),yf r (Mx*2^9) (2^d),comm,hYr]))
  ·have h1:=(cmp (Mx*2^9) r).2 h;refine⟨by omega,?_⟩;rw[<- (s9 _).1,<- (s9 _).2];exact L8 hd (.inl (by first | rw[yf (Mx*2^d) My (2^9),yf (Mx*2^9) r (2^d),comm,hYr] | rw[yf My (Mx*2^d) (2^9),yf r (Mx*2^9) (2^d),comm,hYr]))
  ·rw[<- h] at hYr;omega
 ·
  have hd10:=AmF hz;have hMx:=hbig hd10;obtain⟨n1,n2,n3⟩:=X0 hY hz
  have hrle:Fm (My*2^9) (min d 63)<=2^53:=by
   refine Nat.le_of_not_lt fun h=>?_
   have h1:2^53*2^d<=(Fm (My*2^9) (min d 63)-1)*2^d:=An _ (by omega);have h2:2^10<=2^d:=Aq (by decide) hd10;have h3:2^53*2^10<=2^53*2^d:=yI _ h2;omega
  generalize Fm (My*2^9) (min d 63)=r at *
  have hr1:1<=r:=by omega
  have e1:(r-1)*2^d+2^d=r*2^d:=by
   obtain⟨k,rfl⟩:∃k,r=k+1:=⟨r-1,by omega⟩
   rw[yC,AM,zv]
  have e2:(r+1)*2^d=r*2^d+2^d:=by rw[AM,zv]
  rw[e2] at n2;have hXr:r<Mx*2^9:=by omega
  have hXd:(r+1)*2^d<=Mx*2^9*2^d:=An _ (by omega);rw[e2,comm] at hXd;obtain⟨p1,p2,p3⟩:=Ain hd comm n1 n2 n3 (by omega) (by omega) hrle;exact⟨p1,fun _=>⟨p2,p3⟩,fun h=>by omega,fun h=>by omega,by omega⟩
theorem Ri(n:Bool)(m:Nat)(e:Int):FA n m e wh=(Cq n (Cu m e),flagsOf m e):=by
 unfold FA;have:=D2 m 2 e;have e1:m*2^2=4*m+false.toNat:=by simp; omega
 have e2:e-((2:Nat):Int)=e-2:=by omega
 rw[e1,e2] at this;rw[this.1,this.2]
theorem U4(E:Int):Cu 0 E=0:=Az rfl
theorem PQ(E:Int):flagsOf 0 E=0:=Az rfl
theorem H8{b:Nat}(h:GJ b=wc):Bn b≠4/\Bn b≠3:=by
 unfold GJ at h;simp only[Ai] at h;unfold Bn;rw[Ay (by omega)];split
 ·omega
 ·split<;>omega
theorem UF{b:Nat}(h:-1064<=B6 b):2^52<=Bx b:=by
 unfold B6 at h;unfold Bx;split at h
 ·omega
 ·rw[Ay (by assumption)]; omega
theorem OF(z:Nat)(s:Bool){V:Nat}(hV:V≠0)(f:Int):HK z (Gx s V) f=(Cq s (Cu V f),flagsOf V f):=by
 unfold HK Gx;cases s
 ·have h1:¬(V:Int)=0:=by omega
  have h2:¬(V:Int)<0:=by omega
  simp only[zT,if_false,h1,h2,decide_false,zS]
 ·have h1:¬-(V:Int)=0:=by omega
  have h2:-(V:Int)<0:=by omega
  simp only[if_true,h1,if_false,h2,decide_true,xm,zS]
theorem Aip{p q X r:Nat}{e f:Int}(s t:Bool)
 (plus:Cu (X+r) e=Cu (p+q) f/\flagsOf (X+r) e=flagsOf (p+q) f)
 (less:r<X->q<p/\Cu (X-r) e=Cu (p-q) f/\flagsOf (X-r) e=flagsOf (p-q) f)
 (Mt:X<r->p<q/\Cu (r-X) e=Cu (q-p) f/\flagsOf (r-X) e=flagsOf (q-p) f)
 (same:X=r->p=q):
 HK (Cq (s&&t) 0) (Gx s p+Gx t q) f=(if s=t then FA s (X+r) e wh
  else if r<X then FA s (X-r) e wh
  else if X<r then FA t (r-X) e wh
  else (0,0)):=by
 simp only[Ri];by_cases hs:s=t
 ·rw[Az hs,<- hs];have hsum:Gx s p+Gx s q=Gx s (p+q):=by unfold Gx; cases s<;>simp<;>omega
  rw[hsum,plus.1,plus.2];by_cases h0:p+q=0
  ·rw[h0,U4,PQ];unfold HK;have:Gx s 0=0:=by unfold Gx; cases s<;>rfl
   rw[Az this,Ah]
  ·exact OF _ _ h0 _
 ·rw[Ay hs];by_cases h1:r<X
  ·obtain⟨c1,c2,c3⟩:=less h1;rw[Az h1,c2,c3]
   have hsum:Gx s p+Gx t q=Gx s (p-q):=by unfold Gx; cases s<;>cases t<;>simp at hs ⊢<;>omega
   rw[hsum];exact OF _ _ (by omega) _
  ·rw[Ay h1];by_cases h2:X<r
   ·obtain⟨c1,c2,c3⟩:=Mt h2;rw[Az h2,c2,c3]
    have hsum:Gx s p+Gx t q=Gx t (q-p):=by unfold Gx; cases s<;>cases t<;>simp at hs ⊢<;>omega
    rw[hsum];exact OF _ _ (by omega) _
   ·rw[Ay h2];have c:=same (by omega)
    have hsum:Gx s p+Gx t q=0:=by unfold Gx; cases s<;>cases t<;>simp at hs ⊢<;>omega
    have hz:(s&&t)=wh:=by cases s<;>cases t<;>simp at hs ⊢
    rw[hsum,hz];rfl
theorem Agv{a b:Nat}(ha:GJ a=wc)(hb:GJ b=wc):
 DS a b=HK (Cq (Ce a&&Ce b) 0) (E3 a (min (B6 a) (B6 b))+E3 b (min (B6 a) (B6 b))) (min (B6 a) (B6 b)):=by
 have k1:=H8 ha;have k2:=H8 hb;unfold DS;rw[Ay (fun h=>h.elim k1.1 k2.1),Ay k1.2,Ay k2.2]
theorem YF(b:Nat):E3 b (B6 b)=Gx (Ce b) (Bx b):=by unfold E3; rw[Int.sub_self,Int.toNat_zero,AG,AR]
theorem Ad6{b:Nat}{f:Int}{d:Nat}(h:B6 b=f+d):E3 b f=Gx (Ce b) (Bx b*2^d):=by
 unfold E3;have:(B6 b-f).toNat=d:=by omega
 rw[this]
theorem Y3{a b:Nat}(ha:GJ a=wc)(hb:GJ b=wc){d:Nat}(hd:B6 a=B6 b+d):
 DS a b=(if Ce a=Ce b then FA (Ce a) (Bx a*2^9+Fm (Bx b*2^9) (min d 63)) (B6 a-9) wh
  else if Fm (Bx b*2^9) (min d 63)<Bx a*2^9 then FA (Ce a) (Bx a*2^9-Fm (Bx b*2^9) (min d 63)) (B6 a-9) wh
  else if Bx a*2^9<Fm (Bx b*2^9) (min d 63) then FA (Ce b) (Fm (Bx b*2^9) (min d 63)-Bx a*2^9) (B6 a-9) wh
  else (0,0)):=by
 have hx:=EJ a;have hy:=EJ b;have C:=Y4 (Mx:=Bx a) (My:=Bx b) hd hx hy (fun h=>UF (by have:=CH b; omega));rw[Agv ha hb,Int.min_eq_right (by omega),YF,Ad6 hd];exact Aip _ _ C.plus C.less C.Mt C.same
theorem QB{b:Nat}(h:b<2^64):DR b<2^64:=by unfold DR; split<;>omega
theorem ZN(m:Nat)(e:Int):flagsOf m e<32:=by
 unfold flagsOf flags;split
 ·decide
 ·split
  ·decide
  ·split
   ·decide
   ·split<;>decide
theorem Qc{a b:Nat}(ha:a<2^64)(hb:b<2^64):(DS a b).1<2^64/\(DS a b).2<32:=by
 unfold DS;split
 ·exact⟨by decide,by decide⟩
 ·split
  ·split
   ·decide
   ·exact⟨ha,(by decide:0<32)⟩
  ·split
   ·exact⟨hb,(by decide:0<32)⟩
   ·unfold HK;split
    ·refine⟨?_,(by decide:0<32)⟩;unfold Cq; split<;>decide
    ·exact⟨ML _ _ _,ZN _ _⟩
def Dj(r c:Nat)(f:Nat->Nat->Int):Bf:=(zg (r*c)).map fun j=>f (j / c) (j%c)
theorem Ch(r c:Nat)(f:Nat->Nat->Int):(Dj r c f).length=r*c:=by unfold Dj; rw[AO,AL]
theorem Fx{r c i k:Nat}(hi:i<r)(hk:k<c):i*c+k<r*c:=by have:(i+1)*c<=r*c:=An c hi;rw[AM,zv] at this;omega
theorem Q2{c i k:Nat}(hk:k<c):(i*c+k) / c=i/\(i*c+k)%c=k:=by
 constructor
 ·rw[A0,Nat.mul_add_div (by omega),yd hk,AQ]
 ·rw[A0,Nat.mul_add_mod,Ao hk]
theorem G6{r c:Nat}{f:Nat->Nat->Int}{j:Nat}(h:j<r*c):(Dj r c f)[j]?=wM (f (j / c) (j%c)):=by unfold Dj;rw[Ba,List.getElem?_range h];rfl
theorem Yf{r c i k:Nat}{f:Nat->Nat->Int}(hi:i<r)(hk:k<c):(Dj r c f).getD (i*c+k) 0=f i k:=by obtain⟨d1,d2⟩:=Q2 (i:=i) hk;rw[Al,G6 (Fx hi hk),d1,d2];rfl
theorem PG{l m:Bf}(h:l.length=m.length)(he:∀j,j<l.length->l[j]?=m[j]?):l=m:=by
 refine List.ext_getElem? fun j=>?_
 by_cases hj:j<l.length
 ·exact he j hj
 ·rw[Bb (by omega),Bb (by omega)]
theorem EN{r c:Nat}{f g:Nat->Nat->Int}(h:∀i k,i<r->k<c->f i k=g i k):Dj r c f=Dj r c g:=by
 refine PG (by rw[Ch,Ch]) fun j hj=>?_
 rw[Ch] at hj
 have hc:0<c:=by
  rcases yN c with h0 | h0
  ·subst h0; rw[yk] at hj; omega
  ·exact h0
 rw[G6 hj,G6 hj,h (j / c) (j%c) ((yw hc).2 hj) (zt _ hc)]
theorem AcQ{r c:Nat}{l:Bf}(h:l.length=r*c):l=Dj r c fun i k=>l.getD (i*c+k) 0:=by
 refine PG (by rw[Ch,h]) fun j hj=>?_
 rw[G6 (by omega)];have e:j / c*c+j%c=j:=by rw[A0]; exact zC j c
 rw[e,Al,As hj];rfl
theorem Nj{r c i k:Nat}{f:Nat->Nat->Int}(hk:k<c)(x:Int):
 (Dj r c f).set (i*c+k) x=Dj r c fun a b=>if a=i/\b=k then x else f a b:=by
 refine PG (by rw[yJ,Ch,Ch]) fun j hj=>?_
 rw[yJ,Ch] at hj;obtain⟨d1,d2⟩:=Q2 (i:=i) hk;rw[G6 hj,List.getElem?_set];by_cases h:i*c+k=j
 ·subst h;rw[Az rfl,Az (by rw[Ch]; exact hj),d1,d2,Az ⟨rfl,rfl⟩]
 ·rw[Ay h,G6 hj,Ay]
  rintro ⟨h1,h2⟩
  exact h (by rw[<- h1,<- h2,A0]; exact zC j c)
theorem Lx(r c:Nat)(f:Nat->Nat->Int):Dj (r+1) c f=Dj r c f++(zg c).map (f r):=by
 unfold Dj;rw[AM,zv,List.range_add,yu,List.map_map];congr 1;refine List.map_congr_left fun k hk=>?_
 have hk:=List.mem_range.1 hk;obtain⟨d1,d2⟩:=Q2 (i:=r) hk;show f ((r*c+k) / c) ((r*c+k)%c)=f r k;rw[d1,d2]
theorem Lw(c:Nat)(f:Nat->Nat->Int):Dj 0 c f=[]:=by unfold Dj; rw[zK]; rfl
theorem Kd(k:Nat)(g:Nat->Int):(zg (k+1)).map g=(zg k).map g++[g k]:=by rw[List.range_succ,yu]; rfl
def PT:Nat->Bf->Bf->Nat
 | s,x::xs,y::ys=>PT (DS s (Ee x.toNat y.toNat).1).1 xs ys
 | s,_,_=>s
def EU(x y:Bf):Int:=PT 0 x y
theorem LN{a b:Nat}:(Ee a b).1<2^64:=by
 unfold Ee;split
 ·decide
 ·split
  ·split
   ·decide
   ·unfold Cq; split<;>decide
  ·exact ML _ _ _
theorem Sd:∀(x y:Bf) (s:Nat),s<2^64->PT s x y<2^64
 | x::xs,y::ys,s,h=>Sd xs ys _ (Qc h LN).1
 | [],_,_,h=>by unfold PT; exact h
 | _::_,[],_,h=>by unfold PT; exact h
def CN(n:Int):Bool:=decide (0<=n)&&decide (n<=6)
def BD(r c:Int)(l:Bf):Bool:=(CN r&&CN c)&&decide ((l.length:Int)=r*c)
def Iy(r c:Int)(l:Bf):Int:=if BD r c l=wc then 0 else 1
def Sk(r c:Int)(l:Bf)(p q:Int)(m:Bf):Int:=if (BD r c l&&BD p q m)=wc then 0 else 1
def Gi(_r c:Int)(l:Bf)(i k:Int):Bool:=Ci (0<=i/\i<10/\0<=k/\k<10/\0<=c/\c<10/\i*c+k<l.length/\l.length<1000)
def Dy(c:Int)(l:Bf)(i k:Int):Int:=l.getD (i*c+k).toNat 0
def LS(i k:Int):Int:=if i=k then 4607182418800017408 else 0
def Sw(x y i k:Int):Bool:=Ci (0<=x/\x<10/\0<=y/\y<10/\0<=i/\i<10/\0<=k/\k<10)
def Kg(r c x y a b:Int):Bool:=decide (0<=x/\0<=y/\0<=a/\0<=b/\x<=r/\y<=c/\a<=r-x/\b<=c-y)
def Le(r c:Int)(l:Bf)(p q:Int)(m:Bf)(i k:Int):Bool:=Ci (0<=r/\r<10/\0<=i/\i<20/\(if i<r then Gi r c l i k=wc else Gi p q m (i-r) k=wc))
def IE(r c:Int)(l:Bf)(q:Int)(m:Bf)(i k:Int):Int:=if i<r then Dy c l i k else Dy q m (i-r) k
def VL(r c:Int)(l:Bf)(i:Int):Bool:=BD r c l&&Ci (0<=i/\i<r)
def EG(r c:Int)(l:Bf)(k:Int):Bool:=BD r c l&&Ci (0<=k/\k<c)
def Q8(r c:Int)(l:Bf)(p q:Int)(m:Bf)(i k:Int):Bool:=(VL r c l i&&EG p q m k)&&((Bq l&&Bq m)&&Ci (c=p))
def JB(c:Int)(l:Bf)(i:Int):Bf:=List.drop (i*c).toNat (List.take ((i+1)*c).toNat l)
def Mv(r c:Int)(l:Bf)(k:Int):Bf:=(zg r.toNat).map fun j:Nat=>Dy c l (j:Int) k
abbrev MX:=Int × Int × Bf × Int
def Jw(e:Int):MX:=(0,0,[],e)
def K4(n:Int):MX:=if CN n=wc then (n,n,Dj n.toNat n.toNat fun i k=>LS i k,0) else Jw 3
def Ej(r c:Int)(l:Bf):MX:=if BD r c l=wc then (c,r,Dj c.toNat r.toNat fun i k=>Dy c l k i,0) else Jw 1
def Ff(r c:Int)(l:Bf)(x y a b:Int):MX :=if BD r c l=wc then (if Kg r c x y a b=wc then (a,b,Dj a.toNat b.toNat fun i k=>Dy c l (x+i) (y+k),0) else Jw 3) else Jw 1
def ON(r c:Int)(l:Bf)(p q:Int)(m:Bf):MX :=if (BD r c l&&BD p q m)=wc then (if c=p then (r,q,Dj r.toNat q.toNat fun i k=>EU (JB c l i) (Mv p q m k),0) else Jw 3) else Jw 1
def AmB(r c:Int)(l:Bf)(p q:Int)(m:Bf):MX :=if (BD r c l&&BD p q m)=wc then (if r=p/\c=q then (r,c,Dj r.toNat c.toNat fun i k=>DW (Dy c l i k) (Dy q m i k),0) else Jw 3) else Jw 1
def ID(r c:Int)(l:Bf)(p q:Int)(m:Bf):MX :=if (BD r c l&&BD p q m)=wc then (if c=q/\r+p<=6 then (r+p,c,Dj (r+p).toNat c.toNat fun i k=>IE r c l q m i k,0) else Jw 3) else Jw 1
def Nl(x y:Bf):Bool:=decide (x.length=y.length)&&decide (x.length<=64)
def Anf(l:Bf):Bool:=Ci (l.length<=17592186044416)
theorem GO{n:Int}:CN n=wc↔0<=n/\n<=6:=by unfold CN; simp
theorem G5{r c:Int}{l:Bf}:BD r c l=wc↔(0<=r/\r<=6)/\(0<=c/\c<=6)/\(l.length:Int)=r*c:=by unfold BD;rw[Am,Am,GO,GO,Ai,and_assoc]
theorem DF{r c:Int}{l:Bf}(h:BD r c l=wc):∃R C:Nat,r=R/\c=C/\R<=6/\C<=6/\l.length=R*C:=by
 obtain⟨h1,h2,h3⟩:=G5.1 h;refine⟨r.toNat,c.toNat,by omega,by omega,by omega,by omega,?_⟩;have:(((r.toNat*c.toNat:Nat)):Int)=r*c:=by rw[Ax,xv h1.1,xv h2.1]
 omega
theorem H3{n:Int}(h:CN n=wc):∃R:Nat,n=R/\R<=6:=by have:=GO.1 h;exact⟨n.toNat,by omega,by omega⟩
theorem AgV{n:Nat}(h:n<=6):CN (n:Int)=wc:=GO.2 ⟨by omega,by omega⟩
theorem D7{r c:Nat}{l:Bf}(hr:r<=6)(hc:c<=6)(hl:l.length=r*c):BD (r:Int) (c:Int) l=wc :=G5.2 ⟨⟨by omega,by omega⟩,⟨by omega,by omega⟩,by rw[hl,Ax]⟩
theorem Mc(c:Nat)(l:Bf)(i k:Nat):Dy (c:Int) l (i:Int) (k:Int)=l.getD (i*c+k) 0:=by
 unfold Dy
 have:((i:Int)*(c:Int)+(k:Int)).toNat=i*c+k:=by rw[<- Ax,<- Int.natCast_add,Ad]
 rw[this]
theorem TF{r c i k:Nat}{R:Int}{l:Bf}(hr:r<=6)(hc:c<=6)(hl:l.length=r*c)(hi:i<r)(hk:k<c):Gi R (c:Int) l (i:Int) (k:Int)=wc:=by have:=Fx hi hk;have h36:=AE hr hc;refine Bv.2 ⟨by omega,by omega,by omega,by omega,by omega,by omega,?_,by omega⟩;rw[<- Ax];omega
theorem F6{r c i k:Nat}{f:Nat->Nat->Int}(hi:i<r)(hk:k<c):Dy (c:Int) (Dj r c f) (i:Int) (k:Int)=f i k:=by rw[Mc,Yf hi hk]
theorem Tr{r c:Nat}(f:Nat->Nat->Int)(hr:r<=6)(hc:c<=6):BD (r:Int) (c:Int) (Dj r c f)=wc:=D7 hr hc (Ch r c f)
theorem NW{r c:Nat}{l:Bf}(h:l.length=r*c):(Dj r c fun i k=>Dy (c:Int) l (i:Int) (k:Int))=l:=by
 conv=>rhs; rw[AcQ h]
 exact EN fun i k _ _=>Mc c l i k
theorem KQ{l:Bf}(h:Bq l=wc){j:Nat}(hj:j<l.length):Br (l.getD j 0)=wc:=by have h:=Bv.1 h;rw[Al,As hj];exact h _ (List.getElem_mem hj)
theorem Uz{b:Nat}(h:b<2^64):Cq (Ce b) (b%2^63)=b:=by
 unfold Cq Ce;by_cases hb:2^63<=b
 ·simp only[hb,decide_true,if_true]; omega
 ·simp only[hb,decide_false,zT,if_false]; omega
theorem AfA{b:Nat}(h:b<2^64)(h4:Bn b≠4):Cq (Ce b) (Cu (Bx b) (B6 b))=b:=by rw[Qt h4,Uz h]
def I9(n:Nat):Nat:=Ieee.Datum.rootFrom n (n.log2 / 2+1) 0
theorem AgW(k:Nat):1 <<< k=2^k:=by rw[Nat.shiftLeft_eq,zv]
theorem Qu{n:Nat}:∀(todo root:Nat),root*root<=n->n<(root+2^todo)*(root+2^todo) ->
 Ieee.Datum.rootFrom n todo root*Ieee.Datum.rootFrom n todo root<=n/\n<(Ieee.Datum.rootFrom n todo root+1)*(Ieee.Datum.rootFrom n todo root+1)
 | 0,root,h1,h2=>⟨h1,h2⟩
 | todo+1,root,h1,h2=>by
   unfold Ieee.Datum.rootFrom;simp only[AgW];have hp:2^(todo+1)=2^todo+2^todo:=by rw[zD]; omega
   rw[hp] at h2;by_cases h:(root+2^todo)*(root+2^todo)<=n
   ·rw[Az h];exact Qu todo _ h (by rw[yo]; exact h2)
   ·rw[Ay h];exact Qu todo _ h1 (by omega)
theorem Jk(n:Nat):I9 n*I9 n<=n/\n<(I9 n+1)*(I9 n+1):=by
 refine Qu _ _ (by simp) ?_;rw[AS,<- A5];rcases yN n with rfl | hn
 ·decide
 ·refine(AZ (by omega)).1 ?_;omega
theorem Xm{a b:Nat}(h:a*a<b*b):a<b:=by
 rcases AF a b with h1 | h1
 ·exact h1
 ·have:=AE h1 h1; omega
theorem Tm{n w:Nat}(h1:w*w<=n)(h2:n<(w+1)*(w+1)):w=I9 n:=by obtain⟨a,b⟩:=Jk n;have c1:=Xm (AK h1 b);have c2:=Xm (AK a h2);omega
theorem Wj{n w:Nat}(h:w*w<=n):w<=I9 n:=by have:=Xm (AK h (Jk n).2);omega
def Ec(n:Nat):Nat:=2*I9 n+(if I9 n*I9 n=n then 0 else 1)
theorem Qq(a c:Nat):a*c*(a*c)=a*a*(c*c):=by rw[A7,yM c,<- A7 a a]
theorem U8{n:Nat}(d:Nat)(E:Int)(h:2^53<=I9 n):
 Cu (Ec (n*(2^d*2^d))) (E-d)=Cu (Ec n) E/\flagsOf (Ec (n*(2^d*2^d))) (E-d)=flagsOf (Ec n) E:=by
 have hA:=Cs d;obtain⟨h1,h2⟩:=Jk n;unfold Ec;generalize hw:I9 n=w at *
 generalize hc:2^d=c at *
 have hcc:0<c*c:=xU hA hA;by_cases h0:w*w=n
 ·have e1:I9 (n*(c*c))=w*c:=by
   refine(Tm ?_ ?_).symm
   ·rw[Qq,h0]; exact AB _
   ·have:=Qq w c;rw[h0] at this;rw[AM,z7,this]; omega
  rw[e1,Qq,h0,Az rfl,Az rfl];have:=D2 (2*w+0) d E;rw[hc,show(2*w+0)*c=2*(w*c)+0 by rw[AQ,AQ,A7]] at this;exact this
 ·rw[Ay h0];obtain⟨g1,g2⟩:=Jk (n*(c*c));have q1:w*c<=I9 (n*(c*c)):=Wj (by rw[Qq]; exact An _ h1)
  have q2:I9 (n*(c*c))<(w+1)*c:=by refine Xm (AK g1 ?_);rw[Qq];exact(xh hcc).2 h2
  have q3:I9 (n*(c*c))=w*c->I9 (n*(c*c))*I9 (n*(c*c))≠n*(c*c):=fun h5 h6=>by rw[h5,Qq] at h6;exact h0 (Nat.eq_of_mul_eq_mul_right hcc h6)
  generalize hQ:I9 (n*(c*c))=Q at *
  have p1:(2*w+1-1)*c=2*(w*c):=by rw[yC,A7]
  have p2:(2*w+1+1)*c=2*((w+1)*c):=by rw[show 2*w+1+1=2*(w+1) by omega,A7]
  have od:(2*w+1)%2=1:=by omega
  generalize hV:2*Q+(if Q*Q=n*(c*c) then 0 else 1)=V
  have v1:(2*w+1-1)*2^d<V:=by
   rw[hc,p1,<- hV];by_cases h5:Q=w*c
   ·rw[Ay (q3 h5)]; omega
   ·split<;>omega
  have v2:V<(2*w+1+1)*2^d:=by rw[hc,p2,<- hV];split<;>omega
  have lV:=Nd od (by omega) v1 v2;have hs:54<=(2*w+1).log2:=by rw[zM (by omega)]; omega
  have ee:E-(d:Int)+d=E:=by omega
  have:=MN (E:=E-d) od v1 v2 (by unfold Cp; rw[lV]; omega) (by unfold Cp; omega);rw[ee] at this;exact this
theorem PL{n t:Nat}(h:2^(t+t)<=n):2^t<=I9 n:=Wj (by rw[<- A5]; exact h)
theorem pow_two(k d:Nat):2^(k+2*d)=2^k*(2^d*2^d):=by rw[A5,Nat.two_mul,A5]
theorem Aci{m k l:Nat}{E F:Int}(h1:2^106<=m*2^k)(h2:2^106<=m*2^l)(he:2*E+k=2*F+l):
 Cu (Ec (m*2^k)) E=Cu (Ec (m*2^l)) F/\flagsOf (Ec (m*2^k)) E=flagsOf (Ec (m*2^l)) F:=by
 rcases Nat.le_total k l with h | h
 ·obtain⟨d,rfl⟩:∃d,l=k+2*d:=⟨(l-k) / 2,by omega⟩
  have:=U8 (n:=m*2^k) d E (PL (t:=53) h1);rw[A7,<- pow_two,show E-(d:Int)=F by omega] at this;exact⟨this.1.symm,this.2.symm⟩
 ·obtain⟨d,rfl⟩:∃d,k=l+2*d:=⟨(k-l) / 2,by omega⟩
  have:=U8 (n:=m*2^l) d F (PL (t:=53) h2);rw[A7,<- pow_two,show F-(d:Int)=E by omega] at this;exact this
def E6(b:Nat):Nat:=128+(B6 b%2).toNat
def Ek(b:Nat):Nat × Nat:=
 if Bn b=4 then (N2,0)
 else if Bn b=0\/b=Er then (b,0)
 else if Ce b=wc then (N2,16)
 else (Cu (Ec (Bx b*2^E6 b)) ((B6 b-E6 b) / 2-1),flagsOf (Ec (Bx b*2^E6 b)) ((B6 b-E6 b) / 2-1))
theorem CZ{b:Nat}(h3:Bn b≠3)(h4:Bn b≠4):Bx b=0↔Bn b=0:=by
 have:=Jm b;have:=Il b;unfold Bx;unfold Bn at *
 split at h3<;>split<;>(try split)<;>(try split)<;>simp_all<;>omega
theorem Sv{b:Nat}(h:Bn b=4):Ek b=(N2,0):=Az h
theorem IF{b:Nat}(h4:Bn b≠4)(h:Bn b=0\/b=Er):Ek b=(b,0):=by unfold Ek; rw[Ay h4,Az h]
theorem Xl{b:Nat}(h4:Bn b≠4)(h:¬(Bn b=0\/b=Er))(hn:Ce b=wc):Ek b=(N2,16):=by unfold Ek; rw[Ay h4,Ay h,Az hn]
theorem MH{b:Nat}(h4:Bn b≠4)(h:¬(Bn b=0\/b=Er))(hn:Ce b=wh):
 Ek b=(Cu (Ec (Bx b*2^E6 b)) ((B6 b-E6 b) / 2-1),flagsOf (Ec (Bx b*2^E6 b)) ((B6 b-E6 b) / 2-1)):=by
 unfold Ek; rw[Ay h4,Ay h,Ay (by rw[hn]; decide)]
theorem Yc:Bn Er=3:=by decide
theorem F2(r:Nat):Cq wh r=r:=rfl
theorem Pv{b:Nat}(hm:Bx b≠0):2^106<=Bx b*2^E6 b/\2*((B6 b-(E6 b:Int)) / 2-1)+E6 b=B6 b-2:=by refine⟨?_,by unfold E6; omega⟩;have:2^128<=2^E6 b:=Aq (by decide) (by unfold E6; omega);have h5:=AE (show 1<=Bx b by omega) this;omega
theorem XN{b:Nat}(hm:Bx b≠0):(Bx b).log2<=52:=by have:=(AZ hm).2 (show Bx b<2^53 from EJ b);omega
def Cj(b:Nat)(n:Int):Nat × Nat:=
 if Bn b=4 then (N2,0)
 else if Bn b=3\/Bn b=0 then (b,0)
 else (Cq (Ce b) (Cu (Bx b) (B6 b+n)),flagsOf (Bx b) (B6 b+n))
theorem Aed{V:Nat}{E:Int}(h0:V≠0)(h:E+V.log2+1<=-1075):Cu V E=0/\flagsOf V E=3:=by
 have hl:Cp V E=-1074:=by unfold Cp; omega
 obtain⟨k,hk⟩:∃k:Nat,(-1074:Int)-E=((k:Nat):Int):=⟨(-1074-E).toNat,by omega⟩
 have hV:V<2^(V.log2+1):=(AZ h0).1 (by omega);have hp:2^(V.log2+1)*2<=2^k:=by rw[<- zD]; exact Aq (by decide) (by omega)
 have e1:V*2^(-((-1074:Int)-E)).toNat=V:=by rw[hk]; simp
 have e2:((-1074:Int)-E).toNat=k:=by rw[hk]; rfl
 have hk2:kept V E=0:=by unfold kept H4;rw[hl,e1,e2];unfold H5;rw[yd (by omega),Ao (by omega),Ay (by omega)]
 have hx:exact V E=wh:=by unfold exact JV;rw[hl,e1,e2,Ao (by omega)];exact Ag h0
 have hr:Cu V E=0:=by unfold Cu;rw[Ay h0,hl,hk2];rfl
 refine⟨hr,?_⟩;unfold flagsOf;rw[Ay h0,hr,hx];rfl
theorem AcG{m:Nat}(h:m<2^53):m.log2<=52:=by
 rcases yN m with rfl | h0
 ·decide
 ·have:=(AZ (by omega)).2 h; omega
theorem Ac1(n:Bool){m:Nat}{e:Int}{Mt:Bool}(hm:m<2^53)(h0:m≠0\/Mt=wc)(he:e<=-1130):
 FA n m e Mt=(Cq n 0,3):=by
 have h1:Mt.toNat<=1:=by cases Mt<;>decide
 have hV:4*m+Mt.toNat≠0:=by
  rcases h0 with h | h
  ·omega
  ·rw[h]; simp
 have hl:(4*m+Mt.toNat).log2<=54:=by have:=(AZ hV).2 (show 4*m+Mt.toNat<2^55 by omega); omega
 have:=Aed hV (E:=e-2) (by omega);unfold FA;rw[this.1,this.2]
theorem AeS(n:Bool):FA n 0 (-1074) wc=(Cq n 0,3):=by cases n<;>decide +kernel
theorem Zb{b:Nat}{n:Int}(h4:Bn b≠4)(h:¬(Bn b=3\/Bn b=0))(hn:B6 b+n<=-1130):Cj b n=(Cq (Ce b) 0,3):=by
 have hm:Bx b≠0:=fun h5=>h (.inr ((CZ (by omega) h4).1 h5))
 have:=Aed hm (E:=B6 b+n) (by have:=XN hm; omega);unfold Cj;rw[Ay h4,Ay h,this.1,this.2]
theorem G4{b:Nat}{n:Int}(h4:Bn b≠4)(h:¬(Bn b=3\/Bn b=0)):Cj b n=(Cq (Ce b) (Cu (Bx b) (B6 b+n)),flagsOf (Bx b) (B6 b+n)):=by unfold Cj; rw[Ay h4,Ay h]
def Em(b:Nat):Int:=if GJ b=wc/\Bn b≠0 then ((Bx b).log2:Int)+B6 b else 0
def DP(b:Nat):Nat:=b%2^63
def Acr(a b:Nat):Int:=if Bn a=4\/Bn b=4 then 0 else if Gt a<Gt b then -1 else if Gt b<Gt a then 1 else 0
def Aji(a b:Nat):Bool:=!(decide (Bn a=4\/Bn b=4))
def UA(b:Int):Int:=Gt b.toNat
def Gk(a b:Int):Int:=Acr a.toNat b.toNat
def All(a b:Int):Bool:=Aji a.toNat b.toNat
def K3(x:Int):Int:=DP x.toNat
def BV(x n:Int):Int:=(Cj x.toNat n).1
def Ahb(x n:Int):Int:=(Cj x.toNat n).2
def Eg(x n:Int):Bool:=Br x&&Ci (-2300<=n/\n<=2300)
def BO(x:Int):Int:=Em x.toNat
def Iz:Bf->Nat->Nat
 | [],m=>m
 | x::l,m=>if Bn x.toNat=4 then N2 else Iz l (max m (DP x.toNat))
def BI(l:Bf):Int:=Iz l 0
def Dx(l:Bf):Bool:=l.all Du
def BT(r c:Int)(l:Bf):Int:=if BD r c l=wc then (if Dx l=wc then 0 else 4) else 1
def Ahv(c:Int)(l:Bf)(n:Nat):Bool:=(zg n).any fun i:Nat=>decide (BF (Dy c l (i:Int) (i:Int))=0)
def Al3(r c:Int)(l:Bf)(p q:Int)(m:Bf):Int:=
 if BT r c l≠0 then BT r c l else if BT p q m≠0 then BT p q m
 else if r≠c\/r≠p then 3 else if Ahv c l r.toNat=wc then 5 else 0
def Ai2(c:Int)(l:Bf)(i:Int):Int->Int->Bf->Int
 | s,_,[]=>s
 | s,j,x::xs=>Ai2 c l i (DW s (Cx (Dy c l i j) x)) (j+1) xs
def loL(c:Int)(l:Bf)(b:Nat->Int):Nat->Bf
 | 0=>[]
 | k+1=>loL c l b k++[EV (Ai2 c l (k:Int) (b k) 0 (loL c l b k)) (Dy c l (k:Int) (k:Int))]
def loG(c:Int)(l:Bf)(q:Int)(m:Bf)(n w:Nat):Bf:=Dj n w fun i j=>(loL c l (fun i=>Dy q m (i:Int) (j:Int)) n).getD i 0
def AmO(r c:Int)(l:Bf):MX:=if Dx l=wc then (r,c,l,0) else Jw 2
def loX(r c:Int)(l:Bf)(p q:Int)(m:Bf):MX :=if Al3 r c l p q m≠0 then Jw (Al3 r c l p q m) else AmO r q (loG c l q m r.toNat q.toNat)
def Al1(c:Int)(l:Bf)(n:Nat):Bf:=(zg n).map fun i:Nat=>K3 (Dy c l (i:Int) (i:Int))
def Alx(d:Bf):Bool:=d.any fun x=>!(decide (Gk (BV (BI d) (-40)) x<0))
def Aj4(r c:Int)(l:Bf):Bool:=Alx (Al1 c l (min r.toNat c.toNat))
def Ai3(r c:Int)(l:Bf):Bool × Int:=if BT r c l≠0 then (wh,BT r c l) else (Aj4 r c l,0)
def AiR(r c:Int)(l:Bf)(p q:Int)(m:Bf):Bool:=(BD r c l&&BD p q m)&&((Bq l&&Bq m)&&Ci (r=c/\r=p))
def Fi(n:Nat):Bf:=Dj n n fun i k=>LS (i:Int) (k:Int)
theorem Abx{a b:Nat}:(K5 a b).1<2^64:=by
 have h1:Er<2^63:=by decide
 have hs:∀(s:Bool) {r:Nat},r<2^63->Cq s r<2^64:=by
  intro s r h;unfold Cq;cases s
  ·rw[Ay (by decide)]; omega
  ·rw[Az rfl]; omega
 have hN:N2<2^64:=by decide
 unfold K5;by_cases c1:Bn a=4\/Bn b=4
 ·rw[Az c1]; exact hN
 rw[Ay c1];by_cases c2:Bn a=Bn b/\(Bn a=3\/Bn a=0)
 ·rw[Az c2]; exact hN
 rw[Ay c2];by_cases c3:Bn a=3
 ·rw[Az c3]; exact hs _ h1
 rw[Ay c3];by_cases c4:Bn b=3\/Bn a=0
 ·rw[Az c4]; exact hs _ (by decide)
 rw[Ay c4];by_cases c5:Bn b=0
 ·rw[Az c5]; exact hs _ h1
 rw[Ay c5];exact hs _ (IX _ _)
theorem No(a b:Int):Br (EV a b)=wc:=CI Abx
theorem O8{a b:Int}(ha:Br a=wc)(hb:Br b=wc):Br (DW a b)=wc:=by obtain⟨x,rfl,hx⟩:=C3 ha;obtain⟨y,rfl,hy⟩:=C3 hb;exact CI (Qc (by rw[Ad]; exact hx) (QB (by rw[Ad]; exact hy))).1
theorem Gu{r c:Nat}{f:Nat->Nat->Int}(h:∀i k,Br (f i k)=wc):Bq (Dj r c f)=wc:=Bv.2 fun x hx=>by obtain⟨j,_,rfl⟩:=zh.1 hx;exact h _ _
theorem Fo(a b:Int):Br (Cx a b)=wc:=CI LN
theorem AhI{l:Bf}(h:∀x∈l,Br x=wc)(i:Nat):Br (l.getD i 0)=wc:=by
 rw[Al];cases hi:l[i]? with
 | none=>exact CI (n:=0) (by decide)
 | some x=>exact h x (List.mem_of_getElem? hi)
def SM:Int:=4607182418800017408
def DG(x:Int):Int:=(Ek x.toNat).1
def MI(x:Int):Int:=(Ek x.toNat).2
def F8(k:Int):Int->Bf->Int
 | s,[]=>s
 | s,x::l=>F8 k (DD s (Cx (BV x k) (BV x k))) l
def Cb(x:Bf):Int :=if BI x=0\/Du (BI x)=wh then BI x else BV (DG (F8 (-BO (BI x)) 0 x)) (BO (BI x))
def Fg(l:Bf):Bool:=l.all fun x=>decide (BF x=0)
def KJ:Bf->Int
 | []=>0
 | x::l=>if BF x=0 then KJ l else x
def B5(l:Bf)(k:Int):Bf:=l.map fun x=>BV x k
def G8(n:Nat)(f:Nat->Int):Bf:=SM::(zg (n-1)).map fun j=>f (j+1)
def KU(x:Bf):Int:=if DN (KJ x)=wc then Cb (B5 x (-BO (BI x))) else Cy (Cb (B5 x (-BO (BI x))))
def FC(x:Bf):Int:=BV (KU x) (BO (BI x))
def Es(x:Bf):Int:=BV (x.getD 0 0) (-BO (BI x))
def Q9(x:Bf):Bf:=G8 x.length fun j=>EV (BV (x.getD j 0) (-BO (BI x))) (DW (Es x) (KU x))
def SX(x:Bf):Int:=EV (DW (KU x) (Es x)) (KU x)
def Z0(x:Bf):Bf × Int × Int × Int:=
 if Fg (x.drop 1)=wc then (G8 x.length fun _=>0,0,x.getD 0 0,0)
 else if Du (FC x)=wc then (Q9 x,SX x,FC x,0) else ([],0,0,2)
def Cm(x:Bf):Bf × Int × Int × Int :=if x.length=0\/64<x.length then ([],0,0,3) else if Dx x=wc then Z0 x else ([],0,0,4)
def BQ(c:Int)(l:Bf)(b i:Int)(n:Nat):Bf:=(zg n).map fun j:Nat=>Dy c l (i+(j:Int)) b
def IU(c:Int)(l:Bf)(i:Int)(v:Bf)(t b:Int):Int:=Cx t (EU v (BQ c l b i v.length))
def Gv(c:Int)(l:Bf)(i k:Int)(v:Bf)(t a b:Int):Int :=if k<=b/\i<=a/\a<i+v.length then DW (Dy c l a b) (Cx (IU c l i v t b) (v.getD (a-i).toNat 0)) else Dy c l a b
def F5(r c:Nat)(l:Bf)(i k:Int)(v:Bf)(t:Int):Bf:=Dj r c fun a b=>Gv (c:Int) l i k v t (a:Int) (b:Int)
def Md(r c i k:Int)(v:Bf):Bool:=decide (0<=i/\(v.length:Int)<=r/\i<=r-v.length/\0<=k/\k<=c)
def Ns(r c:Nat)(l:Bf)(j:Nat)(x:Int):Bf:=Dj r c fun a b=>if b=j/\j<=a then (if a=j then x else 0) else Dy (c:Int) l (a:Int) (b:Int)
def D5(r c:Nat)(l:Bf)(j:Nat):Bf:=BQ (c:Int) l (j:Int) (j:Int) (r-j)
def Mu(r c:Nat)(l:Bf)(j:Nat):Bf:=Ns r c (F5 r c l (j:Int) (j:Int) (Cm (D5 r c l j)).1 (Cm (D5 r c l j)).2.1) j (Cm (D5 r c l j)).2.2.1
def Ix(r c:Nat):Nat->Nat->Bf->Option (Bf × List (Bf × Int))
 | 0,_,l=>wM (l,[])
 | n+1,j,l=>if (Cm (D5 r c l j)).2.2.2=0 then
  (Ix r c n (j+1) (Mu r c l j)).map fun x=>(x.1,((Cm (D5 r c l j)).1,(Cm (D5 r c l j)).2.1)::x.2) else wN
def ER(r c:Nat):Nat:=min c (r-1)
def Ie(n:Nat):Nat->List (Bf × Int)->Bf->Bf
 | _,[],q=>q
 | j,m::ms,q=>F5 n n (Ie n (j+1) ms q) (j:Int) 0 m.1 m.2
def Hk(r c:Nat)(l:Bf):Option (Bf × List (Bf × Int)):=Ix r c (ER r c) 0 l
def Iw(r c:Nat)(l:Bf):Bf:=match Hk r c l with
 | some x=>Ie r 0 x.2 (Fi r)
 | none=>[]
def IA(r c:Nat)(l:Bf):Bf:=match Hk r c l with
 | some x=>x.1
 | none=>[]
def FB(r c:Int)(l:Bf):MX:=if (Hk r.toNat c.toNat l).isSome=wc then (r,c,IA r.toNat c.toNat l,0) else Jw 2
def SY(ms:List (Bf × Int)):List (List DV):=ms.map fun m=>[.Bj .arg .u64 m.1,.int .u64 m.2]
def Lt(r c:Int)(l:Bf):List (List DV):=match Hk r.toNat c.toNat l with
 | some x=>SY x.2
 | none=>[]
def PE(m:Int):Int:=I9 (m.toNat*2^64)
def PF(m:Int):Bool:=decide (I9 (m.toNat*2^64)*I9 (m.toNat*2^64)=m.toNat*2^64)
def Nm(r c:Nat)(l:Bf):Bool:=(Hk r c l).isSome&&(Dx (Iw r c l)&&Dx (IA r c l))
def EY(r c:Int)(l:Bf):Int:=if BT r c l≠0 then BT r c l else if Nm r.toNat c.toNat l=wc then 0 else 2
def qX(r c:Int)(l:Bf):MX:=if EY r c l≠0 then Jw (EY r c l) else (r,r,Iw r.toNat c.toNat l,0)
def rX(r c:Int)(l:Bf):MX:=if EY r c l≠0 then Jw (EY r c l) else (r,c,IA r.toNat c.toNat l,0)
def TR(r c:Int)(l:Bf):MX:=if EY r c l≠0 then Jw (EY r c l) else (r,min r c,(Ff r r (Iw r.toNat c.toNat l) 0 0 r (min r c)).2.2.1,0)
def Pf(r c:Int)(l:Bf):MX:=if EY r c l≠0 then Jw (EY r c l) else (min r c,c,(Ff r c (IA r.toNat c.toNat l) 0 0 (min r c) c).2.2.1,0)
def mulM(x y:MX):MX:=ON x.1 x.2.1 x.2.2.1 y.1 y.2.1 y.2.2.1
def Ak3(x:MX):MX:=Ej x.1 x.2.1 x.2.2.1
def KT(x:MX)(i k a b:Int):MX:=Ff x.1 x.2.1 x.2.2.1 i k a b
def eqT(p q:Int)(m:Bf):Bf:=(Ej p q m).2.2.1
def eqR(p q:Int)(m:Bf):MX:=rX q p (eqT p q m)
def eqS(p q:Int)(m:Bf):MX:=Ak3 (KT (eqR p q m) 0 0 p p)
def hY(p q:Int)(m:Bf)(u v:Int)(h:Bf):MX:=
 if EY q p (eqT p q m)≠0 then Jw (EY q p (eqT p q m)) else if (Ai3 (eqS p q m).1 (eqS p q m).2.1 (eqS p q m).2.2.1).1=wc then Jw 5
 else loX (eqS p q m).1 (eqS p q m).2.1 (eqS p q m).2.2.1 u v h
def hQ(p q:Int)(m:Bf):MX:=
 if EY q p (eqT p q m)≠0 then Jw (EY q p (eqT p q m)) else if (Ai3 (eqS p q m).1 (eqS p q m).2.1 (eqS p q m).2.2.1).1=wc then Jw 5
 else qX q p (eqT p q m)
def AmC(x y:MX):MX:=AmB x.1 x.2.1 x.2.2.1 y.1 y.2.1 y.2.2.1
def AmS(x:MX):Int:=BT x.1 x.2.1 x.2.2.1
def Ald(c:Int)(x:MX):MX:=KT x 0 0 c x.2.1
def gF(r c:Int)(C E y:MX):MX:=AmC (Ald c C) (mulM (Ald c E) y)
def Xd(k b:Int):Bool:=Du b&&(decide (BF b=0)||(decide (-k<=BO b)&&decide (BO b<k)))
def G1(x:Bf)(k:Int):Bool:=x.all (Xd k)
structure Wh(x:Int)(v:Int):Prop where
 word:Br x=wc
 k3:Bn x.toNat≠3
 k4:Bn x.toNat≠4
 val:∃g:Int,g<=0/\g<=B6 x.toNat/\E3 x.toNat g=v*((2^(-g).toNat:Nat):Int)
theorem J5:Br (0:Int)=wc:=CI (n:=0) (by decide)
theorem VR:Br SM=wc:=CI (n:=4607182418800017408) (by decide)
theorem Aca{b:Nat}{n:Int}(h:b<2^64):(Cj b n).1<2^64:=by
 unfold Cj;by_cases h4:Bn b=4
 ·rw[Az h4]; exact(by decide:N2<2^64)
 rw[Ay h4];by_cases h3:Bn b=3\/Bn b=0
 ·rw[Az h3]; exact h
 rw[Ay h3];exact ML _ _ _
theorem FD{b n:Int}(h:Br b=wc):Br (BV b n)=wc:=by obtain⟨x,rfl,hx⟩:=C3 h;exact CI (Aca (by rw[Ad]; exact hx))
theorem Qe(b:Nat):DP b<2^63:=zt _ (by decide)
theorem TA:∀(l:Bf) (m:Nat),m<2^64->Iz l m<2^64
 | [],m,h=>h
 | x::l,m,h=>by
   unfold Iz;split
   ·exact(by decide:N2<2^64)
   ·have h2:=Qe x.toNat;exact TA l _ (by omega)
theorem QP(l:Bf):Br (BI l)=wc:=CI (TA l 0 (by decide))
theorem Wd(x:Int):Br (K3 x)=wc:=CI (y5 (Qe x.toNat) (by decide))
theorem Pc{a b:Int}(ha:Br a=wc)(hb:Br b=wc):Br (DD a b)=wc:=by obtain⟨x,rfl,hx⟩:=C3 ha;obtain⟨y,rfl,hy⟩:=C3 hb;exact CI (Qc (by rw[Ad]; exact hx) (by rw[Ad]; exact hy)).1
theorem P8{a:Int}(ha:Br a=wc):Br (Cy a)=wc:=by obtain⟨x,rfl,hx⟩:=C3 ha;exact CI (QB (by rw[Ad]; exact hx))
theorem Aem{b:Nat}(h:b<2^64):(Ek b).1<2^64:=by
 by_cases h4:Bn b=4
 ·rw[Sv h4]; exact(by decide:N2<2^64)
 by_cases h0:Bn b=0\/b=Er
 ·rw[IF h4 h0]; exact h
 cases hn:Ce b with
 | true=>rw[Xl h4 h0 hn]; exact(by decide:N2<2^64)
 | false =>unfold Ek;rw[Ay h4,Ay h0,hn,Ay (by decide)];exact y5 (IX _ _) (by decide)
theorem RI{a:Int}(ha:Br a=wc):Br (DG a)=wc:=by obtain⟨x,rfl,hx⟩:=C3 ha;exact CI (Aem (by rw[Ad]; exact hx))
theorem Aek(k:Int):∀(l:Bf) {s:Int},Br s=wc->Br (F8 k s l)=wc
 | [],_,h=>h
 | _::l,_,h=>Aek k l (Pc h (Fo _ _))
theorem JF(x:Bf):Br (Cb x)=wc:=by
 unfold Cb;split
 ·exact QP x
 ·exact FD (RI (Aek _ _ J5))
theorem Afb(x:Bf):Br (KU x)=wc:=by
 unfold KU;split
 ·exact JF _
 ·exact P8 (JF _)
theorem Aih(x:Bf):Br (FC x)=wc:=FD (Afb x)
theorem AcW(b:Nat):-1100<=Em b/\Em b<=1100:=by
 unfold Em;split
 ·have h1:=CH b;have h2:=EJ b;rename_i h
  have h3:(Bx b).log2<53:=by
   by_cases h0:Bx b=0
   ·rw[h0]; decide
   ·exact(AZ h0).2 h2
  omega
 ·omega
theorem Wu(x:Int):-1100<=BO x/\BO x<=1100:=AcW x.toNat
theorem Jp{l:Bf}(h:Bq l=wc)(j:Nat):Br (l.getD j 0)=wc:=AhI (Bv.1 h) j
theorem NY{l:Bf}(h:∀x∈l,Br x=wc):Bq l=wc:=Bv.2 h
theorem Ags:Bq []=wc:=NY fun _ h=>by cases h
theorem TG{α:Type}{l:List α}{f:α->Int}(h:∀j,Br (f j)=wc):Bq (l.map f)=wc:=NY fun x hx=>by obtain⟨j,_,rfl⟩:=zh.1 hx;exact h j
theorem Ado{x:Int}{l:Bf}(h1:Br x=wc)(h2:Bq l=wc):Bq (x::l)=wc:=NY fun y hy=>by
 rcases zB.1 hy with rfl | hy
 ·exact h1
 ·exact Bv.1 h2 y hy
theorem FV{c i k:Int}{l:Bf}(h:Bq l=wc):Br (Dy c l i k)=wc:=Jp h _
theorem Dv(c b i:Int)(n:Nat)(l:Bf):(BQ c l b i n).length=n:=by unfold BQ; rw[AO,AL]
theorem HJ{c b i:Int}{n:Nat}{l:Bf}(h:Bq l=wc):Bq (BQ c l b i n)=wc:=TG fun _=>FV h
theorem Aez(n:Nat){f:Nat->Int}(h:∀j,Br (f j)=wc):Bq (G8 n f)=wc:=Ado VR (TG fun _=>h _)
theorem LF{n:Nat}(h:n≠0)(f:Nat->Int):(G8 n f).length=n:=by unfold G8;rw[zj,AO,AL];omega
theorem RR{x:Bf}(h:Bq x=wc):Bq (Cm x).1=wc/\Br (Cm x).2.1=wc/\Br (Cm x).2.2.1=wc:=by
 have hz:Bq []=wc/\Br (0:Int)=wc/\Br (0:Int)=wc:=⟨Ags,J5,J5⟩
 unfold Cm;split
 ·exact hz
 split
 ·unfold Z0;split
  ·dsimp only;exact⟨Aez _ fun _=>J5,J5,Jp h 0⟩
  ·split
   ·dsimp only;exact⟨Aez _ fun _=>No _ _,No _ _,Aih x⟩
   ·exact hz
 ·exact hz
theorem Lu{x:Bf}(h:(Cm x).2.2.2=0):(Cm x).1.length=x.length:=by
 unfold Cm at h ⊢;by_cases h1:x.length=0\/64<x.length
 ·rw[Az h1] at h; exact absurd h (by decide)
 rw[Ay h1] at h ⊢;by_cases h2:Dx x=wc
 ·rw[Az h2] at h ⊢;unfold Z0 at h ⊢;by_cases h3:Fg (x.drop 1)=wc
  ·rw[Az h3]; dsimp only; exact LF (n:=x.length) (by omega) _
  ·rw[Ay h3] at h ⊢;by_cases h4:Du (FC x)=wc
   ·rw[Az h4]; dsimp only[Q9]; exact LF (n:=x.length) (by omega) _
   ·rw[Ay h4] at h; exact absurd h (by decide)
 ·rw[Ay h2] at h; exact absurd h (by decide)
theorem HG(x y:Bf):Br (EU x y)=wc:=CI (Sd x y 0 (by decide))
theorem Adm{c i k t a b:Int}{l v:Bf}(h:Bq l=wc):Br (Gv c l i k v t a b)=wc:=by
 unfold Gv;split
 ·exact O8 (FV h) (Fo _ _)
 ·exact FV h
theorem Vk{r c:Nat}{l:Bf}(h:Bq l=wc)(i k:Int)(v:Bf)(t:Int):Bq (F5 r c l i k v t)=wc:=Gu fun _ _=>Adm h
theorem KX(r c:Nat)(l:Bf)(i k:Int)(v:Bf)(t:Int):(F5 r c l i k v t).length=r*c:=Ch _ _ _
theorem Adf{r c:Nat}{l:Bf}(h:Bq l=wc)(j:Nat){x:Int}(hx:Br x=wc):Bq (Ns r c l j x)=wc:=Gu fun a b=>by
 split
 ·split
  ·exact hx
  ·exact J5
 ·exact FV h
theorem MY(r c:Nat)(l:Bf)(j:Nat):(Mu r c l j).length=r*c:=by unfold Mu Ns; exact Ch _ _ _
theorem NO{r c:Nat}{l:Bf}(h:Bq l=wc)(j:Nat):Bq (Mu r c l j)=wc:=Adf (Vk h _ _ _ _) _ (RR (HJ h)).2.2
def XF(r:Nat):Nat->List (Bf × Int)->Prop
 | _,[]=>True
 | j,m::ms=>(Bq m.1=wc/\Br m.2=wc/\m.1.length+j=r)/\XF r (j+1) ms
theorem Tz(r c:Nat):∀(n j:Nat) (l:Bf) (x:Bf × List (Bf × Int)),Bq l=wc->l.length=r*c->j+n<=r->Ix r c n j l=wM x->Bq x.1=wc/\x.1.length=r*c/\x.2.length=n/\XF r j x.2
 | 0,j,l,x,ha,hl,_,h=>by cases h;exact⟨ha,hl,rfl,trivial⟩
 | n+1,j,l,x,ha,hl,hj,h=>by
   unfold Ix at h;by_cases h1:(Cm (D5 r c l j)).2.2.2=0
   ·rw[Az h1,Option.map_eq_some_iff] at h;obtain⟨y,hy,rfl⟩:=h;obtain⟨a1,a2,a3,a4⟩:=Tz r c n (j+1) _ y (NO ha j) (MY r c l j) (by omega) hy;have hm:=RR (x:=D5 r c l j) (HJ ha);have hlen:=Lu h1;refine⟨a1,a2,by rw[zj,a3],⟨hm.1,hm.2.1,?_⟩,a4⟩;show(Cm (D5 r c l j)).1.length+j=r;rw[hlen];unfold D5;rw[Dv];omega
   ·rw[Ay h1] at h; cases h
theorem Sb(n:Nat):Bq (Fi n)=wc:=Gu fun i k=>by
 unfold LS;split
 ·exact VR
 ·exact J5
theorem PY(n:Nat):∀(ms:List (Bf × Int)) (j:Nat) (q:Bf),Bq q=wc->q.length=n*n->Bq (Ie n j ms q)=wc/\(Ie n j ms q).length=n*n
 | [],_,_,h1,h2=>⟨h1,h2⟩
 | m::ms,j,q,h1,h2=>by unfold Ie;exact⟨Vk (PY n ms (j+1) q h1 h2).1 _ _ _ _,KX _ _ _ _ _ _ _⟩
theorem Ws{r c:Nat}{l:Bf}(h:(Hk r c l).isSome=wc):Bq (Iw r c l)=wc/\(Iw r c l).length=r*r:=by
 unfold Iw;cases hd:Hk r c l with
 | none=>rw[hd] at h; cases h
 | some x=>exact PY r x.2 0 _ (Sb r) (by unfold Fi; exact Ch _ _ _)
theorem Abk{r c:Nat}{l:Bf}(ha:Bq l=wc)(hl:l.length=r*c)(h:(Hk r c l).isSome=wc):Bq (IA r c l)=wc/\(IA r c l).length=r*c:=by
 unfold IA;cases hd:Hk r c l with
 | none=>rw[hd] at h; cases h
 | some x =>
   have hn:ER r c<=r:=by unfold ER; omega
   have:=Tz r c (ER r c) 0 l x ha hl (by omega) hd;exact⟨this.1,this.2.1⟩
theorem IL(n:Nat):GJ n=!(decide (Bn n=3)||decide (Bn n=4)):=by
 have:=Il n;unfold GJ Bn;by_cases h:DH n=2047
 ·by_cases h2:Df n=0<;>simp[h,h2]
 ·have h3:DH n<2047:=by omega
  by_cases h4:0<DH n
  ·simp[h,h3,h4]
  ·by_cases h5:0<Df n<;>simp[h,h3,h4,h5]
theorem RL(s:Bool)(m:Nat):(Gx s m).natAbs=m:=by unfold Gx; split<;>omega
theorem Ab7{b:Nat}(h:b<2^64)(g:Int):E3 (DR b) g=-(E3 b g)/\B6 (DR b)=B6 b/\GJ (DR b)=GJ b:=by
 obtain⟨h1,h2,h3⟩:=HZ h;have hm:Bx (DR b)=Bx b:=by unfold Bx; rw[h2,h3]
 have he:B6 (DR b)=B6 b:=by unfold B6; rw[h2]
 refine⟨?_,he,by unfold GJ; rw[h2]⟩;unfold E3;rw[h1,hm,he];unfold Gx;cases Ce b
 ·rfl
 ·show((_:Nat):Int)=- -((_:Nat):Int);omega
def pw(k:Nat):Nat:=(k+1023)*2^52
theorem MR{k:Nat}(h:k<=1023):Bx (pw k)=2^52/\B6 (pw k)=(k:Int)-52/\Bn (pw k)=2/\pw k%2^63=pw k/\pw k<Er:=by
 have hp:DH (pw k)=k+1023:=by unfold DH pw; omega
 have hf:Df (pw k)=0:=by unfold Df pw; omega
 refine⟨?_,?_,?_,?_,?_⟩
 ·unfold Bx; rw[hp,hf,Ay (by omega)]
 ·unfold B6; rw[hp,Ay (by omega)]; omega
 ·unfold Bn; rw[hp,Ay (by omega),Az (by omega)]
 ·unfold pw; omega
 ·rw[Ex]; unfold pw; omega
def Ih(a:Nat):Nat:=EE a (-1074)
theorem AaO{k:Nat}(h:k<=1023):Ih (pw k)=2^(k+1074):=by obtain⟨h1,h2,_⟩:=MR h;unfold Ih EE;rw[h1,h2,<- A5];congr 1; omega
theorem RN{k:Nat}(h:k<=1023):Cu (2^(k+1074)) (-1074)=pw k:=by obtain⟨h1,h2,h3,h4,_⟩:=MR h;have:=Ji (b:=pw k) (f:=-1074) (by omega) (by omega);rw[h4] at this;rw[<- this,<- AaO h]; rfl
def Bd(k:Nat)(a:Nat):Prop:=Bn a≠3/\Bn a≠4/\Ih a<=2^(k+1074)
theorem Bd.mono{j k a:Nat}(h:Bd j a)(hk:j<=k):Bd k a:=⟨h.1,h.2.1,AP h.2.2 (Aq (by decide) (by omega))⟩
theorem Bd.JE{k a:Nat}(hk:k<=1023)(h4:Bn a≠4)(h:a%2^63<=pw k):Bd k a:=by
 obtain⟨p1,p2,p3,p4,p5⟩:=MR hk;have h3:Bn a≠3:=fun e=>by have:=NU e; omega
 refine⟨h3,h4,?_⟩;have ha:=CH a;rcases AF (Ih (pw k)) (Ih a) with g | g
 ·have:=(Ta (f:=-1074) (by omega) h4 (by omega) ha.1).1 g;omega
 ·rw[AaO hk] at g; exact g
theorem Gd(s:Bool)(V:Nat)(E:Int):Bn (Cq s (Cu V E))≠4:=by
 have h:=NI V E;rw[Ex] at h;have hp:=Q1 s (r:=Cu V E) (by omega);have hf:=OT s (Cu V E);unfold Bn;rw[hp,hf];split
 ·split
  ·omega
  ·omega
 ·split
  ·omega
  ·split<;>omega
theorem Bd.Cu{k:Nat}(s:Bool){V:Nat}{E:Int}(hk:k<=1023)(h:Cu V E<=pw k):Bd k (Cq s (Cu V E)):=by
 refine .JE hk (Gd s V E) ?_;have:=IX V E;have e:Cq s (Go.Cn.Cu V E)%2^63=Go.Cn.Cu V E:=by unfold Cq; split<;>omega
 rw[e]; exact h
theorem Bd.zero(s:Bool)(k:Nat):Bd k (Cq s 0):=by
 have:Bn (Cq s 0)=0/\Ih (Cq s 0)=0:=by cases s<;>decide +kernel
 exact⟨by omega,by omega,by rw[this.2]; exact zl _⟩
theorem Ki(a:Nat):(E3 a (-1074)).natAbs=Ih a:=by unfold E3 Ih EE;rw[RL]
theorem Bd.add{k a b:Nat}(hk:k+1<=1023)(ha:Bd k a)(hb:Bd k b):Bd (k+1) (DS a b).1:=by
 obtain⟨a3,a4,am⟩:=ha;obtain⟨b3,b4,bm⟩:=hb;have pa:=CH a;have pb:=CH b;have ek:=Sf a3 a4 b3 b4 (g:=-1074) (by omega)
 have e4:Bn (DS a b).1≠4:=by
  rw[Nx (by omega) a3 b3];unfold HK;split
  ·have:Bn (Cq (Ce a&&Ce b) 0)=0:=by cases (Ce a&&Ce b)<;>decide
   show Bn (Cq (Ce a&&Ce b) 0)≠4;omega
  ·exact Gd _ _ _
 refine .JE hk e4 ?_
 have hs:(E3 a (-1074)+E3 b (-1074)).natAbs<=2^(k+1+1074):=by
  have h1:=Ki a;have h2:=Ki b;have:2^(k+1+1074)=2^(k+1074)+2^(k+1074):=by rw[show k+1+1074=k+1074+1 by omega,zD]; omega
  omega
 have hr:=Fv (E:=-1074) hs;rw[RN hk] at hr;have hn:(Gt (DS a b).1).natAbs=(DS a b).1%2^63:=by unfold Gt; rw[RL]
 rw[<- hn,ek];unfold TV;split<;>omega
theorem Bd.mul{j k a b:Nat}(hk:j+k<=1023)(ha:Bd j a)(hb:Bd k b):Bd (j+k) (Ee a b).1:=by
 obtain⟨a3,a4,am⟩:=ha;obtain⟨b3,b4,bm⟩:=hb;have pa:=CH a;have pb:=CH b;unfold Ee;rw[Ay (by omega),Ay (by omega)];refine .Cu _ hk ?_;obtain⟨u,hu⟩:∃u:Nat,B6 a=(u:Int)-1074:=⟨(B6 a+1074).toNat,by omega⟩
 obtain⟨v,hv⟩:∃v:Nat,B6 b=(v:Int)-1074:=⟨(B6 b+1074).toNat,by omega⟩
 have ea:Ih a=Bx a*2^u:=by unfold Ih EE; congr 2; omega
 have eb:Ih b=Bx b*2^v:=by unfold Ih EE; congr 2; omega
 have s1:=(D2 (Bx a*Bx b) (u+v) (B6 a+B6 b)).1;obtain⟨t,ht⟩:∃t:Nat,t=1074:=⟨1074,rfl⟩
 rw[<- s1,<- RN hk,<- (D2 (2^(j+k+1074)) t (-1074)).1];rw[<- ht] at am bm ⊢;have ee:B6 a+B6 b-((u+v:Nat):Int)=-1074-(t:Int):=by omega
 rw[ee];refine Fv ?_
 have:Bx a*Bx b*2^(u+v)=Ih a*Ih b:=by rw[ea,eb,A5,y6]
 rw[this,<- A5,show j+k+t+t=(j+t)+(k+t) by omega,A5];exact AE am bm
theorem MZ{k b:Nat}(hb:b<2^64)(h:Bd k b):Bd k (DR b):=by
 obtain⟨h3,h4,hm⟩:=h;obtain⟨v1,v2,v3⟩:=Ab7 hb (-1074);have hf:GJ b=wc:=by rw[IL]; simp[h3,h4]
 have k':=H8 (v3.trans hf);refine⟨k'.2,k'.1,?_⟩;rw[<- Ki,v1,xm,Ki]; exact hm
theorem Bd.sub{k a b:Nat}(hk:k+1<=1023)(hb64:b<2^64)(ha:Bd k a)(hb:Bd k b):Bd (k+1) (Ql a b).1:=Bd.add hk ha (MZ hb64 hb)
theorem Bd.fin{k a:Nat}(h:Bd k a):GJ a=wc:=by rw[IL]; simp[h.1,h.2.1]
theorem Bd.Ajm{k a:Nat}(hf:GJ a=wc)(h:Bx a≠0->((Bx a).log2:Int)+B6 a<(k:Int)):Bd k a:=by
 refine⟨(H8 hf).2,(H8 hf).1,?_⟩;have pa:=CH a;unfold Ih EE;by_cases h0:Bx a=0
 ·rw[h0,zK]; exact zl _
 ·have hl:=h h0;have h1:=yv (n:=Bx a);have h2:Bx a*2^(B6 a - -1074).toNat<=2^((Bx a).log2+1)*2^(B6 a - -1074).toNat:=An _ (by omega);rw[<- A5] at h2;exact AP h2 (Aq (by decide) (by omega))
theorem ZV{P root rest two:Nat}(h1:P=root*root+rest)(h2:rest<=2*root)(h3:two<4):
 (4*root+1<=4*rest+two->4*P+two=(2*root+1)*(2*root+1)+(4*rest+two-(4*root+1))/\4*rest+two-(4*root+1)<=2*(2*root+1)) /\
 (4*rest+two<4*root+1->4*P+two=(2*root)*(2*root)+(4*rest+two)/\4*rest+two<=2*(2*root)):=by
 have e1:(2*root+1)*(2*root+1)=4*(root*root)+(4*root+1):=by
  rw[AM,z7,z7];have:2*root*(2*root)=4*(root*root):=by rw[y6]
  omega
 have e2:(2*root)*(2*root)=4*(root*root):=by rw[y6]
 constructor
 ·intro h; rw[e1]; omega
 ·intro h; rw[e2]; omega
theorem Ahe{P root rest:Nat}(h1:P=root*root+rest)(h2:rest<=2*root):root=I9 P:=by
 refine Tm (by omega) ?_;have:(root+1)*(root+1)=root*root+2*root+1:=by rw[AM,z7]; omega
 omega
end Go.Cn
end
