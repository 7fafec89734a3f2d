/- A verified evaluator of the program's form and its use for this seat: S1Env, Rnd, Flt, Words, NearL, IeeL, OrdL, MulL, Limb, DyL, DyV, ExactL, MulW, SumL, MatL, MatW, PowL, RootL, ScaleL, SolW, TriL, HouW, LseW, GgW, RidW, WhoW, HouL, DiffL, MagL, RootM. -/
import Derived.Test.YthajngaadbanfaaGreatProg
import Derived.Test.YthajngaadbanfaaGreatTD
set_option linter.unusedVariables false
set_option linter.unusedSimpArgs false
open Option renaming some->xQ,none->xY
open Bool renaming true->xZ,false->x5
open List renaming length->wj
open Nat renaming beq->zg,mod_one->xS,mul_mod_mul_left->vN,mul_left_comm->yR,mul_eq_zero->xj,add_comm->xi,log2_self_le->z6,lt_log2_self->yx,le_log2->zO,mul_lt_mul_right->xl,div_add_mod->zG,mod_lt->zu,zero_le->zo,pow_succ->zH,one_mul->zC,add_assoc->yg,add_sub_cancel->yE,div_lt_iff_lt_mul->yr,le_div_iff_mul_le->y5,div_eq_of_lt->z7,eq_zero_or_pos->yy,zero_div->xo,zero_mul->zJ,le_of_lt->xC,mul_add->yc,dvd_of_mod_eq_zero->vS,mul_div_cancel_left->vT,mul_pos->xV,exists_eq_add_of_le->vU,mul_le_mul_left->yM,mul_zero->yd,div_one->yH,mul_div_cancel->xX,min_eq_left->yv,min_eq_right->xP,add_lt_add_left->vW,sub_mul->yj,lt_trans->y7,mul_mul_mul_comm->y8
open Int renaming natCast_nonneg->xm,natCast_zero->wK,add_zero->xn,min_le_left->wM,min_le_right->wN,mul_nonneg->xT,mul_neg_of_neg_of_pos->wO,natAbs_mul->yt,natAbs_natCast->zV,neg_mul->xU,zero_mul->yu,mul_lt_mul_right->vV,natAbs_neg->xp,toNat_of_nonneg->xy
open Bool renaming false_eq_true->zW
open List renaming length_cons->zj,mem_cons->zF,range->zf,length_set->yN,map_append->yi,mem_map->zh
noncomputable section
namespace Go.Proofs.S1
open Go Go.Den Go.Proofs
set_option maxRecDepth 100000
abbrev tB:Nat:=43
abbrev tI:Nat:=3
abbrev tMR:Nat:=161
abbrev tW:Nat:=121
def tys:List (Nat × TI):=[
 (2,⟨1,8,(.int .i64),[.int .i64 (0:Int)]⟩),
 (3,⟨1,8,(.int .i64),[.int .i64 (0:Int)]⟩),
 (4,⟨1,1,.bool,[.bool x5]⟩),
 (5,⟨1,1,(.int .u8),[.int .u8 (0:Int)]⟩),
 (22,⟨1,24,(.slice 43),[.nil]⟩),
 (24,⟨3,40,(.struct [(0,3),(1,3),(2,22)]),[.int .i64 (0:Int),.int .i64 (0:Int),.nil]⟩),
 (26,⟨14,208,(.struct [(0,24),(3,24),(6,24),(9,24),(12,22),(13,22)]),[.int .i64 (0:Int),.int .i64 (0:Int),.nil,.int .i64 (0:Int),.int .i64 (0:Int),.nil,.int .i64 (0:Int),.int .i64 (0:Int),.nil,.int .i64 (0:Int),.int .i64 (0:Int),.nil,.nil,.nil]⟩),
 (30,⟨1,24,(.slice 121),[.nil]⟩),
 (32,⟨2,32,(.struct [(0,4),(1,30)]),[.bool x5,.nil]⟩),
 (34,⟨3,40,(.struct [(0,32),(2,3)]),[.bool x5,.nil,.int .i64 (0:Int)]⟩),
 (42,⟨1,8,(.int .u64),[.int .u64 (0:Int)]⟩),
 (43,⟨1,8,(.int .u64),[.int .u64 (0:Int)]⟩),
 (49,⟨1,8,(.int .i64),[.int .i64 (0:Int)]⟩),
 (54,⟨15,216,(.struct [(0,24),(3,24),(6,24),(9,24),(12,22),(13,22),(14,49)]),[.int .i64 (0:Int),.int .i64 (0:Int),.nil,.int .i64 (0:Int),.int .i64 (0:Int),.nil,.int .i64 (0:Int),.int .i64 (0:Int),.nil,.int .i64 (0:Int),.int .i64 (0:Int),.nil,.nil,.nil,.int .i64 (0:Int)]⟩),
 (63,⟨8,112,(.struct [(0,24),(3,24),(6,22),(7,49)]),[.int .i64 (0:Int),.int .i64 (0:Int),.nil,.int .i64 (0:Int),.int .i64 (0:Int),.nil,.nil,.int .i64 (0:Int)]⟩),
 (77,⟨1,24,(.slice 34),[.nil]⟩),
 (79,⟨3,40,(.struct [(0,3),(1,3),(2,77)]),[.int .i64 (0:Int),.int .i64 (0:Int),.nil]⟩),
 (95,⟨6,80,(.array 2 24),[.int .i64 (0:Int),.int .i64 (0:Int),.nil,.int .i64 (0:Int),.int .i64 (0:Int),.nil]⟩),
 (97,⟨7,88,(.struct [(0,24),(3,24),(6,4)]),[.int .i64 (0:Int),.int .i64 (0:Int),.nil,.int .i64 (0:Int),.int .i64 (0:Int),.nil,.bool x5]⟩),
 (115,⟨1,24,(.slice 3),[.nil]⟩),
 (121,⟨1,4,(.int .u32),[.int .u32 (0:Int)]⟩),
 (126,⟨1,24,(.slice 24),[.nil]⟩),
 (139,⟨1,1,(.int .u8),[.int .u8 (0:Int)]⟩),
 (144,⟨1,8,.fl,[.fl 0]⟩),
 (156,⟨1,24,(.slice 161),[.nil]⟩),
 (161,⟨2,32,(.struct [(0,22),(1,43)]),[.nil,.int .u64 (0:Int)]⟩),
 (167,⟨3,24,(.struct [(0,43),(1,43),(2,4)]),[.int .u64 (0:Int),.int .u64 (0:Int),.bool x5]⟩),
 (173,⟨1,24,(.slice 175),[.nil]⟩),
 (175,⟨3,40,(.struct [(0,22),(1,43),(2,43)]),[.nil,.int .u64 (0:Int),.int .u64 (0:Int)]⟩),
 (180,⟨1,8,(.int .u64),[.int .u64 (0:Int)]⟩),
 (194,⟨3,24,(.struct [(0,4),(1,3),(2,42)]),[.bool x5,.int .i64 (0:Int),.int .u64 (0:Int)]⟩),
 (214,⟨1,8,(.int .i64),[.int .i64 (0:Int)]⟩)]
theorem ty2:CI Tryz.prog 2 ⟨1,8,(.int .i64),[.int .i64 (0:Int)]⟩:=CY (z:=.int .i64 (0:Int)) (by kernel_rfl) (fun c w=>by simp[BM,B0,Value.cells]) rfl (by simp[Value.cells,Value.oneCell']) (by simp only[CV]; exact Tryz.underlying2)
theorem ty3:CI Tryz.prog 3 ⟨1,8,(.int .i64),[.int .i64 (0:Int)]⟩:=CY (z:=.int .i64 (0:Int)) (by kernel_rfl) (fun c w=>by simp[BM,B0,Value.cells]) rfl (by simp[Value.cells,Value.oneCell']) (by simp only[CV]; exact Tryz.underlying3)
theorem ty4:CI Tryz.prog 4 ⟨1,1,.bool,[.bool x5]⟩:=CY (z:=.bool x5) (by kernel_rfl) (fun c w=>by simp[BM,B0,Value.cells]) rfl (by simp[Value.cells,Value.oneCell']) (by simp only[CV]; exact Tryz.underlying4)
theorem ty5:CI Tryz.prog 5 ⟨1,1,(.int .u8),[.int .u8 (0:Int)]⟩:=CY (z:=.int .u8 (0:Int)) (by kernel_rfl) (fun c w=>by simp[BM,B0,Value.cells]) rfl (by simp[Value.cells,Value.oneCell']) (by simp only[CV]; exact Tryz.underlying5)
theorem Ani:CI Tryz.prog 22 ⟨1,24,(.slice 43),[.nil]⟩:=CY (z:=.slice xY 0 0) (by kernel_rfl) (fun c w=>by simp[BM,B0,Value.cells]) rfl (by simp[Value.cells,Value.oneCell']) (by simp only[CV]; exact Tryz.underlying22)
theorem Anh:CI Tryz.prog 24 ⟨3,40,(.struct [(0,3),(1,3),(2,22)]),[.int .i64 (0:Int),.int .i64 (0:Int),.nil]⟩:=CY (z:=.agg #[.int .i64 (0:Int),.int .i64 (0:Int),.slice xY 0 0]) (by kernel_rfl) (fun c w=>by simp[BM,B0,Value.cells]) rfl (by simp[Value.cells,Value.oneCell']) (by simp only[CV]; exact⟨_,Tryz.underlying24,by kernel_rfl⟩)
theorem Ang:CI Tryz.prog 26 ⟨14,208,(.struct [(0,24),(3,24),(6,24),(9,24),(12,22),(13,22)]),[.int .i64 (0:Int),.int .i64 (0:Int),.nil,.int .i64 (0:Int),.int .i64 (0:Int),.nil,.int .i64 (0:Int),.int .i64 (0:Int),.nil,.int .i64 (0:Int),.int .i64 (0:Int),.nil,.nil,.nil]⟩:=CY (z:=.agg #[.int .i64 (0:Int),.int .i64 (0:Int),.slice xY 0 0,.int .i64 (0:Int),.int .i64 (0:Int),.slice xY 0 0,.int .i64 (0:Int),.int .i64 (0:Int),.slice xY 0 0,.int .i64 (0:Int),.int .i64 (0:Int),.slice xY 0 0,.slice xY 0 0,.slice xY 0 0]) (by kernel_rfl) (fun c w=>by simp[BM,B0,Value.cells]) rfl (by simp[Value.cells,Value.oneCell']) (by simp only[CV]; exact⟨_,Tryz.underlying26,by kernel_rfl⟩)
theorem Anf:CI Tryz.prog 30 ⟨1,24,(.slice 121),[.nil]⟩:=CY (z:=.slice xY 0 0) (by kernel_rfl) (fun c w=>by simp[BM,B0,Value.cells]) rfl (by simp[Value.cells,Value.oneCell']) (by simp only[CV]; exact Tryz.underlying30)
theorem Ane:CI Tryz.prog 32 ⟨2,32,(.struct [(0,4),(1,30)]),[.bool x5,.nil]⟩:=CY (z:=.agg #[.bool x5,.slice xY 0 0]) (by kernel_rfl) (fun c w=>by simp[BM,B0,Value.cells]) rfl (by simp[Value.cells,Value.oneCell']) (by simp only[CV]; exact⟨_,Tryz.underlying32,by kernel_rfl⟩)
theorem Anc:CI Tryz.prog 34 ⟨3,40,(.struct [(0,32),(2,3)]),[.bool x5,.nil,.int .i64 (0:Int)]⟩:=CY (z:=.agg #[.bool x5,.slice xY 0 0,.int .i64 (0:Int)]) (by kernel_rfl) (fun c w=>by simp[BM,B0,Value.cells]) rfl (by simp[Value.cells,Value.oneCell']) (by simp only[CV]; exact⟨_,Tryz.underlying34,by kernel_rfl⟩)
theorem All:CI Tryz.prog 42 ⟨1,8,(.int .u64),[.int .u64 (0:Int)]⟩:=CY (z:=.int .u64 (0:Int)) (by kernel_rfl) (fun c w=>by simp[BM,B0,Value.cells]) rfl (by simp[Value.cells,Value.oneCell']) (by simp only[CV]; exact Tryz.underlying42)
theorem Anb:CI Tryz.prog 43 ⟨1,8,(.int .u64),[.int .u64 (0:Int)]⟩:=CY (z:=.int .u64 (0:Int)) (by kernel_rfl) (fun c w=>by simp[BM,B0,Value.cells]) rfl (by simp[Value.cells,Value.oneCell']) (by simp only[CV]; exact Tryz.underlying43)
theorem Ana:CI Tryz.prog 49 ⟨1,8,(.int .i64),[.int .i64 (0:Int)]⟩:=CY (z:=.int .i64 (0:Int)) (by kernel_rfl) (fun c w=>by simp[BM,B0,Value.cells]) rfl (by simp[Value.cells,Value.oneCell']) (by simp only[CV]; exact Tryz.underlying49)
theorem AmZ:CI Tryz.prog 54 ⟨15,216,(.struct [(0,24),(3,24),(6,24),(9,24),(12,22),(13,22),(14,49)]),[.int .i64 (0:Int),.int .i64 (0:Int),.nil,.int .i64 (0:Int),.int .i64 (0:Int),.nil,.int .i64 (0:Int),.int .i64 (0:Int),.nil,.int .i64 (0:Int),.int .i64 (0:Int),.nil,.nil,.nil,.int .i64 (0:Int)]⟩:=CY (z:=.agg #[.int .i64 (0:Int),.int .i64 (0:Int),.slice xY 0 0,.int .i64 (0:Int),.int .i64 (0:Int),.slice xY 0 0,.int .i64 (0:Int),.int .i64 (0:Int),.slice xY 0 0,.int .i64 (0:Int),.int .i64 (0:Int),.slice xY 0 0,.slice xY 0 0,.slice xY 0 0,.int .i64 (0:Int)]) (by kernel_rfl) (fun c w=>by simp[BM,B0,Value.cells]) rfl (by simp[Value.cells,Value.oneCell']) (by simp only[CV]; exact⟨_,Tryz.underlying54,by kernel_rfl⟩)
theorem AmY:CI Tryz.prog 63 ⟨8,112,(.struct [(0,24),(3,24),(6,22),(7,49)]),[.int .i64 (0:Int),.int .i64 (0:Int),.nil,.int .i64 (0:Int),.int .i64 (0:Int),.nil,.nil,.int .i64 (0:Int)]⟩:=CY (z:=.agg #[.int .i64 (0:Int),.int .i64 (0:Int),.slice xY 0 0,.int .i64 (0:Int),.int .i64 (0:Int),.slice xY 0 0,.slice xY 0 0,.int .i64 (0:Int)]) (by kernel_rfl) (fun c w=>by simp[BM,B0,Value.cells]) rfl (by simp[Value.cells,Value.oneCell']) (by simp only[CV]; exact⟨_,Tryz.underlying63,by kernel_rfl⟩)
theorem AmX:CI Tryz.prog 77 ⟨1,24,(.slice 34),[.nil]⟩:=CY (z:=.slice xY 0 0) (by kernel_rfl) (fun c w=>by simp[BM,B0,Value.cells]) rfl (by simp[Value.cells,Value.oneCell']) (by simp only[CV]; exact Tryz.underlying77)
theorem AmW:CI Tryz.prog 79 ⟨3,40,(.struct [(0,3),(1,3),(2,77)]),[.int .i64 (0:Int),.int .i64 (0:Int),.nil]⟩:=CY (z:=.agg #[.int .i64 (0:Int),.int .i64 (0:Int),.slice xY 0 0]) (by kernel_rfl) (fun c w=>by simp[BM,B0,Value.cells]) rfl (by simp[Value.cells,Value.oneCell']) (by simp only[CV]; exact⟨_,Tryz.underlying79,by kernel_rfl⟩)
theorem AmV:CI Tryz.prog 95 ⟨6,80,(.array 2 24),[.int .i64 (0:Int),.int .i64 (0:Int),.nil,.int .i64 (0:Int),.int .i64 (0:Int),.nil]⟩:=CY (z:=.agg #[.int .i64 (0:Int),.int .i64 (0:Int),.slice xY 0 0,.int .i64 (0:Int),.int .i64 (0:Int),.slice xY 0 0]) (by kernel_rfl) (fun c w=>by simp[BM,B0,Value.cells]) rfl (by simp[Value.cells,Value.oneCell']) (by simp only[CV]; exact Tryz.underlying95)
theorem AmU:CI Tryz.prog 97 ⟨7,88,(.struct [(0,24),(3,24),(6,4)]),[.int .i64 (0:Int),.int .i64 (0:Int),.nil,.int .i64 (0:Int),.int .i64 (0:Int),.nil,.bool x5]⟩:=CY (z:=.agg #[.int .i64 (0:Int),.int .i64 (0:Int),.slice xY 0 0,.int .i64 (0:Int),.int .i64 (0:Int),.slice xY 0 0,.bool x5]) (by kernel_rfl) (fun c w=>by simp[BM,B0,Value.cells]) rfl (by simp[Value.cells,Value.oneCell']) (by simp only[CV]; exact⟨_,Tryz.underlying97,by kernel_rfl⟩)
theorem Alz:CI Tryz.prog 115 ⟨1,24,(.slice 3),[.nil]⟩:=CY (z:=.slice xY 0 0) (by kernel_rfl) (fun c w=>by simp[BM,B0,Value.cells]) rfl (by simp[Value.cells,Value.oneCell']) (by simp only[CV]; exact Tryz.underlying115)
theorem Aly:CI Tryz.prog 121 ⟨1,4,(.int .u32),[.int .u32 (0:Int)]⟩:=CY (z:=.int .u32 (0:Int)) (by kernel_rfl) (fun c w=>by simp[BM,B0,Value.cells]) rfl (by simp[Value.cells,Value.oneCell']) (by simp only[CV]; exact Tryz.underlying121)
theorem Alx:CI Tryz.prog 126 ⟨1,24,(.slice 24),[.nil]⟩:=CY (z:=.slice xY 0 0) (by kernel_rfl) (fun c w=>by simp[BM,B0,Value.cells]) rfl (by simp[Value.cells,Value.oneCell']) (by simp only[CV]; exact Tryz.underlying126)
theorem Alw:CI Tryz.prog 139 ⟨1,1,(.int .u8),[.int .u8 (0:Int)]⟩:=CY (z:=.int .u8 (0:Int)) (by kernel_rfl) (fun c w=>by simp[BM,B0,Value.cells]) rfl (by simp[Value.cells,Value.oneCell']) (by simp only[CV]; exact Tryz.underlying139)
theorem Alv:CI Tryz.prog 144 ⟨1,8,.fl,[.fl 0]⟩:=CY (z:=.float .f64 0) (by kernel_rfl) (fun c w=>by simp[BM,B0,Value.cells,MY]) rfl (by simp[Value.cells,Value.oneCell']) (by simp only[CV]; exact Tryz.underlying144)
theorem Alu:CI Tryz.prog 156 ⟨1,24,(.slice 161),[.nil]⟩:=CY (z:=.slice xY 0 0) (by kernel_rfl) (fun c w=>by simp[BM,B0,Value.cells]) rfl (by simp[Value.cells,Value.oneCell']) (by simp only[CV]; exact Tryz.underlying156)
theorem Als:CI Tryz.prog 161 ⟨2,32,(.struct [(0,22),(1,43)]),[.nil,.int .u64 (0:Int)]⟩:=CY (z:=.agg #[.slice xY 0 0,.int .u64 (0:Int)]) (by kernel_rfl) (fun c w=>by simp[BM,B0,Value.cells]) rfl (by simp[Value.cells,Value.oneCell']) (by simp only[CV]; exact⟨_,Tryz.underlying161,by kernel_rfl⟩)
theorem Alr:CI Tryz.prog 167 ⟨3,24,(.struct [(0,43),(1,43),(2,4)]),[.int .u64 (0:Int),.int .u64 (0:Int),.bool x5]⟩:=CY (z:=.agg #[.int .u64 (0:Int),.int .u64 (0:Int),.bool x5]) (by kernel_rfl) (fun c w=>by simp[BM,B0,Value.cells]) rfl (by simp[Value.cells,Value.oneCell']) (by simp only[CV]; exact⟨_,Tryz.underlying167,by kernel_rfl⟩)
theorem Alq:CI Tryz.prog 173 ⟨1,24,(.slice 175),[.nil]⟩:=CY (z:=.slice xY 0 0) (by kernel_rfl) (fun c w=>by simp[BM,B0,Value.cells]) rfl (by simp[Value.cells,Value.oneCell']) (by simp only[CV]; exact Tryz.underlying173)
theorem Alp:CI Tryz.prog 175 ⟨3,40,(.struct [(0,22),(1,43),(2,43)]),[.nil,.int .u64 (0:Int),.int .u64 (0:Int)]⟩:=CY (z:=.agg #[.slice xY 0 0,.int .u64 (0:Int),.int .u64 (0:Int)]) (by kernel_rfl) (fun c w=>by simp[BM,B0,Value.cells]) rfl (by simp[Value.cells,Value.oneCell']) (by simp only[CV]; exact⟨_,Tryz.underlying175,by kernel_rfl⟩)
theorem Alo:CI Tryz.prog 180 ⟨1,8,(.int .u64),[.int .u64 (0:Int)]⟩:=CY (z:=.int .u64 (0:Int)) (by kernel_rfl) (fun c w=>by simp[BM,B0,Value.cells]) rfl (by simp[Value.cells,Value.oneCell']) (by simp only[CV]; exact Tryz.underlying180)
theorem Aln:CI Tryz.prog 194 ⟨3,24,(.struct [(0,4),(1,3),(2,42)]),[.bool x5,.int .i64 (0:Int),.int .u64 (0:Int)]⟩:=CY (z:=.agg #[.bool x5,.int .i64 (0:Int),.int .u64 (0:Int)]) (by kernel_rfl) (fun c w=>by simp[BM,B0,Value.cells]) rfl (by simp[Value.cells,Value.oneCell']) (by simp only[CV]; exact⟨_,Tryz.underlying194,by kernel_rfl⟩)
theorem Alm:CI Tryz.prog 214 ⟨1,8,(.int .i64),[.int .i64 (0:Int)]⟩:=CY (z:=.int .i64 (0:Int)) (by kernel_rfl) (fun c w=>by simp[BM,B0,Value.cells]) rfl (by simp[Value.cells,Value.oneCell']) (by simp only[CV]; exact Tryz.underlying214)
theorem AjH:O3 Tryz.prog tys:=.cons ty2 <| .cons ty3 <| .cons ty4 <| .cons ty5 <| .cons Ani <| .cons Anh <| .cons Ang <| .cons Anf <| .cons Ane <| .cons Anc <| .cons All <| .cons Anb <| .cons Ana <| .cons AmZ <| .cons AmY <| .cons AmX <| .cons AmW <| .cons AmV <| .cons AmU <| .cons Alz <| .cons Aly <| .cons Alx <| .cons Alw <| .cons Alv <| .cons Alu <| .cons Als <| .cons Alr <| .cons Alq <| .cons Alp <| .cons Alo <| .cons Aln <| .cons Alm <| .nil
def exts:List (Nat × Ext):=[(187,.bits),(190,.LX),(224,.sqrt),(234,.XV)]
def VL:List (Nat × Ext)->Nat->Option Ext
 | [],_=>xY
 | (m,e)::l,n=>bif zg m n then xQ e else VL l n
theorem AgG(args:Array Value)(w:World):(callFunc 187 args).run Tryz.prog w=((Px .bits args).run Tryz.prog w).andThen fun v w'=>.ok (.value v) w':=run_callFunc_extern (e:=Extern.MathFloatBits.float64bits) Tryz.func187 (by kernel_rfl) (by kernel_rfl) (by kernel_rfl) (by kernel_rfl) args w
theorem AgF(args:Array Value)(w:World):(callFunc 190 args).run Tryz.prog w=((Px .LX args).run Tryz.prog w).andThen fun v w'=>.ok (.value v) w':=run_callFunc_extern (e:=Extern.MathFloatBits.float64frombits) Tryz.func190 (by kernel_rfl) (by kernel_rfl) (by kernel_rfl) (by kernel_rfl) args w
theorem AgE(args:Array Value)(w:World):(callFunc 224 args).run Tryz.prog w=((Px .sqrt args).run Tryz.prog w).andThen fun v w'=>.ok (.value v) w':=run_callFunc_extern (e:=Extern.MathSqrt.sqrt) Tryz.func224 (by kernel_rfl) (by kernel_rfl) (by kernel_rfl) (by kernel_rfl) args w
theorem AgD(args:Array Value)(w:World):(callFunc 234 args).run Tryz.prog w=((Px .XV args).run Tryz.prog w).andThen fun v w'=>.ok (.value v) w':=run_callFunc_extern (e:=SY) Tryz.func234 (by kernel_rfl) (by kernel_rfl) (by kernel_rfl) (by kernel_rfl) args w
def AiN:List Nat:=[194]
theorem Am2:Abu Tryz.prog 194 ⟨3,24,(.struct [(0,4),(1,3),(2,42)]),[.bool x5,.int .i64 (0:Int),.int .u64 (0:Int)]⟩ where
 guard:=by kernel_rfl
 eq:=by
  intro w c x y xs ys hx hy hlx hly;obtain⟨a0,x1,rfl,hx1⟩:=Ti hx;obtain⟨a1,x2,rfl,hx2⟩:=Od hx1;obtain⟨a2,x3,rfl,hx3⟩:=Od hx2;obtain rfl:=Vk hx3;obtain⟨b0,y1,rfl,hy1⟩:=Ti hy;obtain⟨b1,y2,rfl,hy2⟩:=Od hy1;obtain⟨b2,y3,rfl,hy3⟩:=Od hy2;obtain rfl:=Vk hy3;obtain⟨xs⟩:=xs;obtain⟨ys⟩:=ys;simp only[BM.CW,BM.Gj,B0] at hlx hly;obtain⟨_,_,rfl,rfl,_,_,rfl,rfl,_,_,rfl,rfl,rfl⟩:=hlx;obtain⟨_,_,rfl,rfl,_,_,rfl,rfl,_,_,rfl,rfl,rfl⟩:=hly;have hu:Tryz.prog.underlying 194=xQ (.struct (Tryz.prog.fieldsOf 194)):=by kernel_rfl
  have hp:Tryz.prog.stoodInHeld 194=x5:=by kernel_rfl
  unfold Op.equal Op.maxDepth;rw[run_equalIn_struct w 9999 194 _ _ hu hp];have hfs:Tryz.prog.fieldsOf 194=(match Tryz.prog.underlying 194 with | some (.struct fs)=>fs | _=>#[]):=rfl;rw[hfs,Tryz.underlying194];simp[Op.eqFields,Mg w ty3 rfl,Mg w ty4 rfl,Mg w All rfl,run_equalIn_int w _ _ _ _ _ _ Tryz.underlying3,run_equalIn_bool w _ _ _ _ Tryz.underlying4,run_equalIn_int w _ _ _ _ _ _ Tryz.underlying42,Zg,Zf];by_cases h0:a0=b0<;>by_cases h1:a1=b1<;>by_cases h2:a2=b2<;>simp[h0,h1,h2]
def D6(GM:Nat->Option Ez)(IP:Nat->Bool)(hint:Nat->Option BN)(live:Nat->Option (List Nat)):Env:={ ty:=AcA tys,GM:=GM,ext:=VL exts,eqs:=fun t=>JK t AiN,IP:=IP,live:=live,hint:=hint }
def E0(l:List (Nat × Ez)):Env:=D6 (Db l) (fun _=>x5) (fun _=>xY) (fun _=>xY)
theorem JL{l:List (Nat × Ez)}(h:Ff Tryz.prog l)(IP:Nat->Bool)(hint:Nat->Option BN)(live:Nat->Option (List Nat)):He Tryz.prog (D6 (Db l) IP hint live) where
 ty:=fun t ti ht=>AjH.get ht
 GM:=fun g e hg=>(h.get hg).meets
 call:=fun g e hg=>(h.get hg).call
 ext:=by
  intro g x hx args w;simp only[D6,exts,VL] at hx;cases hb:zg 187 g with
  | true =>rw[hb] at hx;cases hx;obtain rfl:=Au hb;exact AgG args w
  | false =>
  rw[hb,Af] at hx;clear hb;cases hb:zg 190 g with
  | true =>rw[hb] at hx;cases hx;obtain rfl:=Au hb;exact AgF args w
  | false =>
  rw[hb,Af] at hx;clear hb;cases hb:zg 224 g with
  | true =>rw[hb] at hx;cases hx;obtain rfl:=Au hb;exact AgE args w
  | false =>
  rw[hb,Af] at hx;clear hb;cases hb:zg 234 g with
  | true =>rw[hb] at hx;cases hx;obtain rfl:=Au hb;exact AgD args w
  | false =>
  rw[hb,Af] at hx;clear hb;cases hx
 eqs:=by
  intro t ti ht hti;simp only[D6,AiN,JK] at ht hti;cases hb:zg t 194 with
  | true =>obtain rfl:=Au hb;cases hti;exact Am2
  | false =>
  rw[hb,Af] at ht;clear hb;cases ht
 mixed:=by kernel_rfl
def Aj8:List (Nat × Ext):=[(187,.Ahg),(190,.LX),(224,.sqrt),(234,.XV)]
def Zz:List (Nat × List CK)->Nat->List CK
 | [],_=>[]
 | (m,e)::l,n=>bif zg m n then e else Zz l n
def Rn(GM:Nat->Option Ez)(IP:Nat->Bool)(hint:Nat->Option BN)(live:Nat->Option (List Nat))(adv:Nat->List CK):Env:={ ty:=AcA tys,GM:=GM,ext:=VL Aj8,eqs:=fun t=>JK t AiN,IP:=IP,live:=live,hint:=hint,adv:=adv }
theorem SH{l:List (Nat × Ez)}(h:Ff Tryz.prog l)(IP:Nat->Bool)(hint:Nat->Option BN)(live:Nat->Option (List Nat))(adv:Nat->List CK):He Tryz.prog (Rn (Db l) IP hint live adv):=
 have k:=JL h IP hint live
 ⟨k.ty,k.GM,k.call,(by
  intro g x hx args w;simp only[Rn,Aj8,VL] at hx;cases hb:zg 187 g with
  | true =>rw[hb] at hx;cases hx;obtain rfl:=Au hb;exact AgG args w
  | false =>
  rw[hb,Af] at hx;clear hb;cases hb:zg 190 g with
  | true =>rw[hb] at hx;cases hx;obtain rfl:=Au hb;exact AgF args w
  | false =>
  rw[hb,Af] at hx;clear hb;cases hb:zg 224 g with
  | true =>rw[hb] at hx;cases hx;obtain rfl:=Au hb;exact AgE args w
  | false =>
  rw[hb,Af] at hx;clear hb;cases hb:zg 234 g with
  | true =>rw[hb] at hx;cases hx;obtain rfl:=Au hb;exact AgD args w
  | false =>
  rw[hb,Af] at hx;clear hb;cases hx),k.eqs,k.mixed,k.LH,k.wr⟩
def wr1(g:Nat)(W:Writer):Nat->Option Writer:=fun h=>bif zg h g then xQ W else xY
theorem AjD{P:Program}:∀g W,(fun _=>xY:Nat->Option Writer) g=xQ W->LC P g W:=fun _ _ h=>by cases h
theorem ZD{P:Program}{a:Nat}{V:Writer}(h:LC P a V):∀g W,wr1 a V g=xQ W->LC P g W:=by
 intro g W hg;unfold wr1 at hg;cases hb:zg g a with
 | true =>rw[hb] at hg;cases hg;obtain rfl:=Au hb;exact h
 | false=>rw[hb] at hg; cases hg
def Uh(GM:Nat->Option Ez)(IP:Nat->Bool)(hint:Nat->Option BN)(live:Nat->Option (List Nat))(wr:Nat->Option Writer)(np:Nat):Env:={ ty:=AcA tys,GM:=GM,ext:=VL exts,eqs:=fun t=>JK t AiN,IP:=IP,live:=live,hint:=hint,wr:=wr,np:=np }
theorem SG{l:List (Nat × Ez)}(h:Ff Tryz.prog l){wr:Nat->Option Writer}(hw:∀g W,wr g=xQ W->LC Tryz.prog g W)(IP:Nat->Bool)(hint:Nat->Option BN)(live:Nat->Option (List Nat))(np:Nat):He Tryz.prog (Uh (Db l) IP hint live wr np):=
 have k:=JL h IP hint live
 ⟨k.ty,k.GM,k.call,k.ext,k.eqs,k.mixed,k.LH,hw⟩
theorem Et{α:Type}{a b c:α}(h:b=c)(g:a=b:=by kernel_rfl):a=c:=g.trans h
abbrev Kq(g:Nat)(e:Ez):Prop:=Ey Tryz.prog g e
theorem kc{g:Nat}{e:Ez}{l:List (Nat × Ez)}(h:Ey Tryz.prog g e)(k:Ff Tryz.prog l):Ff Tryz.prog ((g,e)::l):=.cons h k
theorem ED(E:Env){l:List (Nat × Ez)}{g:FuncId}{fn:Func}{ts:List AT}{pre:List F4->Bool}{out:List F4->DV}(hf:Tryz.prog.funcs[g]?=xQ fn)(hk:Ff Tryz.prog l)(h:Hyp E fn ts pre out)(e:E=D6 (Db l) E.IP E.hint E.live:=by rfl)(hb:fn.body=xQ (Bw fn):=by kernel_rfl)(hn:(fn.name== "runtime.NumGoroutine")=x5:=by kernel_rfl):Ey Tryz.prog g (BO ts pre out) :=FO (Eq.mpr (congrArg (He Tryz.prog) e) (JL hk _ _ _)) hf hb hn h
end Go.Proofs.S1
namespace Go.Ck
def HT(V k:Nat):Nat:=V / 2^k+(if 2^k<2*(V%2^k)\/(2*(V%2^k)=2^k/\V / 2^k%2=1) then 1 else 0)
def HS(V:Nat)(s:Int):Nat:=HT (V*2^(-s).toNat) s.toNat
def Ky(V:Nat)(s:Int):Bool:=decide (V*2^(-s).toNat%2^s.toNat=0)
def Cp(M:Nat)(E:Int):Int:=max (E+M.log2-52) (-1074)
def kept(M:Nat)(E:Int):Nat:=HS M (Cp M E-E)
def E8:Nat:=2047*2^52
def Cs(M:Nat)(E:Int):Nat:=if M=0 then 0 else min ((Cp M E+1074).toNat*2^52+kept M E) E8
def exact(M:Nat)(E:Int):Bool:=Ky M (Cp M E-E)
def flags(r:Nat)(ex:Bool):Nat:=if r=E8 then 5 else if ex then 0 else if 2^52<=r then 1 else 3
def flagsOf(M:Nat)(E:Int):Nat:=if M=0 then 0 else flags (Cs M E) (exact M E)
theorem Cv(k:Nat):0<2^k:=Nat.pow_pos (by decide)
theorem Ko(V:Nat):HT V 0=V:=by unfold HT; simp[xS]
theorem PV(V a k:Nat):HT (V*2^a) (a+k)=HT V k:=by
 unfold HT;have hA:=Cv a;have e:2^(a+k)=2^a*2^k:=A5 2 a k
 have hd:V*2^a / 2^(a+k)=V / 2^k:=by rw[e,A0 V,Nat.mul_div_mul_left _ _ hA]
 have hm:V*2^a%2^(a+k)=2^a*(V%2^k):=by rw[e,A0 V,vN]
 rw[hd,hm,e]
 have h1:(2^a*2^k<2*(2^a*(V%2^k)))↔(2^k<2*(V%2^k)):=by rw[yR 2];exact Nat.mul_lt_mul_left hA
 have h2:(2*(2^a*(V%2^k))=2^a*2^k)↔(2*(V%2^k)=2^k):=by rw[yR 2];exact Nat.mul_right_inj (by omega)
 simp only[h1,h2]
theorem mod_mul(V a k:Nat):(V*2^a%2^(a+k)=0)↔(V%2^k=0):=by
 have hA:=Cv a;rw[A5,A0 V,vN];constructor
 ·intro h;rcases xj.1 h with h | h
  ·omega
  ·exact h
 ·intro h; rw[h]; rfl
theorem RD(V k:Nat)(s:Int):HS (V*2^k) (s+k)=HS V s/\Ky (V*2^k) (s+k)=Ky V s:=by
 unfold HS Ky;by_cases h0:0<=s
 ·have e1:(-(s+k)).toNat=0:=by omega
  have e2:(-s).toNat=0:=by omega
  have e3:(s+k).toNat=k+s.toNat:=by omega
  rw[e1,e2,e3,AG,AR,AR];exact⟨PV V k _,by simp only[mod_mul]⟩
 ·by_cases h1:0<=s+k
  ·have e1:(-(s+k)).toNat=0:=by omega
   have e2:s.toNat=0:=by omega
   have e3:k=(s+k).toNat+(-s).toNat:=by omega
   rw[e1,e2,AG,AR]
   have e4:V*2^k=V*2^(-s).toNat*2^(s+k).toNat:=by rw[A7,<- A5,xi (-s).toNat,<- e3]
   rw[e4];refine⟨?_,?_⟩
   ·have:=PV (V*2^(-s).toNat) (s+k).toNat 0;rw[AQ] at this; exact this
   ·have:=mod_mul (V*2^(-s).toNat) (s+k).toNat 0;rw[AQ,AG] at this;simp only[this]
  ·have e1:(s+k).toNat=0:=by omega
   have e2:s.toNat=0:=by omega
   have e3:(-s).toNat=k+(-(s+k)).toNat:=by omega
   rw[e1,e2,e3,A5,A7];exact⟨rfl,rfl⟩
theorem KD(M k:Nat)(hM:M≠0):(M*2^k).log2=M.log2+k:=by
 have hk:=Cv k
 have hne:M*2^k≠0:=by intro h;rcases xj.1 h with h | h<;>omega
 have h1:=z6 hM;have h2:=yx (n:=M)
 have a:M.log2+k<=(M*2^k).log2:=by rw[zO hne,A5];exact An _ h1
 have b:(M*2^k).log2<M.log2+k+1:=by rw[AZ hne,Nat.add_right_comm,A5];exact(xl hk).2 h2
 omega
theorem SA{n a:Nat}(h1:2^a<=n)(h2:n<2^(a+1)):n.log2=a:=by
 have:=Cv a;have hn:n≠0:=by omega
 have b1:=(zO hn).2 h1;have b2:=(AZ hn).2 h2;omega
theorem AaG(M k:Nat)(E:Int)(hM:M≠0):Cp (M*2^k) (E-k)=Cp M E:=by unfold Cp; rw[KD M k hM]; congr 1; omega
theorem Ii{M k:Nat}(hM:M≠0):M*2^k≠0:=by have:=Cv k;intro h;rcases xj.1 h with h | h<;>omega
theorem DE(M k:Nat)(E:Int):Cs (M*2^k) (E-k)=Cs M E/\flagsOf (M*2^k) (E-k)=flagsOf M E:=by
 by_cases hM:M=0
 ·subst hM; simp[Cs,flagsOf]
 ·have hl:=AaG M k E hM;have e:Cp M E-(E-k)=Cp M E-E+k:=by omega
  have h1:Cs (M*2^k) (E-k)=Cs M E:=by unfold Cs kept;rw[Ay (Ii hM),Ay hM,hl,e,(RD M k _).1]
  refine⟨h1,?_⟩;unfold flagsOf;rw[Ay (Ii hM),Ay hM,h1];unfold exact;rw[hl,e,(RD M k _).2]
theorem Af3{V s d k:Nat}(hs:s%2=1)(h1:(s-1)*2^d<V)(h2:V<(s+1)*2^d)(hk:2<=k):
 HT V (d+k)=HT s k/\V%2^(d+k)≠0/\s%2^k≠0:=by
 have hA:=Cv d;obtain⟨j,rfl⟩:∃j,k=j+2:=⟨k-2,by omega⟩
 have hB:2^(j+2)=4*2^j:=by rw[A5]; omega
 have hBp:=Cv (j+2);have hC:=Cv j;have hsd:=zG s (2^(j+2))
 have hr2:s%2^(j+2)%2=1:=by rw[hB,show 4*2^j=2*(2*2^j) by omega,Nat.mod_mul_right_mod]; exact hs
 have hrlt:=zu s hBp;generalize hq:s / 2^(j+2)=q at *
 generalize hr:s%2^(j+2)=r at *
 have hAB:2^(d+(j+2))=2^d*2^(j+2):=A5 2 d (j+2);generalize hBB:2^(j+2)=b at *
 generalize hAA:2^d=a at *
 have e1:(s-1)*a=q*(a*b)+(r-1)*a:=by
  have:s-1=b*q+(r-1):=by omega
  rw[this,AM,A0 b q,A7,A0 b a]
 have e2:(s+1)*a=q*(a*b)+(r+1)*a:=by
  have:s+1=b*q+(r+1):=by omega
  rw[this,AM,A0 b q,A7,A0 b a]
 have e3:(r+1)*a<=b*a:=An a (by omega);rw[A0 b a] at e3;rw[e1] at h1;rw[e2] at h2;have hdiv:V / (a*b)=q:=Nat.div_eq_of_lt_le (by omega) (by rw[AM]; omega)
 have hmod:V%(a*b)=V-q*(a*b):=by have:=zG V (a*b);rw[hdiv,A0 (a*b) q] at this; omega
 have hb2:b=2*(2*2^j):=by omega
 generalize hc:2^j=c at *
 have hR1:(r-1)*a<V-q*(a*b):=by omega
 have hR2:V-q*(a*b)<(r+1)*a:=by omega
 generalize hR:V-q*(a*b)=R at *
 have hab:a*b=2*(2*c*a):=by rw[hb2,A0 a,A7]
 have key:(a*b<2*R\/(2*R=a*b/\q%2=1))↔(b<2*r\/(2*r=b/\q%2=1)):=by
  rw[hab,hb2];rcases AF r (2*c) with hlt | hge
  ·have:(r+1)*a<=2*c*a:=An a (by omega);constructor<;>(intro h; omega)
  ·have hgt:2*c+1<=r:=by omega
   have:2*c*a<=(r-1)*a:=An a (by omega);constructor
   ·intro _; left; omega
   ·intro _; left; omega
 refine⟨?_,?_,?_⟩
 ·unfold HT;rw[hAB,hdiv,hmod,hBB,hq,hr];simp only[key]
 ·rw[hAB,hmod];have:=zo ((r-1)*a);omega
 ·omega
theorem Nq{V s d:Nat}{E:Int}(hs:s%2=1)(h1:(s-1)*2^d<V)(h2:V<(s+1)*2^d)(hl:Cp V E=Cp s (E+d))(hk:E+d+2<=Cp s (E+d)):
 Cs V E=Cs s (E+d)/\flagsOf V E=flagsOf s (E+d):=by
 have hV:V≠0:=by omega
 have hs0:s≠0:=by omega
 generalize hL:Cp s (E+d)=L at *
 obtain⟨k,hk2⟩:∃k:Nat,L-(E+d)=k+2:=⟨(L-(E+d)-2).toNat,by omega⟩
 obtain⟨a1,a2,a3⟩:=Af3 (k:=k+2) hs h1 h2 (by omega);have e1:(L-E).toNat=d+(k+2):=by omega
 have e2:(-(L-E)).toNat=0:=by omega
 have e3:(L-(E+d)).toNat=k+2:=by omega
 have e4:(-(L-(E+d))).toNat=0:=by omega
 have hr:Cs V E=Cs s (E+d):=by unfold Cs kept HS;rw[Ay hV,Ay hs0,hl,hL,e1,e2,e3,e4];simp only[AG,AR];rw[a1]
 refine⟨hr,?_⟩;unfold flagsOf exact Ky;rw[Ay hV,Ay hs0,hr,hl,hL,e1,e2,e3,e4];simp only[AG,AR,a2,a3,decide_false]
theorem NB{V s d:Nat}(hs:s%2=1)(hs3:3<=s)(h1:(s-1)*2^d<V)(h2:V<(s+1)*2^d):V.log2=s.log2+d:=by
 have hs0:s≠0:=by omega
 have a1:=z6 hs0;have a2:=yx (n:=s);have hl:1<=s.log2:=by rw[zO hs0]; omega
 obtain⟨t,ht⟩:∃t,s.log2=t+1:=⟨s.log2-1,by omega⟩
 rw[ht] at a1 a2 ⊢;have ev1:2^(t+1)=2*2^t:=by rw[zH]; omega
 have ev2:2^(t+1+1)=2*(2*2^t):=by rw[zH,ev1]; omega
 refine SA ?_ ?_
 ·rw[A5];have:2^(t+1)*2^d<=(s-1)*2^d:=An _ (by omega);omega
 ·have e:t+1+d+1=(t+1+1)+d:=by omega
  rw[e,A5];have:(s+1)*2^d<=2^(t+1+1)*2^d:=An _ (by omega);omega
def Cd(b:Nat):Bool:=decide (2^63<=b)
def DR(b:Nat):Nat:=b / 2^52%2048
def Dn(b:Nat):Nat:=b%2^52
def Bk(b:Nat):Nat:=if DR b=2047 then (if Dn b=0 then 3 else 4) else if 0<DR b then 2 else if 0<Dn b then 1 else 0
def Hg(b:Nat):Bool:=decide (DR b<2047)
def Ec(b:Nat):Nat:=if 2^63<=b then b-2^63 else b+2^63
def By(b:Nat):Nat:=if DR b=0 then Dn b else Dn b+2^52
def B7(b:Nat):Int:=if DR b=0 then -1074 else (DR b:Int)-1075
def Co(neg:Bool)(r:Nat):Nat:=if neg then 2^63+r else r
def GI(neg:Bool)(m:Nat):Int:=if neg then -(m:Int) else m
def EI(b:Nat)(e:Int):Int:=GI (Cd b) (By b*2^(B7 b-e).toNat)
def NW:Nat:=0x7ff8000000000000
def Ih(z:Nat)(S:Int)(e:Int):Nat × Nat :=if S=0 then (z,0) else (Co (decide (S<0)) (Cs S.natAbs e),flagsOf S.natAbs e)
def Ef(a b:Nat):Nat × Nat:=
 if Bk a=4\/Bk b=4 then (NW,0)
 else if Bk a=3 then (if Bk b=3/\a≠b then (NW,16) else (a,0))
 else if Bk b=3 then (b,0)
 else Ih (Co (Cd a&&Cd b) 0) (EI a (min (B7 a) (B7 b))+EI b (min (B7 a) (B7 b))) (min (B7 a) (B7 b))
def O8(a b:Nat):Nat × Nat:=Ef a (Ec b)
def Ga(neg:Bool)(m:Nat)(e:Int)(MR:Bool):Nat × Nat :=(Co neg (Cs (4*m+MR.toNat) (e-2)),flagsOf (4*m+MR.toNat) (e-2))
def DX(x:Int):Bool:=Cd x.toNat
def Ka(x:Int):Int:=DR x.toNat
def Dk(x:Int):Int:=Dn x.toNat
def BH(x:Int):Int:=Bk x.toNat
def D5(x:Int):Bool:=Hg x.toNat
def C1(x:Int):Int:=Ec x.toNat
def Cf(x:Int):Int:=By x.toNat
def BT(x:Int):Int:=B7 x.toNat
def EM(neg:Bool)(m e:Int)(MR:Bool):Int:=(Ga neg m.toNat e MR).1
def EL(neg:Bool)(m e:Int)(MR:Bool):Int:=(Ga neg m.toNat e MR).2
def DM(a b:Int):Int:=(Ef a.toNat b.toNat).1
def RU(a b:Int):Int:=(Ef a.toNat b.toNat).2
def Ej(a b:Int):Int:=(O8 a.toNat b.toNat).1
def Amk(a b:Int):Int:=(O8 a.toNat b.toNat).2
theorem IC(b:Nat):DR b<2048:=zu _ (by decide)
theorem JA(b:Nat):Dn b<4503599627370496:=zu _ (by decide)
theorem EX(b:Nat):By b<9007199254740992:=by have:=JA b;unfold By; split<;>omega
theorem CO(b:Nat):-1074<=B7 b/\B7 b<=972:=by have:=IC b;unfold B7; split<;>omega
theorem Oj{m:Nat}{e:Int}(h1:2^52<=m)(h2:m<2^53)(he:-1074<=e):Cs m e=min ((e+1074).toNat*2^52+m) E8:=by
 have hl:m.log2=52:=SA h1 h2;have hm:m≠0:=by omega
 have hle:Cp m e=e:=by unfold Cp; rw[hl]; omega
 unfold Cs kept;rw[Ay hm,hle,Int.sub_self];unfold HS;simp[Ko]
theorem Tp{m:Nat}(h2:m<2^52):Cs m (-1074)=m:=by
 by_cases hm:m=0
 ·subst hm; rfl
 ·have hl:m.log2<52:=(AZ hm).2 h2;have hle:Cp m (-1074)=-1074:=by unfold Cp; omega
  unfold Cs kept;rw[Ay hm,hle,Int.sub_self];unfold HS E8;simp[Ko];omega
theorem Ok(m:Nat)(e:Int):Cs m e<=E8:=by
 unfold Cs;split
 ·exact zo _
 ·exact Nat.min_le_right _ _
theorem EB:E8=9218868437227405312:=rfl
theorem Jv(m:Nat)(e:Int):Cs m e<2^63:=by have:=Ok m e;rw[EB] at this;omega
theorem Nl(n:Bool)(m:Nat)(e:Int):Co n (Cs m e)<2^64:=by have:=Jv m e;unfold Co; split<;>omega
theorem Pr{r:Nat}(h:r<2^63):Ec r=2^63+r:=by unfold Ec; rw[Ay (by omega)]; omega
open Go.Den
def Jw(m e:Int):Bool:=Ch (0<=m/\m<=9007199254740992/\-1074<=e/\e+m / 9007199254740992<=100000)
def Mk(m e:Int):Nat:=if 9007199254740992<=m then 1 else if m<4503599627370496 then 2+(e+1074).toNat else 0
def PX(n:Bool)(m e:Int):Int:=Co n (Cs m.toNat e)
def E5(m e:Int)(r:Bool):Bool :=Ch (0<=m/\m<18446744073709551616/\e<=50000/\(-1137<=e\/(m<4611686018427387904/\-1140<=e))/\(r=xZ->4503599627370496<=m\/e<=-1074))
def F7(n D:Nat):Nat:=if n%2^D=0 then n / 2^D else 2*(n / 2^D / 2)+1
def Fb(m d:Int):Int:=F7 m.toNat (min d.toNat 63)
def Cq(l:Bf):Bool:=Ch (l.length<4611686018427387904/\∀x∈l,Br x=xZ)
def N4(x:Int):Bool:=Ch (0<=x)
theorem N3(n:Nat):N4 (n:Int)=xZ:=Bv.2 (xm n)
theorem T6{x:Int}(h:N4 x=xZ):∃n:Nat,x=n:=⟨x.toNat,by have:=Bv.1 h; omega⟩
theorem Amn(a c:Nat):(a+1)*c+c=a*c+(c+c):=by rw[AM,zC,yg]
theorem Al0:2^52+2^52=2^53:=by decide
theorem Amm(a:Nat):(a+1)*2^52+2^52=a*2^52+2^53:=(Amn a (2^52)).trans (congrArg (fun x=>a*2^52+x) Al0)
theorem AjI:2^52*2^1=2^53:=by decide
theorem Aib{E:Int}:Cs (2^53) E=Cs (2^52) (E+1):=by
 have:=(DE (2^52) 1 (E+1)).1;have e1:E+1-((1:Nat):Int)=E:=by omega
 rw[e1,AjI] at this;exact this
theorem Afu{E:Int}(hE:-1074<=E):Cs (2^53) E=min ((E+1074).toNat*2^52+2^53) E8:=by
 have e3:(E+1+1074).toNat=(E+1074).toNat+1:=by omega
 rw[Aib,Oj (by decide) (by decide) (by omega),e3];exact congrArg (fun x=>min x E8) (Amm _)
theorem AcY{q:Nat}{E:Int}(h1:q<=2^53)(hE:-1074<=E)(h2:2^52<=q\/E=-1074):Cs q E=min ((E+1074).toNat*2^52+q) E8:=by
 by_cases ha:q=2^53
 ·rw[ha]; exact Afu hE
 ·by_cases hb:2^52<=q
  ·exact Oj hb (by omega) hE
  ·obtain rfl:E=-1074:=h2.resolve_left hb;rw[Tp (by omega)];unfold E8;simp;omega
theorem Adk{M D s:Nat}(hs:s<=1):HT (4*M+s) (D+2)=M / 2^D+(if 0<D/\(2^(D-1)<M%2^D\/(M%2^D=2^(D-1)/\(s=1\/M / 2^D%2=1))) then 1 else 0) /\
 ((4*M+s)%2^(D+2)=0↔M%2^D=0/\s=0):=by
 have hp:2^(D+2)=2^D*4:=by rw[A5]
 have hA:=Cv D;have hdm:=zG M (2^D);have hlt:=zu M hA
 have hdiv:(4*M+s) / (2^D*4)=M / 2^D:=by rw[A0 (2^D) 4,<- A9];congr 1; omega
 have hmod:(4*M+s)%(2^D*4)=4*(M%2^D)+s:=by
  have h:=zG (4*M+s) (2^D*4);rw[hdiv] at h;have e:2^D*4*(M / 2^D)=4*(2^D*(M / 2^D)):=by rw[A0 (2^D) 4,A7]
  rw[e] at h;omega
 unfold HT;rw[hp,hdiv,hmod];generalize M%2^D=r at *
 generalize M / 2^D=q at *
 refine⟨?_,by omega⟩;congr 1
 have key:(2^D*4<2*(4*r+s)\/2*(4*r+s)=2^D*4/\q%2=1)↔(0<D/\(2^(D-1)<r\/(r=2^(D-1)/\(s=1\/q%2=1)))):=by
  cases D with
  | zero=>simp only[AG] at hlt ⊢; omega
  | succ d =>
    rw[zH] at hlt ⊢;simp only[yE];generalize 2^d=c at *
    omega
 simp only[key]
structure Drop(M:Nat)(e:Int)(D:Nat):Prop where
 le:D<=63
 stop:D<63->M / 2^D<2^53/\-1074<=e+D
 least:∀d,d<D->2^53<=M / 2^d\/e+d < -1074
def Yr(M D s:Nat):Nat:=M / 2^D+(if 0<D/\(2^(D-1)<M%2^D\/(M%2^D=2^(D-1)/\(s=1\/M / 2^D%2=1))) then 1 else 0)
theorem Af8{M D s:Nat}(h:M / 2^D<2^53):Yr M D s<=2^53:=by unfold Yr; split<;>omega
theorem Af9{M D s:Nat}:M / 2^D<=Yr M D s:=by unfold Yr; omega
theorem AkK{M D:Nat}{c:Nat}(h:M / 2^D<c):M<c*2^D:=(yr (Cv D)).1 h
theorem Agl{M D:Nat}{c:Nat}(h:c<=M / 2^D):c*2^D<=M:=(y5 (Cv D)).1 h
theorem TR{V:Nat}{E L:Int}(h:(E+V.log2-52=L/\-1074<=L)\/(E+V.log2-52<=L/\L=-1074)):Cp V E=L:=by unfold Cp; omega
theorem AdD{M s:Nat}(hs:s<=1)(hM:M≠0):(4*M+s).log2=M.log2+2:=by
 have h1:=z6 hM;have h2:=yx (n:=M);refine SA ?_ ?_
 ·rw[A5]; omega
 ·have e:2^(M.log2+2+1)=2^(M.log2+1)*4:=by rw[show M.log2+2+1=M.log2+1+2 by omega,A5]
  omega
theorem Ad1{M D s:Nat}{e:Int}(hD:Drop M e D)(hs:s<=1)(hV:4*M+s≠0)(hM:M<2^64)(he:-1137<=e\/(M<2^62/\-1140<=e))(hr:s=1->2^52<=M\/e<=-1074):
 Cs (4*M+s) (e-2)=Cs (if e+D < -1074 then 0 else Yr M D s) (max (e+D) (-1074)) /\
 flagsOf (4*M+s) (e-2)=flags (Cs (4*M+s) (e-2)) (decide (M%2^D=0/\s=0)) /\
 (if e+D < -1074 then 0 else Yr M D s)<=2^53:=by
 have hA:=Cv D;by_cases hlow:e+D < -1074
 ·
  have hD63:D=63:=by
   rcases AF D 63 with h | h
   ·have:=(hD.stop h).2; omega
   ·have:=hD.le; omega
  subst hD63;have hM62:M<2^62:=by rcases he with h | h; omega; exact h.1
  have he2:-1140<=e:=by rcases he with h | h; omega; exact h.2
  have hV64:4*M+s<2^64:=by omega
  have hlog:(4*M+s).log2<64:=(AZ hV).2 hV64;have hl:Cp (4*M+s) (e-2)=-1074:=TR (.inr ⟨by omega,rfl⟩);obtain⟨k,hk⟩:∃k:Nat,(-1074-(e-2)).toNat=66+k:=⟨(-1074-(e-2)).toNat-66,by omega⟩
  have e2:(-(-1074-(e-2))).toNat=0:=by omega
  have hp:2^66<=2^(66+k):=Aq (by decide) (by omega);have hsm:4*M+s<2^(66+k):=by omega
  have hz:HS (4*M+s) (-1074-(e-2))=0:=by unfold HS HT;rw[e2,hk,AG,AR,z7 hsm,Ao hsm,Ay (by omega)]
  have hru:Cs (4*M+s) (e-2)=0:=by unfold Cs kept;rw[Ay hV,hl,hz];simp
  refine⟨?_,?_,?_⟩
  ·rw[hru,Az hlow]; rfl
  ·unfold flagsOf exact Ky;rw[Ay hV,hl,e2,hk,AG,AR,Ao hsm];congr 1;have h63:M%2^63=M:=Ao (by omega);rw[h63,Ar];simp only[Ai];omega
  ·rw[Az hlow]; exact zo _
 ·have hmax:max (e+D) (-1074)=e+D:=by omega
  have hq:M / 2^D<2^53:=by
   rcases AF D 63 with h | h
   ·exact(hD.stop h).1
   ·have:D=63:=by have:=hD.le; omega
    subst this;exact AK (Nat.div_le_of_le_mul (show M<=2^63*2 by omega)) (by decide)
  obtain⟨c1,c2⟩:=Adk (M:=M) (D:=D) hs;rw[Ay hlow,hmax];refine⟨?_,?_,Af8 hq⟩
  all_goals
   by_cases hD0:D=0/\s=0
   ·obtain⟨rfl,rfl⟩:=hD0;have hM0:M≠0:=by omega
    obtain⟨s1,s2⟩:=DE M 2 e;have e1:M*2^2=4*M+0:=by omega
    have e2:e-((2:Nat):Int)=e-2:=by omega
    rw[e1,e2] at s1 s2;have hq0:Yr M 0 0=M:=by unfold Yr; simp
    have hle:Cp M e<=e:=by have:M.log2<53:=(AZ hM0).2 (by simpa using hq);unfold Cp; simp only[wK,xn] at hlow; omega
    first
    | (rw[s1,hq0]; simp; done)
    | (rw[s2,s1]
       unfold flagsOf exact Ky;have z:(Cp M e-e).toNat=0:=by omega
       rw[Ay hM0,z];simp[xS])
   ·
    have hl:Cp (4*M+s) (e-2)=e+D:=by
     by_cases hM0:M=0
     ·subst hM0;have hs1:s=1:=by omega
      subst hs1
      have hle:e+D=-1074:=by
       rcases yy D with rfl | hpos
       ·have:=hr rfl; omega
       ·have h:=hD.least (D-1) (by omega);simp only[xo] at h;omega
      refine TR (.inr ⟨?_,hle⟩);have:(4*0+1:Nat).log2=0:=by decide
      rw[this]; omega
     ·have hlog:=AdD hs hM0
      have hub:M.log2<53+D:=by rw[AZ hM0,A5]; exact AkK hq
      have hcase:52+D<=M.log2\/e+D=-1074:=by
       rcases yy D with rfl | hpos
       ·have hs1:s=1:=by omega
        rcases hr hs1 with h | h
        ·left; rw[zO hM0]; simpa using h
        ·right; simp only[wK,xn] at hlow ⊢; omega
       ·rcases hD.least (D-1) (by omega) with h | h
        ·left;rw[zO hM0];have:=Agl h;have e1:2^(52+D)=2^53*2^(D-1):=by rw[<- A5]; congr 1; omega
         rw[e1]; exact this
        ·right; omega
      refine TR ?_;rw[hlog];rcases hcase with h | h
      ·left; omega
      ·right; omega
    have e1:(e+D-(e-2)).toNat=D+2:=by omega
    have e2:(-(e+(D:Int)-(e-2))).toNat=0:=by omega
    have hkept:kept (4*M+s) (e-2)=Yr M D s:=by unfold kept HS;rw[hl,e1,e2,AG,AR,c1]; rfl
    first
    | (have hbig:2^52<=Yr M D s\/e+D=-1074:=by
        rcases yy D with rfl | hpos
        ·have hs1:s=1:=by omega
         rcases hr hs1 with h | h
         ·left; exact AP (by simpa using h) Af9
         ·right; simp only[wK,xn] at hlow ⊢; omega
        ·rcases hD.least (D-1) (by omega) with h | h
         ·left;refine AP ?_ Af9;rw[y5 hA];have:=Agl h;have e1:2^52*2^D=2^53*2^(D-1):=by rw[<- A5,<- A5]; congr 1; omega
          rw[e1]; exact this
         ·right; omega
       rw[AcY (Af8 hq) (by omega) hbig];unfold Cs;rw[Ay hV,hl,hkept]; done)
    | (unfold flagsOf exact Ky
       rw[Ay hV,hl,e1,e2,AG,AR];congr 1;rw[Ar];simp only[Ai];exact c2)
theorem QW(n:Bool){r:Nat}(h:r<2^63):DR (Co n r)=r / 2^52:=by
 unfold DR Co; cases n
 ·simp only[zW,if_false]; omega
 ·simp only[if_true]; omega
theorem Pw(n:Bool)(r:Nat):Dn (Co n r)=r%2^52:=by
 unfold Dn Co; cases n
 ·rfl
 ·simp only[if_true]; omega
theorem VB(n:Bool){r:Nat}(h:r<=E8):Bk (Co n r)=if r=E8 then 3 else if 2^52<=r then 2 else if 0<r then 1 else 0:=by
 rw[EB] at *
 unfold Bk;rw[QW n (by omega),Pw];by_cases h1:r=9218868437227405312
 ·subst h1; simp
 ·rw[Ay h1,Ay (by omega)];by_cases h2:2^52<=r
  ·rw[Az h2,Az (by omega)]
  ·rw[Ay h2,Ay (by omega)];by_cases h3:0<r
   ·rw[Az h3,Az (by omega)]
   ·rw[Ay h3,Ay (by omega)]
open Ieee
theorem Il(b:Nat):(DR b=2047/\Dn b=0/\Bk b=3)\/(DR b=2047/\Dn b≠0/\Bk b=4)\/(DR b<2047/\Bk b≠3/\Bk b≠4):=by
 have:=IC b;unfold Bk;by_cases h1:DR b=2047
 ·by_cases h2:Dn b=0<;>simp[h1,h2]
 ·refine .inr (.inr ⟨by omega,?_⟩);rw[Ay h1];split
  ·decide
  ·split<;>decide
theorem Mf(b:Nat):b%2^63=DR b*2^52+Dn b:=by unfold DR Dn; omega
def Vt(b:Nat):Datum:=if Bk b=4 then .nan (Cd b) (Dn b) else if Bk b=3 then .infinity (Cd b) else .number (Cd b) (By b) (B7 b)
theorem AbQ{b:Nat}(h:b<2^64):Ieee.double.read b=Vt b:=by
 unfold Format.read Vt;have e0:Ieee.double.signWeight=2^63:=rfl;have e1:Ieee.double.leastPlace=-1074:=by decide
 have e2:Ieee.double.binade=2^52:=rfl;have e3:Ieee.double.infRung=E8:=rfl
 have hn:(b / 2^63%2==1)=Cd b:=by unfold Cd;rw[Ar];simp only[beq_iff_eq,Ai];omega
 dsimp only;rw[e0,e1,e2,e3,hn,Mf,EB];have hf:Dn b<2^52:=JA b;rcases Il b with ⟨h1,h2,h3⟩ | ⟨h1,h2,h3⟩ | ⟨h1,h2,h3⟩
 ·rw[Ay (by omega),Ay (by omega),Az (by omega),Ay (by omega),Az h3]
 ·rw[Ay (by omega),Ay (by omega),Ay (by omega),Az h3];have e:DR b*2^52+Dn b-9218868437227405312=Dn b:=by omega
  rw[e]
 ·rw[Ay h3,Ay h2];by_cases h0:DR b=0
  ·rw[Az (by omega)];unfold By B7;rw[Az h0,Az h0,h0,zJ,AS]
  ·rw[Ay (by omega),Az (by omega)];unfold By B7;rw[Ay h0,Ay h0];have m1:(DR b*2^52+Dn b)%2^52=Dn b:=by omega
   have m2:(DR b*2^52+Dn b) / 2^52=DR b:=by omega
   have e:(-1074:Int)+((DR b-1:Nat):Int)=(DR b:Int)-1075:=by omega
   rw[m1,m2,xi (2^52),e]
theorem XL{b:Nat}(h:b<2^64)(h3:Bk b=3):Co (Cd b) E8=b:=by
 rcases Il b with ⟨h1,h2,_⟩ | ⟨_,_,h4⟩ | ⟨_,h4,_⟩
 ·have e:=Mf b;rw[h1,h2] at e;rw[EB];unfold Co Cd;by_cases hb:2^63<=b
  ·simp[hb]; omega
  ·simp[hb]; omega
 ·omega
 ·omega
theorem Vg(s:Bool)(m up:Nat):Ieee.signed s m up=GI s (m*2^up):=by unfold Ieee.signed GI;rw[Nat.shiftLeft_eq]
theorem Agm(s:Bool):Bk (Co s E8)=3:=by rw[VB s (AB _),Az rfl]
theorem QT{b:Nat}(h:Bk b=3):Vt b=.infinity (Cd b):=by unfold Vt; rw[Ay (by omega),Az h]
theorem QS{b:Nat}(h3:Bk b≠3)(h4:Bk b≠4):Vt b=.number (Cd b) (By b) (B7 b):=by unfold Vt; rw[Ay h4,Ay h3]
theorem Ahs{a b:Nat}(h4:¬(Bk a=4\/Bk b=4))(h:Bk a=3):Ef a b=(if Bk b=3/\a≠b then (NW,16) else (a,0)):=by unfold Ef; rw[Ay h4,Az h]
theorem Aeq{a b:Nat}(h4:¬(Bk a=4\/Bk b=4))(h:Bk a≠3)(h':Bk b=3):Ef a b=(b,0):=by unfold Ef; rw[Ay h4,Ay h,Az h']
theorem NT{a b:Nat}(h4:¬(Bk a=4\/Bk b=4))(h:Bk a≠3)(h':Bk b≠3):
 Ef a b=Ih (Co (Cd a&&Cd b) 0) (EI a (min (B7 a) (B7 b))+EI b (min (B7 a) (B7 b))) (min (B7 a) (B7 b)):=by
 unfold Ef; rw[Ay h4,Ay h,Ay h']
theorem I2{b:Nat}(h:b<2^64):Cd (Ec b)=!(Cd b)/\DR (Ec b)=DR b/\Dn (Ec b)=Dn b:=by
 unfold Cd DR Dn Ec;by_cases hb:2^63<=b
 ·rw[Az hb];refine⟨?_,by omega,by omega⟩;have:¬2^63<=b-2^63:=by omega
  simp[hb,this]
 ·rw[Ay hb];refine⟨?_,by omega,by omega⟩;have:2^63<=b+2^63:=by omega
  simp[hb,this]
theorem Aa6{b:Nat}(h:b<2^64):Ec b<2^64:=by unfold Ec; split<;>omega
theorem QU{V W k:Nat}(h:V<=W):HT V k<=HT W k:=by
 unfold HT;have hA:=Cv k;have hq:V / 2^k<=W / 2^k:=Nat.div_le_div_right h;rcases AF (V / 2^k) (W / 2^k) with h1 | h1
 ·split<;>split<;>omega
 ·have he:V / 2^k=W / 2^k:=by omega
  have v:=zG V (2^k);have w:=zG W (2^k);rw[he] at v ⊢;have hr:V%2^k<=W%2^k:=by omega
  by_cases hc:2^k<2*(V%2^k)\/2*(V%2^k)=2^k/\W / 2^k%2=1
  ·have hc':2^k<2*(W%2^k)\/2*(W%2^k)=2^k/\W / 2^k%2=1:=by
    rcases hc with hc | ⟨hc,hd⟩
    ·exact .inl (by omega)
    ·rcases AF (2^k) (2*(W%2^k)) with h2 | h2
     ·exact .inl h2
     ·exact .inr ⟨by omega,hd⟩
   rw[Az hc,Az hc'];exact AB _
  ·rw[Ay hc];exact Nat.le_add_right _ _
theorem Aih{V c k:Nat}(h:V<=c*2^k):HT V k<=c:=by
 have h1:=QU (k:=k) h
 have:HT (c*2^k) k=c:=by have:=PV c k 0;rw[AQ,Ko] at this;exact this
 omega
theorem AiC{V c k:Nat}(h:c*2^k<=V):c<=HT V k:=by
 have h1:=QU (k:=k) h
 have:HT (c*2^k) k=c:=by have:=PV c k 0;rw[AQ,Ko] at this;exact this
 omega
theorem Aaq{V W:Nat}{s:Int}(h:V<=W):HS V s<=HS W s:=QU (An _ h)
theorem AaH{V W:Nat}{E:Int}(hV:V≠0)(h:V<=W):Cp V E<=Cp W E:=by have:V.log2<=W.log2:=(zO (by omega)).2 (AP (z6 hV) h);unfold Cp; omega
theorem Ach{V:Nat}{E:Int}:kept V E<=2^53:=by
 have hV:V<2^(V.log2+1):=yx;unfold kept HS;refine Aih ?_;have hl:E+V.log2-52<=Cp V E:=by unfold Cp; omega
 rw[<- A5];have h1:V*2^(-(Cp V E-E)).toNat<=2^(V.log2+1)*2^(-(Cp V E-E)).toNat:=An _ (xC hV);rw[<- A5] at h1;exact AP h1 (Aq (by decide) (by omega))
theorem Xc{V:Nat}{E:Int}(hV:V≠0)(hl:Cp V E=E+V.log2-52):2^52<=kept V E:=by have h1:2^V.log2<=V:=z6 hV;unfold kept HS;refine AiC ?_;rw[<- A5];have h2:2^V.log2*2^(-(Cp V E-E)).toNat<=V*2^(-(Cp V E-E)).toNat:=An _ h1;rw[<- A5] at h2;exact AP (Aq (by decide) (by omega)) h2
theorem FJ{V W:Nat}{E:Int}(h:V<=W):Cs V E<=Cs W E:=by
 unfold Cs;by_cases hV:V=0
 ·rw[Az hV]; exact zo _
 ·have hW:W≠0:=by omega
  rw[Ay hV,Ay hW];have hl:=AaH (E:=E) hV h
  have key:(Cp V E+1074).toNat*2^52+kept V E<=(Cp W E+1074).toNat*2^52+kept W E:=by
   rcases Int.lt_or_eq_of_le hl with h1 | h1
   ·have hb:-1074<=Cp V E:=by unfold Cp; omega
    have hn:Cp W E=E+W.log2-52:=by unfold Cp at h1 hb ⊢; omega
    have k1:=Ach (V:=V) (E:=E);have k2:=Xc hW hn;have h2:(Cp V E+1074).toNat+1<=(Cp W E+1074).toNat:=by omega
    have h3:((Cp V E+1074).toNat+1)*2^52<=(Cp W E+1074).toNat*2^52:=An _ h2;rw[AM (Cp V E+1074).toNat 1 (2^52),zC] at h3;omega
   ·unfold kept;rw[h1];exact Nat.add_le_add_left (Aaq h) _
  omega
theorem QO{b:Nat}(h4:Bk b≠4):Cs (By b) (B7 b)=b%2^63:=by
 have hf:Dn b<2^52:=JA b;have hr:=Mf b;rw[hr];unfold By B7;by_cases h0:DR b=0
 ·rw[Az h0,Az h0,Tp hf,h0,zJ,AS]
 ·rw[Ay h0,Ay h0,Oj (by omega) (by omega) (by omega),EB];have e:((DR b:Int)-1075+1074).toNat=DR b-1:=by omega
  rw[e];have h5:(DR b-1)*2^52+(Dn b+2^52)=DR b*2^52+Dn b:=by omega
  rw[h5];rcases Il b with ⟨h1,h2,_⟩ | ⟨_,_,h⟩ | ⟨h1,_,_⟩
  ·rw[h1,h2]; decide
  ·exact absurd h h4
  ·omega
def GG(b:Nat):Int:=GI (Cd b) (b%2^63)
def ES(b:Nat)(f:Int):Nat:=By b*2^(B7 b-f).toNat
theorem J6{b:Nat}{f:Int}(h4:Bk b≠4)(hf:f<=B7 b):Cs (ES b f) f=b%2^63:=by
 rw[<- QO h4];have h:=(DE (By b) (B7 b-f).toNat (B7 b)).1;have e:B7 b-((B7 b-f).toNat:Int)=f:=by omega
 rw[e] at h;exact h
theorem Y8{a b:Nat}(h:a%2^63=b%2^63)(f:Int):ES a f=ES b f:=by
 have h1:DR a=DR b:=by unfold DR; omega
 have h2:Dn a=Dn b:=by unfold Dn; omega
 unfold ES By B7;rw[h1,h2]
theorem TE{a b:Nat}{f:Int}(ha:Bk a≠4)(hb:Bk b≠4)(hfa:f<=B7 a)(hfb:f<=B7 b):ES a f<ES b f↔a%2^63<b%2^63:=by
 constructor
 ·intro h;have h1:=FJ (E:=f) (xC h);rw[J6 ha hfa,J6 hb hfb] at h1;rcases Nat.lt_or_eq_of_le h1 with h2 | h2
  ·exact h2
  ·have:=Y8 h2 f; omega
 ·intro h;rcases AF (ES a f) (ES b f) with h1 | h1
  ·exact h1
  ·have h1:=FJ (E:=f) h1;rw[J6 ha hfa,J6 hb hfb] at h1;omega
theorem TD(b:Nat)(f:Int):ES b f=0↔b%2^63=0:=by
 have hp:=Cv (B7 b-f).toNat;unfold ES;rw[xj,Mf];have h1:¬(2^(B7 b-f).toNat=0):=by omega
 have h2:By b=0↔DR b*2^52+Dn b=0:=by unfold By; split<;>omega
 rw[h2];exact⟨fun h=>h.resolve_right h1,.inl⟩
theorem Akb{s t:Bool}{m n m' n':Nat}(h1:m<n↔m'<n')(h2:n<m↔n'<m')(h3:m=0↔m'=0)(h4:n=0↔n'=0):GI s m<GI t n↔GI s m'<GI t n':=by unfold GI;cases s<;>cases t<;>simp<;>omega
theorem ZG{a b:Nat}{f:Int}(ha:Bk a≠4)(hb:Bk b≠4)(hfa:f<=B7 a)(hfb:f<=B7 b):EI a f<EI b f↔GG a<GG b :=Akb (TE ha hb hfa hfb) (TE hb ha hfb hfa) (TD a f) (TD b f)
theorem Aee{x y x' y':Int}(h1:x<y↔x'<y')(h2:y<x↔y'<x'):compare x y=compare x' y':=by
 show compareOfLessAndEq x y=compareOfLessAndEq x' y';unfold compareOfLessAndEq;by_cases h:x<y
 ·rw[Az h,Az (h1.1 h)]
 ·rw[Ay h,Ay (fun k=>h (h1.2 k))];by_cases e:x=y
  ·rw[Az e,Az (by omega)]
  ·rw[Ay e,Ay (by omega)]
theorem Ago{b:Nat}(h4:Bk b≠4):b%2^63<=E8:=by rw[<- QO h4]; exact Ok _ _
theorem Ox{b:Nat}(h:Bk b=3):b%2^63=E8:=by
 rw[Mf];rcases Il b with ⟨h1,h2,_⟩ | ⟨_,_,h4⟩ | ⟨_,h4,_⟩
 ·rw[h1,h2]; rfl
 ·omega
 ·omega
theorem SB{b:Nat}(h3:Bk b≠3)(h4:Bk b≠4):b%2^63<E8:=by
 have hf:Dn b<2^52:=JA b;rw[Mf,EB];rcases Il b with ⟨_,_,h⟩ | ⟨_,_,h⟩ | ⟨h1,_,_⟩
 ·exact absurd h h3
 ·exact absurd h h4
 ·omega
theorem Aba{x y:Int}(h:x<y):compare x y=.lt:=by show compareOfLessAndEq x y=_; unfold compareOfLessAndEq; rw[Az h]
theorem Abb{x y:Int}(h:y<x):compare x y=.gt:=by show compareOfLessAndEq x y=_; unfold compareOfLessAndEq; rw[Ay (by omega),Ay (by omega)]
theorem Adn{a b:Nat}(ha:a<2^64)(hb:b<2^64)(a4:Bk a≠4)(b4:Bk b≠4):Ieee.double.order a b=xQ (compare (GG a) (GG b)):=by
 unfold Format.order;rw[AbQ ha,AbQ hb];have hpos:0<E8:=by decide
 by_cases a3:Bk a=3
 ·have ka:=Ox a3;rw[QT a3];by_cases b3:Bk b=3
  ·have kb:=Ox b3;rw[QT b3];show xQ (compare (Cd b).toNat (Cd a).toNat)=_;unfold GG;rw[ka,kb];cases Cd a<;>cases Cd b<;>decide
  ·have kb:=SB b3 b4;rw[QS b3 b4];show xQ (if Cd a then Ordering.lt else .gt)=_;unfold GG GI;rw[ka];cases Cd a
   ·rw[Abb (by simp; split<;>omega)]; rfl
   ·rw[Aba (by simp; split<;>omega)]; rfl
 ·have ka:=SB a3 a4;rw[QS a3 a4];by_cases b3:Bk b=3
  ·have kb:=Ox b3;rw[QT b3];show xQ (if Cd b then Ordering.gt else .lt)=_;unfold GG GI;rw[kb];cases Cd b
   ·rw[Aba (by simp; split<;>omega)]; rfl
   ·rw[Abb (by simp; split<;>omega)]; rfl
  ·rw[QS b3 b4];show xQ (compare (Ieee.signed _ _ _) (Ieee.signed _ _ _))=_;rw[Vg,Vg];congr 1;exact Aee (ZG a4 b4 (wM _ _) (wN _ _)) (ZG b4 a4 (wN _ _) (wM _ _))
def UB(S:Int)(f:Int):Int:=if S<0 then -(Cs S.natAbs f:Int) else Cs S.natAbs f
theorem Aao(S:Int)(k:Nat)(f:Int):UB (S*((2^k:Nat):Int)) (f-k)=UB S f:=by
 have hp:=Cv k
 have h0:S*((2^k:Nat):Int)<0↔S<0:=by
  constructor
  ·intro h;rcases Int.lt_or_le S 0 with h1 | h1
   ·exact h1
   ·have:=xT h1 (xm (2^k)); omega
  ·intro h;exact wO h (by omega)
 unfold UB;rw[yt,zV,(DE S.natAbs k f).1];by_cases h:S<0
 ·rw[Az h,Az (h0.2 h)]
 ·rw[Ay h,Ay (fun k=>h (h0.1 k))]
theorem TV(s:Bool){r:Nat}(h:r<2^63):GG (Co s r)=GI s r:=by
 unfold GG Co Cd;cases s
 ·have h1:¬2^63<=r:=by omega
  have h2:r%2^63=r:=Ao h;simp only[zW,if_false,Ag h1,h2]
 ·have h1:2^63<=2^63+r:=by omega
  have h2:(2^63+r)%2^63=r:=by omega
  simp only[if_true,Ac h1,h2]
theorem AdI(s:Bool)(S f:Int):GG (Ih (Co s 0) S f).1=UB S f:=by
 unfold Ih UB;by_cases h:S=0
 ·subst h;have e:Cs (Int.natAbs 0) f=0:=Az rfl;rw[Az rfl,e,TV s (by decide)];cases s<;>rfl
 ·rw[Ay h];show GG (Co _ _)=_;rw[TV _ (Jv _ _)];unfold GI;by_cases h1:S<0
  ·rw[Az h1,Ac h1,Az rfl]
  ·rw[Ay h1,Ag h1,Ay (by decide)]
theorem UM{b:Nat}{f g:Int}{k:Nat}(hk:g=f-k)(hf:f<=B7 b):EI b g=EI b f*((2^k:Nat):Int):=by
 unfold EI;have e:(B7 b-g).toNat=(B7 b-f).toNat+k:=by omega
 rw[e,A5,<- A7];generalize By b*2^(B7 b-f).toNat=m;generalize 2^k=p;unfold GI;cases Cd b
 ·exact Ax m p
 ·show -((m*p:Nat):Int)=-(m:Int)*(p:Int)
  rw[Ax,xU]
theorem SK{a c:Nat}(a3:Bk a≠3)(a4:Bk a≠4)(c3:Bk c≠3)(c4:Bk c≠4){g:Int}(hg:g<=min (B7 a) (B7 c)):
 GG (Ef a c).1=UB (EI a g+EI c g) g:=by
 rw[NT (fun h=>h.elim a4 c4) a3 c3,AdI];obtain⟨k,hk⟩:∃k:Nat,g=min (B7 a) (B7 c)-k:=⟨(min (B7 a) (B7 c)-g).toNat,by omega⟩
 rw[UM (b:=a) hk (wM _ _),UM (b:=c) hk (wN _ _),<- Int.add_mul,hk,Aao]
def En(a b:Nat):Nat × Nat:=
 if Bk a=4\/Bk b=4 then (NW,0)
 else if Bk a=3\/Bk b=3 then (if Bk a=0\/Bk b=0 then (NW,16) else (Co (Cd a !=Cd b) E8,0))
 else (Co (Cd a !=Cd b) (Cs (By a*By b) (B7 a+B7 b)),flagsOf (By a*By b) (B7 a+B7 b))
def EW(X Y K:Nat):Nat:=2*(X*2^K / Y)+(if X*2^K%Y=0 then 0 else 1)
def KS(a b:Nat):Nat × Nat:=
 if Bk a=4\/Bk b=4 then (NW,0)
 else if Bk a=Bk b/\(Bk a=3\/Bk a=0) then (NW,16)
 else if Bk a=3 then (Co (Cd a !=Cd b) E8,0)
 else if Bk b=3\/Bk a=0 then (Co (Cd a !=Cd b) 0,0)
 else if Bk b=0 then (Co (Cd a !=Cd b) E8,8)
 else (Co (Cd a !=Cd b) (Cs (EW (By a) (By b) 120) (B7 a-B7 b-121)),flagsOf (EW (By a) (By b) 120) (B7 a-B7 b-121))
theorem Aa1{V k:Nat}{E:Int}(hm:1<=V / 2^k)(hc:2^53<=V / 2^k\/E+k+1<=-1074):
 Cs (4*(V / 2^k)+(if V%2^k=0 then 0 else 1)) (E+k-2)=Cs V E/\flagsOf (4*(V / 2^k)+(if V%2^k=0 then 0 else 1)) (E+k-2)=flagsOf V E:=by
 have hA:=Cv k;have h1:=zG V (2^k);have h2:=zu V hA;generalize hq:V / 2^k=q at *
 generalize hr:V%2^k=r at *
 by_cases h0:r=0
 ·rw[Az h0];obtain⟨a1,a2⟩:=DE q k (E+k);obtain⟨b1,b2⟩:=DE q 2 (E+k);have e1:E+(k:Int)-k=E:=by omega
  have e2:V=q*2^k:=by rw[A0]; omega
  have e3:q*2^2=4*q+0:=by omega
  have e4:E+(k:Int)-((2:Nat):Int)=E+k-2:=by omega
  rw[e1,<- e2] at a1 a2;rw[e3,e4] at b1 b2;rw[a1,a2,b1,b2];exact⟨rfl,rfl⟩
 ·rw[Ay h0]
  obtain⟨d,rfl⟩:∃d,k=d+1:=by
   cases k with
   | zero=>simp only[AG] at h2; omega
   | succ d=>exact⟨d,rfl⟩
  have hD:2^(d+1)=2*2^d:=by rw[zH]; omega
  rw[hD] at h1 h2;generalize hc2:2^d=c at *
  have p1:(2*q+1-1)*c=2*c*q:=by rw[yE,A0,yR,A7]
  have p2:(2*q+1+1)*c=2*c*q+2*c:=by rw[show 2*q+1+1=2*(q+1) by omega,A7,AM,yc,A0 q c,A7]; omega
  have lt1:(2*q+1-1)*2^d<V:=by rw[hc2,p1]; omega
  have lt2:V<(2*q+1+1)*2^d:=by rw[hc2,p2]; omega
  have od:(2*q+1)%2=1:=by omega
  have lV:=NB od (by omega) lt1 lt2;have l4:(4*q+1).log2=(2*q+1).log2+1:=NB (d:=1) od (by omega) (by omega) (by omega)
  have hs:(2*q+1).log2>=54\/E+d+2<=-1074:=by
   rcases hc with h | h
   ·left; rw[ge_iff_le,zO (by omega)]; omega
   ·right; omega
  have hk:E+d+2<=Cp (2*q+1) (E+d):=by unfold Cp; omega
  obtain⟨a1,a2⟩:=Nq (E:=E) od lt1 lt2 (by unfold Cp; rw[lV]; omega) hk;have ee:E+((d+1:Nat):Int)-2+((1:Nat):Int)=E+d:=by omega
  obtain⟨b1,b2⟩:=Nq (V:=4*q+1) (d:=1) (E:=E+((d+1:Nat):Int)-2) od (by omega) (by omega) (by unfold Cp; rw[l4]; omega) (by rw[ee]; unfold Cp; omega);rw[ee] at b1 b2;rw[a1,a2,b1,b2];exact⟨rfl,rfl⟩
theorem Qf(n:Bool){V k:Nat}{E e:Int}{s:Bool}(he:e=E+k)(hs:s=decide (V%2^k≠0))(hm:1<=V / 2^k)(hc:2^53<=V / 2^k\/E+k+1<=-1074):
 Ga n (V / 2^k) e s=(Co n (Cs V E),flagsOf V E):=by
 obtain⟨a,b⟩:=Aa1 hm hc
 have e1:s.toNat=if V%2^k=0 then 0 else 1:=by
  rw[hs];by_cases h:V%2^k=0
  ·rw[Ag (by omega),Az h]; rfl
  ·rw[Ac h,Ay h]; rfl
 unfold Ga;rw[he,e1,a,b]
theorem SZ{X Y K:Nat}(d:Nat)(E:Int)(hY:0<Y)(h:2^53<=X*2^K / Y):
 Cs (EW X Y (K+d)) (E-d)=Cs (EW X Y K) E/\flagsOf (EW X Y (K+d)) (E-d)=flagsOf (EW X Y K) E:=by
 have hA:=Cv d;unfold EW;have e:X*2^(K+d)=X*2^K*2^d:=by rw[A5,A7]
 rw[e];generalize X*2^K=Z at *
 have h1:=zG Z Y;have h2:=zu Z hY;by_cases h0:Z%Y=0
 ·obtain⟨q,rfl⟩:=vS h0;have e1:Y*q*2^d=Y*(q*2^d):=A7 _ _ _;rw[e1,Nat.mul_mod_right,Nat.mul_mod_right,vT _ hY,vT _ hY,Az rfl];have:=DE (2*q+0) d E;rw[show(2*q+0)*2^d=2*(q*2^d)+0 by rw[AQ,AQ,A7]] at this;exact this
 ·have h3:=zG (Z*2^d) Y;have h4:=zu (Z*2^d) hY;rw[Ay h0];generalize hq:Z / Y=q at *
  generalize hr:Z%Y=r at *
  generalize hc:2^d=c at *
  have hz:Z*c=Y*(q*c)+r*c:=by rw[<- h1,AM,A7]
  have hrc:r*c<Y*c:=(xl hA).2 h2;have hrc0:0<r*c:=xV (by omega) hA;have q1:q*c<=Z*c / Y:=by rw[y5 hY,A0 (q*c)]; omega
  have q2:Z*c / Y<(q+1)*c:=by rw[yr hY,AM,AM,zC,A0 (q*c),A0 c Y]; omega
  have q3:Z*c / Y=q*c->Z*c%Y≠0:=fun h5 h6=>by rw[h5,h6] at h3; omega
  generalize hQ:Z*c / Y=Q at *
  have p1:(2*q+1-1)*c=2*(q*c):=by rw[yE,A7]
  have p2:(2*q+1+1)*c=2*((q+1)*c):=by rw[show 2*q+1+1=2*(q+1) by omega,A7]
  have od:(2*q+1)%2=1:=by omega
  generalize hV:2*Q+(if Z*c%Y=0 then 0 else 1)=V
  have v1:(2*q+1-1)*2^d<V:=by
   rw[hc,p1,<- hV];by_cases h5:Q=q*c
   ·rw[Ay (q3 h5)]; omega
   ·split<;>omega
  have v2:V<(2*q+1+1)*2^d:=by rw[hc,p2,<- hV];split<;>omega
  have lV:=NB od (by omega) v1 v2;have hs:54<=(2*q+1).log2:=by rw[zO (by omega)]; omega
  have ee:E-(d:Int)+d=E:=by omega
  have:=Nq (E:=E-d) od v1 v2 (by unfold Cp; rw[lV]; omega) (by unfold Cp; omega);rw[ee] at this;exact this
theorem ZX{X Y K L:Nat}{E F:Int}(hY:0<Y)(h1:2^53<=X*2^K / Y)(h2:2^53<=X*2^L / Y)(he:E+K=F+L):
 Cs (EW X Y K) E=Cs (EW X Y L) F/\flagsOf (EW X Y K) E=flagsOf (EW X Y L) F:=by
 rcases Nat.le_total K L with h | h
 ·obtain⟨d,rfl⟩:=vU h;have:=SZ d E hY h1;rw[show E-(d:Int)=F by omega] at this;exact⟨this.1.symm,this.2.symm⟩
 ·obtain⟨d,rfl⟩:=vU h;have:=SZ d F hY h2;rw[show F-(d:Int)=E by omega] at this;exact this
theorem ZY(X Y a K:Nat):EW (X*2^a) Y K=EW X Y (K+a):=by
 unfold EW;have:X*2^a*2^K=X*2^(K+a):=by rw[A7,<- A5,xi a K]
 rw[this]
theorem XX(X Y b K:Nat):EW X (Y*2^b) (K+b)=EW X Y K:=by
 have hp:=Cv b;unfold EW;have:X*2^(K+b)=X*2^K*2^b:=by rw[A5,A7]
 rw[this,Nat.mul_div_mul_right _ _ hp,Nat.mul_mod_mul_right]
 have:(X*2^K%Y*2^b=0)↔(X*2^K%Y=0):=by
  constructor
  ·intro h;rcases xj.1 h with h | h
   ·exact h
   ·omega
  ·intro h; rw[h,zJ]
 simp only[this]
theorem Akg{X Y K t:Nat}(hX:0<X)(hY0:0<Y)(hY:Y<2^t)(hK:53+t<=K):2^53<=X*2^K / Y:=by rw[y5 hY0];have h1:2^53*Y<=2^53*2^t:=yM _ (by omega);have h2:2^(53+t)<=2^K:=Aq (by decide) hK;have h3:1*2^K<=X*2^K:=An _ (by omega);rw[A5] at h2;omega
theorem Ad2(n:Bool){X Y K:Nat}{e E:Int}{s:Bool}(hs:s=decide (X*2^K%Y≠0))(he:E=e-1)(hq:2^53<=X*2^K / Y):
 Ga n (X*2^K / Y) e s=(Co n (Cs (EW X Y K) E),flagsOf (EW X Y K) E):=by
 have e1:EW X Y K / 2^1=X*2^K / Y:=by unfold EW;split<;>omega
 have e2:decide (EW X Y K%2^1≠0)=decide (X*2^K%Y≠0):=by
  unfold EW;by_cases h:X*2^K%Y=0
  ·rw[Az h,Ag (by omega),Ag (by omega)]
  ·rw[Ay h,Ac (by omega),Ac h]
 have:=Qf n (V:=EW X Y K) (k:=1) (E:=E) (e:=e) (s:=s) (by omega) (by rw[e2]; exact hs) (by omega) (.inl (by omega));rw[e1] at this;exact this
def C3:Bf->Nat
 | []=>0
 | x::l=>x.toNat+4294967296*C3 l
def digits:Nat->Nat->Bf
 | 0,_=>[]
 | k+1,v=>((v%4294967296:Nat):Int)::digits k (v / 4294967296)
def DC(n:Nat):Nat:=if n=0 then 0 else n.log2 / 32+1
def MN(n:Nat):Bf:=digits (DC n) n
def Bo(v:Int):Bf:=MN v.natAbs
def BG(v:Int):Bool:=decide (v<0)
def wv(n:Bool)(l:Bf):Int:=GI n (C3 l)
def Qu(l:Bf):Prop:=∀x∈l,0<=x/\x<4294967296
def GZ(l:Bf):Bool:=Ch (l.length<1073741824/\Qu l)
def I8(n:Bool)(l:Bf):Bool:=Ch (l.length<268435456/\l=MN (C3 l)/\(n=xZ->l≠[]))
def RF(n:Bool)(l:Bf):Bool:=Ch (l.length<134217728/\l=MN (C3 l)/\(n=xZ->l≠[]))
def Akn(k:Int):Bool:=Ch (-1000000<=k/\k<=1000000)
def VF(k:Int):Bool:=Ch (-9223372036854775808<=k/\k<=9223372036854775807)
def Gx(l:Bf)(i:Int):Int:=if 0<=i then l.getD i.toNat 0 else 0
def Ix(a b:Bf):Bf:=digits (max a.length b.length+1) (C3 a+C3 b)
def Ho(a b:Bf):Bf:=digits a.length (C3 a-C3 b)
def leL(a b:Bf):Bool:=Ch (C3 a<=C3 b)
def Rs(a b:Nat):Int:=if a<b then -1 else if b<a then 1 else 0
def Sc(a b:Int):Int:=if a<b then -1 else if b<a then 1 else 0
def Jb(v:Int)(j:Nat):Int:=GI (BG v) (v.natAbs / 2^j)
def Hf(v k:Int):Int:=if 0<=k then v*((2^k.toNat:Nat):Int) else Jb v (-k).toNat
def TP(v:Int):Int:=if v=0 then 0 else (v.natAbs.log2:Int)+1
def Adr(v:Int):Bool:=decide (v%2=1)
theorem two32:2^32=4294967296:=by decide
theorem JO(k:Nat):2^(32*(k+1))=4294967296*2^(32*k):=by rw[yc,AR,A5,A0,two32]
theorem Er:∀(k v:Nat),(digits k v).length=k
 | 0,_=>rfl
 | k+1,v=>by rw[digits,zj,Er k]
theorem Kv:∀(k v:Nat),Qu (digits k v)
 | 0,_=>fun x h=>by cases h
 | k+1,v=>fun x h=>by
   rw[digits,zF] at h;rcases h with rfl | h
   ·omega
   ·exact Kv k _ x h
theorem Is:∀(k v:Nat),C3 (digits k v)=v%2^(32*k)
 | 0,v=>by rw[digits,C3,yd,AG,xS]
 | k+1,v=>by rw[digits,C3,Is k,Ad,JO,Nat.mod_mul]
theorem I9:∀{l:Bf},Qu l->C3 l<2^(32*l.length)
 | [],_=>by decide
 | x::l,h=>by have h1:=h x (AY ..);have h2:=I9 (l:=l) (fun y hy=>h y (AN _ hy));rw[C3,zj,JO];omega
theorem NM:∀{l:Bf},Qu l->digits l.length (C3 l)=l
 | [],_=>rfl
 | x::l,h=>by
   have h1:=h x (AY ..);have h2:=NM (l:=l) (fun y hy=>h y (AN _ hy));rw[C3,zj,digits];have e1:(x.toNat+4294967296*C3 l)%4294967296=x.toNat:=by omega
   have e2:(x.toNat+4294967296*C3 l) / 4294967296=C3 l:=by omega
   rw[e1,e2,h2];congr 1;omega
theorem II(n:Nat):n<2^(32*DC n):=by
 unfold DC;by_cases h:n=0
 ·rw[Az h,h]; decide
 ·rw[Ay h];exact AU yx (Aq (by decide) (by omega))
theorem Jy{n k:Nat}(h:n<2^(32*k)):DC n<=k:=by
 unfold DC;by_cases h0:n=0
 ·rw[Az h0]; exact zo _
 ·rw[Ay h0];have:=(AZ h0).2 h;omega
theorem Ai8{n k:Nat}(h:2^(32*k)<=n):k+1<=DC n:=by have hp:=Cv (32*k);unfold DC;rw[Ay (by omega)];have:=(zO (by omega)).2 h;omega
theorem Kt{n m:Nat}(h:n<=m):DC n<=DC m:=Jy (AK h (II m))
theorem OX(n:Nat):C3 (MN n)=n:=by unfold MN;rw[Is,Ao (II n)]
theorem Gk(n:Nat):(MN n).length=DC n:=Er _ _
theorem YE(n:Nat):Qu (MN n):=Kv _ _
theorem Un:∀(k v i:Nat),i<k->(digits k v).getD i 0=((v / 2^(32*i)%4294967296:Nat):Int)
 | k+1,v,0,_=>by rw[digits,List.getD_cons_zero,yd,AG,yH]
 | k+1,v,i+1,h=>by rw[digits,List.getD_cons_succ,Un k _ i (by omega),JO,A9]
theorem Ll{l:Bf}(h:Qu l)(i:Nat):l.getD i 0=((C3 l / 2^(32*i)%4294967296:Nat):Int):=by
 by_cases hi:i<l.length
 ·have:=Un l.length (C3 l) i hi;rw[NM h] at this;exact this
 ·have h1:=I9 h;have h2:2^(32*l.length)<=2^(32*i):=Aq (by decide) (by omega);rw[z7 (by omega),Al,Bb (by omega)];rfl
theorem GF{l:Bf}(h:Qu l)(i:Nat):Gx l (i:Int)=((C3 l / 2^(32*i)%4294967296:Nat):Int):=by unfold Gx;rw[Az (by omega),Ad,Ll h]
theorem I4:∀(k v:Nat),digits (k+1) v=digits k v++[((v / 2^(32*k)%4294967296:Nat):Int)]
 | 0,v=>by rw[digits,digits,digits,yd,AG,yH]; rfl
 | k+1,v=>by rw[digits,I4 k,JO,<- A9];rfl
theorem RN:∀(j k v:Nat),j<=k->(digits k v).take j=digits j v
 | 0,_,_,_=>by rw[List.take_zero,digits]
 | j+1,k+1,v,h=>by rw[digits,List.take_succ_cons,RN j k _ (by omega),digits]
theorem AaF{l:Bf}(h:Qu l):l.take (DC (C3 l))=MN (C3 l):=by have h1:=RN (DC (C3 l)) l.length (C3 l) (Jy (I9 h));rw[NM h] at h1;exact h1
theorem HU{n:Nat}(h:n≠0):0<DC n:=by unfold DC; rw[Ay h]; omega
theorem EV(v:Int):wv (BG v) (Bo v)=v:=by
 unfold wv BG Bo GI;rw[OX];by_cases h:v<0
 ·rw[Ac h,Az rfl]; omega
 ·rw[Ag h,Ay (by decide)]; omega
theorem IF{l:Bf}(h:l.length<1073741824)(hi:Qu l):GZ l=xZ:=Bv.2 ⟨h,hi⟩
theorem IG{l:Bf}(h:GZ l=xZ):l.length<1073741824/\Qu l:=Bv.1 h
theorem Us(v:Int):Bo v=MN (C3 (Bo v))/\(BG v=xZ->Bo v≠[]):=by unfold Bo;rw[OX];refine⟨rfl,fun h e=>?_⟩;have h1:v<0:=A6 h;have h2:=Gk v.natAbs;rw[e] at h2;have:=HU (n:=v.natAbs) (by omega);rw[<- h2] at this;exact absurd this (by decide)
theorem GY{v:Int}(h:DC v.natAbs<268435456):I8 (BG v) (Bo v)=xZ :=Bv.2 ⟨by unfold Bo; rw[Gk]; exact h,Us v⟩
theorem Aav{v:Int}(h:DC v.natAbs<134217728):RF (BG v) (Bo v)=xZ :=Bv.2 ⟨by unfold Bo; rw[Gk]; exact h,Us v⟩
theorem Ru{n:Bool}{l:Bf}(h1:l=MN (C3 l))(h2:n=xZ->l≠[]):n=BG (wv n l)/\l=Bo (wv n l):=by
 have e:(wv n l).natAbs=C3 l:=by unfold wv GI; split<;>omega
 refine⟨?_,by unfold Bo; rw[e]; exact h1⟩;unfold BG wv GI;cases n
 ·simp
 ·have h3:=h2 rfl
  have h4:C3 l≠0:=fun h=>by rw[h] at h1;exact h3 h1
  simp; omega
theorem Ia{n:Bool}{l:Bf}(h:I8 n l=xZ):∃v,n=BG v/\l=Bo v/\DC v.natAbs<268435456:=by obtain⟨h0,h1,h2⟩:=Bv.1 h;obtain⟨e1,e2⟩:=Ru h1 h2;refine⟨_,e1,e2,?_⟩;have:=congrArg wj e2;unfold Bo at this;rw[Gk] at this;omega
theorem Mp{n:Bool}{l:Bf}(h:RF n l=xZ):∃v,n=BG v/\l=Bo v/\DC v.natAbs<134217728:=by obtain⟨h0,h1,h2⟩:=Bv.1 h;obtain⟨e1,e2⟩:=Ru h1 h2;refine⟨_,e1,e2,?_⟩;have:=congrArg wj e2;unfold Bo at this;rw[Gk] at this;omega
theorem LN{v:Int}(h:DC v.natAbs<1073741824):GZ (Bo v)=xZ :=IF (by unfold Bo; rw[Gk]; exact h) (YE _)
theorem Eb(v:Int):C3 (Bo v)=v.natAbs:=OX _
theorem CL(v:Int):(Bo v).length=DC v.natAbs:=Gk _
theorem AjC(n:Bool)(l:Bf):wv (!n) l=- wv n l:=by unfold wv GI;cases n<;>simp
theorem Vw{a b:Bf}(ha:Qu a)(hb:Qu b):C3 (Ix a b)=C3 a+C3 b:=by unfold Ix;rw[Is,Ao];have h1:=I9 ha;have h2:=I9 hb;have h3:2^(32*a.length)<=2^(32*max a.length b.length):=Aq (by decide) (by omega);have h4:2^(32*b.length)<=2^(32*max a.length b.length):=Aq (by decide) (by omega);rw[JO];omega
theorem Mj(a b:Bf):(Ix a b).length=max a.length b.length+1:=Er _ _
theorem Tv(a b:Bf):Qu (Ix a b):=Kv _ _
theorem Aa7{a:Bf}(b:Bf)(ha:Qu a):C3 (Ho a b)=C3 a-C3 b:=by unfold Ho;rw[Is,Ao];have h1:=I9 ha;omega
theorem ON(a b:Bf):(Ho a b).length=a.length:=Er _ _
theorem V5(a b:Bf):Qu (Ho a b):=Kv _ _
theorem JY(v:Int)(j:Nat):(Jb v j).natAbs=v.natAbs / 2^j:=by unfold Jb;generalize v.natAbs / 2^j=m;unfold GI; split<;>omega
theorem Oh{v:Int}(h:v<0)(m:Nat):GI (BG v) m=-(m:Int):=by unfold GI BG; rw[Ac h,Az rfl]
theorem Og{v:Int}(h:¬v<0)(m:Nat):GI (BG v) m=(m:Int):=by unfold GI BG; rw[Ag h,Ay (by decide)]
theorem WB(v:Int)(i j:Nat):Jb (Jb v i) j=Jb v (i+j):=by
 have e:v.natAbs / 2^(i+j)=v.natAbs / 2^i / 2^j:=by rw[A5,A9]
 have h1:=JY v i;by_cases hv:v<0
 ·have h2:Jb v i=-((v.natAbs / 2^i:Nat):Int):=Oh hv _;rw[show Jb v (i+j)=-((v.natAbs / 2^(i+j):Nat):Int) from Oh hv _,e];by_cases h0:v.natAbs / 2^i=0
  ·rw[h2,h0];show Jb 0 j=_;rw[xo];show GI (BG 0) (0 / 2^j)=_;rw[xo]; rfl
  ·have h3:Jb v i<0:=by omega
   rw[show Jb (Jb v i) j=-(((Jb v i).natAbs / 2^j:Nat):Int) from Oh h3 _,h1]
 ·have h2:Jb v i=((v.natAbs / 2^i:Nat):Int):=Og hv _;have h3:¬Jb v i<0:=by omega
  rw[show Jb (Jb v i) j=(((Jb v i).natAbs / 2^j:Nat):Int) from Og h3 _,h1,show Jb v (i+j)=((v.natAbs / 2^(i+j):Nat):Int) from Og hv _,e]
theorem Yh(v:Int):Jb v 0=v:=by
 unfold Jb GI BG;rw[AG,yH];by_cases h:v<0
 ·rw[Ac h,Az rfl]; omega
 ·rw[Ag h,Ay (by decide)]; omega
theorem Oe(j:Nat):Jb 0 j=0:=by unfold Jb;rw[show(Int.natAbs 0)=0 from rfl,xo];rfl
theorem Ac8{l:Bf}(h:Qu l):C3 (l.drop 1)=C3 l / 4294967296:=by
 cases l with
 | nil=>rfl
 | cons x l =>have:=h x (AY ..);show C3 l=_;rw[C3]; omega
theorem YQ{l:Bf}(h:Qu l):Qu (l.drop 1):=fun x hx=>h x (List.mem_of_mem_drop hx)
theorem YP{l:Bf}(h:Qu l):Qu ([(0:Int)]++l):=fun x hx=>by
 rcases zF.1 hx with rfl | hx
 ·omega
 ·exact h x hx
theorem Agg(n:Nat):DC (2*n)<=DC n+1:=by refine Jy ?_;have h:=II n;rw[JO];omega
theorem Ai7(n:Nat):DC (n*4294967296)<=DC n+1:=by refine Jy ?_;have h:=II n;rw[JO];omega
theorem YB{n m:Nat}(h:2^m<=n):(n / 2^m).log2+m=n.log2:=by
 have hp:=Cv m;have h0:n≠0:=by omega
 have hm:m<=n.log2:=(zO h0).2 h
 have e:(n / 2^m).log2=n.log2-m:=by
  refine SA ?_ ?_
  ·rw[y5 hp,<- A5];exact AP (Aq (by decide) (by omega)) (z6 h0)
  ·rw[yr hp,<- A5];exact AU yx (Aq (by decide) (by omega))
 omega
def NZ(n:Nat):Nat:=if h:n=0\/n%2=1 then 0 else NZ (n / 2)+1
termination_by n
decreasing_by omega
def mD(v:Int):Int:=Jb v (NZ v.natAbs)
def eD(v e:Int):Int:=if v=0 then 0 else e+NZ v.natAbs
def DB(v e w f:Int):Int:=if v=0 then f else if w=0 then e else min e f
def Abr(v e w f:Int):Int:=Hf v (e-DB v e w f)+Hf w (f-DB v e w f)
def KT(v e w f:Int):Int:=mD (Abr v e w f)
def Z7(v e w f:Int):Int:=eD (Abr v e w f) (DB v e w f)
def Hi(v e:Int):Int:=if v=0 then 0 else TP v+e
def KO(v:Int):Int:=if v<0 then -1 else if v=0 then 0 else 1
def Sd(v e w f:Int):Int:=Sc (Hf v (e-DB v e w f)) (Hf w (f-DB v e w f))
def Pn(e:Int):Bool:=Ch (-2000000<=e/\e<=2000000)
def MQ(e:Int):Bool:=Ch (-400000<=e/\e<=400000)
def Adq(v e f:Int):Bool:=Ch (v=0\/(-1000000<=e-f/\e-f<=1000000))&&Ch (-400000<=e/\e<=400000/\-1000000<=f/\f<=1000000)
theorem ZO{n:Nat}(h:n=0\/n%2=1):NZ n=0:=by rw[NZ,dif_pos h]
theorem Ab4{n:Nat}(h0:n≠0)(h:n%2=0):NZ n=NZ (n / 2)+1:=by rw[NZ,dif_neg (by omega)]
theorem Wu{n:Nat}(h:n≠0):∀k,NZ (n*2^k)=k+NZ n
 | 0=>by rw[AG,AR,AS]
 | k+1=>by
   have hp:=Cv k
   have h1:n*2^k≠0:=by intro e;rcases xj.1 e with e | e<;>omega
   have e:n*2^(k+1)=n*2^k*2:=by rw[zH,A7]
   rw[e,Ab4 (by omega) (by omega),xX _ (by decide),Wu h k];omega
theorem Ab3(n:Nat)(h:n≠0):∃m,n=m*2^NZ n/\m%2=1:=by
 induction n using Nat.strongRecOn with
 | _ n ih =>
   by_cases h2:n%2=1
   ·refine⟨n,?_,h2⟩;rw[ZO (.inr h2),AG,AR]
   ·obtain⟨m,h3,h4⟩:=ih (n / 2) (by omega) (by omega);refine⟨m,?_,h4⟩;rw[Ab4 h (by omega),zH,<- A7,<- h3];omega
theorem AeD{n:Nat}(h:n≠0):NZ n<=n.log2:=by obtain⟨m,h1,h2⟩:=Ab3 n h;refine(zO h).2 ?_;have:1*2^NZ n<=m*2^NZ n:=An _ (by omega);omega
theorem V7{n:Nat}:n.log2<32*DC n+1:=by
 unfold DC;by_cases h:n=0
 ·rw[h]; decide
 ·rw[Ay h]; omega
theorem AaA{v:Int}{k:Nat}(h:v.natAbs%2^k=0):mD (Jb v k)=mD v:=by
 unfold mD;by_cases h0:v=0
 ·rw[h0,Oe]
 ·have hp:=Cv k;have hv:=zG v.natAbs (2^k);rw[h,AQ,A0] at hv
  have hq:v.natAbs / 2^k≠0:=by intro e; rw[e] at hv; omega
  have:=Wu hq k;rw[hv] at this;rw[JY,WB,this]
theorem AaS{v e:Int}{k:Nat}(h:v.natAbs%2^k=0)(h0:v≠0):eD (Jb v k) (e+k)=eD v e:=by
 unfold eD;have hp:=Cv k;have hv:=zG v.natAbs (2^k);rw[h,AQ,A0] at hv
 have hq:v.natAbs / 2^k≠0:=by intro e; rw[e] at hv; omega
 have ht:=Wu hq k;rw[hv] at ht;have ha:=JY v k;rw[Ay h0,Ay (by omega),ha,ht];omega
theorem Akt{v:Int}(h:v%2=1):mD v=v:=by unfold mD;rw[ZO (.inr (by omega)),Yh]
theorem AkG{v:Int}(h:v%2=1)(e:Int):eD v e=e:=by unfold eD;rw[ZO (.inr (by omega)),Ay (by omega)];omega
theorem AbI(v:Int)(k:Nat):Jb (v*((2^k:Nat):Int)) k=v:=by
 have hp:=Cv k;unfold Jb;rw[yt,zV,xX _ hp];by_cases h:v<0
 ·have h1:v*((2^k:Nat):Int)<0:=wO h (by omega);rw[Oh h1]; omega
 ·have h1:¬v*((2^k:Nat):Int)<0:=by have:=xT (show(0:Int)<=v by omega) (xm (2^k));omega
  rw[Og h1]; omega
theorem Qg(v:Int)(k:Nat):(v*((2^k:Nat):Int)).natAbs%2^k=0:=by rw[yt,zV,Nat.mul_mod_left]
theorem Aku(v:Int)(k:Nat):mD (v*((2^k:Nat):Int))=mD v:=by rw[<- AaA (Qg v k),AbI]
theorem Aa3{v:Int}(h:v≠0)(k:Nat):v*((2^k:Nat):Int)≠0:=by
 have hp:=Cv k;intro e;rcases Int.mul_eq_zero.1 e with e | e
 ·exact h e
 ·omega
theorem AkH(v e:Int)(k:Nat):eD (v*((2^k:Nat):Int)) (e-k)=eD v e:=by
 by_cases h:v=0
 ·rw[h,yu]; rfl
 ·rw[<- AaS (Qg v k) (Aa3 h k),AbI];congr 1;omega
theorem S9(v:Int):v=mD v*((2^NZ v.natAbs:Nat):Int):=by
 by_cases h:v=0
 ·rw[h];show(0:Int)=Jb 0 _*_;rw[Oe,yu]
 ·obtain⟨m,h1,h2⟩:=Ab3 v.natAbs (by omega);have hp:=Cv (NZ v.natAbs);have hq:v.natAbs / 2^NZ v.natAbs=m:=Nat.div_eq_of_eq_mul_left hp h1;unfold mD Jb;rw[hq];by_cases hv:v<0
  ·rw[Oh hv,xU,<- Ax,<- h1]; omega
  ·rw[Og hv,<- Ax,<- h1]; omega
theorem Li{v:Int}:mD v=0↔v=0:=by
 constructor
 ·intro h;have:=S9 v;rw[h,yu] at this;exact this
 ·intro h;rw[h];exact Oe _
theorem Rh(v:Int):(mD v).natAbs<=v.natAbs:=by unfold mD;rw[JY];exact Nat.div_le_self _ _
def XF(v e g:Int):Int:=v*((2^(e-g).toNat:Nat):Int)
theorem HO(e g:Int):XF 0 e g=0:=yu _
theorem UO{v e g h:Int}(h1:h<=e)(h2:g<=h):XF v e g=XF v e h*((2^(h-g).toNat:Nat):Int):=by
 unfold XF;rw[Int.mul_assoc,<- Ax,<- A5];have:(e-h).toNat+(h-g).toNat=(e-g).toNat:=by omega
 rw[this]
theorem WA{v e l:Int}(h:v≠0->l<=e):Hf v (e-l)=XF v e l:=by
 by_cases h0:v=0
 ·rw[h0,HO];unfold Hf;split
  ·exact yu _
  ·exact Oe _
 ·unfold Hf XF;rw[Az (by have:=h h0; omega)]
theorem AfZ{v e w f:Int}:(v≠0->DB v e w f<=e)/\(w≠0->DB v e w f<=f):=by
 unfold DB;constructor
 ·intro h;rw[Ay h];split<;>omega
 ·intro h;split
  ·omega
  ·omega
theorem Ahc(x y:Int)(k:Nat):Sc (x*((2^k:Nat):Int)) (y*((2^k:Nat):Int))=Sc x y:=by have hp:=Cv k;have h1:x*((2^k:Nat):Int)<y*((2^k:Nat):Int)↔x<y:=vV (by omega);have h2:y*((2^k:Nat):Int)<x*((2^k:Nat):Int)↔y<x:=vV (by omega);unfold Sc;simp only[h1,h2]
theorem AiU{v e w f g:Int}(h1:v≠0->g<=e)(h2:w≠0->g<=f):Sd v e w f=Sc (XF v e g) (XF w f g):=by
 obtain⟨l1,l2⟩:=AfZ (v:=v) (e:=e) (w:=w) (f:=f);unfold Sd;rw[WA l1,WA l2];by_cases h0:v=0/\w=0
 ·rw[h0.1,h0.2,HO,HO,HO,HO]
 ·have hg:g<=DB v e w f:=by
   unfold DB;split
   ·rename_i hv;exact h2 (fun k=>h0 ⟨hv,k⟩)
   ·split
    ·exact h1 (by assumption)
    ·have:=h1 (by assumption); have:=h2 (by assumption); omega
  have e1:XF v e g=XF v e (DB v e w f)*((2^(DB v e w f-g).toNat:Nat):Int):=by
   by_cases h0:v=0
   ·rw[h0,HO,HO,yu]
   ·exact UO (l1 h0) hg
  have e2:XF w f g=XF w f (DB v e w f)*((2^(DB v e w f-g).toNat:Nat):Int):=by
   by_cases h0:w=0
   ·rw[h0,HO,HO,yu]
   ·exact UO (l2 h0) hg
  rw[e1,e2,Ahc]
def Bp(l:Bf):Bool:=Ch (∀x∈l,Br x=xZ)
def G3(x:Int):Int:=GI (Cd x.toNat) (By x.toNat)
def OJ(n:Bool)(b:Int):Int:=if n then C1 b else b
theorem OW(s:Bool){q:Nat}{L:Int}(hq:q<2^53)(hL:-1074<=L)(h:2^52<=q\/L=-1074)(hr:(L+1074).toNat*2^52+q<E8):
 By (Co s ((L+1074).toNat*2^52+q))=q/\B7 (Co s ((L+1074).toNat*2^52+q))=L:=by
 rw[EB] at hr;obtain⟨t,ht⟩:∃t:Nat,L=t-1074:=⟨(L+1074).toNat,by omega⟩
 have et:(L+1074).toNat=t:=by omega
 rw[et] at hr ⊢;have hp:=QW s (r:=t*2^52+q) (by omega);have hf:=Pw s (t*2^52+q);unfold By B7;by_cases h52:2^52<=q
 ·have e1:DR (Co s (t*2^52+q))=t+1:=by rw[hp]; omega
  rw[e1,hf,Ay (by omega),Ay (by omega)];omega
 ·have t0:t=0:=by omega
  subst t0;have e1:DR (Co s (0*2^52+q))=0:=by rw[hp]; omega
  rw[e1,hf,Az rfl,Az rfl];omega
theorem sign_neg(s:Bool){r:Nat}(h:r<2^63):Cd (Co s r)=s:=by
 unfold Cd Co;cases s
 ·simp only[zW,if_false,Av]; omega
 ·simp only[if_true,Ai]; omega
theorem AaR(s:Bool){V:Nat}{E:Int}(h0:V≠0)(hE:Cp V E<=E)(hi:Cs V E<E8):
 flagsOf V E=0/\∃k:Nat,By (Co s (Cs V E))=V*2^k/\B7 (Co s (Cs V E))=E-k:=by
 have hl2:V.log2=V.log2:=rfl
 have ek:kept V E=V*2^(E-Cp V E).toNat:=by
  unfold kept HS;have e1:(Cp V E-E).toNat=0:=by omega
  have e2:(-(Cp V E-E)).toNat=(E-Cp V E).toNat:=by omega
  rw[e1,e2,Ko]
 have eex:exact V E=xZ:=by
  unfold exact Ky;have e1:(Cp V E-E).toNat=0:=by omega
  rw[e1,AG,xS]; rfl
 constructor
 ·unfold flagsOf flags;rw[Ay h0,Ay (by omega),eex]; rfl
 ·have hr:Cs V E=(Cp V E+1074).toNat*2^52+kept V E:=by unfold Cs at hi ⊢;rw[Ay h0] at hi ⊢;omega
  have hk:kept V E<2^53:=by rw[ek,<- AZ (Ii h0),KD V _ h0];unfold Cp at hE ⊢;omega
  have hb:2^52<=kept V E\/Cp V E=-1074:=by
   by_cases h:Cp V E=-1074
   ·exact .inr h
   ·left;refine Xc h0 ?_;unfold Cp at h ⊢;omega
  rw[hr] at hi;obtain⟨p1,p2⟩:=OW s hk (by unfold Cp; omega) hb hi;refine⟨(E-Cp V E).toNat,?_,?_⟩
  ·rw[hr,p1,ek]
  ·rw[hr,p2]; omega
theorem YK{V:Nat}{E:Int}(h:V<2^53)(hE:-1074<=E):Cp V E<=E:=by
 by_cases h0:V=0
 ·subst h0; unfold Cp; rw[Nat.log2_zero]; omega
 ·have:=(AZ h0).2 h;unfold Cp; omega
def EO(x:Int):Int:=if x=0 then 0 else (x.toNat.log2:Int)+1
def OM(x y:Int):Int:=((x.toNat*y.toNat / 18446744073709551616:Nat):Int)
def Lh(x y:Int):Int:=((x.toNat*y.toNat%18446744073709551616:Nat):Int)
def AfQ(a b:Int):Bool:=decide (BH a=4)||decide (BH b=4)
def CD(b:Nat):Nat:=52-(By b).log2
def Dp(b:Int):Int:=((By b.toNat*2^CD b.toNat:Nat):Int)
def G9(b:Int):Int:=B7 b.toNat-CD b.toNat
def Ke(b:Int):Bool:=Ch (By b.toNat≠0)
def Mb(m e:Int):Bool:=Ch (1152921504606846976<=m/\m<4611686018427387904/\-6000<=e/\e<=6000)
def C0(a b:Int):Int:=(En a.toNat b.toNat).1
def Amu(a b:Int):Int:=(En a.toNat b.toNat).2
def Fl(a b:Int):Int:=(KS a.toNat b.toNat).1
def Am4(a b:Int):Int:=(KS a.toNat b.toNat).2
def Agt(x:Int):Bool:=Ch (0<=x/\x<4294967296)
def singleL(l:Bf)(x:Int):Bf:=digits (l.length+1) (C3 l*x.toNat)
def okM(n:Bool)(l:Bf):Bool:=Ch (l.length<33554432/\l=MN (C3 l)/\(n=xZ->l≠[]))
theorem Aer(a b:Nat):Ef a b=Ef b a:=by
 unfold Ef;by_cases ha:Bk a=4
 ·simp only[ha,true_or,or_true,if_true]
 ·by_cases hb:Bk b=4
  ·simp only[hb,true_or,or_true,if_true]
  ·simp only[ha,hb,or_self,if_false];by_cases ha3:Bk a=3
   ·by_cases hb3:Bk b=3
    ·simp only[ha3,hb3,if_true,true_and];by_cases e:a=b
     ·subst e; rfl
     ·rw[Az e,Az (fun h=>e h.symm)]
    ·simp only[ha3,hb3,if_true,if_false,false_and]
   ·by_cases hb3:Bk b=3
    ·simp only[ha3,hb3,if_true,if_false,false_and]
    ·simp only[ha3,hb3,if_false];rw[Bool.and_comm,Int.min_comm,Int.add_comm]
theorem Yn{Y D:Nat}(h:Y%2^D=0):F7 Y D=Y / 2^D:=by unfold F7; rw[Az h]
theorem Aap{Y D:Nat}(h:Y%2^D≠0):F7 Y D%2=1:=by unfold F7; rw[Ay h]; omega
theorem Yo{Y d:Nat}(hY:Y<2^62)(h:Y%2^d≠0):(F7 Y (min d 63)-1)*2^d<Y/\Y<(F7 Y (min d 63)+1)*2^d/\F7 Y (min d 63)%2=1:=by
 have hA:=Cv d;by_cases hd:d<=63
 ·rw[yv hd];refine⟨?_,?_,Aap h⟩
  all_goals
   unfold F7;rw[Ay h];have h1:=zG Y (2^d);have h2:=zu Y hA;generalize Y / 2^d=q at *
   generalize Y%2^d=r at *
   generalize 2^d=c at *
   rw[A0] at h1
  ·have h3:(2*(q / 2)+1-1)*c<=q*c:=An c (by omega);omega
  ·have h3:(q+1)*c<=(2*(q / 2)+1+1)*c:=An c (by omega);rw[AM,zC] at h3;omega
 ·rw[xP (by omega)];have h63:Y%2^63=Y:=Ao (by omega);have hd0:Y / 2^63=0:=z7 (by omega);have hY0:Y≠0:=by intro e; rw[e] at h; simp at h
  have hr:F7 Y 63=1:=by unfold F7; rw[h63,Ay hY0,hd0]
  have hp:2^62<=2^d:=Aq (by decide) (by omega);rw[hr];refine⟨by simp; omega,by omega,rfl⟩
theorem AnH{d M:Nat}(h:(M*2^9)%2^d≠0):10<=d:=by
 refine Nat.lt_of_not_le fun hle=>h ?_
 obtain⟨k,hk⟩:∃k,9=d+k:=⟨9-d,by omega⟩
 rw[hk,A5,A0 (2^d),<- A7,Nat.mul_mod_left]
theorem Ma{V m d:Nat}{e f:Int}(hd:e=f+d)(h:V=m*2^d\/(m%2=1/\(m-1)*2^d<V/\V<(m+1)*2^d/\2^60<=m)):
 Cs m (e-9)=Cs V (f-9)/\flagsOf m (e-9)=flagsOf V (f-9):=by
 rcases h with rfl | ⟨h1,h2,h3,h4⟩
 ·have:=DE m d (e-9);have e1:e-9-(d:Int)=f-9:=by omega
  rw[e1] at this;exact⟨this.1.symm,this.2.symm⟩
 ·have hm0:m≠0:=by omega
  have hlog:=NB h1 (by omega) h2 h3;have hl60:60<=m.log2:=(zO hm0).2 h4;have e1:f-9+(d:Int)=e-9:=by omega
  have hle:Cp V (f-9)=Cp m (f-9+d):=by unfold Cp; rw[hlog]; congr 1; omega
  have hk:f-9+d+2<=Cp m (f-9+d):=by unfold Cp; omega
  obtain⟨a1,a2⟩:=Nq h1 h2 h3 hle hk;rw[e1] at a1 a2;exact⟨a1.symm,a2.symm⟩
theorem Aag(V:Nat)(f:Int):Cs (V*2^9) (f-9)=Cs V f/\flagsOf (V*2^9) (f-9)=flagsOf V f:=DE V 9 f
structure Ajt(Mx My d:Nat)(e f:Int)(X r:Nat):Prop where
 plus:Cs (X+r) (e-9)=Cs (Mx*2^d+My) f/\flagsOf (X+r) (e-9)=flagsOf (Mx*2^d+My) f
 less:r<X->My<Mx*2^d/\Cs (X-r) (e-9)=Cs (Mx*2^d-My) f/\flagsOf (X-r) (e-9)=flagsOf (Mx*2^d-My) f
 MR:X<r->Mx*2^d<My/\Cs (r-X) (e-9)=Cs (My-Mx*2^d) f/\flagsOf (r-X) (e-9)=flagsOf (My-Mx*2^d) f
 same:X=r->Mx*2^d=My
 small:r<=2^62
theorem Ajn{X My r d p:Nat}{e f:Int}(hd:e=f+d)(comm:X*2^d=p*2^9)(n1:(r-1)*2^d<My*2^9)(n2:My*2^9<r*2^d+2^d)(n3:r%2=1)(hX2:X%2=0)(hX:2^61<=X)(hr:r<=2^53):
 (Cs (X+r) (e-9)=Cs (p+My) f/\flagsOf (X+r) (e-9)=flagsOf (p+My) f)/\My<p/\Cs (X-r) (e-9)=Cs (p-My) f/\flagsOf (X-r) (e-9)=flagsOf (p-My) f:=by
 have e1:(r-1)*2^d+2^d=r*2^d:=by
  obtain⟨k,rfl⟩:∃k,r=k+1:=⟨r-1,by omega⟩
  rw[yE,AM,zC]
 have e2:(r+1)*2^d=r*2^d+2^d:=by rw[AM,zC]
 have hXd:(r+1)*2^d<=X*2^d:=An _ (by omega);have hlt:My<p:=by rw[e2,comm] at hXd; omega
 have a1:Cs (X+r) (e-9)=Cs ((p+My)*2^9) (f-9)/\flagsOf (X+r) (e-9)=flagsOf ((p+My)*2^9) (f-9):=by
  refine Ma hd (.inr ⟨by omega,?_,?_,by omega⟩)
  ·have h1:X+r-1=X+(r-1):=by omega
   rw[h1,AM X (r-1) (2^d),AM p My (2^9),comm];exact vW n1 _
  ·have h1:X+r+1=X+(r+1):=by omega
   rw[h1,AM X (r+1) (2^d),AM p My (2^9),comm,e2];exact vW n2 _
 have a2:Cs (X-r) (e-9)=Cs ((p-My)*2^9) (f-9)/\flagsOf (X-r) (e-9)=flagsOf ((p-My)*2^9) (f-9):=by
  rw[e2,comm] at hXd;refine Ma hd (.inr ⟨by omega,?_,?_,by omega⟩)
  ·have h1:X-r-1=X-(r+1):=by omega
   rw[h1,yj X (r+1) (2^d),yj p My (2^9),comm,e2];omega
  ·have h1:X-r+1=X-(r-1):=by omega
   rw[h1,yj X (r-1) (2^d),yj p My (2^9),comm];omega
 rw[(Aag _ f).1,(Aag _ f).2] at a1 a2;exact⟨a1,hlt,a2⟩
theorem Z5{Mx My d:Nat}{e f:Int}(hd:e=f+d)(hx:Mx<2^53)(hy:My<2^53)(hbig:10<=d->2^52<=Mx):
 Ajt Mx My d e f (Mx*2^9) (F7 (My*2^9) (min d 63)):=by
 have hA:=Cv d;have hY:My*2^9<2^62:=by omega
 have comm:Mx*2^9*2^d=Mx*2^d*2^9:=by rw[A7,A0 (2^9),<- A7]
 have s9:=fun V=>Aag V f
 by_cases hz:(My*2^9)%2^d=0
 ·
  have hr:∃r,F7 (My*2^9) (min d 63)=r/\My*2^9=r*2^d:=by
   by_cases hd63:d<=63
   ·rw[yv hd63];exact⟨_,rfl,by rw[Yn hz]; exact(Nat.div_mul_cancel (vS hz)).symm⟩
   ·have hp:2^62<=2^d:=Aq (by decide) (by omega);have:My*2^9=0:=by rw[Ao (by omega)] at hz; exact hz
    rw[xP (by omega),this];exact⟨0,by decide,by omega⟩
  obtain⟨r,hr,hYr⟩:=hr;rw[hr]
  have hle:r<=2^62:=by have:r*1<=r*2^d:=yM r hA;omega
  have cmp:∀x y:Nat,x*2^d<y*2^d↔x<y:=fun x y=>xl hA
  refine⟨?_,fun h=>?_,fun h=>?_,fun h=>?_,hle⟩
  ·rw[<- (s9 _).1,<- (s9 _).2];exact Ma hd (.inl (by rw[AM (Mx*2^d) My (2^9),AM (Mx*2^9) r (2^d),comm,hYr]))
  ·have h1:=(cmp r (Mx*2^9)).2 h;refine⟨by omega,?_⟩;rw[<- (s9 _).1,<- (s9 _).2];exact Ma hd (.inl (by first | rw[yj (Mx*2^d) My (2^9),yj (Mx*2^9) r (2^d),comm,hYr] | rw[yj My (Mx*2^d) (2^9),yj r (Mx*2^9) (2^d),comm,hYr]))
  ·have h1:=(cmp (Mx*2^9) r).2 h;refine⟨by omega,?_⟩;rw[<- (s9 _).1,<- (s9 _).2];exact Ma hd (.inl (by first | rw[yj (Mx*2^d) My (2^9),yj (Mx*2^9) r (2^d),comm,hYr] | rw[yj My (Mx*2^d) (2^9),yj r (Mx*2^9) (2^d),comm,hYr]))
  ·rw[<- h] at hYr;omega
 ·
  have hd10:=AnH hz;have hMx:=hbig hd10;obtain⟨n1,n2,n3⟩:=Yo hY hz
  have hrle:F7 (My*2^9) (min d 63)<=2^53:=by
   refine Nat.le_of_not_lt fun h=>?_
   have h1:2^53*2^d<=(F7 (My*2^9) (min d 63)-1)*2^d:=An _ (by omega);have h2:2^10<=2^d:=Aq (by decide) hd10;have h3:2^53*2^10<=2^53*2^d:=yM _ h2;omega
  generalize F7 (My*2^9) (min d 63)=r at *
  have hr1:1<=r:=by omega
  have e1:(r-1)*2^d+2^d=r*2^d:=by
   obtain⟨k,rfl⟩:∃k,r=k+1:=⟨r-1,by omega⟩
   rw[yE,AM,zC]
  have e2:(r+1)*2^d=r*2^d+2^d:=by rw[AM,zC]
  rw[e2] at n2;have hXr:r<Mx*2^9:=by omega
  have hXd:(r+1)*2^d<=Mx*2^9*2^d:=An _ (by omega);rw[e2,comm] at hXd;obtain⟨p1,p2,p3⟩:=Ajn hd comm n1 n2 n3 (by omega) (by omega) hrle;exact⟨p1,fun _=>⟨p2,p3⟩,fun h=>by omega,fun h=>by omega,by omega⟩
theorem RH(n:Bool)(m:Nat)(e:Int):Ga n m e x5=(Co n (Cs m e),flagsOf m e):=by
 unfold Ga;have:=DE m 2 e;have e1:m*2^2=4*m+false.toNat:=by simp; omega
 have e2:e-((2:Nat):Int)=e-2:=by omega
 rw[e1,e2] at this;rw[this.1,this.2]
theorem Vn(E:Int):Cs 0 E=0:=Az rfl
theorem Qw(E:Int):flagsOf 0 E=0:=Az rfl
theorem HV{b:Nat}(h:Hg b=xZ):Bk b≠4/\Bk b≠3:=by
 unfold Hg at h;simp only[Ai] at h;unfold Bk;rw[Ay (by omega)];split
 ·omega
 ·split<;>omega
theorem Vz{b:Nat}(h:-1064<=B7 b):2^52<=By b:=by
 unfold B7 at h;unfold By;split at h
 ·omega
 ·rw[Ay (by assumption)]; omega
theorem Ph(z:Nat)(s:Bool){V:Nat}(hV:V≠0)(f:Int):Ih z (GI s V) f=(Co s (Cs V f),flagsOf V f):=by
 unfold Ih GI;cases s
 ·have h1:¬(V:Int)=0:=by omega
  have h2:¬(V:Int)<0:=by omega
  simp only[zW,if_false,h1,h2,decide_false,zV]
 ·have h1:¬-(V:Int)=0:=by omega
  have h2:-(V:Int)<0:=by omega
  simp only[if_true,h1,if_false,h2,decide_true,xp,zV]
theorem Ajp{p q X r:Nat}{e f:Int}(s t:Bool)
 (plus:Cs (X+r) e=Cs (p+q) f/\flagsOf (X+r) e=flagsOf (p+q) f)
 (less:r<X->q<p/\Cs (X-r) e=Cs (p-q) f/\flagsOf (X-r) e=flagsOf (p-q) f)
 (MR:X<r->p<q/\Cs (r-X) e=Cs (q-p) f/\flagsOf (r-X) e=flagsOf (q-p) f)
 (same:X=r->p=q):
 Ih (Co (s&&t) 0) (GI s p+GI t q) f=(if s=t then Ga s (X+r) e x5
  else if r<X then Ga s (X-r) e x5
  else if X<r then Ga t (r-X) e x5
  else (0,0)):=by
 simp only[RH];by_cases hs:s=t
 ·rw[Az hs,<- hs];have hsum:GI s p+GI s q=GI s (p+q):=by unfold GI; cases s<;>simp<;>omega
  rw[hsum,plus.1,plus.2];by_cases h0:p+q=0
  ·rw[h0,Vn,Qw];unfold Ih;have:GI s 0=0:=by unfold GI; cases s<;>rfl
   rw[Az this,Ah]
  ·exact Ph _ _ h0 _
 ·rw[Ay hs];by_cases h1:r<X
  ·obtain⟨c1,c2,c3⟩:=less h1;rw[Az h1,c2,c3]
   have hsum:GI s p+GI t q=GI s (p-q):=by unfold GI; cases s<;>cases t<;>simp at hs ⊢<;>omega
   rw[hsum];exact Ph _ _ (by omega) _
  ·rw[Ay h1];by_cases h2:X<r
   ·obtain⟨c1,c2,c3⟩:=MR h2;rw[Az h2,c2,c3]
    have hsum:GI s p+GI t q=GI t (q-p):=by unfold GI; cases s<;>cases t<;>simp at hs ⊢<;>omega
    rw[hsum];exact Ph _ _ (by omega) _
   ·rw[Ay h2];have c:=same (by omega)
    have hsum:GI s p+GI t q=0:=by unfold GI; cases s<;>cases t<;>simp at hs ⊢<;>omega
    have hz:(s&&t)=x5:=by cases s<;>cases t<;>simp at hs ⊢
    rw[hsum,hz];rfl
theorem Aht{a b:Nat}(ha:Hg a=xZ)(hb:Hg b=xZ):
 Ef a b=Ih (Co (Cd a&&Cd b) 0) (EI a (min (B7 a) (B7 b))+EI b (min (B7 a) (B7 b))) (min (B7 a) (B7 b)):=by
 have k1:=HV ha;have k2:=HV hb;unfold Ef;rw[Ay (fun h=>h.elim k1.1 k2.1),Ay k1.2,Ay k2.2]
theorem ZH(b:Nat):EI b (B7 b)=GI (Cd b) (By b):=by unfold EI; rw[Int.sub_self,Int.toNat_zero,AG,AR]
theorem Ae5{b:Nat}{f:Int}{d:Nat}(h:B7 b=f+d):EI b f=GI (Cd b) (By b*2^d):=by
 unfold EI;have:(B7 b-f).toNat=d:=by omega
 rw[this]
theorem Z0{a b:Nat}(ha:Hg a=xZ)(hb:Hg b=xZ){d:Nat}(hd:B7 a=B7 b+d):
 Ef a b=(if Cd a=Cd b then Ga (Cd a) (By a*2^9+F7 (By b*2^9) (min d 63)) (B7 a-9) x5
  else if F7 (By b*2^9) (min d 63)<By a*2^9 then Ga (Cd a) (By a*2^9-F7 (By b*2^9) (min d 63)) (B7 a-9) x5
  else if By a*2^9<F7 (By b*2^9) (min d 63) then Ga (Cd b) (F7 (By b*2^9) (min d 63)-By a*2^9) (B7 a-9) x5
  else (0,0)):=by
 have hx:=EX a;have hy:=EX b;have C:=Z5 (Mx:=By a) (My:=By b) hd hx hy (fun h=>Vz (by have:=CO b; omega));rw[Aht ha hb,Int.min_eq_right (by omega),ZH,Ae5 hd];exact Ajp _ _ C.plus C.less C.MR C.same
theorem Rg{b:Nat}(h:b<2^64):Ec b<2^64:=by unfold Ec; split<;>omega
theorem AaN(m:Nat)(e:Int):flagsOf m e<32:=by
 unfold flagsOf flags;split
 ·decide
 ·split
  ·decide
  ·split
   ·decide
   ·split<;>decide
theorem QB{a b:Nat}(ha:a<2^64)(hb:b<2^64):(Ef a b).1<2^64/\(Ef a b).2<32:=by
 unfold Ef;split
 ·exact⟨by decide,by decide⟩
 ·split
  ·split
   ·decide
   ·exact⟨ha,(by decide:0<32)⟩
  ·split
   ·exact⟨hb,(by decide:0<32)⟩
   ·unfold Ih;split
    ·refine⟨?_,(by decide:0<32)⟩;unfold Co; split<;>decide
    ·exact⟨Nl _ _ _,AaN _ _⟩
def BZ(r c:Nat)(f:Nat->Nat->Int):Bf:=(zf (r*c)).map fun j=>f (j / c) (j%c)
theorem BW(r c:Nat)(f:Nat->Nat->Int):(BZ r c f).length=r*c:=by unfold BZ; rw[AO,AL]
theorem Dw{r c i k:Nat}(hi:i<r)(hk:k<c):i*c+k<r*c:=by have:(i+1)*c<=r*c:=An c hi;rw[AM,zC] at this;omega
theorem QX{c i k:Nat}(hk:k<c):(i*c+k) / c=i/\(i*c+k)%c=k:=by
 constructor
 ·rw[A0,Nat.mul_add_div (by omega),z7 hk,AQ]
 ·rw[A0,Nat.mul_add_mod,Ao hk]
theorem GV{r c:Nat}{f:Nat->Nat->Int}{j:Nat}(h:j<r*c):(BZ r c f)[j]?=xQ (f (j / c) (j%c)):=by unfold BZ;rw[Ba,List.getElem?_range h];rfl
theorem YR{r c i k:Nat}{f:Nat->Nat->Int}(hi:i<r)(hk:k<c):(BZ r c f).getD (i*c+k) 0=f i k:=by obtain⟨d1,d2⟩:=QX (i:=i) hk;rw[Al,GV (Dw hi hk),d1,d2];rfl
theorem Qn{l m:Bf}(h:l.length=m.length)(he:∀j,j<l.length->l[j]?=m[j]?):l=m:=by
 refine List.ext_getElem? fun j=>?_
 by_cases hj:j<l.length
 ·exact he j hj
 ·rw[Bb (by omega),Bb (by omega)]
theorem Eo{r c:Nat}{f g:Nat->Nat->Int}(h:∀i k,i<r->k<c->f i k=g i k):BZ r c f=BZ r c g:=by
 refine Qn (by rw[BW,BW]) fun j hj=>?_
 rw[BW] at hj
 have hc:0<c:=by
  rcases yy c with h0 | h0
  ·subst h0; rw[yd] at hj; omega
  ·exact h0
 rw[GV hj,GV hj,h (j / c) (j%c) ((yr hc).2 hj) (zu _ hc)]
theorem AdP{r c:Nat}{l:Bf}(h:l.length=r*c):l=BZ r c fun i k=>l.getD (i*c+k) 0:=by
 refine Qn (by rw[BW,h]) fun j hj=>?_
 rw[GV (by omega)];have e:j / c*c+j%c=j:=by rw[A0]; exact zG j c
 rw[e,Al,As hj];rfl
theorem LV{r c i k:Nat}{f:Nat->Nat->Int}(hk:k<c)(x:Int):
 (BZ r c f).set (i*c+k) x=BZ r c fun a b=>if a=i/\b=k then x else f a b:=by
 refine Qn (by rw[yN,BW,BW]) fun j hj=>?_
 rw[yN,BW] at hj;obtain⟨d1,d2⟩:=QX (i:=i) hk;rw[GV hj,List.getElem?_set];by_cases h:i*c+k=j
 ·subst h;rw[Az rfl,Az (by rw[BW]; exact hj),d1,d2,Az ⟨rfl,rfl⟩]
 ·rw[Ay h,GV hj,Ay]
  rintro ⟨h1,h2⟩
  exact h (by rw[<- h1,<- h2,A0]; exact zG j c)
theorem LU(r c:Nat)(f:Nat->Nat->Int):BZ (r+1) c f=BZ r c f++(zf c).map (f r):=by
 unfold BZ;rw[AM,zC,List.range_add,yi,List.map_map];congr 1;refine List.map_congr_left fun k hk=>?_
 have hk:=List.mem_range.1 hk;obtain⟨d1,d2⟩:=QX (i:=r) hk;show f ((r*c+k) / c) ((r*c+k)%c)=f r k;rw[d1,d2]
theorem LS(c:Nat)(f:Nat->Nat->Int):BZ 0 c f=[]:=by unfold BZ; rw[zJ]; rfl
theorem K5(k:Nat)(g:Nat->Int):(zf (k+1)).map g=(zf k).map g++[g k]:=by rw[List.range_succ,yi]; rfl
theorem AaK(r c:Nat):BZ r c (fun _ _=>0)=List.replicate (r*c) 0:=by unfold BZ;rw[List.map_const',AL]
def Q0:Nat->Bf->Bf->Nat
 | s,x::xs,y::ys=>Q0 (Ef s (En x.toNat y.toNat).1).1 xs ys
 | s,_,_=>s
def Fk(x y:Bf):Int:=Q0 0 x y
theorem Lg{a b:Nat}:(En a b).1<2^64:=by
 unfold En;split
 ·decide
 ·split
  ·split
   ·decide
   ·unfold Co; split<;>decide
  ·exact Nl _ _ _
theorem SI:∀(x y:Bf) (s:Nat),s<2^64->Q0 s x y<2^64
 | x::xs,y::ys,s,h=>SI xs ys _ (QB h Lg).1
 | [],_,_,h=>by unfold Q0; exact h
 | _::_,[],_,h=>by unfold Q0; exact h
def CJ(n:Int):Bool:=decide (0<=n)&&decide (n<=6)
def BA(r c:Int)(l:Bf):Bool:=(CJ r&&CJ c)&&decide ((l.length:Int)=r*c)
def IL(r c:Int)(l:Bf):Int:=if BA r c l=xZ then 0 else 1
def SQ(r c:Int)(l:Bf)(p q:Int)(m:Bf):Int:=if (BA r c l&&BA p q m)=xZ then 0 else 1
def FI(_r c:Int)(l:Bf)(i k:Int):Bool:=Ch (0<=i/\i<10/\0<=k/\k<10/\0<=c/\c<10/\i*c+k<l.length/\l.length<1000)
def CE(c:Int)(l:Bf)(i k:Int):Int:=l.getD (i*c+k).toNat 0
def Mv(i k:Int):Int:=if i=k then 4607182418800017408 else 0
def Tc(x y i k:Int):Bool:=Ch (0<=x/\x<10/\0<=y/\y<10/\0<=i/\i<10/\0<=k/\k<10)
def K8(r c x y a b:Int):Bool:=decide (0<=x/\0<=y/\0<=a/\0<=b/\x<=r/\y<=c/\a<=r-x/\b<=c-y)
def LF(r c:Int)(l:Bf)(p q:Int)(m:Bf)(i k:Int):Bool:=Ch (0<=r/\r<10/\0<=i/\i<20/\(if i<r then FI r c l i k=xZ else FI p q m (i-r) k=xZ))
def Jf(r c:Int)(l:Bf)(q:Int)(m:Bf)(i k:Int):Int:=if i<r then CE c l i k else CE q m (i-r) k
def WI(r c:Int)(l:Bf)(i:Int):Bool:=BA r c l&&Ch (0<=i/\i<r)
def Ht(r c:Int)(l:Bf)(k:Int):Bool:=BA r c l&&Ch (0<=k/\k<c)
def Rd(r c:Int)(l:Bf)(p q:Int)(m:Bf)(i k:Int):Bool:=(WI r c l i&&Ht p q m k)&&((Bp l&&Bp m)&&Ch (c=p))
def JZ(c:Int)(l:Bf)(i:Int):Bf:=List.drop (i*c).toNat (List.take ((i+1)*c).toNat l)
def MS(r c:Int)(l:Bf)(k:Int):Bf:=(zf r.toNat).map fun j:Nat=>CE c l (j:Int) k
abbrev MX:=Int × Int × Bf × Int
def JJ(e:Int):MX:=(0,0,[],e)
def KR(n:Int):MX:=if CJ n=xZ then (n,n,BZ n.toNat n.toNat fun i k=>Mv i k,0) else JJ 3
def E3(r c:Int)(l:Bf):MX:=if BA r c l=xZ then (c,r,BZ c.toNat r.toNat fun i k=>CE c l k i,0) else JJ 1
def Fy(r c:Int)(l:Bf)(x y a b:Int):MX :=if BA r c l=xZ then (if K8 r c x y a b=xZ then (a,b,BZ a.toNat b.toNat fun i k=>CE c l (x+i) (y+k),0) else JJ 3) else JJ 1
def Pq(r c:Int)(l:Bf)(p q:Int)(m:Bf):MX :=if (BA r c l&&BA p q m)=xZ then (if c=p then (r,q,BZ r.toNat q.toNat fun i k=>Fk (JZ c l i) (MS p q m k),0) else JJ 3) else JJ 1
def AnD(r c:Int)(l:Bf)(p q:Int)(m:Bf):MX :=if (BA r c l&&BA p q m)=xZ then (if r=p/\c=q then (r,c,BZ r.toNat c.toNat fun i k=>Ej (CE c l i k) (CE q m i k),0) else JJ 3) else JJ 1
def Je(r c:Int)(l:Bf)(p q:Int)(m:Bf):MX :=if (BA r c l&&BA p q m)=xZ then (if c=q/\r+p<=6 then (r+p,c,BZ (r+p).toNat c.toNat fun i k=>Jf r c l q m i k,0) else JJ 3) else JJ 1
def NI(x y:Bf):Bool:=decide (x.length=y.length)&&decide (x.length<=64)
def Aoh(l:Bf):Bool:=Ch (l.length<=17592186044416)
theorem Hk{n:Int}:CJ n=xZ↔0<=n/\n<=6:=by unfold CJ; simp
theorem GU{r c:Int}{l:Bf}:BA r c l=xZ↔(0<=r/\r<=6)/\(0<=c/\c<=6)/\(l.length:Int)=r*c:=by unfold BA;rw[Am,Am,Hk,Hk,Ai,and_assoc]
theorem D9{r c:Int}{l:Bf}(h:BA r c l=xZ):∃R C:Nat,r=R/\c=C/\R<=6/\C<=6/\l.length=R*C:=by
 obtain⟨h1,h2,h3⟩:=GU.1 h;refine⟨r.toNat,c.toNat,by omega,by omega,by omega,by omega,?_⟩;have:(((r.toNat*c.toNat:Nat)):Int)=r*c:=by rw[Ax,xy h1.1,xy h2.1]
 omega
theorem GN{n:Int}(h:CJ n=xZ):∃R:Nat,n=R/\R<=6:=by have:=Hk.1 h;exact⟨n.toNat,by omega,by omega⟩
theorem W7{n:Nat}(h:n<=6):CJ (n:Int)=xZ:=Hk.2 ⟨by omega,by omega⟩
theorem D3{r c:Nat}{l:Bf}(hr:r<=6)(hc:c<=6)(hl:l.length=r*c):BA (r:Int) (c:Int) l=xZ :=GU.2 ⟨⟨by omega,by omega⟩,⟨by omega,by omega⟩,by rw[hl,Ax]⟩
theorem M9(c:Nat)(l:Bf)(i k:Nat):CE (c:Int) l (i:Int) (k:Int)=l.getD (i*c+k) 0:=by
 unfold CE
 have:((i:Int)*(c:Int)+(k:Int)).toNat=i*c+k:=by rw[<- Ax,<- Int.natCast_add,Ad]
 rw[this]
theorem Q7{r c i k:Nat}{R:Int}{l:Bf}(hr:r<=6)(hc:c<=6)(hl:l.length=r*c)(hi:i<r)(hk:k<c):FI R (c:Int) l (i:Int) (k:Int)=xZ:=by have:=Dw hi hk;have h36:=AE hr hc;refine Bv.2 ⟨by omega,by omega,by omega,by omega,by omega,by omega,?_,by omega⟩;rw[<- Ax];omega
theorem EU{r c i k:Nat}{f:Nat->Nat->Int}(hi:i<r)(hk:k<c):CE (c:Int) (BZ r c f) (i:Int) (k:Int)=f i k:=by rw[M9,YR hi hk]
theorem Ub{r c:Nat}(f:Nat->Nat->Int)(hr:r<=6)(hc:c<=6):BA (r:Int) (c:Int) (BZ r c f)=xZ:=D3 hr hc (BW r c f)
theorem Oz{r c:Nat}{l:Bf}(h:l.length=r*c):(BZ r c fun i k=>CE (c:Int) l (i:Int) (k:Int))=l:=by
 conv=>rhs; rw[AdP h]
 exact Eo fun i k _ _=>M9 c l i k
theorem MF{l:Bf}(h:Bp l=xZ){j:Nat}(hj:j<l.length):Br (l.getD j 0)=xZ:=by have h:=Bv.1 h;rw[Al,As hj];exact h _ (List.getElem_mem hj)
theorem Vi{b:Nat}(h:b<2^64):Co (Cd b) (b%2^63)=b:=by
 unfold Co Cd;by_cases hb:2^63<=b
 ·simp only[hb,decide_true,if_true]; omega
 ·simp only[hb,decide_false,zW,if_false]; omega
theorem Ag4{b:Nat}(h:b<2^64)(h4:Bk b≠4):Co (Cd b) (Cs (By b) (B7 b))=b:=by rw[QO h4,Vi h]
def IY(n:Nat):Nat:=Ieee.Datum.rootFrom n (n.log2 / 2+1) 0
theorem AhW(k:Nat):1 <<< k=2^k:=by rw[Nat.shiftLeft_eq,zC]
theorem QP{n:Nat}:∀(todo root:Nat),root*root<=n->n<(root+2^todo)*(root+2^todo) ->
 Ieee.Datum.rootFrom n todo root*Ieee.Datum.rootFrom n todo root<=n/\n<(Ieee.Datum.rootFrom n todo root+1)*(Ieee.Datum.rootFrom n todo root+1)
 | 0,root,h1,h2=>⟨h1,h2⟩
 | todo+1,root,h1,h2=>by
   unfold Ieee.Datum.rootFrom;simp only[AhW];have hp:2^(todo+1)=2^todo+2^todo:=by rw[zH]; omega
   rw[hp] at h2;by_cases h:(root+2^todo)*(root+2^todo)<=n
   ·rw[Az h];exact QP todo _ h (by rw[yg]; exact h2)
   ·rw[Ay h];exact QP todo _ h1 (by omega)
theorem J8(n:Nat):IY n*IY n<=n/\n<(IY n+1)*(IY n+1):=by
 refine QP _ _ (by simp) ?_;rw[AS,<- A5];rcases yy n with rfl | hn
 ·decide
 ·refine(AZ (by omega)).1 ?_;omega
theorem Yd{a b:Nat}(h:a*a<b*b):a<b:=by
 rcases AF a b with h1 | h1
 ·exact h1
 ·have:=AE h1 h1; omega
theorem TW{n w:Nat}(h1:w*w<=n)(h2:n<(w+1)*(w+1)):w=IY n:=by obtain⟨a,b⟩:=J8 n;have c1:=Yd (AK h1 b);have c2:=Yd (AK a h2);omega
theorem Xd{n w:Nat}(h:w*w<=n):w<=IY n:=by have:=Yd (AK h (J8 n).2);omega
def Ev(n:Nat):Nat:=2*IY n+(if IY n*IY n=n then 0 else 1)
theorem QL(a c:Nat):a*c*(a*c)=a*a*(c*c):=by rw[A7,yR c,<- A7 a a]
theorem Vr{n:Nat}(d:Nat)(E:Int)(h:2^53<=IY n):
 Cs (Ev (n*(2^d*2^d))) (E-d)=Cs (Ev n) E/\flagsOf (Ev (n*(2^d*2^d))) (E-d)=flagsOf (Ev n) E:=by
 have hA:=Cv d;obtain⟨h1,h2⟩:=J8 n;unfold Ev;generalize hw:IY n=w at *
 generalize hc:2^d=c at *
 have hcc:0<c*c:=xV hA hA;by_cases h0:w*w=n
 ·have e1:IY (n*(c*c))=w*c:=by
   refine(TW ?_ ?_).symm
   ·rw[QL,h0]; exact AB _
   ·have:=QL w c;rw[h0] at this;rw[AM,yc,this]; omega
  rw[e1,QL,h0,Az rfl,Az rfl];have:=DE (2*w+0) d E;rw[hc,show(2*w+0)*c=2*(w*c)+0 by rw[AQ,AQ,A7]] at this;exact this
 ·rw[Ay h0];obtain⟨g1,g2⟩:=J8 (n*(c*c));have q1:w*c<=IY (n*(c*c)):=Xd (by rw[QL]; exact An _ h1)
  have q2:IY (n*(c*c))<(w+1)*c:=by refine Yd (AK g1 ?_);rw[QL];exact(xl hcc).2 h2
  have q3:IY (n*(c*c))=w*c->IY (n*(c*c))*IY (n*(c*c))≠n*(c*c):=fun h5 h6=>by rw[h5,QL] at h6;exact h0 (Nat.eq_of_mul_eq_mul_right hcc h6)
  generalize hQ:IY (n*(c*c))=Q at *
  have p1:(2*w+1-1)*c=2*(w*c):=by rw[yE,A7]
  have p2:(2*w+1+1)*c=2*((w+1)*c):=by rw[show 2*w+1+1=2*(w+1) by omega,A7]
  have od:(2*w+1)%2=1:=by omega
  generalize hV:2*Q+(if Q*Q=n*(c*c) then 0 else 1)=V
  have v1:(2*w+1-1)*2^d<V:=by
   rw[hc,p1,<- hV];by_cases h5:Q=w*c
   ·rw[Ay (q3 h5)]; omega
   ·split<;>omega
  have v2:V<(2*w+1+1)*2^d:=by rw[hc,p2,<- hV];split<;>omega
  have lV:=NB od (by omega) v1 v2;have hs:54<=(2*w+1).log2:=by rw[zO (by omega)]; omega
  have ee:E-(d:Int)+d=E:=by omega
  have:=Nq (E:=E-d) od v1 v2 (by unfold Cp; rw[lV]; omega) (by unfold Cp; omega);rw[ee] at this;exact this
theorem Qs{n t:Nat}(h:2^(t+t)<=n):2^t<=IY n:=Xd (by rw[<- A5]; exact h)
theorem pow_two(k d:Nat):2^(k+2*d)=2^k*(2^d*2^d):=by rw[A5,Nat.two_mul,A5]
theorem Adf{m k l:Nat}{E F:Int}(h1:2^106<=m*2^k)(h2:2^106<=m*2^l)(he:2*E+k=2*F+l):
 Cs (Ev (m*2^k)) E=Cs (Ev (m*2^l)) F/\flagsOf (Ev (m*2^k)) E=flagsOf (Ev (m*2^l)) F:=by
 rcases Nat.le_total k l with h | h
 ·obtain⟨d,rfl⟩:∃d,l=k+2*d:=⟨(l-k) / 2,by omega⟩
  have:=Vr (n:=m*2^k) d E (Qs (t:=53) h1);rw[A7,<- pow_two,show E-(d:Int)=F by omega] at this;exact⟨this.1.symm,this.2.symm⟩
 ·obtain⟨d,rfl⟩:∃d,k=l+2*d:=⟨(k-l) / 2,by omega⟩
  have:=Vr (n:=m*2^l) d F (Qs (t:=53) h2);rw[A7,<- pow_two,show F-(d:Int)=E by omega] at this;exact this
def EJ(b:Nat):Nat:=128+(B7 b%2).toNat
def E4(b:Nat):Nat × Nat:=
 if Bk b=4 then (NW,0)
 else if Bk b=0\/b=E8 then (b,0)
 else if Cd b=xZ then (NW,16)
 else (Cs (Ev (By b*2^EJ b)) ((B7 b-EJ b) / 2-1),flagsOf (Ev (By b*2^EJ b)) ((B7 b-EJ b) / 2-1))
theorem Da{b:Nat}(h3:Bk b≠3)(h4:Bk b≠4):By b=0↔Bk b=0:=by
 have:=JA b;have:=IC b;unfold By;unfold Bk at *
 split at h3<;>split<;>(try split)<;>(try split)<;>simp_all<;>omega
theorem Tb{b:Nat}(h:Bk b=4):E4 b=(NW,0):=Az h
theorem Jg{b:Nat}(h4:Bk b≠4)(h:Bk b=0\/b=E8):E4 b=(b,0):=by unfold E4; rw[Ay h4,Az h]
theorem Yc{b:Nat}(h4:Bk b≠4)(h:¬(Bk b=0\/b=E8))(hn:Cd b=xZ):E4 b=(NW,16):=by unfold E4; rw[Ay h4,Ay h,Az hn]
theorem Nh{b:Nat}(h4:Bk b≠4)(h:¬(Bk b=0\/b=E8))(hn:Cd b=x5):
 E4 b=(Cs (Ev (By b*2^EJ b)) ((B7 b-EJ b) / 2-1),flagsOf (Ev (By b*2^EJ b)) ((B7 b-EJ b) / 2-1)):=by
 unfold E4; rw[Ay h4,Ay h,Ay (by rw[hn]; decide)]
theorem YO:Bk E8=3:=by decide
theorem FQ(r:Nat):Co x5 r=r:=rfl
theorem PU{b:Nat}(hm:By b≠0):2^106<=By b*2^EJ b/\2*((B7 b-(EJ b:Int)) / 2-1)+EJ b=B7 b-2:=by refine⟨?_,by unfold EJ; omega⟩;have:2^128<=2^EJ b:=Aq (by decide) (by unfold EJ; omega);have h5:=AE (show 1<=By b by omega) this;omega
theorem YA{b:Nat}(hm:By b≠0):(By b).log2<=52:=by have:=(AZ hm).2 (show By b<2^53 from EX b);omega
def Cl(b:Nat)(n:Int):Nat × Nat:=
 if Bk b=4 then (NW,0)
 else if Bk b=3\/Bk b=0 then (b,0)
 else (Co (Cd b) (Cs (By b) (B7 b+n)),flagsOf (By b) (B7 b+n))
theorem AeZ{V:Nat}{E:Int}(h0:V≠0)(h:E+V.log2+1<=-1075):Cs V E=0/\flagsOf V E=3:=by
 have hl:Cp V E=-1074:=by unfold Cp; omega
 obtain⟨k,hk⟩:∃k:Nat,(-1074:Int)-E=((k:Nat):Int):=⟨(-1074-E).toNat,by omega⟩
 have hV:V<2^(V.log2+1):=(AZ h0).1 (by omega);have hp:2^(V.log2+1)*2<=2^k:=by rw[<- zH]; exact Aq (by decide) (by omega)
 have e1:V*2^(-((-1074:Int)-E)).toNat=V:=by rw[hk]; simp
 have e2:((-1074:Int)-E).toNat=k:=by rw[hk]; rfl
 have hk2:kept V E=0:=by unfold kept HS;rw[hl,e1,e2];unfold HT;rw[z7 (by omega),Ao (by omega),Ay (by omega)]
 have hx:exact V E=x5:=by unfold exact Ky;rw[hl,e1,e2,Ao (by omega)];exact Ag h0
 have hr:Cs V E=0:=by unfold Cs;rw[Ay h0,hl,hk2];rfl
 refine⟨hr,?_⟩;unfold flagsOf;rw[Ay h0,hr,hx];rfl
theorem AdE{m:Nat}(h:m<2^53):m.log2<=52:=by
 rcases yy m with rfl | h0
 ·decide
 ·have:=(AZ (by omega)).2 h; omega
theorem Adx(n:Bool){m:Nat}{e:Int}{MR:Bool}(hm:m<2^53)(h0:m≠0\/MR=xZ)(he:e<=-1130):
 Ga n m e MR=(Co n 0,3):=by
 have h1:MR.toNat<=1:=by cases MR<;>decide
 have hV:4*m+MR.toNat≠0:=by
  rcases h0 with h | h
  ·omega
  ·rw[h]; simp
 have hl:(4*m+MR.toNat).log2<=54:=by have:=(AZ hV).2 (show 4*m+MR.toNat<2^55 by omega); omega
 have:=AeZ hV (E:=e-2) (by omega);unfold Ga;rw[this.1,this.2]
theorem AfN(n:Bool):Ga n 0 (-1074) xZ=(Co n 0,3):=by cases n<;>decide +kernel
theorem Aaj{b:Nat}{n:Int}(h4:Bk b≠4)(h:¬(Bk b=3\/Bk b=0))(hn:B7 b+n<=-1130):Cl b n=(Co (Cd b) 0,3):=by
 have hm:By b≠0:=fun h5=>h (.inr ((Da (by omega) h4).1 h5))
 have:=AeZ hm (E:=B7 b+n) (by have:=YA hm; omega);unfold Cl;rw[Ay h4,Ay h,this.1,this.2]
theorem GR{b:Nat}{n:Int}(h4:Bk b≠4)(h:¬(Bk b=3\/Bk b=0)):Cl b n=(Co (Cd b) (Cs (By b) (B7 b+n)),flagsOf (By b) (B7 b+n)):=by unfold Cl; rw[Ay h4,Ay h]
def E2(b:Nat):Int:=if Hg b=xZ/\Bk b≠0 then ((By b).log2:Int)+B7 b else 0
def Ea(b:Nat):Nat:=b%2^63
def Ado(a b:Nat):Int:=if Bk a=4\/Bk b=4 then 0 else if GG a<GG b then -1 else if GG b<GG a then 1 else 0
def Akk(a b:Nat):Bool:=!(decide (Bk a=4\/Bk b=4))
def Vu(b:Int):Int:=GG b.toNat
def G4(a b:Int):Int:=Ado a.toNat b.toNat
def Amq(a b:Int):Bool:=Akk a.toNat b.toNat
def KQ(x:Int):Int:=Ea x.toNat
def BX(x n:Int):Int:=(Cl x.toNat n).1
def Aia(x n:Int):Int:=(Cl x.toNat n).2
def Ew(x n:Int):Bool:=Br x&&Ch (-2300<=n/\n<=2300)
def BQ(x:Int):Int:=E2 x.toNat
def IM:Bf->Nat->Nat
 | [],m=>m
 | x::l,m=>if Bk x.toNat=4 then NW else IM l (max m (Ea x.toNat))
def BK(l:Bf):Int:=IM l 0
def DA(l:Bf):Bool:=l.all D5
def BU(r c:Int)(l:Bf):Int:=if BA r c l=xZ then (if DA l=xZ then 0 else 4) else 1
def Aiv(c:Int)(l:Bf)(n:Nat):Bool:=(zf n).any fun i:Nat=>decide (BH (CE c l (i:Int) (i:Int))=0)
def Am7(r c:Int)(l:Bf)(p q:Int)(m:Bf):Int:=
 if BU r c l≠0 then BU r c l else if BU p q m≠0 then BU p q m
 else if r≠c\/r≠p then 3 else if Aiv c l r.toNat=xZ then 5 else 0
def Aj6(c:Int)(l:Bf)(i:Int):Int->Int->Bf->Int
 | s,_,[]=>s
 | s,j,x::xs=>Aj6 c l i (Ej s (C0 (CE c l i j) x)) (j+1) xs
def loL(c:Int)(l:Bf)(b:Nat->Int):Nat->Bf
 | 0=>[]
 | k+1=>loL c l b k++[Fl (Aj6 c l (k:Int) (b k) 0 (loL c l b k)) (CE c l (k:Int) (k:Int))]
def loG(c:Int)(l:Bf)(q:Int)(m:Bf)(n w:Nat):Bf:=BZ n w fun i j=>(loL c l (fun i=>CE q m (i:Int) (j:Int)) n).getD i 0
def AnR(r c:Int)(l:Bf):MX:=if DA l=xZ then (r,c,l,0) else JJ 2
def loX(r c:Int)(l:Bf)(p q:Int)(m:Bf):MX :=if Am7 r c l p q m≠0 then JJ (Am7 r c l p q m) else AnR r q (loG c l q m r.toNat q.toNat)
def Am5(c:Int)(l:Bf)(n:Nat):Bf:=(zf n).map fun i:Nat=>KQ (CE c l (i:Int) (i:Int))
def Am1(d:Bf):Bool:=d.any fun x=>!(decide (G4 (BX (BK d) (-40)) x<0))
def Ak5(r c:Int)(l:Bf):Bool:=Am1 (Am5 c l (min r.toNat c.toNat))
def Aj7(r c:Int)(l:Bf):Bool × Int:=if BU r c l≠0 then (x5,BU r c l) else (Ak5 r c l,0)
def AjR(r c:Int)(l:Bf)(p q:Int)(m:Bf):Bool:=(BA r c l&&BA p q m)&&((Bp l&&Bp m)&&Ch (r=c/\r=p))
def F2(n:Nat):Bf:=BZ n n fun i k=>Mv (i:Int) (k:Int)
theorem Acy{a b:Nat}:(KS a b).1<2^64:=by
 have h1:E8<2^63:=by decide
 have hs:∀(s:Bool) {r:Nat},r<2^63->Co s r<2^64:=by
  intro s r h;unfold Co;cases s
  ·rw[Ay (by decide)]; omega
  ·rw[Az rfl]; omega
 have hN:NW<2^64:=by decide
 unfold KS;by_cases c1:Bk a=4\/Bk b=4
 ·rw[Az c1]; exact hN
 rw[Ay c1];by_cases c2:Bk a=Bk b/\(Bk a=3\/Bk a=0)
 ·rw[Az c2]; exact hN
 rw[Ay c2];by_cases c3:Bk a=3
 ·rw[Az c3]; exact hs _ h1
 rw[Ay c3];by_cases c4:Bk b=3\/Bk a=0
 ·rw[Az c4]; exact hs _ (by decide)
 rw[Ay c4];by_cases c5:Bk b=0
 ·rw[Az c5]; exact hs _ h1
 rw[Ay c5];exact hs _ (Jv _ _)
theorem NL(a b:Int):Br (Fl a b)=xZ:=CP Acy
theorem Pc{a b:Int}(ha:Br a=xZ)(hb:Br b=xZ):Br (Ej a b)=xZ:=by obtain⟨x,rfl,hx⟩:=C9 ha;obtain⟨y,rfl,hy⟩:=C9 hb;exact CP (QB (by rw[Ad]; exact hx) (Rg (by rw[Ad]; exact hy))).1
theorem FA{r c:Nat}{f:Nat->Nat->Int}(h:∀i k,Br (f i k)=xZ):Bp (BZ r c f)=xZ:=Bv.2 fun x hx=>by obtain⟨j,_,rfl⟩:=zh.1 hx;exact h _ _
theorem F8(a b:Int):Br (C0 a b)=xZ:=CP Lg
theorem AiI{l:Bf}(h:∀x∈l,Br x=xZ)(i:Nat):Br (l.getD i 0)=xZ:=by
 rw[Al];cases hi:l[i]? with
 | none=>exact CP (n:=0) (by decide)
 | some x=>exact h x (List.mem_of_getElem? hi)
def Ty:Int:=4607182418800017408
def DQ(x:Int):Int:=(E4 x.toNat).1
def Ni(x:Int):Int:=(E4 x.toNat).2
def FX(k:Int):Int->Bf->Int
 | s,[]=>s
 | s,x::l=>FX k (DM s (C0 (BX x k) (BX x k))) l
def Cb(x:Bf):Int :=if BK x=0\/D5 (BK x)=x5 then BK x else BX (DQ (FX (-BQ (BK x)) 0 x)) (BQ (BK x))
def Fi(l:Bf):Bool:=l.all fun x=>decide (BH x=0)
def Lk:Bf->Int
 | []=>0
 | x::l=>if BH x=0 then Lk l else x
def B6(l:Bf)(k:Int):Bf:=l.map fun x=>BX x k
def GX(n:Nat)(f:Nat->Int):Bf:=Ty::(zf (n-1)).map fun j=>f (j+1)
def L5(x:Bf):Int:=if DX (Lk x)=xZ then Cb (B6 x (-BQ (BK x))) else C1 (Cb (B6 x (-BQ (BK x))))
def Gc(x:Bf):Int:=BX (L5 x) (BQ (BK x))
def E9(x:Bf):Int:=BX (x.getD 0 0) (-BQ (BK x))
def Re(x:Bf):Bf:=GX x.length fun j=>Fl (BX (x.getD j 0) (-BQ (BK x))) (Ej (E9 x) (L5 x))
def TA(x:Bf):Int:=Fl (Ej (L5 x) (E9 x)) (L5 x)
def Y1(x:Bf):Bf × Int × Int × Int:=
 if Fi (x.drop 1)=xZ then (GX x.length fun _=>0,0,x.getD 0 0,0)
 else if D5 (Gc x)=xZ then (Re x,TA x,Gc x,0) else ([],0,0,2)
def Ce(x:Bf):Bf × Int × Int × Int :=if x.length=0\/64<x.length then ([],0,0,3) else if DA x=xZ then Y1 x else ([],0,0,4)
def Dm(c:Int)(l:Bf)(b i:Int)(n:Nat):Bf:=(zf n).map fun j:Nat=>CE c l (i+(j:Int)) b
def Ip(c:Int)(l:Bf)(i:Int)(v:Bf)(t b:Int):Int:=C0 t (Fk v (Dm c l b i v.length))
def Gp(c:Int)(l:Bf)(i k:Int)(v:Bf)(t a b:Int):Int :=if k<=b/\i<=a/\a<i+v.length then Ej (CE c l a b) (C0 (Ip c l i v t b) (v.getD (a-i).toNat 0)) else CE c l a b
def Fc(r c:Nat)(l:Bf)(i k:Int)(v:Bf)(t:Int):Bf:=BZ r c fun a b=>Gp (c:Int) l i k v t (a:Int) (b:Int)
def MA(r c i k:Int)(v:Bf):Bool:=decide (0<=i/\(v.length:Int)<=r/\i<=r-v.length/\0<=k/\k<=c)
def M5(r c:Nat)(l:Bf)(j:Nat)(x:Int):Bf:=BZ r c fun a b=>if b=j/\j<=a then (if a=j then x else 0) else CE (c:Int) l (a:Int) (b:Int)
def Dv(r c:Nat)(l:Bf)(j:Nat):Bf:=Dm (c:Int) l (j:Int) (j:Int) (r-j)
def LP(r c:Nat)(l:Bf)(j:Nat):Bf:=M5 r c (Fc r c l (j:Int) (j:Int) (Ce (Dv r c l j)).1 (Ce (Dv r c l j)).2.1) j (Ce (Dv r c l j)).2.2.1
def HW(r c:Nat):Nat->Nat->Bf->Option (Bf × List (Bf × Int))
 | 0,_,l=>xQ (l,[])
 | n+1,j,l=>if (Ce (Dv r c l j)).2.2.2=0 then
  (HW r c n (j+1) (LP r c l j)).map fun x=>(x.1,((Ce (Dv r c l j)).1,(Ce (Dv r c l j)).2.1)::x.2) else xY
def Fh(r c:Nat):Nat:=min c (r-1)
def I5(n:Nat):Nat->List (Bf × Int)->Bf->Bf
 | _,[],q=>q
 | j,m::ms,q=>Fc n n (I5 n (j+1) ms q) (j:Int) 0 m.1 m.2
def Hq(r c:Nat)(l:Bf):Option (Bf × List (Bf × Int)):=HW r c (Fh r c) 0 l
def H3(r c:Nat)(l:Bf):Bf:=match Hq r c l with
 | some x=>I5 r 0 x.2 (F2 r)
 | none=>[]
def FY(r c:Nat)(l:Bf):Bf:=match Hq r c l with
 | some x=>x.1
 | none=>[]
def Gb(r c:Int)(l:Bf):MX:=if (Hq r.toNat c.toNat l).isSome=xZ then (r,c,FY r.toNat c.toNat l,0) else JJ 2
def TB(ms:List (Bf × Int)):List (List DV):=ms.map fun m=>[.Bj .arg .u64 m.1,.int .u64 m.2]
def LQ(r c:Int)(l:Bf):List (List DV):=match Hq r.toNat c.toNat l with
 | some x=>TB x.2
 | none=>[]
def Ql(m:Int):Int:=IY (m.toNat*2^64)
def Qm(m:Int):Bool:=decide (IY (m.toNat*2^64)*IY (m.toNat*2^64)=m.toNat*2^64)
def NJ(r c:Nat)(l:Bf):Bool:=(Hq r c l).isSome&&(DA (H3 r c l)&&DA (FY r c l))
def Fp(r c:Int)(l:Bf):Int:=if BU r c l≠0 then BU r c l else if NJ r.toNat c.toNat l=xZ then 0 else 2
def qX(r c:Int)(l:Bf):MX:=if Fp r c l≠0 then JJ (Fp r c l) else (r,r,H3 r.toNat c.toNat l,0)
def rX(r c:Int)(l:Bf):MX:=if Fp r c l≠0 then JJ (Fp r c l) else (r,c,FY r.toNat c.toNat l,0)
def U8(r c:Int)(l:Bf):MX:=if Fp r c l≠0 then JJ (Fp r c l) else (r,min r c,(Fy r r (H3 r.toNat c.toNat l) 0 0 r (min r c)).2.2.1,0)
def PA(r c:Int)(l:Bf):MX:=if Fp r c l≠0 then JJ (Fp r c l) else (min r c,c,(Fy r c (FY r.toNat c.toNat l) 0 0 (min r c) c).2.2.1,0)
def mulM(x y:MX):MX:=Pq x.1 x.2.1 x.2.2.1 y.1 y.2.1 y.2.2.1
def Al3(x:MX):MX:=E3 x.1 x.2.1 x.2.2.1
def L4(x:MX)(i k a b:Int):MX:=Fy x.1 x.2.1 x.2.2.1 i k a b
def eqT(p q:Int)(m:Bf):Bf:=(E3 p q m).2.2.1
def eqR(p q:Int)(m:Bf):MX:=rX q p (eqT p q m)
def eqS(p q:Int)(m:Bf):MX:=Al3 (L4 (eqR p q m) 0 0 p p)
def hY(p q:Int)(m:Bf)(u v:Int)(h:Bf):MX:=
 if Fp q p (eqT p q m)≠0 then JJ (Fp q p (eqT p q m)) else if (Aj7 (eqS p q m).1 (eqS p q m).2.1 (eqS p q m).2.2.1).1=xZ then JJ 5
 else loX (eqS p q m).1 (eqS p q m).2.1 (eqS p q m).2.2.1 u v h
def hQ(p q:Int)(m:Bf):MX:=
 if Fp q p (eqT p q m)≠0 then JJ (Fp q p (eqT p q m)) else if (Aj7 (eqS p q m).1 (eqS p q m).2.1 (eqS p q m).2.2.1).1=xZ then JJ 5
 else qX q p (eqT p q m)
def AnE(x y:MX):MX:=AnD x.1 x.2.1 x.2.2.1 y.1 y.2.1 y.2.2.1
def AnV(x:MX):Int:=BU x.1 x.2.1 x.2.2.1
def Ame(c:Int)(x:MX):MX:=L4 x 0 0 c x.2.1
def gF(r c:Int)(C E y:MX):MX:=AnE (Ame c C) (mulM (Ame c E) y)
def Vb(k b:Int):Bool:=D5 b&&(decide (BH b=0)||(decide (-k<=BQ b)&&decide (BQ b<k)))
def G5(x:Bf)(k:Int):Bool:=x.all (Vb k)
structure Wh(x:Int)(v:Int):Prop where
 word:Br x=xZ
 k3:Bk x.toNat≠3
 k4:Bk x.toNat≠4
 val:∃g:Int,g<=0/\g<=B7 x.toNat/\EI x.toNat g=v*((2^(-g).toNat:Nat):Int)
theorem JU:Br (0:Int)=xZ:=CP (n:=0) (by decide)
theorem WN:Br Ty=xZ:=CP (n:=4607182418800017408) (by decide)
theorem AcX{b:Nat}{n:Int}(h:b<2^64):(Cl b n).1<2^64:=by
 unfold Cl;by_cases h4:Bk b=4
 ·rw[Az h4]; exact(by decide:NW<2^64)
 rw[Ay h4];by_cases h3:Bk b=3\/Bk b=0
 ·rw[Az h3]; exact h
 rw[Ay h3];exact Nl _ _ _
theorem Gi{b n:Int}(h:Br b=xZ):Br (BX b n)=xZ:=by obtain⟨x,rfl,hx⟩:=C9 h;exact CP (AcX (by rw[Ad]; exact hx))
theorem QD(b:Nat):Ea b<2^63:=zu _ (by decide)
theorem Uu:∀(l:Bf) (m:Nat),m<2^64->IM l m<2^64
 | [],m,h=>h
 | x::l,m,h=>by
   unfold IM;split
   ·exact(by decide:NW<2^64)
   ·have h2:=QD x.toNat;exact Uu l _ (by omega)
theorem Rv(l:Bf):Br (BK l)=xZ:=CP (Uu l 0 (by decide))
theorem WX(x:Int):Br (KQ x)=xZ:=CP (y7 (QD x.toNat) (by decide))
theorem P5{a b:Int}(ha:Br a=xZ)(hb:Br b=xZ):Br (DM a b)=xZ:=by obtain⟨x,rfl,hx⟩:=C9 ha;obtain⟨y,rfl,hy⟩:=C9 hb;exact CP (QB (by rw[Ad]; exact hx) (by rw[Ad]; exact hy)).1
theorem Qh{a:Int}(ha:Br a=xZ):Br (C1 a)=xZ:=by obtain⟨x,rfl,hx⟩:=C9 ha;exact CP (Rg (by rw[Ad]; exact hx))
theorem Afj{b:Nat}(h:b<2^64):(E4 b).1<2^64:=by
 by_cases h4:Bk b=4
 ·rw[Tb h4]; exact(by decide:NW<2^64)
 by_cases h0:Bk b=0\/b=E8
 ·rw[Jg h4 h0]; exact h
 cases hn:Cd b with
 | true=>rw[Yc h4 h0 hn]; exact(by decide:NW<2^64)
 | false =>unfold E4;rw[Ay h4,Ay h0,hn,Ay (by decide)];exact y7 (Jv _ _) (by decide)
theorem Su{a:Int}(ha:Br a=xZ):Br (DQ a)=xZ:=by obtain⟨x,rfl,hx⟩:=C9 ha;exact CP (Afj (by rw[Ad]; exact hx))
theorem Afh(k:Int):∀(l:Bf) {s:Int},Br s=xZ->Br (FX k s l)=xZ
 | [],_,h=>h
 | _::l,_,h=>Afh k l (P5 h (F8 _ _))
theorem Kd(x:Bf):Br (Cb x)=xZ:=by
 unfold Cb;split
 ·exact Rv x
 ·exact Gi (Su (Afh _ _ JU))
theorem AfV(x:Bf):Br (L5 x)=xZ:=by
 unfold L5;split
 ·exact Kd _
 ·exact Qh (Kd _)
theorem Ajh(x:Bf):Br (Gc x)=xZ:=Gi (AfV x)
theorem AdY(b:Nat):-1100<=E2 b/\E2 b<=1100:=by
 unfold E2;split
 ·have h1:=CO b;have h2:=EX b;rename_i h
  have h3:(By b).log2<53:=by
   by_cases h0:By b=0
   ·rw[h0]; decide
   ·exact(AZ h0).2 h2
  omega
 ·omega
theorem Xn(x:Int):-1100<=BQ x/\BQ x<=1100:=AdY x.toNat
theorem JD{l:Bf}(h:Bp l=xZ)(j:Nat):Br (l.getD j 0)=xZ:=AiI (Bv.1 h) j
theorem O1{l:Bf}(h:∀x∈l,Br x=xZ):Bp l=xZ:=Bv.2 h
theorem Ahq:Bp []=xZ:=O1 fun _ h=>by cases h
theorem Uz{α:Type}{l:List α}{f:α->Int}(h:∀j,Br (f j)=xZ):Bp (l.map f)=xZ:=O1 fun x hx=>by obtain⟨j,_,rfl⟩:=zh.1 hx;exact h j
theorem Aeo{x:Int}{l:Bf}(h1:Br x=xZ)(h2:Bp l=xZ):Bp (x::l)=xZ:=O1 fun y hy=>by
 rcases zF.1 hy with rfl | hy
 ·exact h1
 ·exact Bv.1 h2 y hy
theorem Ft{c i k:Int}{l:Bf}(h:Bp l=xZ):Br (CE c l i k)=xZ:=JD h _
theorem DO(c b i:Int)(n:Nat)(l:Bf):(Dm c l b i n).length=n:=by unfold Dm; rw[AO,AL]
theorem Ji{c b i:Int}{n:Nat}{l:Bf}(h:Bp l=xZ):Bp (Dm c l b i n)=xZ:=Uz fun _=>Ft h
theorem Afv(n:Nat){f:Nat->Int}(h:∀j,Br (f j)=xZ):Bp (GX n f)=xZ:=Aeo WN (Uz fun _=>h _)
theorem Mh{n:Nat}(h:n≠0)(f:Nat->Int):(GX n f).length=n:=by unfold GX;rw[zj,AO,AL];omega
theorem S7{x:Bf}(h:Bp x=xZ):Bp (Ce x).1=xZ/\Br (Ce x).2.1=xZ/\Br (Ce x).2.2.1=xZ:=by
 have hz:Bp []=xZ/\Br (0:Int)=xZ/\Br (0:Int)=xZ:=⟨Ahq,JU,JU⟩
 unfold Ce;split
 ·exact hz
 split
 ·unfold Y1;split
  ·dsimp only;exact⟨Afv _ fun _=>JU,JU,JD h 0⟩
  ·split
   ·dsimp only;exact⟨Afv _ fun _=>NL _ _,NL _ _,Ajh x⟩
   ·exact hz
 ·exact hz
theorem KB{x:Bf}(h:(Ce x).2.2.2=0):(Ce x).1.length=x.length:=by
 unfold Ce at h ⊢;by_cases h1:x.length=0\/64<x.length
 ·rw[Az h1] at h; exact absurd h (by decide)
 rw[Ay h1] at h ⊢;by_cases h2:DA x=xZ
 ·rw[Az h2] at h ⊢;unfold Y1 at h ⊢;by_cases h3:Fi (x.drop 1)=xZ
  ·rw[Az h3]; dsimp only; exact Mh (n:=x.length) (by omega) _
  ·rw[Ay h3] at h ⊢;by_cases h4:D5 (Gc x)=xZ
   ·rw[Az h4]; dsimp only[Re]; exact Mh (n:=x.length) (by omega) _
   ·rw[Ay h4] at h; exact absurd h (by decide)
 ·rw[Ay h2] at h; exact absurd h (by decide)
theorem Ie(x y:Bf):Br (Fk x y)=xZ:=CP (SI x y 0 (by decide))
theorem Aem{c i k t a b:Int}{l v:Bf}(h:Bp l=xZ):Br (Gp c l i k v t a b)=xZ:=by
 unfold Gp;split
 ·exact Pc (Ft h) (F8 _ _)
 ·exact Ft h
theorem Wa{r c:Nat}{l:Bf}(h:Bp l=xZ)(i k:Int)(v:Bf)(t:Int):Bp (Fc r c l i k v t)=xZ:=FA fun _ _=>Aem h
theorem LA(r c:Nat)(l:Bf)(i k:Int)(v:Bf)(t:Int):(Fc r c l i k v t).length=r*c:=BW _ _ _
theorem Aef{r c:Nat}{l:Bf}(h:Bp l=xZ)(j:Nat){x:Int}(hx:Br x=xZ):Bp (M5 r c l j x)=xZ:=FA fun a b=>by
 split
 ·split
  ·exact hx
  ·exact JU
 ·exact Ft h
theorem N6(r c:Nat)(l:Bf)(j:Nat):(LP r c l j).length=r*c:=by unfold LP M5; exact BW _ _ _
theorem Mr{r c:Nat}{l:Bf}(h:Bp l=xZ)(j:Nat):Bp (LP r c l j)=xZ:=Aef (Wa h _ _ _ _) _ (S7 (Ji h)).2.2
def Y3(r:Nat):Nat->List (Bf × Int)->Prop
 | _,[]=>True
 | j,m::ms=>(Bp m.1=xZ/\Br m.2=xZ/\m.1.length+j=r)/\Y3 r (j+1) ms
theorem Uk(r c:Nat):∀(n j:Nat) (l:Bf) (x:Bf × List (Bf × Int)),Bp l=xZ->l.length=r*c->j+n<=r->HW r c n j l=xQ x->Bp x.1=xZ/\x.1.length=r*c/\x.2.length=n/\Y3 r j x.2
 | 0,j,l,x,ha,hl,_,h=>by cases h;exact⟨ha,hl,rfl,trivial⟩
 | n+1,j,l,x,ha,hl,hj,h=>by
   unfold HW at h;by_cases h1:(Ce (Dv r c l j)).2.2.2=0
   ·rw[Az h1,Option.map_eq_some_iff] at h;obtain⟨y,hy,rfl⟩:=h;obtain⟨a1,a2,a3,a4⟩:=Uk r c n (j+1) _ y (Mr ha j) (N6 r c l j) (by omega) hy;have hm:=S7 (x:=Dv r c l j) (Ji ha);have hlen:=KB h1;refine⟨a1,a2,by rw[zj,a3],⟨hm.1,hm.2.1,?_⟩,a4⟩;show(Ce (Dv r c l j)).1.length+j=r;rw[hlen];unfold Dv;rw[DO];omega
   ·rw[Ay h1] at h; cases h
theorem SF(n:Nat):Bp (F2 n)=xZ:=FA fun i k=>by
 unfold Mv;split
 ·exact WN
 ·exact JU
theorem Q5(n:Nat):∀(ms:List (Bf × Int)) (j:Nat) (q:Bf),Bp q=xZ->q.length=n*n->Bp (I5 n j ms q)=xZ/\(I5 n j ms q).length=n*n
 | [],_,_,h1,h2=>⟨h1,h2⟩
 | m::ms,j,q,h1,h2=>by unfold I5;exact⟨Wa (Q5 n ms (j+1) q h1 h2).1 _ _ _ _,LA _ _ _ _ _ _ _⟩
theorem Xl{r c:Nat}{l:Bf}(h:(Hq r c l).isSome=xZ):Bp (H3 r c l)=xZ/\(H3 r c l).length=r*r:=by
 unfold H3;cases hd:Hq r c l with
 | none=>rw[hd] at h; cases h
 | some x=>exact Q5 r x.2 0 _ (SF r) (by unfold F2; exact BW _ _ _)
theorem Acn{r c:Nat}{l:Bf}(ha:Bp l=xZ)(hl:l.length=r*c)(h:(Hq r c l).isSome=xZ):Bp (FY r c l)=xZ/\(FY r c l).length=r*c:=by
 unfold FY;cases hd:Hq r c l with
 | none=>rw[hd] at h; cases h
 | some x =>
   have hn:Fh r c<=r:=by unfold Fh; omega
   have:=Uk r c (Fh r c) 0 l x ha hl (by omega) hd;exact⟨this.1,this.2.1⟩
theorem Jn(n:Nat):Hg n=!(decide (Bk n=3)||decide (Bk n=4)):=by
 have:=IC n;unfold Hg Bk;by_cases h:DR n=2047
 ·by_cases h2:Dn n=0<;>simp[h,h2]
 ·have h3:DR n<2047:=by omega
  by_cases h4:0<DR n
  ·simp[h,h3,h4]
  ·by_cases h5:0<Dn n<;>simp[h,h3,h4,h5]
theorem Sw(s:Bool)(m:Nat):(GI s m).natAbs=m:=by unfold GI; split<;>omega
theorem Ac7{b:Nat}(h:b<2^64)(g:Int):EI (Ec b) g=-(EI b g)/\B7 (Ec b)=B7 b/\Hg (Ec b)=Hg b:=by
 obtain⟨h1,h2,h3⟩:=I2 h;have hm:By (Ec b)=By b:=by unfold By; rw[h2,h3]
 have he:B7 (Ec b)=B7 b:=by unfold B7; rw[h2]
 refine⟨?_,he,by unfold Hg; rw[h2]⟩;unfold EI;rw[h1,hm,he];unfold GI;cases Cd b
 ·rfl
 ·show((_:Nat):Int)=- -((_:Nat):Int);omega
def pw(k:Nat):Nat:=(k+1023)*2^52
theorem Nw{k:Nat}(h:k<=1023):By (pw k)=2^52/\B7 (pw k)=(k:Int)-52/\Bk (pw k)=2/\pw k%2^63=pw k/\pw k<E8:=by
 have hp:DR (pw k)=k+1023:=by unfold DR pw; omega
 have hf:Dn (pw k)=0:=by unfold Dn pw; omega
 refine⟨?_,?_,?_,?_,?_⟩
 ·unfold By; rw[hp,hf,Ay (by omega)]
 ·unfold B7; rw[hp,Ay (by omega)]; omega
 ·unfold Bk; rw[hp,Ay (by omega),Az (by omega)]
 ·unfold pw; omega
 ·rw[EB]; unfold pw; omega
def Ij(a:Nat):Nat:=ES a (-1074)
theorem AbR{k:Nat}(h:k<=1023):Ij (pw k)=2^(k+1074):=by obtain⟨h1,h2,_⟩:=Nw h;unfold Ij ES;rw[h1,h2,<- A5];congr 1; omega
theorem Sz{k:Nat}(h:k<=1023):Cs (2^(k+1074)) (-1074)=pw k:=by obtain⟨h1,h2,h3,h4,_⟩:=Nw h;have:=J6 (b:=pw k) (f:=-1074) (by omega) (by omega);rw[h4] at this;rw[<- this,<- AbR h]; rfl
def Bd(k:Nat)(a:Nat):Prop:=Bk a≠3/\Bk a≠4/\Ij a<=2^(k+1074)
theorem Bd.mono{j k a:Nat}(h:Bd j a)(hk:j<=k):Bd k a:=⟨h.1,h.2.1,AP h.2.2 (Aq (by decide) (by omega))⟩
theorem Bd.Kc{k a:Nat}(hk:k<=1023)(h4:Bk a≠4)(h:a%2^63<=pw k):Bd k a:=by
 obtain⟨p1,p2,p3,p4,p5⟩:=Nw hk;have h3:Bk a≠3:=fun e=>by have:=Ox e; omega
 refine⟨h3,h4,?_⟩;have ha:=CO a;rcases AF (Ij (pw k)) (Ij a) with g | g
 ·have:=(TE (f:=-1074) (by omega) h4 (by omega) ha.1).1 g;omega
 ·rw[AbR hk] at g; exact g
theorem Gy(s:Bool)(V:Nat)(E:Int):Bk (Co s (Cs V E))≠4:=by
 have h:=Ok V E;rw[EB] at h;have hp:=QW s (r:=Cs V E) (by omega);have hf:=Pw s (Cs V E);unfold Bk;rw[hp,hf];split
 ·split
  ·omega
  ·omega
 ·split
  ·omega
  ·split<;>omega
theorem Bd.Cs{k:Nat}(s:Bool){V:Nat}{E:Int}(hk:k<=1023)(h:Cs V E<=pw k):Bd k (Co s (Cs V E)):=by
 refine .Kc hk (Gy s V E) ?_;have:=Jv V E;have e:Co s (Go.Ck.Cs V E)%2^63=Go.Ck.Cs V E:=by unfold Co; split<;>omega
 rw[e]; exact h
theorem Bd.zero(s:Bool)(k:Nat):Bd k (Co s 0):=by
 have:Bk (Co s 0)=0/\Ij (Co s 0)=0:=by cases s<;>decide +kernel
 exact⟨by omega,by omega,by rw[this.2]; exact zo _⟩
theorem KC(a:Nat):(EI a (-1074)).natAbs=Ij a:=by unfold EI Ij ES;rw[Sw]
theorem Bd.add{k a b:Nat}(hk:k+1<=1023)(ha:Bd k a)(hb:Bd k b):Bd (k+1) (Ef a b).1:=by
 obtain⟨a3,a4,am⟩:=ha;obtain⟨b3,b4,bm⟩:=hb;have pa:=CO a;have pb:=CO b;have ek:=SK a3 a4 b3 b4 (g:=-1074) (by omega)
 have e4:Bk (Ef a b).1≠4:=by
  rw[NT (by omega) a3 b3];unfold Ih;split
  ·have:Bk (Co (Cd a&&Cd b) 0)=0:=by cases (Cd a&&Cd b)<;>decide
   show Bk (Co (Cd a&&Cd b) 0)≠4;omega
  ·exact Gy _ _ _
 refine .Kc hk e4 ?_
 have hs:(EI a (-1074)+EI b (-1074)).natAbs<=2^(k+1+1074):=by
  have h1:=KC a;have h2:=KC b;have:2^(k+1+1074)=2^(k+1074)+2^(k+1074):=by rw[show k+1+1074=k+1074+1 by omega,zH]; omega
  omega
 have hr:=FJ (E:=-1074) hs;rw[Sz hk] at hr;have hn:(GG (Ef a b).1).natAbs=(Ef a b).1%2^63:=by unfold GG; rw[Sw]
 rw[<- hn,ek];unfold UB;split<;>omega
theorem Bd.mul{j k a b:Nat}(hk:j+k<=1023)(ha:Bd j a)(hb:Bd k b):Bd (j+k) (En a b).1:=by
 obtain⟨a3,a4,am⟩:=ha;obtain⟨b3,b4,bm⟩:=hb;have pa:=CO a;have pb:=CO b;unfold En;rw[Ay (by omega),Ay (by omega)];refine .Cs _ hk ?_;obtain⟨u,hu⟩:∃u:Nat,B7 a=(u:Int)-1074:=⟨(B7 a+1074).toNat,by omega⟩
 obtain⟨v,hv⟩:∃v:Nat,B7 b=(v:Int)-1074:=⟨(B7 b+1074).toNat,by omega⟩
 have ea:Ij a=By a*2^u:=by unfold Ij ES; congr 2; omega
 have eb:Ij b=By b*2^v:=by unfold Ij ES; congr 2; omega
 have s1:=(DE (By a*By b) (u+v) (B7 a+B7 b)).1;obtain⟨t,ht⟩:∃t:Nat,t=1074:=⟨1074,rfl⟩
 rw[<- s1,<- Sz hk,<- (DE (2^(j+k+1074)) t (-1074)).1];rw[<- ht] at am bm ⊢;have ee:B7 a+B7 b-((u+v:Nat):Int)=-1074-(t:Int):=by omega
 rw[ee];refine FJ ?_
 have:By a*By b*2^(u+v)=Ij a*Ij b:=by rw[ea,eb,A5,y8]
 rw[this,<- A5,show j+k+t+t=(j+t)+(k+t) by omega,A5];exact AE am bm
theorem N7{k b:Nat}(hb:b<2^64)(h:Bd k b):Bd k (Ec b):=by
 obtain⟨h3,h4,hm⟩:=h;obtain⟨v1,v2,v3⟩:=Ac7 hb (-1074);have hf:Hg b=xZ:=by rw[Jn]; simp[h3,h4]
 have k':=HV (v3.trans hf);refine⟨k'.2,k'.1,?_⟩;rw[<- KC,v1,xp,KC]; exact hm
theorem Bd.sub{k a b:Nat}(hk:k+1<=1023)(hb64:b<2^64)(ha:Bd k a)(hb:Bd k b):Bd (k+1) (O8 a b).1:=Bd.add hk ha (N7 hb64 hb)
theorem Bd.fin{k a:Nat}(h:Bd k a):Hg a=xZ:=by rw[Jn]; simp[h.1,h.2.1]
theorem Bd.Ako{k a:Nat}(hf:Hg a=xZ)(h:By a≠0->((By a).log2:Int)+B7 a<(k:Int)):Bd k a:=by
 refine⟨(HV hf).2,(HV hf).1,?_⟩;have pa:=CO a;unfold Ij ES;by_cases h0:By a=0
 ·rw[h0,zJ]; exact zo _
 ·have hl:=h h0;have h1:=yx (n:=By a);have h2:By a*2^(B7 a - -1074).toNat<=2^((By a).log2+1)*2^(B7 a - -1074).toNat:=An _ (by omega);rw[<- A5] at h2;exact AP h2 (Aq (by decide) (by omega))
theorem AaV{P root rest two:Nat}(h1:P=root*root+rest)(h2:rest<=2*root)(h3:two<4):
 (4*root+1<=4*rest+two->4*P+two=(2*root+1)*(2*root+1)+(4*rest+two-(4*root+1))/\4*rest+two-(4*root+1)<=2*(2*root+1)) /\
 (4*rest+two<4*root+1->4*P+two=(2*root)*(2*root)+(4*rest+two)/\4*rest+two<=2*(2*root)):=by
 have e1:(2*root+1)*(2*root+1)=4*(root*root)+(4*root+1):=by
  rw[AM,yc,yc];have:2*root*(2*root)=4*(root*root):=by rw[y8]
  omega
 have e2:(2*root)*(2*root)=4*(root*root):=by rw[y8]
 constructor
 ·intro h; rw[e1]; omega
 ·intro h; rw[e2]; omega
theorem Aid{P root rest:Nat}(h1:P=root*root+rest)(h2:rest<=2*root):root=IY P:=by
 refine TW (by omega) ?_;have:(root+1)*(root+1)=root*root+2*root+1:=by rw[AM,yc]; omega
 omega
end Go.Ck
end
