/- A verified evaluator of the program's form and its use for this seat: S1Env, Rnd, Flt, Words, NearL, IeeL, OrdL, MulL, Limb, DyL, DyV, ExactL, MulW, SumL, MatL, MatW, PowL, RootL, ScaleL, SolW, TriL, HouW, LseW, GgW, RidW, WhoW. -/
import Derived.Test.YtfpbkmeodcgcbaaGreatProg
import Derived.Test.YtfpbkmeodcgcbaaGreatTD
set_option linter.unusedVariables false
set_option linter.unusedSimpArgs false
open Option renaming some->xM,none->xN
open Bool renaming true->wg,false->wy
open List renaming length->vA
open Nat renaming beq->zj,mod_one->xZ,mul_mod_mul_left->vV,mul_left_comm->yT,mul_eq_zero->xr,add_comm->xp,log2_self_le->zS,lt_log2_self->yi,le_log2->zP,mul_lt_mul_right->xt,div_add_mod->zK,mod_lt->zv,zero_le->zF,pow_succ->zG,one_mul->zA,add_assoc->yf,add_sub_cancel->yC,div_lt_iff_lt_mul->yM,le_div_iff_mul_le->yU,div_eq_of_lt->z8,eq_zero_or_pos->yv,zero_div->y5,shiftLeft_eq->yN,min_eq_left->ym,min_eq_right->xH,zero_mul->zI,le_of_lt->xJ,mul_add->yc,dvd_of_mod_eq_zero->vY,mul_div_cancel_left->vZ,mul_pos->x6,le_total->x7,exists_eq_add_of_le->v8,mul_le_mul_left->yg,mul_zero->yj,div_one->yO,mul_div_cancel->x9,add_lt_add_left->ua,sub_mul->yk,add_sub_cancel'->uc
open List renaming range->zg,length_cons->zt,mem_cons->zL,length_set->xo,map_append->yS
open Int renaming natCast_nonneg->xu,natCast_zero->wM,add_zero->xI,min_le_left->wO,min_le_right->wP,mul_nonneg->x5,mul_neg_of_neg_of_pos->wQ,natAbs_mul->yw,natAbs_natCast->zX,neg_mul->xK,zero_mul->yx,mul_assoc->wc,mul_lt_mul_right->v9,toNat_of_nonneg->wB
open Bool renaming false_eq_true->ye
open Option renaming map_some->z5
noncomputable section
namespace Go.Proofs.S1
open Go Go.Den Go.Proofs
set_option maxRecDepth 100000
abbrev tB:Nat:=47
abbrev tMR:Nat:=114
abbrev tW:Nat:=97
def tys:List (Nat × TI):=[
 (2,⟨1,8,(.int .i64),[.int .i64 (0:Int)]⟩),
 (3,⟨1,8,(.int .i64),[.int .i64 (0:Int)]⟩),
 (4,⟨1,1,.bool,[.bool wy]⟩),
 (5,⟨1,1,(.int .u8),[.int .u8 (0:Int)]⟩),
 (22,⟨1,24,(.slice 47),[.nil]⟩),
 (24,⟨3,40,(.struct [(0,3),(1,3),(2,22)]),[.int .i64 (0:Int),.int .i64 (0:Int),.nil]⟩),
 (28,⟨12,160,(.struct [(0,24),(3,24),(6,24),(9,24)]),[.int .i64 (0:Int),.int .i64 (0:Int),.nil,.int .i64 (0:Int),.int .i64 (0:Int),.nil,.int .i64 (0:Int),.int .i64 (0:Int),.nil,.int .i64 (0:Int),.int .i64 (0:Int),.nil]⟩),
 (29,⟨1,8,(.int .i64),[.int .i64 (0:Int)]⟩),
 (33,⟨1,24,(.slice 97),[.nil]⟩),
 (35,⟨2,32,(.struct [(0,4),(1,33)]),[.bool wy,.nil]⟩),
 (37,⟨3,40,(.struct [(0,35),(2,3)]),[.bool wy,.nil,.int .i64 (0:Int)]⟩),
 (46,⟨1,8,(.int .u64),[.int .u64 (0:Int)]⟩),
 (47,⟨1,8,(.int .u64),[.int .u64 (0:Int)]⟩),
 (55,⟨7,88,(.struct [(0,24),(3,24),(6,4)]),[.int .i64 (0:Int),.int .i64 (0:Int),.nil,.int .i64 (0:Int),.int .i64 (0:Int),.nil,.bool wy]⟩),
 (66,⟨1,24,(.slice 37),[.nil]⟩),
 (75,⟨12,160,(.array 4 24),[.int .i64 (0:Int),.int .i64 (0:Int),.nil,.int .i64 (0:Int),.int .i64 (0:Int),.nil,.int .i64 (0:Int),.int .i64 (0:Int),.nil,.int .i64 (0:Int),.int .i64 (0:Int),.nil]⟩),
 (85,⟨2,16,(.array 2 3),[.int .i64 (0:Int),.int .i64 (0:Int)]⟩),
 (87,⟨6,80,(.array 2 24),[.int .i64 (0:Int),.int .i64 (0:Int),.nil,.int .i64 (0:Int),.int .i64 (0:Int),.nil]⟩),
 (97,⟨1,4,(.int .u32),[.int .u32 (0:Int)]⟩),
 (108,⟨1,24,(.slice 114),[.nil]⟩),
 (114,⟨2,32,(.struct [(0,22),(1,47)]),[.nil,.int .u64 (0:Int)]⟩),
 (119,⟨1,8,(.int .i64),[.int .i64 (0:Int)]⟩),
 (123,⟨1,1,(.int .u8),[.int .u8 (0:Int)]⟩),
 (126,⟨1,24,(.slice 128),[.nil]⟩),
 (128,⟨3,40,(.struct [(0,22),(1,47),(2,47)]),[.nil,.int .u64 (0:Int),.int .u64 (0:Int)]⟩),
 (135,⟨1,8,.fl,[.fl 0]⟩),
 (149,⟨3,24,(.struct [(0,4),(1,3),(2,46)]),[.bool wy,.int .i64 (0:Int),.int .u64 (0:Int)]⟩)]
theorem ty2:CJ Tryz.prog 2 ⟨1,8,(.int .i64),[.int .i64 (0:Int)]⟩:=Dm (z:=.int .i64 (0:Int)) (by kernel_rfl) (fun c w=>by simp[BN,Bz,Value.cells]) rfl (by simp[Value.cells,Value.oneCell']) (by simp only[Da]; exact Tryz.underlying2)
theorem ty3:CJ Tryz.prog 3 ⟨1,8,(.int .i64),[.int .i64 (0:Int)]⟩:=Dm (z:=.int .i64 (0:Int)) (by kernel_rfl) (fun c w=>by simp[BN,Bz,Value.cells]) rfl (by simp[Value.cells,Value.oneCell']) (by simp only[Da]; exact Tryz.underlying3)
theorem ty4:CJ Tryz.prog 4 ⟨1,1,.bool,[.bool wy]⟩:=Dm (z:=.bool wy) (by kernel_rfl) (fun c w=>by simp[BN,Bz,Value.cells]) rfl (by simp[Value.cells,Value.oneCell']) (by simp only[Da]; exact Tryz.underlying4)
theorem ty5:CJ Tryz.prog 5 ⟨1,1,(.int .u8),[.int .u8 (0:Int)]⟩:=Dm (z:=.int .u8 (0:Int)) (by kernel_rfl) (fun c w=>by simp[BN,Bz,Value.cells]) rfl (by simp[Value.cells,Value.oneCell']) (by simp only[Da]; exact Tryz.underlying5)
theorem Aog:CJ Tryz.prog 22 ⟨1,24,(.slice 47),[.nil]⟩:=Dm (z:=.slice xN 0 0) (by kernel_rfl) (fun c w=>by simp[BN,Bz,Value.cells]) rfl (by simp[Value.cells,Value.oneCell']) (by simp only[Da]; exact Tryz.underlying22)
theorem Aof:CJ Tryz.prog 24 ⟨3,40,(.struct [(0,3),(1,3),(2,22)]),[.int .i64 (0:Int),.int .i64 (0:Int),.nil]⟩:=Dm (z:=.agg #[.int .i64 (0:Int),.int .i64 (0:Int),.slice xN 0 0]) (by kernel_rfl) (fun c w=>by simp[BN,Bz,Value.cells]) rfl (by simp[Value.cells,Value.oneCell']) (by simp only[Da]; exact⟨_,Tryz.underlying24,by kernel_rfl⟩)
theorem Aoe:CJ Tryz.prog 28 ⟨12,160,(.struct [(0,24),(3,24),(6,24),(9,24)]),[.int .i64 (0:Int),.int .i64 (0:Int),.nil,.int .i64 (0:Int),.int .i64 (0:Int),.nil,.int .i64 (0:Int),.int .i64 (0:Int),.nil,.int .i64 (0:Int),.int .i64 (0:Int),.nil]⟩:=Dm (z:=.agg #[.int .i64 (0:Int),.int .i64 (0:Int),.slice xN 0 0,.int .i64 (0:Int),.int .i64 (0:Int),.slice xN 0 0,.int .i64 (0:Int),.int .i64 (0:Int),.slice xN 0 0,.int .i64 (0:Int),.int .i64 (0:Int),.slice xN 0 0]) (by kernel_rfl) (fun c w=>by simp[BN,Bz,Value.cells]) rfl (by simp[Value.cells,Value.oneCell']) (by simp only[Da]; exact⟨_,Tryz.underlying28,by kernel_rfl⟩)
theorem Aod:CJ Tryz.prog 29 ⟨1,8,(.int .i64),[.int .i64 (0:Int)]⟩:=Dm (z:=.int .i64 (0:Int)) (by kernel_rfl) (fun c w=>by simp[BN,Bz,Value.cells]) rfl (by simp[Value.cells,Value.oneCell']) (by simp only[Da]; exact Tryz.underlying29)
theorem Aoc:CJ Tryz.prog 33 ⟨1,24,(.slice 97),[.nil]⟩:=Dm (z:=.slice xN 0 0) (by kernel_rfl) (fun c w=>by simp[BN,Bz,Value.cells]) rfl (by simp[Value.cells,Value.oneCell']) (by simp only[Da]; exact Tryz.underlying33)
theorem Aob:CJ Tryz.prog 35 ⟨2,32,(.struct [(0,4),(1,33)]),[.bool wy,.nil]⟩:=Dm (z:=.agg #[.bool wy,.slice xN 0 0]) (by kernel_rfl) (fun c w=>by simp[BN,Bz,Value.cells]) rfl (by simp[Value.cells,Value.oneCell']) (by simp only[Da]; exact⟨_,Tryz.underlying35,by kernel_rfl⟩)
theorem Aoa:CJ Tryz.prog 37 ⟨3,40,(.struct [(0,35),(2,3)]),[.bool wy,.nil,.int .i64 (0:Int)]⟩:=Dm (z:=.agg #[.bool wy,.slice xN 0 0,.int .i64 (0:Int)]) (by kernel_rfl) (fun c w=>by simp[BN,Bz,Value.cells]) rfl (by simp[Value.cells,Value.oneCell']) (by simp only[Da]; exact⟨_,Tryz.underlying37,by kernel_rfl⟩)
theorem Am7:CJ Tryz.prog 46 ⟨1,8,(.int .u64),[.int .u64 (0:Int)]⟩:=Dm (z:=.int .u64 (0:Int)) (by kernel_rfl) (fun c w=>by simp[BN,Bz,Value.cells]) rfl (by simp[Value.cells,Value.oneCell']) (by simp only[Da]; exact Tryz.underlying46)
theorem AnZ:CJ Tryz.prog 47 ⟨1,8,(.int .u64),[.int .u64 (0:Int)]⟩:=Dm (z:=.int .u64 (0:Int)) (by kernel_rfl) (fun c w=>by simp[BN,Bz,Value.cells]) rfl (by simp[Value.cells,Value.oneCell']) (by simp only[Da]; exact Tryz.underlying47)
theorem AnY:CJ Tryz.prog 55 ⟨7,88,(.struct [(0,24),(3,24),(6,4)]),[.int .i64 (0:Int),.int .i64 (0:Int),.nil,.int .i64 (0:Int),.int .i64 (0:Int),.nil,.bool wy]⟩:=Dm (z:=.agg #[.int .i64 (0:Int),.int .i64 (0:Int),.slice xN 0 0,.int .i64 (0:Int),.int .i64 (0:Int),.slice xN 0 0,.bool wy]) (by kernel_rfl) (fun c w=>by simp[BN,Bz,Value.cells]) rfl (by simp[Value.cells,Value.oneCell']) (by simp only[Da]; exact⟨_,Tryz.underlying55,by kernel_rfl⟩)
theorem AnX:CJ Tryz.prog 66 ⟨1,24,(.slice 37),[.nil]⟩:=Dm (z:=.slice xN 0 0) (by kernel_rfl) (fun c w=>by simp[BN,Bz,Value.cells]) rfl (by simp[Value.cells,Value.oneCell']) (by simp only[Da]; exact Tryz.underlying66)
theorem AnW:CJ Tryz.prog 75 ⟨12,160,(.array 4 24),[.int .i64 (0:Int),.int .i64 (0:Int),.nil,.int .i64 (0:Int),.int .i64 (0:Int),.nil,.int .i64 (0:Int),.int .i64 (0:Int),.nil,.int .i64 (0:Int),.int .i64 (0:Int),.nil]⟩:=Dm (z:=.agg #[.int .i64 (0:Int),.int .i64 (0:Int),.slice xN 0 0,.int .i64 (0:Int),.int .i64 (0:Int),.slice xN 0 0,.int .i64 (0:Int),.int .i64 (0:Int),.slice xN 0 0,.int .i64 (0:Int),.int .i64 (0:Int),.slice xN 0 0]) (by kernel_rfl) (fun c w=>by simp[BN,Bz,Value.cells]) rfl (by simp[Value.cells,Value.oneCell']) (by simp only[Da]; exact Tryz.underlying75)
theorem AnV:CJ Tryz.prog 85 ⟨2,16,(.array 2 3),[.int .i64 (0:Int),.int .i64 (0:Int)]⟩:=Dm (z:=.agg #[.int .i64 (0:Int),.int .i64 (0:Int)]) (by kernel_rfl) (fun c w=>by simp[BN,Bz,Value.cells]) rfl (by simp[Value.cells,Value.oneCell']) (by simp only[Da]; exact Tryz.underlying85)
theorem AnU:CJ Tryz.prog 87 ⟨6,80,(.array 2 24),[.int .i64 (0:Int),.int .i64 (0:Int),.nil,.int .i64 (0:Int),.int .i64 (0:Int),.nil]⟩:=Dm (z:=.agg #[.int .i64 (0:Int),.int .i64 (0:Int),.slice xN 0 0,.int .i64 (0:Int),.int .i64 (0:Int),.slice xN 0 0]) (by kernel_rfl) (fun c w=>by simp[BN,Bz,Value.cells]) rfl (by simp[Value.cells,Value.oneCell']) (by simp only[Da]; exact Tryz.underlying87)
theorem AnT:CJ Tryz.prog 97 ⟨1,4,(.int .u32),[.int .u32 (0:Int)]⟩:=Dm (z:=.int .u32 (0:Int)) (by kernel_rfl) (fun c w=>by simp[BN,Bz,Value.cells]) rfl (by simp[Value.cells,Value.oneCell']) (by simp only[Da]; exact Tryz.underlying97)
theorem AmF:CJ Tryz.prog 108 ⟨1,24,(.slice 114),[.nil]⟩:=Dm (z:=.slice xN 0 0) (by kernel_rfl) (fun c w=>by simp[BN,Bz,Value.cells]) rfl (by simp[Value.cells,Value.oneCell']) (by simp only[Da]; exact Tryz.underlying108)
theorem AmE:CJ Tryz.prog 114 ⟨2,32,(.struct [(0,22),(1,47)]),[.nil,.int .u64 (0:Int)]⟩:=Dm (z:=.agg #[.slice xN 0 0,.int .u64 (0:Int)]) (by kernel_rfl) (fun c w=>by simp[BN,Bz,Value.cells]) rfl (by simp[Value.cells,Value.oneCell']) (by simp only[Da]; exact⟨_,Tryz.underlying114,by kernel_rfl⟩)
theorem AmD:CJ Tryz.prog 119 ⟨1,8,(.int .i64),[.int .i64 (0:Int)]⟩:=Dm (z:=.int .i64 (0:Int)) (by kernel_rfl) (fun c w=>by simp[BN,Bz,Value.cells]) rfl (by simp[Value.cells,Value.oneCell']) (by simp only[Da]; exact Tryz.underlying119)
theorem AmC:CJ Tryz.prog 123 ⟨1,1,(.int .u8),[.int .u8 (0:Int)]⟩:=Dm (z:=.int .u8 (0:Int)) (by kernel_rfl) (fun c w=>by simp[BN,Bz,Value.cells]) rfl (by simp[Value.cells,Value.oneCell']) (by simp only[Da]; exact Tryz.underlying123)
theorem AmB:CJ Tryz.prog 126 ⟨1,24,(.slice 128),[.nil]⟩:=Dm (z:=.slice xN 0 0) (by kernel_rfl) (fun c w=>by simp[BN,Bz,Value.cells]) rfl (by simp[Value.cells,Value.oneCell']) (by simp only[Da]; exact Tryz.underlying126)
theorem AmA:CJ Tryz.prog 128 ⟨3,40,(.struct [(0,22),(1,47),(2,47)]),[.nil,.int .u64 (0:Int),.int .u64 (0:Int)]⟩:=Dm (z:=.agg #[.slice xN 0 0,.int .u64 (0:Int),.int .u64 (0:Int)]) (by kernel_rfl) (fun c w=>by simp[BN,Bz,Value.cells]) rfl (by simp[Value.cells,Value.oneCell']) (by simp only[Da]; exact⟨_,Tryz.underlying128,by kernel_rfl⟩)
theorem Am9:CJ Tryz.prog 135 ⟨1,8,.fl,[.fl 0]⟩:=Dm (z:=.float .f64 0) (by kernel_rfl) (fun c w=>by simp[BN,Bz,Value.cells,NC]) rfl (by simp[Value.cells,Value.oneCell']) (by simp only[Da]; exact Tryz.underlying135)
theorem Am8:CJ Tryz.prog 149 ⟨3,24,(.struct [(0,4),(1,3),(2,46)]),[.bool wy,.int .i64 (0:Int),.int .u64 (0:Int)]⟩:=Dm (z:=.agg #[.bool wy,.int .i64 (0:Int),.int .u64 (0:Int)]) (by kernel_rfl) (fun c w=>by simp[BN,Bz,Value.cells]) rfl (by simp[Value.cells,Value.oneCell']) (by simp only[Da]; exact⟨_,Tryz.underlying149,by kernel_rfl⟩)
theorem Alg:Pe Tryz.prog tys:=.cons ty2 <| .cons ty3 <| .cons ty4 <| .cons ty5 <| .cons Aog <| .cons Aof <| .cons Aoe <| .cons Aod <| .cons Aoc <| .cons Aob <| .cons Aoa <| .cons Am7 <| .cons AnZ <| .cons AnY <| .cons AnX <| .cons AnW <| .cons AnV <| .cons AnU <| .cons AnT <| .cons AmF <| .cons AmE <| .cons AmD <| .cons AmC <| .cons AmB <| .cons AmA <| .cons Am9 <| .cons Am8 <| .nil
def exts:List (Nat × Ext):=[(148,.bits),(151,.M8),(187,.sqrt),(189,.Y5)]
def ZI:List (Nat × Ext)->Nat->Option Ext
 | [],_=>xN
 | (m,e)::l,n=>bif zj m n then xM e else ZI l n
theorem AhS(args:Array Value)(w:World):(callFunc 148 args).run Tryz.prog w=((PT .bits args).run Tryz.prog w).andThen fun v w'=>.ok (.value v) w':=run_callFunc_extern (e:=Extern.MathFloatBits.float64bits) Tryz.func148 (by kernel_rfl) (by kernel_rfl) (by kernel_rfl) (by kernel_rfl) args w
theorem AhR(args:Array Value)(w:World):(callFunc 151 args).run Tryz.prog w=((PT .M8 args).run Tryz.prog w).andThen fun v w'=>.ok (.value v) w':=run_callFunc_extern (e:=Extern.MathFloatBits.float64frombits) Tryz.func151 (by kernel_rfl) (by kernel_rfl) (by kernel_rfl) (by kernel_rfl) args w
theorem AhQ(args:Array Value)(w:World):(callFunc 187 args).run Tryz.prog w=((PT .sqrt args).run Tryz.prog w).andThen fun v w'=>.ok (.value v) w':=run_callFunc_extern (e:=Extern.MathSqrt.sqrt) Tryz.func187 (by kernel_rfl) (by kernel_rfl) (by kernel_rfl) (by kernel_rfl) args w
theorem AhP(args:Array Value)(w:World):(callFunc 189 args).run Tryz.prog w=((PT .Y5 args).run Tryz.prog w).andThen fun v w'=>.ok (.value v) w':=run_callFunc_extern (e:=Tv) Tryz.func189 (by kernel_rfl) (by kernel_rfl) (by kernel_rfl) (by kernel_rfl) args w
def Amg:List Nat:=[149,85]
theorem AnA:Yr Tryz.prog 149 ⟨3,24,(.struct [(0,4),(1,3),(2,46)]),[.bool wy,.int .i64 (0:Int),.int .u64 (0:Int)]⟩ where
 guard:=by kernel_rfl
 eq:=by
  intro w c x y xs ys hx hy hlx hly;obtain⟨a0,x1,rfl,hx1⟩:=T1 hx;obtain⟨a1,x2,rfl,hx2⟩:=ID hx1;obtain⟨a2,x3,rfl,hx3⟩:=ID hx2;obtain rfl:=O6 hx3;obtain⟨b0,y1,rfl,hy1⟩:=T1 hy;obtain⟨b1,y2,rfl,hy2⟩:=ID hy1;obtain⟨b2,y3,rfl,hy3⟩:=ID hy2;obtain rfl:=O6 hy3;obtain⟨xs⟩:=xs;obtain⟨ys⟩:=ys;simp only[BN.CS,BN.FU,Bz] at hlx hly;obtain⟨_,_,rfl,rfl,_,_,rfl,rfl,_,_,rfl,rfl,rfl⟩:=hlx;obtain⟨_,_,rfl,rfl,_,_,rfl,rfl,_,_,rfl,rfl,rfl⟩:=hly;have hu:Tryz.prog.underlying 149=xM (.struct (Tryz.prog.fieldsOf 149)):=by kernel_rfl
  have hp:Tryz.prog.stoodInHeld 149=wy:=by kernel_rfl
  unfold Op.equal Op.maxDepth;rw[run_equalIn_struct w 9999 149 _ _ hu hp];have hfs:Tryz.prog.fieldsOf 149=(match Tryz.prog.underlying 149 with | some (.struct fs)=>fs | _=>#[]):=rfl;rw[hfs,Tryz.underlying149];simp[Op.eqFields,K0 w ty3 rfl,K0 w ty4 rfl,K0 w Am7 rfl,run_equalIn_int w _ _ _ _ _ _ Tryz.underlying3,run_equalIn_bool w _ _ _ _ Tryz.underlying4,run_equalIn_int w _ _ _ _ _ _ Tryz.underlying46,Wr,UI];by_cases h0:a0=b0<;>by_cases h1:a1=b1<;>by_cases h2:a2=b2<;>simp[h0,h1,h2]
theorem AoP:Yr Tryz.prog 85 ⟨2,16,(.array 2 3),[.int .i64 (0:Int),.int .i64 (0:Int)]⟩ where
 guard:=by kernel_rfl
 eq:=by
  intro w c x y xs ys hx hy hlx hly;obtain⟨a0,x1,rfl,hx1⟩:=ID hx;obtain⟨a1,x2,rfl,hx2⟩:=ID hx1;obtain rfl:=O6 hx2;obtain⟨b0,y1,rfl,hy1⟩:=ID hy;obtain⟨b1,y2,rfl,hy2⟩:=ID hy1;obtain rfl:=O6 hy2;obtain⟨xs⟩:=xs;obtain⟨ys⟩:=ys;simp only[BN.CS,BN.FU,Bz] at hlx hly;obtain⟨_,_,rfl,rfl,_,_,rfl,rfl,rfl⟩:=hlx;obtain⟨_,_,rfl,rfl,_,_,rfl,rfl,rfl⟩:=hly;obtain⟨i,_,hi,_⟩:=ty3.info;have hc:Tryz.prog.cellsOf 3=1:=by kernel_rfl
  unfold Op.equal Op.maxDepth;rw[run_equalIn_array w 9999 _ _ Tryz.underlying85 hi,hc];simp[Op.eqItems,zg,List.range.loop,K0 w ty3 rfl,run_equalIn_int w _ _ _ _ _ _ Tryz.underlying3,Wr,UI];by_cases h0:a0=b0<;>by_cases h1:a1=b1<;>simp[h0,h1]
def CP(Il:Nat->Option EC)(ME:Nat->Bool)(hint:Nat->Option BH)(live:Nat->Option (List Nat)):Env:={ ty:=AfD tys,Il:=Il,ext:=ZI exts,eqs:=fun t=>K7 t Amg,ME:=ME,live:=live,hint:=hint }
def E0(l:List (Nat × EC)):Env:=CP (CC l) (fun _=>wy) (fun _=>xN) (fun _=>xN)
theorem Lj{l:List (Nat × EC)}(h:FD Tryz.prog l)(ME:Nat->Bool)(hint:Nat->Option BH)(live:Nat->Option (List Nat)):Ix Tryz.prog (CP (CC l) ME hint live) where
 ty:=fun t ti ht=>Alg.get ht
 Il:=fun g e hg=>(h.get hg).meets
 call:=fun g e hg=>(h.get hg).call
 ext:=by
  intro g x hx args w;simp only[CP,exts,ZI] at hx;cases hb:zj 148 g with
  | true =>rw[hb] at hx;cases hx;obtain rfl:=Au hb;exact AhS args w
  | false =>
  rw[hb,Af] at hx;clear hb;cases hb:zj 151 g with
  | true =>rw[hb] at hx;cases hx;obtain rfl:=Au hb;exact AhR args w
  | false =>
  rw[hb,Af] at hx;clear hb;cases hb:zj 187 g with
  | true =>rw[hb] at hx;cases hx;obtain rfl:=Au hb;exact AhQ args w
  | false =>
  rw[hb,Af] at hx;clear hb;cases hb:zj 189 g with
  | true =>rw[hb] at hx;cases hx;obtain rfl:=Au hb;exact AhP args w
  | false =>
  rw[hb,Af] at hx;clear hb;cases hx
 eqs:=by
  intro t ti ht hti;simp only[CP,Amg,K7] at ht hti;cases hb:zj t 149 with
  | true =>obtain rfl:=Au hb;cases hti;exact AnA
  | false =>
  rw[hb,Af] at ht;clear hb;cases hb:zj t 85 with
  | true =>obtain rfl:=Au hb;cases hti;exact AoP
  | false =>
  rw[hb,Af] at ht;clear hb;cases ht
 mixed:=by kernel_rfl
def AkT:List (Nat × Ext):=[(148,.Air),(151,.M8),(187,.sqrt),(189,.Y5)]
def Vc:List (Nat × List CK)->Nat->List CK
 | [],_=>[]
 | (m,e)::l,n=>bif zj m n then e else Vc l n
def Oj(Il:Nat->Option EC)(ME:Nat->Bool)(hint:Nat->Option BH)(live:Nat->Option (List Nat))(adv:Nat->List CK):Env:={ ty:=AfD tys,Il:=Il,ext:=ZI AkT,eqs:=fun t=>K7 t Amg,ME:=ME,live:=live,hint:=hint,adv:=adv }
theorem OW{l:List (Nat × EC)}(h:FD Tryz.prog l)(ME:Nat->Bool)(hint:Nat->Option BH)(live:Nat->Option (List Nat))(adv:Nat->List CK):Ix Tryz.prog (Oj (CC l) ME hint live adv):=
 have k:=Lj h ME hint live
 ⟨k.ty,k.Il,k.call,(by
  intro g x hx args w;simp only[Oj,AkT,ZI] at hx;cases hb:zj 148 g with
  | true =>rw[hb] at hx;cases hx;obtain rfl:=Au hb;exact AhS args w
  | false =>
  rw[hb,Af] at hx;clear hb;cases hb:zj 151 g with
  | true =>rw[hb] at hx;cases hx;obtain rfl:=Au hb;exact AhR args w
  | false =>
  rw[hb,Af] at hx;clear hb;cases hb:zj 187 g with
  | true =>rw[hb] at hx;cases hx;obtain rfl:=Au hb;exact AhQ args w
  | false =>
  rw[hb,Af] at hx;clear hb;cases hb:zj 189 g with
  | true =>rw[hb] at hx;cases hx;obtain rfl:=Au hb;exact AhP args w
  | false =>
  rw[hb,Af] at hx;clear hb;cases hx),k.eqs,k.mixed,k.Ny,k.wr⟩
theorem Et{α:Type}{a b c:α}(h:b=c)(g:a=b:=by kernel_rfl):a=c:=g.trans h
abbrev Kq(g:Nat)(e:EC):Prop:=DR Tryz.prog g e
theorem kc{g:Nat}{e:EC}{l:List (Nat × EC)}(h:DR Tryz.prog g e)(k:FD Tryz.prog l):FD Tryz.prog ((g,e)::l):=.cons h k
theorem D6(E:Env){l:List (Nat × EC)}{g:FuncId}{fn:Func}{ts:List AT}{pre:List G0->Bool}{out:List G0->DV}(hf:Tryz.prog.funcs[g]?=xM fn)(hk:FD Tryz.prog l)(h:Hyp E fn ts pre out)(e:E=CP (CC l) E.ME E.hint E.live:=by rfl)(hb:fn.body=xM (Br fn):=by kernel_rfl)(hn:(fn.name== "runtime.NumGoroutine")=wy:=by kernel_rfl):DR Tryz.prog g (B9 ts pre out) :=Fk (Eq.mpr (congrArg (Ix Tryz.prog) e) (Lj hk _ _ _)) hf hb hn h
end Go.Proofs.S1
namespace Go.CI
def HH(V k:Nat):Nat:=V / 2^k+(if 2^k<2*(V%2^k)\/(2*(V%2^k)=2^k/\V / 2^k%2=1) then 1 else 0)
def HR(V:Nat)(s:Int):Nat:=HH (V*2^(-s).toNat) s.toNat
def KQ(V:Nat)(s:Int):Bool:=decide (V*2^(-s).toNat%2^s.toNat=0)
def Cl(M:Nat)(E:Int):Int:=max (E+M.log2-52) (-1074)
def kept(M:Nat)(E:Int):Nat:=HR M (Cl M E-E)
def Dk:Nat:=2047*2^52
def Cj(M:Nat)(E:Int):Nat:=if M=0 then 0 else min ((Cl M E+1074).toNat*2^52+kept M E) Dk
def exact(M:Nat)(E:Int):Bool:=KQ M (Cl M E-E)
def flags(r:Nat)(ex:Bool):Nat:=if r=Dk then 5 else if ex then 0 else if 2^52<=r then 1 else 3
def flagsOf(M:Nat)(E:Int):Nat:=if M=0 then 0 else flags (Cj M E) (exact M E)
theorem Cs(k:Nat):0<2^k:=Nat.pow_pos (by decide)
theorem KJ(V:Nat):HH V 0=V:=by unfold HH; simp[xZ]
theorem Qx(V a k:Nat):HH (V*2^a) (a+k)=HH V k:=by
 unfold HH;have hA:=Cs a;have e:2^(a+k)=2^a*2^k:=A2 2 a k
 have hd:V*2^a / 2^(a+k)=V / 2^k:=by rw[e,A1 V,Nat.mul_div_mul_left _ _ hA]
 have hm:V*2^a%2^(a+k)=2^a*(V%2^k):=by rw[e,A1 V,vV]
 rw[hd,hm,e]
 have h1:(2^a*2^k<2*(2^a*(V%2^k)))↔(2^k<2*(V%2^k)):=by rw[yT 2];exact Nat.mul_lt_mul_left hA
 have h2:(2*(2^a*(V%2^k))=2^a*2^k)↔(2*(V%2^k)=2^k):=by rw[yT 2];exact Nat.mul_right_inj (by omega)
 simp only[h1,h2]
theorem mod_mul(V a k:Nat):(V*2^a%2^(a+k)=0)↔(V%2^k=0):=by
 have hA:=Cs a;rw[A2,A1 V,vV];constructor
 ·intro h;rcases xr.1 h with h | h
  ·omega
  ·exact h
 ·intro h; rw[h]; rfl
theorem Ss(V k:Nat)(s:Int):HR (V*2^k) (s+k)=HR V s/\KQ (V*2^k) (s+k)=KQ V s:=by
 unfold HR KQ;by_cases h0:0<=s
 ·have e1:(-(s+k)).toNat=0:=by omega
  have e2:(-s).toNat=0:=by omega
  have e3:(s+k).toNat=k+s.toNat:=by omega
  rw[e1,e2,e3,AB,AN,AN];exact⟨Qx V k _,by simp only[mod_mul]⟩
 ·by_cases h1:0<=s+k
  ·have e1:(-(s+k)).toNat=0:=by omega
   have e2:s.toNat=0:=by omega
   have e3:k=(s+k).toNat+(-s).toNat:=by omega
   rw[e1,e2,AB,AN]
   have e4:V*2^k=V*2^(-s).toNat*2^(s+k).toNat:=by rw[A4,<- A2,xp (-s).toNat,<- e3]
   rw[e4];refine⟨?_,?_⟩
   ·have:=Qx (V*2^(-s).toNat) (s+k).toNat 0;rw[AM] at this; exact this
   ·have:=mod_mul (V*2^(-s).toNat) (s+k).toNat 0;rw[AM,AB] at this;simp only[this]
  ·have e1:(s+k).toNat=0:=by omega
   have e2:s.toNat=0:=by omega
   have e3:(-s).toNat=k+(-(s+k)).toNat:=by omega
   rw[e1,e2,e3,A2,A4];exact⟨rfl,rfl⟩
theorem JP(M k:Nat)(hM:M≠0):(M*2^k).log2=M.log2+k:=by
 have hk:=Cs k
 have hne:M*2^k≠0:=by intro h;rcases xr.1 h with h | h<;>omega
 have h1:=zS hM;have h2:=yi (n:=M)
 have a:M.log2+k<=(M*2^k).log2:=by rw[zP hne,A2];exact An _ h1
 have b:(M*2^k).log2<M.log2+k+1:=by rw[AV hne,Nat.add_right_comm,A2];exact(xt hk).2 h2
 omega
theorem QJ{n a:Nat}(h1:2^a<=n)(h2:n<2^(a+1)):n.log2=a:=by
 have:=Cs a;have hn:n≠0:=by omega
 have b1:=(zP hn).2 h1;have b2:=(AV hn).2 h2;omega
theorem Abp(M k:Nat)(E:Int)(hM:M≠0):Cl (M*2^k) (E-k)=Cl M E:=by unfold Cl; rw[JP M k hM]; congr 1; omega
theorem GO{M k:Nat}(hM:M≠0):M*2^k≠0:=by have:=Cs k;intro h;rcases xr.1 h with h | h<;>omega
theorem CZ(M k:Nat)(E:Int):Cj (M*2^k) (E-k)=Cj M E/\flagsOf (M*2^k) (E-k)=flagsOf M E:=by
 by_cases hM:M=0
 ·subst hM; simp[Cj,flagsOf]
 ·have hl:=Abp M k E hM;have e:Cl M E-(E-k)=Cl M E-E+k:=by omega
  have h1:Cj (M*2^k) (E-k)=Cj M E:=by unfold Cj kept;rw[Ay (GO hM),Ay hM,hl,e,(Ss M k _).1]
  refine⟨h1,?_⟩;unfold flagsOf;rw[Ay (GO hM),Ay hM,h1];unfold exact;rw[hl,e,(Ss M k _).2]
theorem Agt{V s d k:Nat}(hs:s%2=1)(h1:(s-1)*2^d<V)(h2:V<(s+1)*2^d)(hk:2<=k):
 HH V (d+k)=HH s k/\V%2^(d+k)≠0/\s%2^k≠0:=by
 have hA:=Cs d;obtain⟨j,rfl⟩:∃j,k=j+2:=⟨k-2,by omega⟩
 have hB:2^(j+2)=4*2^j:=by rw[A2]; omega
 have hBp:=Cs (j+2);have hC:=Cs j;have hsd:=zK s (2^(j+2))
 have hr2:s%2^(j+2)%2=1:=by rw[hB,show 4*2^j=2*(2*2^j) by omega,Nat.mod_mul_right_mod]; exact hs
 have hrlt:=zv s hBp;generalize hq:s / 2^(j+2)=q at *
 generalize hr:s%2^(j+2)=r at *
 have hAB:2^(d+(j+2))=2^d*2^(j+2):=A2 2 d (j+2);generalize hBB:2^(j+2)=b at *
 generalize hAA:2^d=a at *
 have e1:(s-1)*a=q*(a*b)+(r-1)*a:=by
  have:s-1=b*q+(r-1):=by omega
  rw[this,AI,A1 b q,A4,A1 b a]
 have e2:(s+1)*a=q*(a*b)+(r+1)*a:=by
  have:s+1=b*q+(r+1):=by omega
  rw[this,AI,A1 b q,A4,A1 b a]
 have e3:(r+1)*a<=b*a:=An a (by omega);rw[A1 b a] at e3;rw[e1] at h1;rw[e2] at h2;have hdiv:V / (a*b)=q:=Nat.div_eq_of_lt_le (by omega) (by rw[AI]; omega)
 have hmod:V%(a*b)=V-q*(a*b):=by have:=zK V (a*b);rw[hdiv,A1 (a*b) q] at this; omega
 have hb2:b=2*(2*2^j):=by omega
 generalize hc:2^j=c at *
 have hR1:(r-1)*a<V-q*(a*b):=by omega
 have hR2:V-q*(a*b)<(r+1)*a:=by omega
 generalize hR:V-q*(a*b)=R at *
 have hab:a*b=2*(2*c*a):=by rw[hb2,A1 a,A4]
 have key:(a*b<2*R\/(2*R=a*b/\q%2=1))↔(b<2*r\/(2*r=b/\q%2=1)):=by
  rw[hab,hb2];rcases AA r (2*c) with hlt | hge
  ·have:(r+1)*a<=2*c*a:=An a (by omega);constructor<;>(intro h; omega)
  ·have hgt:2*c+1<=r:=by omega
   have:2*c*a<=(r-1)*a:=An a (by omega);constructor
   ·intro _; left; omega
   ·intro _; left; omega
 refine⟨?_,?_,?_⟩
 ·unfold HH;rw[hAB,hdiv,hmod,hBB,hq,hr];simp only[key]
 ·rw[hAB,hmod];have:=zF ((r-1)*a);omega
 ·omega
theorem NP{V s d:Nat}{E:Int}(hs:s%2=1)(h1:(s-1)*2^d<V)(h2:V<(s+1)*2^d)(hl:Cl V E=Cl s (E+d))(hk:E+d+2<=Cl s (E+d)):
 Cj V E=Cj s (E+d)/\flagsOf V E=flagsOf s (E+d):=by
 have hV:V≠0:=by omega
 have hs0:s≠0:=by omega
 generalize hL:Cl s (E+d)=L at *
 obtain⟨k,hk2⟩:∃k:Nat,L-(E+d)=k+2:=⟨(L-(E+d)-2).toNat,by omega⟩
 obtain⟨a1,a2,a3⟩:=Agt (k:=k+2) hs h1 h2 (by omega);have e1:(L-E).toNat=d+(k+2):=by omega
 have e2:(-(L-E)).toNat=0:=by omega
 have e3:(L-(E+d)).toNat=k+2:=by omega
 have e4:(-(L-(E+d))).toNat=0:=by omega
 have hr:Cj V E=Cj s (E+d):=by unfold Cj kept HR;rw[Ay hV,Ay hs0,hl,hL,e1,e2,e3,e4];simp only[AB,AN];rw[a1]
 refine⟨hr,?_⟩;unfold flagsOf exact KQ;rw[Ay hV,Ay hs0,hr,hl,hL,e1,e2,e3,e4];simp only[AB,AN,a2,a3,decide_false]
theorem Ob{V s d:Nat}(hs:s%2=1)(hs3:3<=s)(h1:(s-1)*2^d<V)(h2:V<(s+1)*2^d):V.log2=s.log2+d:=by
 have hs0:s≠0:=by omega
 have a1:=zS hs0;have a2:=yi (n:=s);have hl:1<=s.log2:=by rw[zP hs0]; omega
 obtain⟨t,ht⟩:∃t,s.log2=t+1:=⟨s.log2-1,by omega⟩
 rw[ht] at a1 a2 ⊢;have ev1:2^(t+1)=2*2^t:=by rw[zG]; omega
 have ev2:2^(t+1+1)=2*(2*2^t):=by rw[zG,ev1]; omega
 refine QJ ?_ ?_
 ·rw[A2];have:2^(t+1)*2^d<=(s-1)*2^d:=An _ (by omega);omega
 ·have e:t+1+d+1=(t+1+1)+d:=by omega
  rw[e,A2];have:(s+1)*2^d<=2^(t+1+1)*2^d:=An _ (by omega);omega
def BE(b:Nat):Bool:=decide (2^63<=b)
def Dn(b:Nat):Nat:=b / 2^52%2048
def CL(b:Nat):Nat:=b%2^52
def Bj(b:Nat):Nat:=if Dn b=2047 then (if CL b=0 then 3 else 4) else if 0<Dn b then 2 else if 0<CL b then 1 else 0
def F9(b:Nat):Bool:=decide (Dn b<2047)
def D5(b:Nat):Nat:=if 2^63<=b then b-2^63 else b+2^63
def Bs(b:Nat):Nat:=if Dn b=0 then CL b else CL b+2^52
def By(b:Nat):Int:=if Dn b=0 then -1074 else (Dn b:Int)-1075
def BG(neg:Bool)(r:Nat):Nat:=if neg then 2^63+r else r
def FX(neg:Bool)(m:Nat):Int:=if neg then -(m:Int) else m
def DT(b:Nat)(e:Int):Int:=FX (BE b) (Bs b*2^(By b-e).toNat)
def Jt:Nat:=0x7ff8000000000000
def HV(z:Nat)(S:Int)(e:Int):Nat × Nat :=if S=0 then (z,0) else (BG (decide (S<0)) (Cj S.natAbs e),flagsOf S.natAbs e)
def Em(a b:Nat):Nat × Nat:=
 if Bj a=4\/Bj b=4 then (Jt,0)
 else if Bj a=3 then (if Bj b=3/\a≠b then (Jt,16) else (a,0))
 else if Bj b=3 then (b,0)
 else HV (BG (BE a&&BE b) 0) (DT a (min (By a) (By b))+DT b (min (By a) (By b))) (min (By a) (By b))
def Rx(a b:Nat):Nat × Nat:=Em a (D5 b)
def FY(neg:Bool)(m:Nat)(e:Int)(Ja:Bool):Nat × Nat :=(BG neg (Cj (4*m+Ja.toNat) (e-2)),flagsOf (4*m+Ja.toNat) (e-2))
def DI(x:Int):Bool:=BE x.toNat
def K1(x:Int):Int:=Dn x.toNat
def Df(x:Int):Int:=CL x.toNat
def B8(x:Int):Int:=Bj x.toNat
def CO(x:Int):Bool:=F9 x.toNat
def CM(x:Int):Int:=D5 x.toNat
def Ci(x:Int):Int:=Bs x.toNat
def BO(x:Int):Int:=By x.toNat
def EJ(neg:Bool)(m e:Int)(Ja:Bool):Int:=(FY neg m.toNat e Ja).1
def EI(neg:Bool)(m e:Int)(Ja:Bool):Int:=(FY neg m.toNat e Ja).2
def EN(a b:Int):Int:=(Em a.toNat b.toNat).1
def SB(a b:Int):Int:=(Em a.toNat b.toNat).2
def CA(a b:Int):Int:=(Rx a.toNat b.toNat).1
def Ano(a b:Int):Int:=(Rx a.toNat b.toNat).2
theorem HI(b:Nat):Dn b<2048:=zv _ (by decide)
theorem Ir(b:Nat):CL b<4503599627370496:=zv _ (by decide)
theorem E1(b:Nat):Bs b<9007199254740992:=by have:=Ir b;unfold Bs; split<;>omega
theorem C4(b:Nat):-1074<=By b/\By b<=972:=by have:=HI b;unfold By; split<;>omega
theorem KH{m:Nat}{e:Int}(h1:2^52<=m)(h2:m<2^53)(he:-1074<=e):Cj m e=min ((e+1074).toNat*2^52+m) Dk:=by
 have hl:m.log2=52:=QJ h1 h2;have hm:m≠0:=by omega
 have hle:Cl m e=e:=by unfold Cl; rw[hl]; omega
 unfold Cj kept;rw[Ay hm,hle,Int.sub_self];unfold HR;simp[KJ]
theorem T8{m:Nat}(h2:m<2^52):Cj m (-1074)=m:=by
 by_cases hm:m=0
 ·subst hm; rfl
 ·have hl:m.log2<52:=(AV hm).2 h2;have hle:Cl m (-1074)=-1074:=by unfold Cl; omega
  unfold Cj kept;rw[Ay hm,hle,Int.sub_self];unfold HR Dk;simp[KJ];omega
theorem HE(m:Nat)(e:Int):Cj m e<=Dk:=by
 unfold Cj;split
 ·exact zF _
 ·exact Nat.min_le_right _ _
theorem Eg:Dk=9218868437227405312:=rfl
theorem HD(m:Nat)(e:Int):Cj m e<2^63:=by have:=HE m e;rw[Eg] at this;omega
theorem Qr(n:Bool)(m:Nat)(e:Int):BG n (Cj m e)<2^64:=by have:=HD m e;unfold BG; split<;>omega
theorem PL{r:Nat}(h:r<2^63):D5 r=2^63+r:=by unfold D5; rw[Ay (by omega)]; omega
open Go.Den
def J9(m e:Int):Bool:=CE (0<=m/\m<=9007199254740992/\-1074<=e/\e+m / 9007199254740992<=100000)
def MM(m e:Int):Nat:=if 9007199254740992<=m then 1 else if m<4503599627370496 then 2+(e+1074).toNat else 0
def Q0(n:Bool)(m e:Int):Int:=BG n (Cj m.toNat e)
def Ep(m e:Int)(r:Bool):Bool :=CE (0<=m/\m<18446744073709551616/\e<=50000/\(-1137<=e\/(m<4611686018427387904/\-1140<=e))/\(r=wg->4503599627370496<=m\/e<=-1074))
def F7(n D:Nat):Nat:=if n%2^D=0 then n / 2^D else 2*(n / 2^D / 2)+1
def EX(m d:Int):Int:=F7 m.toNat (min d.toNat 63)
def CW(l:Bb):Bool:=CE (l.length<4611686018427387904/\∀x∈l,Bo x=wg)
def DM(x:Nat):Nat:=if Bj x=4 then Jt else x
def US(x:Int):Int:=DM x.toNat
def FA(x:Nat):Int:=DM x
def Jx(x:Int):Bool:=CE (0<=x)
theorem Ha(n:Nat):Jx (n:Int)=wg:=Bt.2 (xu n)
theorem QA{x:Int}(h:Jx x=wg):∃n:Nat,x=n:=⟨x.toNat,by have:=Bt.1 h; omega⟩
theorem Anr(a c:Nat):(a+1)*c+c=a*c+(c+c):=by rw[AI,zA,yf]
theorem AmG:2^52+2^52=2^53:=by decide
theorem Anq(a:Nat):(a+1)*2^52+2^52=a*2^52+2^53:=(Anr a (2^52)).trans (congrArg (fun x=>a*2^52+x) AmG)
theorem Alh:2^52*2^1=2^53:=by decide
theorem Ajn{E:Int}:Cj (2^53) E=Cj (2^52) (E+1):=by
 have:=(CZ (2^52) 1 (E+1)).1;have e1:E+1-((1:Nat):Int)=E:=by omega
 rw[e1,Alh] at this;exact this
theorem Ago{E:Int}(hE:-1074<=E):Cj (2^53) E=min ((E+1074).toNat*2^52+2^53) Dk:=by
 have e3:(E+1+1074).toNat=(E+1074).toNat+1:=by omega
 rw[Ajn,KH (by decide) (by decide) (by omega),e3];exact congrArg (fun x=>min x Dk) (Anq _)
theorem AdR{q:Nat}{E:Int}(h1:q<=2^53)(hE:-1074<=E)(h2:2^52<=q\/E=-1074):Cj q E=min ((E+1074).toNat*2^52+q) Dk:=by
 by_cases ha:q=2^53
 ·rw[ha]; exact Ago hE
 ·by_cases hb:2^52<=q
  ·exact KH hb (by omega) hE
  ·obtain rfl:E=-1074:=h2.resolve_left hb;rw[T8 (by omega)];unfold Dk;simp;omega
theorem Aeb{M D s:Nat}(hs:s<=1):HH (4*M+s) (D+2)=M / 2^D+(if 0<D/\(2^(D-1)<M%2^D\/(M%2^D=2^(D-1)/\(s=1\/M / 2^D%2=1))) then 1 else 0) /\
 ((4*M+s)%2^(D+2)=0↔M%2^D=0/\s=0):=by
 have hp:2^(D+2)=2^D*4:=by rw[A2]
 have hA:=Cs D;have hdm:=zK M (2^D);have hlt:=zv M hA
 have hdiv:(4*M+s) / (2^D*4)=M / 2^D:=by rw[A1 (2^D) 4,<- A6];congr 1; omega
 have hmod:(4*M+s)%(2^D*4)=4*(M%2^D)+s:=by
  have h:=zK (4*M+s) (2^D*4);rw[hdiv] at h;have e:2^D*4*(M / 2^D)=4*(2^D*(M / 2^D)):=by rw[A1 (2^D) 4,A4]
  rw[e] at h;omega
 unfold HH;rw[hp,hdiv,hmod];generalize M%2^D=r at *
 generalize M / 2^D=q at *
 refine⟨?_,by omega⟩;congr 1
 have key:(2^D*4<2*(4*r+s)\/2*(4*r+s)=2^D*4/\q%2=1)↔(0<D/\(2^(D-1)<r\/(r=2^(D-1)/\(s=1\/q%2=1)))):=by
  cases D with
  | zero=>simp only[AB] at hlt ⊢; omega
  | succ d =>
    rw[zG] at hlt ⊢;simp only[yC];generalize 2^d=c at *
    omega
 simp only[key]
structure Drop(M:Nat)(e:Int)(D:Nat):Prop where
 le:D<=63
 stop:D<63->M / 2^D<2^53/\-1074<=e+D
 least:∀d,d<D->2^53<=M / 2^d\/e+d < -1074
def YX(M D s:Nat):Nat:=M / 2^D+(if 0<D/\(2^(D-1)<M%2^D\/(M%2^D=2^(D-1)/\(s=1\/M / 2^D%2=1))) then 1 else 0)
theorem Ag0{M D s:Nat}(h:M / 2^D<2^53):YX M D s<=2^53:=by unfold YX; split<;>omega
theorem Ag1{M D s:Nat}:M / 2^D<=YX M D s:=by unfold YX; omega
theorem Aml{M D:Nat}{c:Nat}(h:M / 2^D<c):M<c*2^D:=(yM (Cs D)).1 h
theorem Ah0{M D:Nat}{c:Nat}(h:c<=M / 2^D):c*2^D<=M:=(yU (Cs D)).1 h
theorem Uv{V:Nat}{E L:Int}(h:(E+V.log2-52=L/\-1074<=L)\/(E+V.log2-52<=L/\L=-1074)):Cl V E=L:=by unfold Cl; omega
theorem Ae5{M s:Nat}(hs:s<=1)(hM:M≠0):(4*M+s).log2=M.log2+2:=by
 have h1:=zS hM;have h2:=yi (n:=M);refine QJ ?_ ?_
 ·rw[A2]; omega
 ·have e:2^(M.log2+2+1)=2^(M.log2+1)*4:=by rw[show M.log2+2+1=M.log2+1+2 by omega,A2]
  omega
theorem Aet{M D s:Nat}{e:Int}(hD:Drop M e D)(hs:s<=1)(hV:4*M+s≠0)(hM:M<2^64)(he:-1137<=e\/(M<2^62/\-1140<=e))(hr:s=1->2^52<=M\/e<=-1074):
 Cj (4*M+s) (e-2)=Cj (if e+D < -1074 then 0 else YX M D s) (max (e+D) (-1074)) /\
 flagsOf (4*M+s) (e-2)=flags (Cj (4*M+s) (e-2)) (decide (M%2^D=0/\s=0)) /\
 (if e+D < -1074 then 0 else YX M D s)<=2^53:=by
 have hA:=Cs D;by_cases hlow:e+D < -1074
 ·
  have hD63:D=63:=by
   rcases AA D 63 with h | h
   ·have:=(hD.stop h).2; omega
   ·have:=hD.le; omega
  subst hD63;have hM62:M<2^62:=by rcases he with h | h; omega; exact h.1
  have he2:-1140<=e:=by rcases he with h | h; omega; exact h.2
  have hV64:4*M+s<2^64:=by omega
  have hlog:(4*M+s).log2<64:=(AV hV).2 hV64;have hl:Cl (4*M+s) (e-2)=-1074:=Uv (.inr ⟨by omega,rfl⟩);obtain⟨k,hk⟩:∃k:Nat,(-1074-(e-2)).toNat=66+k:=⟨(-1074-(e-2)).toNat-66,by omega⟩
  have e2:(-(-1074-(e-2))).toNat=0:=by omega
  have hp:2^66<=2^(66+k):=Aq (by decide) (by omega);have hsm:4*M+s<2^(66+k):=by omega
  have hz:HR (4*M+s) (-1074-(e-2))=0:=by unfold HR HH;rw[e2,hk,AB,AN,z8 hsm,Ao hsm,Ay (by omega)]
  have hru:Cj (4*M+s) (e-2)=0:=by unfold Cj kept;rw[Ay hV,hl,hz];simp
  refine⟨?_,?_,?_⟩
  ·rw[hru,Az hlow]; rfl
  ·unfold flagsOf exact KQ;rw[Ay hV,hl,e2,hk,AB,AN,Ao hsm];congr 1;have h63:M%2^63=M:=Ao (by omega);rw[h63,Ar];simp only[Ai];omega
  ·rw[Az hlow]; exact zF _
 ·have hmax:max (e+D) (-1074)=e+D:=by omega
  have hq:M / 2^D<2^53:=by
   rcases AA D 63 with h | h
   ·exact(hD.stop h).1
   ·have:D=63:=by have:=hD.le; omega
    subst this;exact AG (Nat.div_le_of_le_mul (show M<=2^63*2 by omega)) (by decide)
  obtain⟨c1,c2⟩:=Aeb (M:=M) (D:=D) hs;rw[Ay hlow,hmax];refine⟨?_,?_,Ag0 hq⟩
  all_goals
   by_cases hD0:D=0/\s=0
   ·obtain⟨rfl,rfl⟩:=hD0;have hM0:M≠0:=by omega
    obtain⟨s1,s2⟩:=CZ M 2 e;have e1:M*2^2=4*M+0:=by omega
    have e2:e-((2:Nat):Int)=e-2:=by omega
    rw[e1,e2] at s1 s2;have hq0:YX M 0 0=M:=by unfold YX; simp
    have hle:Cl M e<=e:=by have:M.log2<53:=(AV hM0).2 (by simpa using hq);unfold Cl; simp only[wM,xI] at hlow; omega
    first
    | (rw[s1,hq0]; simp; done)
    | (rw[s2,s1]
       unfold flagsOf exact KQ;have z:(Cl M e-e).toNat=0:=by omega
       rw[Ay hM0,z];simp[xZ])
   ·
    have hl:Cl (4*M+s) (e-2)=e+D:=by
     by_cases hM0:M=0
     ·subst hM0;have hs1:s=1:=by omega
      subst hs1
      have hle:e+D=-1074:=by
       rcases yv D with rfl | hpos
       ·have:=hr rfl; omega
       ·have h:=hD.least (D-1) (by omega);simp only[y5] at h;omega
      refine Uv (.inr ⟨?_,hle⟩);have:(4*0+1:Nat).log2=0:=by decide
      rw[this]; omega
     ·have hlog:=Ae5 hs hM0
      have hub:M.log2<53+D:=by rw[AV hM0,A2]; exact Aml hq
      have hcase:52+D<=M.log2\/e+D=-1074:=by
       rcases yv D with rfl | hpos
       ·have hs1:s=1:=by omega
        rcases hr hs1 with h | h
        ·left; rw[zP hM0]; simpa using h
        ·right; simp only[wM,xI] at hlow ⊢; omega
       ·rcases hD.least (D-1) (by omega) with h | h
        ·left;rw[zP hM0];have:=Ah0 h;have e1:2^(52+D)=2^53*2^(D-1):=by rw[<- A2]; congr 1; omega
         rw[e1]; exact this
        ·right; omega
      refine Uv ?_;rw[hlog];rcases hcase with h | h
      ·left; omega
      ·right; omega
    have e1:(e+D-(e-2)).toNat=D+2:=by omega
    have e2:(-(e+(D:Int)-(e-2))).toNat=0:=by omega
    have hkept:kept (4*M+s) (e-2)=YX M D s:=by unfold kept HR;rw[hl,e1,e2,AB,AN,c1]; rfl
    first
    | (have hbig:2^52<=YX M D s\/e+D=-1074:=by
        rcases yv D with rfl | hpos
        ·have hs1:s=1:=by omega
         rcases hr hs1 with h | h
         ·left; exact AL (by simpa using h) Ag1
         ·right; simp only[wM,xI] at hlow ⊢; omega
        ·rcases hD.least (D-1) (by omega) with h | h
         ·left;refine AL ?_ Ag1;rw[yU hA];have:=Ah0 h;have e1:2^52*2^D=2^53*2^(D-1):=by rw[<- A2,<- A2]; congr 1; omega
          rw[e1]; exact this
         ·right; omega
       rw[AdR (Ag0 hq) (by omega) hbig];unfold Cj;rw[Ay hV,hl,hkept]; done)
    | (unfold flagsOf exact KQ
       rw[Ay hV,hl,e1,e2,AB,AN];congr 1;rw[Ar];simp only[Ai];exact c2)
theorem RA(n:Bool){r:Nat}(h:r<2^63):Dn (BG n r)=r / 2^52:=by
 unfold Dn BG; cases n
 ·simp only[ye,if_false]; omega
 ·simp only[if_true]; omega
theorem PR(n:Bool)(r:Nat):CL (BG n r)=r%2^52:=by
 unfold CL BG; cases n
 ·rfl
 ·simp only[if_true]; omega
theorem OO(n:Bool){r:Nat}(h:r<=Dk):Bj (BG n r)=if r=Dk then 3 else if 2^52<=r then 2 else if 0<r then 1 else 0:=by
 rw[Eg] at *
 unfold Bj;rw[RA n (by omega),PR];by_cases h1:r=9218868437227405312
 ·subst h1; simp
 ·rw[Ay h1,Ay (by omega)];by_cases h2:2^52<=r
  ·rw[Az h2,Az (by omega)]
  ·rw[Ay h2,Ay (by omega)];by_cases h3:0<r
   ·rw[Az h3,Az (by omega)]
   ·rw[Ay h3,Ay (by omega)]
open Ieee
theorem Amm(neg:Bool)(V k:Nat):Toward.even.cut neg V k=HH V k:=by
 unfold Toward.cut HH;simp only[yN,zA];by_cases h:k<=V.log2+2
 ·rw[ym h];congr 1;by_cases h1:2^k<2*(V%2^k)
  ·simp[h1]
  ·by_cases h2:2*(V%2^k)=2^k/\V / 2^k%2=1
   ·simp[h2.1,h2.2]
   ·simp[h1,h2];intro h3;have:=zv (V / 2^k) (show 0<2 by decide);omega
 ·rw[xH (by omega)];have hV:V<2^(V.log2+1):=yi;have e:2^(V.log2+2)=2*2^(V.log2+1):=by rw[zG,A1]
  have hk:2^(V.log2+2)<=2^k:=Aq (by decide) (by omega);have d1:V / 2^(V.log2+2)=0:=z8 (by omega);have d2:V / 2^k=0:=z8 (by omega);have m1:V%2^(V.log2+2)=V:=Ao (by omega);have m2:V%2^k=V:=Ao (by omega);rw[d1,d2,m1,m2];have c1:¬(2^(V.log2+2)<2*V):=by omega
  have c2:¬(2^k<2*V):=by omega
  simp[c1,c2]
theorem AiC(neg:Bool)(r:Nat):Ieee.double.word neg r=BG neg r:=rfl
theorem AaV(neg:Bool)(M:Nat)(E:Int):Ieee.double.nearest neg M E=BG neg (Cj M E):=by
 unfold Format.nearest Cj;by_cases h:M=0
 ·rw[Az h,Az h]; rfl
 ·rw[Ay h,Ay h,AiC];have e1:Ieee.double.leastPlace=-1074:=by decide
  have e2:max (E+(M.log2:Int)-(Ieee.double.fractionBits:Int)) Ieee.double.leastPlace=Cl M E:=by rw[e1]; rfl
  rw[e2,e1,Amm,yN];unfold kept HR;have e3:(-(Cl M E-E)).toNat=(E-Cl M E).toNat:=by congr 1; omega
  have e4:Cl M E - -1074=Cl M E+1074:=by omega
  rw[e3,e4];rfl
theorem Gr(b:Nat):(Dn b=2047/\CL b=0/\Bj b=3)\/(Dn b=2047/\CL b≠0/\Bj b=4)\/(Dn b<2047/\Bj b≠3/\Bj b≠4):=by
 have:=HI b;unfold Bj;by_cases h1:Dn b=2047
 ·by_cases h2:CL b=0<;>simp[h1,h2]
 ·refine .inr (.inr ⟨by omega,?_⟩);rw[Ay h1];split
  ·decide
  ·split<;>decide
theorem LC(b:Nat):b%2^63=Dn b*2^52+CL b:=by unfold Dn CL; omega
def Mo(b:Nat):Datum:=if Bj b=4 then .nan (BE b) (CL b) else if Bj b=3 then .infinity (BE b) else .number (BE b) (Bs b) (By b)
theorem HG{b:Nat}(h:b<2^64):Ieee.double.read b=Mo b:=by
 unfold Format.read Mo;have e0:Ieee.double.signWeight=2^63:=rfl;have e1:Ieee.double.leastPlace=-1074:=by decide
 have e2:Ieee.double.binade=2^52:=rfl;have e3:Ieee.double.infRung=Dk:=rfl
 have hn:(b / 2^63%2==1)=BE b:=by unfold BE;rw[Ar];simp only[beq_iff_eq,Ai];omega
 dsimp only;rw[e0,e1,e2,e3,hn,LC,Eg];have hf:CL b<2^52:=Ir b;rcases Gr b with ⟨h1,h2,h3⟩ | ⟨h1,h2,h3⟩ | ⟨h1,h2,h3⟩
 ·rw[Ay (by omega),Ay (by omega),Az (by omega),Ay (by omega),Az h3]
 ·rw[Ay (by omega),Ay (by omega),Ay (by omega),Az h3];have e:Dn b*2^52+CL b-9218868437227405312=CL b:=by omega
  rw[e]
 ·rw[Ay h3,Ay h2];by_cases h0:Dn b=0
  ·rw[Az (by omega)];unfold Bs By;rw[Az h0,Az h0,h0,zI,AO]
  ·rw[Ay (by omega),Az (by omega)];unfold Bs By;rw[Ay h0,Ay h0];have m1:(Dn b*2^52+CL b)%2^52=CL b:=by omega
   have m2:(Dn b*2^52+CL b) / 2^52=Dn b:=by omega
   have e:(-1074:Int)+((Dn b-1:Nat):Int)=(Dn b:Int)-1075:=by omega
   rw[m1,m2,xp (2^52),e]
theorem Ad1(s:Bool):Ieee.double.write (.infinity s)=BG s Dk:=rfl
theorem KC(s:Bool)(m:Nat)(e:Int):Ieee.double.write (.number s m e)=BG s (Cj m e):=AaV s m e
theorem JE{b:Nat}(h:b<2^64)(h3:Bj b=3):BG (BE b) Dk=b:=by
 rcases Gr b with ⟨h1,h2,_⟩ | ⟨_,_,h4⟩ | ⟨_,h4,_⟩
 ·have e:=LC b;rw[h1,h2] at e;rw[Eg];unfold BG BE;by_cases hb:2^63<=b
  ·simp[hb]; omega
  ·simp[hb]; omega
 ·omega
 ·omega
theorem Gs(s:Bool){r:Nat}(h:r<=Dk):DM (BG s r)=BG s r:=by
 unfold DM;rw[Ay];rw[OO s h];split
 ·decide
 ·split
  ·decide
  ·split<;>decide
theorem O4(s:Bool)(m up:Nat):Ieee.signed s m up=FX s (m*2^up):=by unfold Ieee.signed FX;rw[yN]
theorem Ah2(s:Bool):Bj (BG s Dk)=3:=by rw[OO s (A7 _),Az rfl]
theorem G9{b:Nat}(h:Bj b=4):Mo b=.nan (BE b) (CL b):=Az h
theorem Ew{b:Nat}(h:Bj b=3):Mo b=.infinity (BE b):=by unfold Mo; rw[Ay (by omega),Az h]
theorem Ev{b:Nat}(h3:Bj b≠3)(h4:Bj b≠4):Mo b=.number (BE b) (Bs b) (By b):=by unfold Mo; rw[Ay h4,Ay h3]
theorem Aiz{a b:Nat}(h:Bj a=4\/Bj b=4):Em a b=(Jt,0):=Az h
theorem Aaf{a b:Nat}(h4:¬(Bj a=4\/Bj b=4))(h:Bj a=3):Em a b=(if Bj b=3/\a≠b then (Jt,16) else (a,0)):=by unfold Em; rw[Ay h4,Az h]
theorem WA{a b:Nat}(h4:¬(Bj a=4\/Bj b=4))(h:Bj a≠3)(h':Bj b=3):Em a b=(b,0):=by unfold Em; rw[Ay h4,Ay h,Az h']
theorem Ls{a b:Nat}(h4:¬(Bj a=4\/Bj b=4))(h:Bj a≠3)(h':Bj b≠3):
 Em a b=HV (BG (BE a&&BE b) 0) (DT a (min (By a) (By b))+DT b (min (By a) (By b))) (min (By a) (By b)):=by
 unfold Em; rw[Ay h4,Ay h,Ay h']
theorem Aja(s:Bool)(m:Nat)(i:Int)(t:Bool)(n:Nat)(j:Int):(Datum.number s m i).sum (Datum.number t n j)=
 xM (.number (if FX s (m*2^(i-min i j).toNat)+FX t (n*2^(j-min i j).toNat)=0 then s&&t else FX s (m*2^(i-min i j).toNat)+FX t (n*2^(j-min i j).toNat)<0)
  (FX s (m*2^(i-min i j).toNat)+FX t (n*2^(j-min i j).toNat)).natAbs (min i j)):=by
 rw[<- O4,<- O4];rfl
theorem Y3{a b:Nat}(ha:a<2^64)(hb:b<2^64){d:Nat}(hd:Bj d=4):
 DM ((((Mo a).sum (Mo b)).map Ieee.double.write).getD d)=(Em a b).1:=by
 have cd:DM d=Jt:=Az hd;by_cases h4:Bj a=4\/Bj b=4
 ·rw[Aiz h4];by_cases a4:Bj a=4
  ·rw[G9 a4]; exact cd
  ·have b4:=h4.resolve_left a4;rw[G9 b4];by_cases a3:Bj a=3
   ·rw[Ew a3]; exact cd
   ·rw[Ev a3 a4]; exact cd
 ·have a4:Bj a≠4:=fun h=>h4 (.inl h)
  have b4:Bj b≠4:=fun h=>h4 (.inr h)
  by_cases a3:Bj a=3
  ·have wa:=JE ha a3;rw[Aaf h4 a3,Ew a3];by_cases b3:Bj b=3
   ·have wb:=JE hb b3;rw[Ew b3];by_cases hs:BE a=BE b
    ·have hab:a=b:=by rw[<- wa,<- wb,hs]
     rw[Ay (fun h=>h.2 hab)];have:(Datum.infinity (BE a)).sum (.infinity (BE b))=xM (.infinity (BE a)):=Az hs;rw[this];show DM (BG (BE a) Dk)=a;rw[Gs _ (A7 _),wa]
    ·have hab:a≠b:=fun h=>hs (by rw[h])
     have:(Datum.infinity (BE a)).sum (.infinity (BE b))=xN:=Ay hs;rw[this,Az ⟨b3,hab⟩];exact cd
   ·rw[Ev b3 b4,Ay (fun h=>b3 h.1)];show DM (BG (BE a) Dk)=a;rw[Gs _ (A7 _),wa]
  ·rw[Ev a3 a4];by_cases b3:Bj b=3
   ·have wb:=JE hb b3;rw[WA h4 a3 b3,Ew b3];show DM (BG (BE b) Dk)=b;rw[Gs _ (A7 _),wb]
   ·rw[Ls h4 a3 b3,Ev b3 b4,Aja];show DM (Ieee.double.write (.number _ _ _))=_;rw[KC,Gs _ (HE _ _)];unfold HV DT;by_cases h0:FX (BE a) (Bs a*2^(By a-min (By a) (By b)).toNat)+FX (BE b) (Bs b*2^(By b-min (By a) (By b)).toNat)=0
    ·rw[Az h0,Az h0,h0];have:Cj (Int.natAbs 0) (min (By a) (By b))=0:=Az rfl;rw[this]
    ·rw[Ay h0,Ay h0]
theorem Aix{a b:Nat}(ha:a<2^64)(hb:b<2^64){d:Nat}(hd:Bj d=4):DM ((Ieee.double.add a b).getD d)=(Em a b).1:=by unfold Format.add;rw[HG ha,HG hb];exact Y3 ha hb hd
theorem H2{b:Nat}(h:b<2^64):BE (D5 b)=!(BE b)/\Dn (D5 b)=Dn b/\CL (D5 b)=CL b:=by
 unfold BE Dn CL D5;by_cases hb:2^63<=b
 ·rw[Az hb];refine⟨?_,by omega,by omega⟩;have:¬2^63<=b-2^63:=by omega
  simp[hb,this]
 ·rw[Ay hb];refine⟨?_,by omega,by omega⟩;have:2^63<=b+2^63:=by omega
  simp[hb,this]
theorem Uh{b:Nat}(h:b<2^64):D5 b<2^64:=by unfold D5; split<;>omega
theorem AaK{b:Nat}(h:b<2^64):Mo (D5 b)=(Mo b).opposite:=by
 obtain⟨h1,h2,h3⟩:=H2 h;have hk:Bj (D5 b)=Bj b:=by unfold Bj; rw[h2,h3]
 have hm:Bs (D5 b)=Bs b:=by unfold Bs; rw[h2,h3]
 have he:By (D5 b)=By b:=by unfold By; rw[h2]
 by_cases b4:Bj b=4
 ·rw[G9 b4,G9 (by omega),h1,h3]; rfl
 ·by_cases b3:Bj b=3
  ·rw[Ew b3,Ew (by omega),h1]; rfl
  ·rw[Ev b3 b4,Ev (by omega) (by omega),h1,hm,he]; rfl
theorem AfR{a b:Nat}(ha:a<2^64)(hb:b<2^64){d:Nat}(hd:Bj d=4):DM ((Ieee.double.sub a b).getD d)=(Rx a b).1:=by unfold Format.sub;rw[HG ha,HG hb,<- AaK hb];exact Y3 ha (Uh hb) hd
theorem TZ(b:Nat):(Ieee.double.read b).isNaN=decide (Bj b=4):=by
 unfold Format.read;have e0:Ieee.double.signWeight=2^63:=rfl;have e2:Ieee.double.binade=2^52:=rfl;have e3:Ieee.double.infRung=Dk:=rfl;dsimp only;rw[e0,e2,e3,LC,Eg];have hf:CL b<2^52:=Ir b;rcases Gr b with ⟨h1,h2,h3⟩ | ⟨h1,h2,h3⟩ | ⟨h1,h2,h3⟩
 ·rw[Ay (by omega),Ay (by omega),Az (by omega),Ag (by omega)]; rfl
 ·rw[Ay (by omega),Ay (by omega),Ay (by omega),Ac h3]; rfl
 ·rw[Ag h3];by_cases h0:Dn b=0
  ·rw[Az (by omega)]; rfl
  ·rw[Ay (by omega),Az (by omega)]; rfl
theorem R8{V W k:Nat}(h:V<=W):HH V k<=HH W k:=by
 unfold HH;have hA:=Cs k;have hq:V / 2^k<=W / 2^k:=Nat.div_le_div_right h;rcases AA (V / 2^k) (W / 2^k) with h1 | h1
 ·split<;>split<;>omega
 ·have he:V / 2^k=W / 2^k:=by omega
  have v:=zK V (2^k);have w:=zK W (2^k);rw[he] at v ⊢;have hr:V%2^k<=W%2^k:=by omega
  by_cases hc:2^k<2*(V%2^k)\/2*(V%2^k)=2^k/\W / 2^k%2=1
  ·have hc':2^k<2*(W%2^k)\/2*(W%2^k)=2^k/\W / 2^k%2=1:=by
    rcases hc with hc | ⟨hc,hd⟩
    ·exact .inl (by omega)
    ·rcases AA (2^k) (2*(W%2^k)) with h2 | h2
     ·exact .inl h2
     ·exact .inr ⟨by omega,hd⟩
   rw[Az hc,Az hc'];exact A7 _
  ·rw[Ay hc];exact Nat.le_add_right _ _
theorem Ajr{V c k:Nat}(h:V<=c*2^k):HH V k<=c:=by
 have h1:=R8 (k:=k) h
 have:HH (c*2^k) k=c:=by have:=Qx c k 0;rw[AM,KJ] at this;exact this
 omega
theorem AjX{V c k:Nat}(h:c*2^k<=V):c<=HH V k:=by
 have h1:=R8 (k:=k) h
 have:HH (c*2^k) k=c:=by have:=Qx c k 0;rw[AM,KJ] at this;exact this
 omega
theorem AaL{V W:Nat}{s:Int}(h:V<=W):HR V s<=HR W s:=R8 (An _ h)
theorem Abq{V W:Nat}{E:Int}(hV:V≠0)(h:V<=W):Cl V E<=Cl W E:=by have:V.log2<=W.log2:=(zP (by omega)).2 (AL (zS hV) h);unfold Cl; omega
theorem AcL{V:Nat}{E:Int}:kept V E<=2^53:=by
 have hV:V<2^(V.log2+1):=yi;unfold kept HR;refine Ajr ?_;have hl:E+V.log2-52<=Cl V E:=by unfold Cl; omega
 rw[<- A2];have h1:V*2^(-(Cl V E-E)).toNat<=2^(V.log2+1)*2^(-(Cl V E-E)).toNat:=An _ (xJ hV);rw[<- A2] at h1;exact AL h1 (Aq (by decide) (by omega))
theorem Tf{V:Nat}{E:Int}(hV:V≠0)(hl:Cl V E=E+V.log2-52):2^52<=kept V E:=by have h1:2^V.log2<=V:=zS hV;unfold kept HR;refine AjX ?_;rw[<- A2];have h2:2^V.log2*2^(-(Cl V E-E)).toNat<=V*2^(-(Cl V E-E)).toNat:=An _ h1;rw[<- A2] at h2;exact AL (Aq (by decide) (by omega)) h2
theorem Fj{V W:Nat}{E:Int}(h:V<=W):Cj V E<=Cj W E:=by
 unfold Cj;by_cases hV:V=0
 ·rw[Az hV]; exact zF _
 ·have hW:W≠0:=by omega
  rw[Ay hV,Ay hW];have hl:=Abq (E:=E) hV h
  have key:(Cl V E+1074).toNat*2^52+kept V E<=(Cl W E+1074).toNat*2^52+kept W E:=by
   rcases Int.lt_or_eq_of_le hl with h1 | h1
   ·have hb:-1074<=Cl V E:=by unfold Cl; omega
    have hn:Cl W E=E+W.log2-52:=by unfold Cl at h1 hb ⊢; omega
    have k1:=AcL (V:=V) (E:=E);have k2:=Tf hW hn;have h2:(Cl V E+1074).toNat+1<=(Cl W E+1074).toNat:=by omega
    have h3:((Cl V E+1074).toNat+1)*2^52<=(Cl W E+1074).toNat*2^52:=An _ h2;rw[AI (Cl V E+1074).toNat 1 (2^52),zA] at h3;omega
   ·unfold kept;rw[h1];exact Nat.add_le_add_left (AaL h) _
  omega
theorem KG{b:Nat}(h4:Bj b≠4):Cj (Bs b) (By b)=b%2^63:=by
 have hf:CL b<2^52:=Ir b;have hr:=LC b;rw[hr];unfold Bs By;by_cases h0:Dn b=0
 ·rw[Az h0,Az h0,T8 hf,h0,zI,AO]
 ·rw[Ay h0,Ay h0,KH (by omega) (by omega) (by omega),Eg];have e:((Dn b:Int)-1075+1074).toNat=Dn b-1:=by omega
  rw[e];have h5:(Dn b-1)*2^52+(CL b+2^52)=Dn b*2^52+CL b:=by omega
  rw[h5];rcases Gr b with ⟨h1,h2,_⟩ | ⟨_,_,h⟩ | ⟨h1,_,_⟩
  ·rw[h1,h2]; decide
  ·exact absurd h h4
  ·omega
def F1(b:Nat):Int:=FX (BE b) (b%2^63)
def ES(b:Nat)(f:Int):Nat:=Bs b*2^(By b-f).toNat
theorem JN{b:Nat}{f:Int}(h4:Bj b≠4)(hf:f<=By b):Cj (ES b f) f=b%2^63:=by
 rw[<- KG h4];have h:=(CZ (Bs b) (By b-f).toNat (By b)).1;have e:By b-((By b-f).toNat:Int)=f:=by omega
 rw[e] at h;exact h
theorem Ahc{a b:Nat}(h:a%2^63=b%2^63)(f:Int):ES a f=ES b f:=by
 have h1:Dn a=Dn b:=by unfold Dn; omega
 have h2:CL a=CL b:=by unfold CL; omega
 unfold ES Bs By;rw[h1,h2]
theorem Uj{a b:Nat}{f:Int}(ha:Bj a≠4)(hb:Bj b≠4)(hfa:f<=By a)(hfb:f<=By b):ES a f<ES b f↔a%2^63<b%2^63:=by
 constructor
 ·intro h;have h1:=Fj (E:=f) (xJ h);rw[JN ha hfa,JN hb hfb] at h1;rcases Nat.lt_or_eq_of_le h1 with h2 | h2
  ·exact h2
  ·have:=Ahc h2 f; omega
 ·intro h;rcases AA (ES a f) (ES b f) with h1 | h1
  ·exact h1
  ·have h1:=Fj (E:=f) h1;rw[JN ha hfa,JN hb hfb] at h1;omega
theorem Zj(b:Nat)(f:Int):ES b f=0↔b%2^63=0:=by
 have hp:=Cs (By b-f).toNat;unfold ES;rw[xr,LC];have h1:¬(2^(By b-f).toNat=0):=by omega
 have h2:Bs b=0↔Dn b*2^52+CL b=0:=by unfold Bs; split<;>omega
 rw[h2];exact⟨fun h=>h.resolve_right h1,.inl⟩
theorem Al7{s t:Bool}{m n m' n':Nat}(h1:m<n↔m'<n')(h2:n<m↔n'<m')(h3:m=0↔m'=0)(h4:n=0↔n'=0):FX s m<FX t n↔FX s m'<FX t n':=by unfold FX;cases s<;>cases t<;>simp<;>omega
theorem WG{a b:Nat}{f:Int}(ha:Bj a≠4)(hb:Bj b≠4)(hfa:f<=By a)(hfb:f<=By b):DT a f<DT b f↔F1 a<F1 b :=Al7 (Uj ha hb hfa hfb) (Uj hb ha hfb hfa) (Zj a f) (Zj b f)
theorem AeY{x y x' y':Int}(h1:x<y↔x'<y')(h2:y<x↔y'<x'):compare x y=compare x' y':=by
 show compareOfLessAndEq x y=compareOfLessAndEq x' y';unfold compareOfLessAndEq;by_cases h:x<y
 ·rw[Az h,Az (h1.1 h)]
 ·rw[Ay h,Ay (fun k=>h (h1.2 k))];by_cases e:x=y
  ·rw[Az e,Az (by omega)]
  ·rw[Ay e,Ay (by omega)]
theorem AlZ{b:Nat}(h4:Bj b≠4):b%2^63<=Dk:=by rw[<- KG h4]; exact HE _ _
theorem LN{b:Nat}(h:Bj b=3):b%2^63=Dk:=by
 rw[LC];rcases Gr b with ⟨h1,h2,_⟩ | ⟨_,_,h4⟩ | ⟨_,h4,_⟩
 ·rw[h1,h2]; rfl
 ·omega
 ·omega
theorem MW{b:Nat}(h3:Bj b≠3)(h4:Bj b≠4):b%2^63<Dk:=by
 have hf:CL b<2^52:=Ir b;rw[LC,Eg];rcases Gr b with ⟨_,_,h⟩ | ⟨_,_,h⟩ | ⟨h1,_,_⟩
 ·exact absurd h h3
 ·exact absurd h h4
 ·omega
theorem AbC{x y:Int}(h:x<y):compare x y=.lt:=by show compareOfLessAndEq x y=_; unfold compareOfLessAndEq; rw[Az h]
theorem AbD{x y:Int}(h:y<x):compare x y=.gt:=by show compareOfLessAndEq x y=_; unfold compareOfLessAndEq; rw[Ay (by omega),Ay (by omega)]
theorem Mt{a b:Nat}(ha:a<2^64)(hb:b<2^64)(a4:Bj a≠4)(b4:Bj b≠4):Ieee.double.order a b=xM (compare (F1 a) (F1 b)):=by
 unfold Format.order;rw[HG ha,HG hb];have hpos:0<Dk:=by decide
 by_cases a3:Bj a=3
 ·have ka:=LN a3;rw[Ew a3];by_cases b3:Bj b=3
  ·have kb:=LN b3;rw[Ew b3];show xM (compare (BE b).toNat (BE a).toNat)=_;unfold F1;rw[ka,kb];cases BE a<;>cases BE b<;>decide
  ·have kb:=MW b3 b4;rw[Ev b3 b4];show xM (if BE a then Ordering.lt else .gt)=_;unfold F1 FX;rw[ka];cases BE a
   ·rw[AbD (by simp; split<;>omega)]; rfl
   ·rw[AbC (by simp; split<;>omega)]; rfl
 ·have ka:=MW a3 a4;rw[Ev a3 a4];by_cases b3:Bj b=3
  ·have kb:=LN b3;rw[Ew b3];show xM (if BE b then Ordering.gt else .lt)=_;unfold F1 FX;rw[kb];cases BE b
   ·rw[AbC (by simp; split<;>omega)]; rfl
   ·rw[AbD (by simp; split<;>omega)]; rfl
  ·rw[Ev b3 b4];show xM (compare (Ieee.signed _ _ _) (Ieee.signed _ _ _))=_;rw[O4,O4];congr 1;exact AeY (WG a4 b4 (wO _ _) (wP _ _)) (WG b4 a4 (wP _ _) (wO _ _))
theorem RG{a b:Nat}(ha:a<2^64)(hb:b<2^64)(h:Bj a=4\/Bj b=4):Ieee.double.order a b=xN:=by
 unfold Format.order;rw[HG ha,HG hb];by_cases a4:Bj a=4
 ·rw[G9 a4]; cases Mo b<;>rfl
 ·rw[G9 (h.resolve_left a4)]; cases Mo a<;>rfl
def Vg(S:Int)(f:Int):Int:=if S<0 then -(Cj S.natAbs f:Int) else Cj S.natAbs f
theorem AaI(S:Int)(k:Nat)(f:Int):Vg (S*((2^k:Nat):Int)) (f-k)=Vg S f:=by
 have hp:=Cs k
 have h0:S*((2^k:Nat):Int)<0↔S<0:=by
  constructor
  ·intro h;rcases Int.lt_or_le S 0 with h1 | h1
   ·exact h1
   ·have:=x5 h1 (xu (2^k)); omega
  ·intro h;exact wQ h (by omega)
 unfold Vg;rw[yw,zX,(CZ S.natAbs k f).1];by_cases h:S<0
 ·rw[Az h,Az (h0.2 h)]
 ·rw[Ay h,Ay (fun k=>h (h0.1 k))]
theorem JQ(s:Bool){r:Nat}(h:r<2^63):F1 (BG s r)=FX s r:=by
 unfold F1 BG BE;cases s
 ·have h1:¬2^63<=r:=by omega
  have h2:r%2^63=r:=Ao h;simp only[ye,if_false,Ag h1,h2]
 ·have h1:2^63<=2^63+r:=by omega
  have h2:(2^63+r)%2^63=r:=by omega
  simp only[if_true,Ac h1,h2]
theorem AeD(s:Bool)(S f:Int):F1 (HV (BG s 0) S f).1=Vg S f:=by
 unfold HV Vg;by_cases h:S=0
 ·subst h;have e:Cj (Int.natAbs 0) f=0:=Az rfl;rw[Az rfl,e,JQ s (by decide)];cases s<;>rfl
 ·rw[Ay h];show F1 (BG _ _)=_;rw[JQ _ (HD _ _)];unfold FX;by_cases h1:S<0
  ·rw[Az h1,Ac h1,Az rfl]
  ·rw[Ay h1,Ag h1,Ay (by decide)]
theorem Vz{b:Nat}{f g:Int}{k:Nat}(hk:g=f-k)(hf:f<=By b):DT b g=DT b f*((2^k:Nat):Int):=by
 unfold DT;have e:(By b-g).toNat=(By b-f).toNat+k:=by omega
 rw[e,A2,<- A4];generalize Bs b*2^(By b-f).toNat=m;generalize 2^k=p;unfold FX;cases BE b
 ·exact Ax m p
 ·show -((m*p:Nat):Int)=-(m:Int)*(p:Int)
  rw[Ax,xK]
theorem Tj{a c:Nat}(a3:Bj a≠3)(a4:Bj a≠4)(c3:Bj c≠3)(c4:Bj c≠4){g:Int}(hg:g<=min (By a) (By c)):
 F1 (Em a c).1=Vg (DT a g+DT c g) g:=by
 rw[Ls (fun h=>h.elim a4 c4) a3 c3,AeD];obtain⟨k,hk⟩:∃k:Nat,g=min (By a) (By c)-k:=⟨(min (By a) (By c)-g).toNat,by omega⟩
 rw[Vz (b:=a) hk (wO _ _),Vz (b:=c) hk (wP _ _),<- Int.add_mul,hk,AaI]
def EA(a b:Nat):Nat × Nat:=
 if Bj a=4\/Bj b=4 then (Jt,0)
 else if Bj a=3\/Bj b=3 then (if Bj a=0\/Bj b=0 then (Jt,16) else (BG (BE a !=BE b) Dk,0))
 else (BG (BE a !=BE b) (Cj (Bs a*Bs b) (By a+By b)),flagsOf (Bs a*Bs b) (By a+By b))
def Ey(X Y K:Nat):Nat:=2*(X*2^K / Y)+(if X*2^K%Y=0 then 0 else 1)
def JW(a b:Nat):Nat × Nat:=
 if Bj a=4\/Bj b=4 then (Jt,0)
 else if Bj a=Bj b/\(Bj a=3\/Bj a=0) then (Jt,16)
 else if Bj a=3 then (BG (BE a !=BE b) Dk,0)
 else if Bj b=3\/Bj a=0 then (BG (BE a !=BE b) 0,0)
 else if Bj b=0 then (BG (BE a !=BE b) Dk,8)
 else (BG (BE a !=BE b) (Cj (Ey (Bs a) (Bs b) 120) (By a-By b-121)),flagsOf (Ey (Bs a) (Bs b) 120) (By a-By b-121))
theorem Mw(a b:Nat):EA a b=EA b a:=by
 have e:(BE a !=BE b)=(BE b !=BE a):=by cases BE a<;>cases BE b<;>rfl
 unfold EA;rw[e,A1 (Bs a),Int.add_comm (By a)];simp only[or_comm]
theorem AaW{V k:Nat}{E:Int}(hm:1<=V / 2^k)(hc:2^53<=V / 2^k\/E+k+1<=-1074):
 Cj (4*(V / 2^k)+(if V%2^k=0 then 0 else 1)) (E+k-2)=Cj V E/\flagsOf (4*(V / 2^k)+(if V%2^k=0 then 0 else 1)) (E+k-2)=flagsOf V E:=by
 have hA:=Cs k;have h1:=zK V (2^k);have h2:=zv V hA;generalize hq:V / 2^k=q at *
 generalize hr:V%2^k=r at *
 by_cases h0:r=0
 ·rw[Az h0];obtain⟨a1,a2⟩:=CZ q k (E+k);obtain⟨b1,b2⟩:=CZ q 2 (E+k);have e1:E+(k:Int)-k=E:=by omega
  have e2:V=q*2^k:=by rw[A1]; omega
  have e3:q*2^2=4*q+0:=by omega
  have e4:E+(k:Int)-((2:Nat):Int)=E+k-2:=by omega
  rw[e1,<- e2] at a1 a2;rw[e3,e4] at b1 b2;rw[a1,a2,b1,b2];exact⟨rfl,rfl⟩
 ·rw[Ay h0]
  obtain⟨d,rfl⟩:∃d,k=d+1:=by
   cases k with
   | zero=>simp only[AB] at h2; omega
   | succ d=>exact⟨d,rfl⟩
  have hD:2^(d+1)=2*2^d:=by rw[zG]; omega
  rw[hD] at h1 h2;generalize hc2:2^d=c at *
  have p1:(2*q+1-1)*c=2*c*q:=by rw[yC,A1,yT,A4]
  have p2:(2*q+1+1)*c=2*c*q+2*c:=by rw[show 2*q+1+1=2*(q+1) by omega,A4,AI,yc,A1 q c,A4]; omega
  have lt1:(2*q+1-1)*2^d<V:=by rw[hc2,p1]; omega
  have lt2:V<(2*q+1+1)*2^d:=by rw[hc2,p2]; omega
  have od:(2*q+1)%2=1:=by omega
  have lV:=Ob od (by omega) lt1 lt2;have l4:(4*q+1).log2=(2*q+1).log2+1:=Ob (d:=1) od (by omega) (by omega) (by omega)
  have hs:(2*q+1).log2>=54\/E+d+2<=-1074:=by
   rcases hc with h | h
   ·left; rw[ge_iff_le,zP (by omega)]; omega
   ·right; omega
  have hk:E+d+2<=Cl (2*q+1) (E+d):=by unfold Cl; omega
  obtain⟨a1,a2⟩:=NP (E:=E) od lt1 lt2 (by unfold Cl; rw[lV]; omega) hk;have ee:E+((d+1:Nat):Int)-2+((1:Nat):Int)=E+d:=by omega
  obtain⟨b1,b2⟩:=NP (V:=4*q+1) (d:=1) (E:=E+((d+1:Nat):Int)-2) od (by omega) (by omega) (by unfold Cl; rw[l4]; omega) (by rw[ee]; unfold Cl; omega);rw[ee] at b1 b2;rw[a1,a2,b1,b2];exact⟨rfl,rfl⟩
theorem Q9(n:Bool){V k:Nat}{E e:Int}{s:Bool}(he:e=E+k)(hs:s=decide (V%2^k≠0))(hm:1<=V / 2^k)(hc:2^53<=V / 2^k\/E+k+1<=-1074):
 FY n (V / 2^k) e s=(BG n (Cj V E),flagsOf V E):=by
 obtain⟨a,b⟩:=AaW hm hc
 have e1:s.toNat=if V%2^k=0 then 0 else 1:=by
  rw[hs];by_cases h:V%2^k=0
  ·rw[Ag (by omega),Az h]; rfl
  ·rw[Ac h,Ay h]; rfl
 unfold FY;rw[he,e1,a,b]
theorem Tw{X Y K:Nat}(d:Nat)(E:Int)(hY:0<Y)(h:2^53<=X*2^K / Y):
 Cj (Ey X Y (K+d)) (E-d)=Cj (Ey X Y K) E/\flagsOf (Ey X Y (K+d)) (E-d)=flagsOf (Ey X Y K) E:=by
 have hA:=Cs d;unfold Ey;have e:X*2^(K+d)=X*2^K*2^d:=by rw[A2,A4]
 rw[e];generalize X*2^K=Z at *
 have h1:=zK Z Y;have h2:=zv Z hY;by_cases h0:Z%Y=0
 ·obtain⟨q,rfl⟩:=vY h0;have e1:Y*q*2^d=Y*(q*2^d):=A4 _ _ _;rw[e1,Nat.mul_mod_right,Nat.mul_mod_right,vZ _ hY,vZ _ hY,Az rfl];have:=CZ (2*q+0) d E;rw[show(2*q+0)*2^d=2*(q*2^d)+0 by rw[AM,AM,A4]] at this;exact this
 ·have h3:=zK (Z*2^d) Y;have h4:=zv (Z*2^d) hY;rw[Ay h0];generalize hq:Z / Y=q at *
  generalize hr:Z%Y=r at *
  generalize hc:2^d=c at *
  have hz:Z*c=Y*(q*c)+r*c:=by rw[<- h1,AI,A4]
  have hrc:r*c<Y*c:=(xt hA).2 h2;have hrc0:0<r*c:=x6 (by omega) hA;have q1:q*c<=Z*c / Y:=by rw[yU hY,A1 (q*c)]; omega
  have q2:Z*c / Y<(q+1)*c:=by rw[yM hY,AI,AI,zA,A1 (q*c),A1 c Y]; omega
  have q3:Z*c / Y=q*c->Z*c%Y≠0:=fun h5 h6=>by rw[h5,h6] at h3; omega
  generalize hQ:Z*c / Y=Q at *
  have p1:(2*q+1-1)*c=2*(q*c):=by rw[yC,A4]
  have p2:(2*q+1+1)*c=2*((q+1)*c):=by rw[show 2*q+1+1=2*(q+1) by omega,A4]
  have od:(2*q+1)%2=1:=by omega
  generalize hV:2*Q+(if Z*c%Y=0 then 0 else 1)=V
  have v1:(2*q+1-1)*2^d<V:=by
   rw[hc,p1,<- hV];by_cases h5:Q=q*c
   ·rw[Ay (q3 h5)]; omega
   ·split<;>omega
  have v2:V<(2*q+1+1)*2^d:=by rw[hc,p2,<- hV];split<;>omega
  have lV:=Ob od (by omega) v1 v2;have hs:54<=(2*q+1).log2:=by rw[zP (by omega)]; omega
  have ee:E-(d:Int)+d=E:=by omega
  have:=NP (E:=E-d) od v1 v2 (by unfold Cl; rw[lV]; omega) (by unfold Cl; omega);rw[ee] at this;exact this
theorem Tx{X Y K L:Nat}{E F:Int}(hY:0<Y)(h1:2^53<=X*2^K / Y)(h2:2^53<=X*2^L / Y)(he:E+K=F+L):
 Cj (Ey X Y K) E=Cj (Ey X Y L) F/\flagsOf (Ey X Y K) E=flagsOf (Ey X Y L) F:=by
 rcases x7 K L with h | h
 ·obtain⟨d,rfl⟩:=v8 h;have:=Tw d E hY h1;rw[show E-(d:Int)=F by omega] at this;exact⟨this.1.symm,this.2.symm⟩
 ·obtain⟨d,rfl⟩:=v8 h;have:=Tw d F hY h2;rw[show F-(d:Int)=E by omega] at this;exact this
theorem Aay(X Y a K:Nat):Ey (X*2^a) Y K=Ey X Y (K+a):=by
 unfold Ey;have:X*2^a*2^K=X*2^(K+a):=by rw[A4,<- A2,xp a K]
 rw[this]
theorem Y7(X Y b K:Nat):Ey X (Y*2^b) (K+b)=Ey X Y K:=by
 have hp:=Cs b;unfold Ey;have:X*2^(K+b)=X*2^K*2^b:=by rw[A2,A4]
 rw[this,Nat.mul_div_mul_right _ _ hp,Nat.mul_mod_mul_right]
 have:(X*2^K%Y*2^b=0)↔(X*2^K%Y=0):=by
  constructor
  ·intro h;rcases xr.1 h with h | h
   ·exact h
   ·omega
  ·intro h; rw[h,zI]
 simp only[this]
theorem Agy{X Y K t:Nat}(hX:0<X)(hY0:0<Y)(hY:Y<2^t)(hK:53+t<=K):2^53<=X*2^K / Y:=by rw[yU hY0];have h1:2^53*Y<=2^53*2^t:=yg _ (by omega);have h2:2^(53+t)<=2^K:=Aq (by decide) hK;have h3:1*2^K<=X*2^K:=An _ (by omega);rw[A2] at h2;omega
theorem Aeu(n:Bool){X Y K:Nat}{e E:Int}{s:Bool}(hs:s=decide (X*2^K%Y≠0))(he:E=e-1)(hq:2^53<=X*2^K / Y):
 FY n (X*2^K / Y) e s=(BG n (Cj (Ey X Y K) E),flagsOf (Ey X Y K) E):=by
 have e1:Ey X Y K / 2^1=X*2^K / Y:=by unfold Ey;split<;>omega
 have e2:decide (Ey X Y K%2^1≠0)=decide (X*2^K%Y≠0):=by
  unfold Ey;by_cases h:X*2^K%Y=0
  ·rw[Az h,Ag (by omega),Ag (by omega)]
  ·rw[Ay h,Ac (by omega),Ac h]
 have:=Q9 n (V:=Ey X Y K) (k:=1) (E:=E) (e:=e) (s:=s) (by omega) (by rw[e2]; exact hs) (by omega) (.inl (by omega));rw[e1] at this;exact this
def Cx:Bb->Nat
 | []=>0
 | x::l=>x.toNat+4294967296*Cx l
def digits:Nat->Nat->Bb
 | 0,_=>[]
 | k+1,v=>((v%4294967296:Nat):Int)::digits k (v / 4294967296)
def D3(n:Nat):Nat:=if n=0 then 0 else n.log2 / 32+1
def N3(n:Nat):Bb:=digits (D3 n) n
def Bn(v:Int):Bb:=N3 v.natAbs
def BB(v:Int):Bool:=decide (v<0)
def wv(n:Bool)(l:Bb):Int:=FX n (Cx l)
def QR(l:Bb):Prop:=∀x∈l,0<=x/\x<4294967296
def Hk(l:Bb):Bool:=CE (l.length<1073741824/\QR l)
def IS(n:Bool)(l:Bb):Bool:=CE (l.length<268435456/\l=N3 (Cx l)/\(n=wg->l≠[]))
def Rr(n:Bool)(l:Bb):Bool:=CE (l.length<134217728/\l=N3 (Cx l)/\(n=wg->l≠[]))
def AlK(k:Int):Bool:=CE (-1000000<=k/\k<=1000000)
def Wm(k:Int):Bool:=CE (-9223372036854775808<=k/\k<=9223372036854775807)
def GB(l:Bb)(i:Int):Int:=if 0<=i then l.getD i.toNat 0 else 0
def IH(a b:Bb):Bb:=digits (max a.length b.length+1) (Cx a+Cx b)
def H3(a b:Bb):Bb:=digits a.length (Cx a-Cx b)
def leL(a b:Bb):Bool:=CE (Cx a<=Cx b)
def RW(a b:Nat):Int:=if a<b then -1 else if b<a then 1 else 0
def RV(a b:Int):Int:=if a<b then -1 else if b<a then 1 else 0
def Jq(v:Int)(j:Nat):Int:=FX (BB v) (v.natAbs / 2^j)
def Hv(v k:Int):Int:=if 0<=k then v*((2^k.toNat:Nat):Int) else Jq v (-k).toNat
def Ut(v:Int):Int:=if v=0 then 0 else (v.natAbs.log2:Int)+1
def Aei(v:Int):Bool:=decide (v%2=1)
theorem two32:2^32=4294967296:=by decide
theorem Kj(k:Nat):2^(32*(k+1))=4294967296*2^(32*k):=by rw[yc,AN,A2,A1,two32]
theorem Ed:∀(k v:Nat),(digits k v).length=k
 | 0,_=>rfl
 | k+1,v=>by rw[digits,zt,Ed k]
theorem KO:∀(k v:Nat),QR (digits k v)
 | 0,_=>fun x h=>by cases h
 | k+1,v=>fun x h=>by
   rw[digits,zL] at h;rcases h with rfl | h
   ·omega
   ·exact KO k _ x h
theorem I9:∀(k v:Nat),Cx (digits k v)=v%2^(32*k)
 | 0,v=>by rw[digits,Cx,yj,AB,xZ]
 | k+1,v=>by rw[digits,Cx,I9 k,Ad,Kj,Nat.mod_mul]
theorem IT:∀{l:Bb},QR l->Cx l<2^(32*l.length)
 | [],_=>by decide
 | x::l,h=>by have h1:=h x (AU ..);have h2:=IT (l:=l) (fun y hy=>h y (AJ _ hy));rw[Cx,zt,Kj];omega
theorem Ol:∀{l:Bb},QR l->digits l.length (Cx l)=l
 | [],_=>rfl
 | x::l,h=>by
   have h1:=h x (AU ..);have h2:=Ol (l:=l) (fun y hy=>h y (AJ _ hy));rw[Cx,zt,digits];have e1:(x.toNat+4294967296*Cx l)%4294967296=x.toNat:=by omega
   have e2:(x.toNat+4294967296*Cx l) / 4294967296=Cx l:=by omega
   rw[e1,e2,h2];congr 1;omega
theorem Jd(n:Nat):n<2^(32*D3 n):=by
 unfold D3;by_cases h:n=0
 ·rw[Az h,h]; decide
 ·rw[Ay h];exact AP yi (Aq (by decide) (by omega))
theorem JB{n k:Nat}(h:n<2^(32*k)):D3 n<=k:=by
 unfold D3;by_cases h0:n=0
 ·rw[Az h0]; exact zF _
 ·rw[Ay h0];have:=(AV h0).2 h;omega
theorem AjU{n k:Nat}(h:2^(32*k)<=n):k+1<=D3 n:=by have hp:=Cs (32*k);unfold D3;rw[Ay (by omega)];have:=(zP (by omega)).2 h;omega
theorem KL{n m:Nat}(h:n<=m):D3 n<=D3 m:=JB (AG h (Jd m))
theorem P9(n:Nat):Cx (N3 n)=n:=by unfold N3;rw[I9,Ao (Jd n)]
theorem Gg(n:Nat):(N3 n).length=D3 n:=Ed _ _
theorem Zq(n:Nat):QR (N3 n):=KO _ _
theorem UN:∀(k v i:Nat),i<k->(digits k v).getD i 0=((v / 2^(32*i)%4294967296:Nat):Int)
 | k+1,v,0,_=>by rw[digits,List.getD_cons_zero,yj,AB,yO]
 | k+1,v,i+1,h=>by rw[digits,List.getD_cons_succ,UN k _ i (by omega),Kj,A6]
theorem LO{l:Bb}(h:QR l)(i:Nat):l.getD i 0=((Cx l / 2^(32*i)%4294967296:Nat):Int):=by
 by_cases hi:i<l.length
 ·have:=UN l.length (Cx l) i hi;rw[Ol h] at this;exact this
 ·have h1:=IT h;have h2:2^(32*l.length)<=2^(32*i):=Aq (by decide) (by omega);rw[z8 (by omega),Al,AY (by omega)];rfl
theorem GQ{l:Bb}(h:QR l)(i:Nat):GB l (i:Int)=((Cx l / 2^(32*i)%4294967296:Nat):Int):=by unfold GB;rw[Az (by omega),Ad,LO h]
theorem IN:∀(k v:Nat),digits (k+1) v=digits k v++[((v / 2^(32*k)%4294967296:Nat):Int)]
 | 0,v=>by rw[digits,digits,digits,yj,AB,yO]; rfl
 | k+1,v=>by rw[digits,IN k,Kj,<- A6];rfl
theorem S6:∀(j k v:Nat),j<=k->(digits k v).take j=digits j v
 | 0,_,_,_=>by rw[List.take_zero,digits]
 | j+1,k+1,v,h=>by rw[digits,List.take_succ_cons,S6 j k _ (by omega),digits]
theorem Abl{l:Bb}(h:QR l):l.take (D3 (Cx l))=N3 (Cx l):=by have h1:=S6 (D3 (Cx l)) l.length (Cx l) (JB (IT h));rw[Ol h] at h1;exact h1
theorem Iq{n:Nat}(h:n≠0):0<D3 n:=by unfold D3; rw[Ay h]; omega
theorem EE(v:Int):wv (BB v) (Bn v)=v:=by
 unfold wv BB Bn FX;rw[P9];by_cases h:v<0
 ·rw[Ac h,Az rfl]; omega
 ·rw[Ag h,Ay (by decide)]; omega
theorem IW{l:Bb}(h:l.length<1073741824)(hi:QR l):Hk l=wg:=Bt.2 ⟨h,hi⟩
theorem IX{l:Bb}(h:Hk l=wg):l.length<1073741824/\QR l:=Bt.1 h
theorem UR(v:Int):Bn v=N3 (Cx (Bn v))/\(BB v=wg->Bn v≠[]):=by unfold Bn;rw[P9];refine⟨rfl,fun h e=>?_⟩;have h1:v<0:=A3 h;have h2:=Gg v.natAbs;rw[e] at h2;have:=Iq (n:=v.natAbs) (by omega);rw[<- h2] at this;exact absurd this (by decide)
theorem Hj{v:Int}(h:D3 v.natAbs<268435456):IS (BB v) (Bn v)=wg :=Bt.2 ⟨by unfold Bn; rw[Gg]; exact h,UR v⟩
theorem AaQ{v:Int}(h:D3 v.natAbs<134217728):Rr (BB v) (Bn v)=wg :=Bt.2 ⟨by unfold Bn; rw[Gg]; exact h,UR v⟩
theorem Sb{n:Bool}{l:Bb}(h1:l=N3 (Cx l))(h2:n=wg->l≠[]):n=BB (wv n l)/\l=Bn (wv n l):=by
 have e:(wv n l).natAbs=Cx l:=by unfold wv FX; split<;>omega
 refine⟨?_,by unfold Bn; rw[e]; exact h1⟩;unfold BB wv FX;cases n
 ·simp
 ·have h3:=h2 rfl
  have h4:Cx l≠0:=fun h=>by rw[h] at h1;exact h3 h1
  simp; omega
theorem Iy{n:Bool}{l:Bb}(h:IS n l=wg):∃v,n=BB v/\l=Bn v/\D3 v.natAbs<268435456:=by obtain⟨h0,h1,h2⟩:=Bt.1 h;obtain⟨e1,e2⟩:=Sb h1 h2;refine⟨_,e1,e2,?_⟩;have:=congrArg vA e2;unfold Bn at this;rw[Gg] at this;omega
theorem MT{n:Bool}{l:Bb}(h:Rr n l=wg):∃v,n=BB v/\l=Bn v/\D3 v.natAbs<134217728:=by obtain⟨h0,h1,h2⟩:=Bt.1 h;obtain⟨e1,e2⟩:=Sb h1 h2;refine⟨_,e1,e2,?_⟩;have:=congrArg vA e2;unfold Bn at this;rw[Gg] at this;omega
theorem Mu{v:Int}(h:D3 v.natAbs<1073741824):Hk (Bn v)=wg :=IW (by unfold Bn; rw[Gg]; exact h) (Zq _)
theorem DS(v:Int):Cx (Bn v)=v.natAbs:=P9 _
theorem CD(v:Int):(Bn v).length=D3 v.natAbs:=Gg _
theorem AkX(n:Bool)(l:Bb):wv (!n) l=- wv n l:=by unfold wv FX;cases n<;>simp
theorem VP{a b:Bb}(ha:QR a)(hb:QR b):Cx (IH a b)=Cx a+Cx b:=by unfold IH;rw[I9,Ao];have h1:=IT ha;have h2:=IT hb;have h3:2^(32*a.length)<=2^(32*max a.length b.length):=Aq (by decide) (by omega);have h4:2^(32*b.length)<=2^(32*max a.length b.length):=Aq (by decide) (by omega);rw[Kj];omega
theorem ML(a b:Bb):(IH a b).length=max a.length b.length+1:=Ed _ _
theorem TO(a b:Bb):QR (IH a b):=KO _ _
theorem Abc{a:Bb}(b:Bb)(ha:QR a):Cx (H3 a b)=Cx a-Cx b:=by unfold H3;rw[I9,Ao];have h1:=IT ha;omega
theorem Pw(a b:Bb):(H3 a b).length=a.length:=Ed _ _
theorem Wb(a b:Bb):QR (H3 a b):=KO _ _
theorem Kz(v:Int)(j:Nat):(Jq v j).natAbs=v.natAbs / 2^j:=by unfold Jq;generalize v.natAbs / 2^j=m;unfold FX; split<;>omega
theorem O9{v:Int}(h:v<0)(m:Nat):FX (BB v) m=-(m:Int):=by unfold FX BB; rw[Ac h,Az rfl]
theorem O8{v:Int}(h:¬v<0)(m:Nat):FX (BB v) m=(m:Int):=by unfold FX BB; rw[Ag h,Ay (by decide)]
theorem Xf(v:Int)(i j:Nat):Jq (Jq v i) j=Jq v (i+j):=by
 have e:v.natAbs / 2^(i+j)=v.natAbs / 2^i / 2^j:=by rw[A2,A6]
 have h1:=Kz v i;by_cases hv:v<0
 ·have h2:Jq v i=-((v.natAbs / 2^i:Nat):Int):=O9 hv _;rw[show Jq v (i+j)=-((v.natAbs / 2^(i+j):Nat):Int) from O9 hv _,e];by_cases h0:v.natAbs / 2^i=0
  ·rw[h2,h0];show Jq 0 j=_;rw[y5];show FX (BB 0) (0 / 2^j)=_;rw[y5]; rfl
  ·have h3:Jq v i<0:=by omega
   rw[show Jq (Jq v i) j=-(((Jq v i).natAbs / 2^j:Nat):Int) from O9 h3 _,h1]
 ·have h2:Jq v i=((v.natAbs / 2^i:Nat):Int):=O8 hv _;have h3:¬Jq v i<0:=by omega
  rw[show Jq (Jq v i) j=(((Jq v i).natAbs / 2^j:Nat):Int) from O8 h3 _,h1,show Jq v (i+j)=((v.natAbs / 2^(i+j):Nat):Int) from O8 hv _,e]
theorem YJ(v:Int):Jq v 0=v:=by
 unfold Jq FX BB;rw[AB,yO];by_cases h:v<0
 ·rw[Ac h,Az rfl]; omega
 ·rw[Ag h,Ay (by decide)]; omega
theorem O7(j:Nat):Jq 0 j=0:=by unfold Jq;rw[show(Int.natAbs 0)=0 from rfl,y5];rfl
theorem Ad3{l:Bb}(h:QR l):Cx (l.drop 1)=Cx l / 4294967296:=by
 cases l with
 | nil=>rfl
 | cons x l =>have:=h x (AU ..);show Cx l=_;rw[Cx]; omega
theorem Z3{l:Bb}(h:QR l):QR (l.drop 1):=fun x hx=>h x (List.mem_of_mem_drop hx)
theorem Z0{l:Bb}(h:QR l):QR ([(0:Int)]++l):=fun x hx=>by
 rcases zL.1 hx with rfl | hx
 ·omega
 ·exact h x hx
theorem Ahv(n:Nat):D3 (2*n)<=D3 n+1:=by refine JB ?_;have h:=Jd n;rw[Kj];omega
theorem AjT(n:Nat):D3 (n*4294967296)<=D3 n+1:=by refine JB ?_;have h:=Jd n;rw[Kj];omega
theorem Zl{n m:Nat}(h:2^m<=n):(n / 2^m).log2+m=n.log2:=by
 have hp:=Cs m;have h0:n≠0:=by omega
 have hm:m<=n.log2:=(zP h0).2 h
 have e:(n / 2^m).log2=n.log2-m:=by
  refine QJ ?_ ?_
  ·rw[yU hp,<- A2];exact AL (Aq (by decide) (by omega)) (zS h0)
  ·rw[yM hp,<- A2];exact AP yi (Aq (by decide) (by omega))
 omega
def N9(n:Nat):Nat:=if h:n=0\/n%2=1 then 0 else N9 (n / 2)+1
termination_by n
decreasing_by omega
def mD(v:Int):Int:=Jq v (N9 v.natAbs)
def eD(v e:Int):Int:=if v=0 then 0 else e+N9 v.natAbs
def D2(v e w f:Int):Int:=if v=0 then f else if w=0 then e else min e f
def AbR(v e w f:Int):Int:=Hv v (e-D2 v e w f)+Hv w (f-D2 v e w f)
def Ly(v e w f:Int):Int:=mD (AbR v e w f)
def Aag(v e w f:Int):Int:=eD (AbR v e w f) (D2 v e w f)
def Hy(v e:Int):Int:=if v=0 then 0 else Ut v+e
def Lv(v:Int):Int:=if v<0 then -1 else if v=0 then 0 else 1
def Rb(v e w f:Int):Int:=RV (Hv v (e-D2 v e w f)) (Hv w (f-D2 v e w f))
def PJ(e:Int):Bool:=CE (-2000000<=e/\e<=2000000)
def MU(e:Int):Bool:=CE (-400000<=e/\e<=400000)
def Aeh(v e f:Int):Bool:=CE (v=0\/(-1000000<=e-f/\e-f<=1000000))&&CE (-400000<=e/\e<=400000/\-1000000<=f/\f<=1000000)
theorem Aau{n:Nat}(h:n=0\/n%2=1):N9 n=0:=by rw[N9,dif_pos h]
theorem Acg{n:Nat}(h0:n≠0)(h:n%2=0):N9 n=N9 (n / 2)+1:=by rw[N9,dif_neg (by omega)]
theorem WM{n:Nat}(h:n≠0):∀k,N9 (n*2^k)=k+N9 n
 | 0=>by rw[AB,AN,AO]
 | k+1=>by
   have hp:=Cs k
   have h1:n*2^k≠0:=by intro e;rcases xr.1 e with e | e<;>omega
   have e:n*2^(k+1)=n*2^k*2:=by rw[zG,A4]
   rw[e,Acg (by omega) (by omega),x9 _ (by decide),WM h k];omega
theorem Acf(n:Nat)(h:n≠0):∃m,n=m*2^N9 n/\m%2=1:=by
 induction n using Nat.strongRecOn with
 | _ n ih =>
   by_cases h2:n%2=1
   ·refine⟨n,?_,h2⟩;rw[Aau (.inr h2),AB,AN]
   ·obtain⟨m,h3,h4⟩:=ih (n / 2) (by omega) (by omega);refine⟨m,?_,h4⟩;rw[Acg h (by omega),zG,<- A4,<- h3];omega
theorem AfB{n:Nat}(h:n≠0):N9 n<=n.log2:=by obtain⟨m,h1,h2⟩:=Acf n h;refine(zP h).2 ?_;have:1*2^N9 n<=m*2^N9 n:=An _ (by omega);omega
theorem We{n:Nat}:n.log2<32*D3 n+1:=by
 unfold D3;by_cases h:n=0
 ·rw[h]; decide
 ·rw[Ay h]; omega
theorem Abf{v:Int}{k:Nat}(h:v.natAbs%2^k=0):mD (Jq v k)=mD v:=by
 unfold mD;by_cases h0:v=0
 ·rw[h0,O7]
 ·have hp:=Cs k;have hv:=zK v.natAbs (2^k);rw[h,AM,A1] at hv
  have hq:v.natAbs / 2^k≠0:=by intro e; rw[e] at hv; omega
  have:=WM hq k;rw[hv] at this;rw[Kz,Xf,this]
theorem Ab7{v e:Int}{k:Nat}(h:v.natAbs%2^k=0)(h0:v≠0):eD (Jq v k) (e+k)=eD v e:=by
 unfold eD;have hp:=Cs k;have hv:=zK v.natAbs (2^k);rw[h,AM,A1] at hv
 have hq:v.natAbs / 2^k≠0:=by intro e; rw[e] at hv; omega
 have ht:=WM hq k;rw[hv] at ht;have ha:=Kz v k;rw[Ay h0,Ay (by omega),ha,ht];omega
theorem AlS{v:Int}(h:v%2=1):mD v=v:=by unfold mD;rw[Aau (.inr (by omega)),YJ]
theorem Amh{v:Int}(h:v%2=1)(e:Int):eD v e=e:=by unfold eD;rw[Aau (.inr (by omega)),Ay (by omega)];omega
theorem Acq(v:Int)(k:Nat):Jq (v*((2^k:Nat):Int)) k=v:=by
 have hp:=Cs k;unfold Jq;rw[yw,zX,x9 _ hp];by_cases h:v<0
 ·have h1:v*((2^k:Nat):Int)<0:=wQ h (by omega);rw[O9 h1]; omega
 ·have h1:¬v*((2^k:Nat):Int)<0:=by have:=x5 (show(0:Int)<=v by omega) (xu (2^k));omega
  rw[O8 h1]; omega
theorem QB(v:Int)(k:Nat):(v*((2^k:Nat):Int)).natAbs%2^k=0:=by rw[yw,zX,Nat.mul_mod_left]
theorem AlT(v:Int)(k:Nat):mD (v*((2^k:Nat):Int))=mD v:=by rw[<- Abf (QB v k),Acq]
theorem AaZ{v:Int}(h:v≠0)(k:Nat):v*((2^k:Nat):Int)≠0:=by
 have hp:=Cs k;intro e;rcases Int.mul_eq_zero.1 e with e | e
 ·exact h e
 ·omega
theorem Ami(v e:Int)(k:Nat):eD (v*((2^k:Nat):Int)) (e-k)=eD v e:=by
 by_cases h:v=0
 ·rw[h,yx]; rfl
 ·rw[<- Ab7 (QB v k) (AaZ h k),Acq];congr 1;omega
theorem QF(v:Int):v=mD v*((2^N9 v.natAbs:Nat):Int):=by
 by_cases h:v=0
 ·rw[h];show(0:Int)=Jq 0 _*_;rw[O7,yx]
 ·obtain⟨m,h1,h2⟩:=Acf v.natAbs (by omega);have hp:=Cs (N9 v.natAbs);have hq:v.natAbs / 2^N9 v.natAbs=m:=Nat.div_eq_of_eq_mul_left hp h1;unfold mD Jq;rw[hq];by_cases hv:v<0
  ·rw[O9 hv,xK,<- Ax,<- h1]; omega
  ·rw[O8 hv,<- Ax,<- h1]; omega
theorem Jc{v:Int}:mD v=0↔v=0:=by
 constructor
 ·intro h;have:=QF v;rw[h,yx] at this;exact this
 ·intro h;rw[h];exact O7 _
theorem RL(v:Int):(mD v).natAbs<=v.natAbs:=by unfold mD;rw[Kz];exact Nat.div_le_self _ _
def Tq(v e g:Int):Int:=v*((2^(e-g).toNat:Nat):Int)
theorem GW(e g:Int):Tq 0 e g=0:=yx _
theorem V3{v e g h:Int}(h1:h<=e)(h2:g<=h):Tq v e g=Tq v e h*((2^(h-g).toNat:Nat):Int):=by
 unfold Tq;rw[wc,<- Ax,<- A2];have:(e-h).toNat+(h-g).toNat=(e-g).toNat:=by omega
 rw[this]
theorem AbZ{S l g:Int}(h:g<=l):Tq (mD S) (eD S l) g=Tq S l g:=by
 by_cases h0:S=0
 ·rw[h0,Jc.2 rfl,GW,GW]
 ·have e:eD S l=l+N9 S.natAbs:=by unfold eD; rw[Ay h0]
  rw[e];unfold Tq;have e1:(l+(N9 S.natAbs:Int)-g).toNat=N9 S.natAbs+(l-g).toNat:=by omega
  rw[e1,A2,Ax,<- wc,<- QF]
theorem Xe{v e l:Int}(h:v≠0->l<=e):Hv v (e-l)=Tq v e l:=by
 by_cases h0:v=0
 ·rw[h0,GW];unfold Hv;split
  ·exact yx _
  ·exact O7 _
 ·unfold Hv Tq;rw[Az (by have:=h h0; omega)]
theorem Ahh{v e w f:Int}:(v≠0->D2 v e w f<=e)/\(w≠0->D2 v e w f<=f):=by
 unfold D2;constructor
 ·intro h;rw[Ay h];split<;>omega
 ·intro h;split
  ·omega
  ·omega
theorem AkU{v e g:Int}(h:g<=e)(h0:v≠0):g<=eD v e:=by unfold eD;rw[Ay h0];omega
theorem Aim(x y:Int)(k:Nat):RV (x*((2^k:Nat):Int)) (y*((2^k:Nat):Int))=RV x y:=by have hp:=Cs k;have h1:x*((2^k:Nat):Int)<y*((2^k:Nat):Int)↔x<y:=v9 (by omega);have h2:y*((2^k:Nat):Int)<x*((2^k:Nat):Int)↔y<x:=v9 (by omega);unfold RV;simp only[h1,h2]
theorem Adm{v e w f g:Int}(h1:v≠0->g<=e)(h2:w≠0->g<=f):Rb v e w f=RV (Tq v e g) (Tq w f g):=by
 obtain⟨l1,l2⟩:=Ahh (v:=v) (e:=e) (w:=w) (f:=f);unfold Rb;rw[Xe l1,Xe l2];by_cases h0:v=0/\w=0
 ·rw[h0.1,h0.2,GW,GW,GW,GW]
 ·have hg:g<=D2 v e w f:=by
   unfold D2;split
   ·rename_i hv;exact h2 (fun k=>h0 ⟨hv,k⟩)
   ·split
    ·exact h1 (by assumption)
    ·have:=h1 (by assumption); have:=h2 (by assumption); omega
  have e1:Tq v e g=Tq v e (D2 v e w f)*((2^(D2 v e w f-g).toNat:Nat):Int):=by
   by_cases h0:v=0
   ·rw[h0,GW,GW,yx]
   ·exact V3 (l1 h0) hg
  have e2:Tq w f g=Tq w f (D2 v e w f)*((2^(D2 v e w f-g).toNat:Nat):Int):=by
   by_cases h0:w=0
   ·rw[h0,GW,GW,yx]
   ·exact V3 (l2 h0) hg
  rw[e1,e2,Aim]
def Bg(l:Bb):Bool:=CE (∀x∈l,Bo x=wg)
def E8(x:Int):Int:=FX (BE x.toNat) (Bs x.toNat)
def Pq(n:Bool)(b:Int):Int:=if n then CM b else b
theorem P8(s:Bool){q:Nat}{L:Int}(hq:q<2^53)(hL:-1074<=L)(h:2^52<=q\/L=-1074)(hr:(L+1074).toNat*2^52+q<Dk):
 Bs (BG s ((L+1074).toNat*2^52+q))=q/\By (BG s ((L+1074).toNat*2^52+q))=L:=by
 rw[Eg] at hr;obtain⟨t,ht⟩:∃t:Nat,L=t-1074:=⟨(L+1074).toNat,by omega⟩
 have et:(L+1074).toNat=t:=by omega
 rw[et] at hr ⊢;have hp:=RA s (r:=t*2^52+q) (by omega);have hf:=PR s (t*2^52+q);unfold Bs By;by_cases h52:2^52<=q
 ·have e1:Dn (BG s (t*2^52+q))=t+1:=by rw[hp]; omega
  rw[e1,hf,Ay (by omega),Ay (by omega)];omega
 ·have t0:t=0:=by omega
  subst t0;have e1:Dn (BG s (0*2^52+q))=0:=by rw[hp]; omega
  rw[e1,hf,Az rfl,Az rfl];omega
theorem sign_neg(s:Bool){r:Nat}(h:r<2^63):BE (BG s r)=s:=by
 unfold BE BG;cases s
 ·simp only[ye,if_false,Av]; omega
 ·simp only[if_true,Ai]; omega
theorem PU(s:Bool){V:Nat}{E:Int}(h0:V≠0)(hE:Cl V E<=E)(hi:Cj V E<Dk):
 flagsOf V E=0/\∃k:Nat,Bs (BG s (Cj V E))=V*2^k/\By (BG s (Cj V E))=E-k:=by
 have hl2:V.log2=V.log2:=rfl
 have ek:kept V E=V*2^(E-Cl V E).toNat:=by
  unfold kept HR;have e1:(Cl V E-E).toNat=0:=by omega
  have e2:(-(Cl V E-E)).toNat=(E-Cl V E).toNat:=by omega
  rw[e1,e2,KJ]
 have eex:exact V E=wg:=by
  unfold exact KQ;have e1:(Cl V E-E).toNat=0:=by omega
  rw[e1,AB,xZ]; rfl
 constructor
 ·unfold flagsOf flags;rw[Ay h0,Ay (by omega),eex]; rfl
 ·have hr:Cj V E=(Cl V E+1074).toNat*2^52+kept V E:=by unfold Cj at hi ⊢;rw[Ay h0] at hi ⊢;omega
  have hk:kept V E<2^53:=by rw[ek,<- AV (GO h0),JP V _ h0];unfold Cl at hE ⊢;omega
  have hb:2^52<=kept V E\/Cl V E=-1074:=by
   by_cases h:Cl V E=-1074
   ·exact .inr h
   ·left;refine Tf h0 ?_;unfold Cl at h ⊢;omega
  rw[hr] at hi;obtain⟨p1,p2⟩:=P8 s hk (by unfold Cl; omega) hb hi;refine⟨(E-Cl V E).toNat,?_,?_⟩
  ·rw[hr,p1,ek]
  ·rw[hr,p2]; omega
theorem Oc{V:Nat}{E:Int}(h:V<2^53)(hE:-1074<=E):Cl V E<=E:=by
 by_cases h0:V=0
 ·subst h0; unfold Cl; rw[Nat.log2_zero]; omega
 ·have:=(AV h0).2 h;unfold Cl; omega
def EK(x:Int):Int:=if x=0 then 0 else (x.toNat.log2:Int)+1
def Pv(x y:Int):Int:=((x.toNat*y.toNat / 18446744073709551616:Nat):Int)
def LJ(x y:Int):Int:=((x.toNat*y.toNat%18446744073709551616:Nat):Int)
def AgS(a b:Int):Bool:=decide (B8 a=4)||decide (B8 b=4)
def C1(b:Nat):Nat:=52-(Bs b).log2
def Dj(b:Int):Int:=((Bs b.toNat*2^C1 b.toNat:Nat):Int)
def GK(b:Int):Int:=By b.toNat-C1 b.toNat
def K3(b:Int):Bool:=CE (Bs b.toNat≠0)
def MG(m e:Int):Bool:=CE (1152921504606846976<=m/\m<4611686018427387904/\-6000<=e/\e<=6000)
def CN(a b:Int):Int:=(EA a.toNat b.toNat).1
def An1(a b:Int):Int:=(EA a.toNat b.toNat).2
def El(a b:Int):Int:=(JW a.toNat b.toNat).1
def AnD(a b:Int):Int:=(JW a.toNat b.toNat).2
def Ah6(x:Int):Bool:=CE (0<=x/\x<4294967296)
def singleL(l:Bb)(x:Int):Bb:=digits (l.length+1) (Cx l*x.toNat)
def okM(n:Bool)(l:Bb):Bool:=CE (l.length<33554432/\l=N3 (Cx l)/\(n=wg->l≠[]))
theorem Si(a b:Nat):Em a b=Em b a:=by
 unfold Em;by_cases ha:Bj a=4
 ·simp only[ha,true_or,or_true,if_true]
 ·by_cases hb:Bj b=4
  ·simp only[hb,true_or,or_true,if_true]
  ·simp only[ha,hb,or_self,if_false];by_cases ha3:Bj a=3
   ·by_cases hb3:Bj b=3
    ·simp only[ha3,hb3,if_true,true_and];by_cases e:a=b
     ·subst e; rfl
     ·rw[Az e,Az (fun h=>e h.symm)]
    ·simp only[ha3,hb3,if_true,if_false,false_and]
   ·by_cases hb3:Bj b=3
    ·simp only[ha3,hb3,if_true,if_false,false_and]
    ·simp only[ha3,hb3,if_false];rw[Bool.and_comm,Int.min_comm,Int.add_comm]
theorem YS{Y D:Nat}(h:Y%2^D=0):F7 Y D=Y / 2^D:=by unfold F7; rw[Az h]
theorem AaJ{Y D:Nat}(h:Y%2^D≠0):F7 Y D%2=1:=by unfold F7; rw[Ay h]; omega
theorem YT{Y d:Nat}(hY:Y<2^62)(h:Y%2^d≠0):(F7 Y (min d 63)-1)*2^d<Y/\Y<(F7 Y (min d 63)+1)*2^d/\F7 Y (min d 63)%2=1:=by
 have hA:=Cs d;by_cases hd:d<=63
 ·rw[ym hd];refine⟨?_,?_,AaJ h⟩
  all_goals
   unfold F7;rw[Ay h];have h1:=zK Y (2^d);have h2:=zv Y hA;generalize Y / 2^d=q at *
   generalize Y%2^d=r at *
   generalize 2^d=c at *
   rw[A1] at h1
  ·have h3:(2*(q / 2)+1-1)*c<=q*c:=An c (by omega);omega
  ·have h3:(q+1)*c<=(2*(q / 2)+1+1)*c:=An c (by omega);rw[AI,zA] at h3;omega
 ·rw[xH (by omega)];have h63:Y%2^63=Y:=Ao (by omega);have hd0:Y / 2^63=0:=z8 (by omega);have hY0:Y≠0:=by intro e; rw[e] at h; simp at h
  have hr:F7 Y 63=1:=by unfold F7; rw[h63,Ay hY0,hd0]
  have hp:2^62<=2^d:=Aq (by decide) (by omega);rw[hr];refine⟨by simp; omega,by omega,rfl⟩
theorem AoG{d M:Nat}(h:(M*2^9)%2^d≠0):10<=d:=by
 refine Nat.lt_of_not_le fun hle=>h ?_
 obtain⟨k,hk⟩:∃k,9=d+k:=⟨9-d,by omega⟩
 rw[hk,A2,A1 (2^d),<- A4,Nat.mul_mod_left]
theorem MF{V m d:Nat}{e f:Int}(hd:e=f+d)(h:V=m*2^d\/(m%2=1/\(m-1)*2^d<V/\V<(m+1)*2^d/\2^60<=m)):
 Cj m (e-9)=Cj V (f-9)/\flagsOf m (e-9)=flagsOf V (f-9):=by
 rcases h with rfl | ⟨h1,h2,h3,h4⟩
 ·have:=CZ m d (e-9);have e1:e-9-(d:Int)=f-9:=by omega
  rw[e1] at this;exact⟨this.1.symm,this.2.symm⟩
 ·have hm0:m≠0:=by omega
  have hlog:=Ob h1 (by omega) h2 h3;have hl60:60<=m.log2:=(zP hm0).2 h4;have e1:f-9+(d:Int)=e-9:=by omega
  have hle:Cl V (f-9)=Cl m (f-9+d):=by unfold Cl; rw[hlog]; congr 1; omega
  have hk:f-9+d+2<=Cl m (f-9+d):=by unfold Cl; omega
  obtain⟨a1,a2⟩:=NP h1 h2 h3 hle hk;rw[e1] at a1 a2;exact⟨a1.symm,a2.symm⟩
theorem Aa9(V:Nat)(f:Int):Cj (V*2^9) (f-9)=Cj V f/\flagsOf (V*2^9) (f-9)=flagsOf V f:=CZ V 9 f
structure AkC(Mx My d:Nat)(e f:Int)(X r:Nat):Prop where
 plus:Cj (X+r) (e-9)=Cj (Mx*2^d+My) f/\flagsOf (X+r) (e-9)=flagsOf (Mx*2^d+My) f
 less:r<X->My<Mx*2^d/\Cj (X-r) (e-9)=Cj (Mx*2^d-My) f/\flagsOf (X-r) (e-9)=flagsOf (Mx*2^d-My) f
 Ja:X<r->Mx*2^d<My/\Cj (r-X) (e-9)=Cj (My-Mx*2^d) f/\flagsOf (r-X) (e-9)=flagsOf (My-Mx*2^d) f
 same:X=r->Mx*2^d=My
 small:r<=2^62
theorem Ak8{X My r d p:Nat}{e f:Int}(hd:e=f+d)(comm:X*2^d=p*2^9)(n1:(r-1)*2^d<My*2^9)(n2:My*2^9<r*2^d+2^d)(n3:r%2=1)(hX2:X%2=0)(hX:2^61<=X)(hr:r<=2^53):
 (Cj (X+r) (e-9)=Cj (p+My) f/\flagsOf (X+r) (e-9)=flagsOf (p+My) f)/\My<p/\Cj (X-r) (e-9)=Cj (p-My) f/\flagsOf (X-r) (e-9)=flagsOf (p-My) f:=by
 have e1:(r-1)*2^d+2^d=r*2^d:=by
  obtain⟨k,rfl⟩:∃k,r=k+1:=⟨r-1,by omega⟩
  rw[yC,AI,zA]
 have e2:(r+1)*2^d=r*2^d+2^d:=by rw[AI,zA]
 have hXd:(r+1)*2^d<=X*2^d:=An _ (by omega);have hlt:My<p:=by rw[e2,comm] at hXd; omega
 have a1:Cj (X+r) (e-9)=Cj ((p+My)*2^9) (f-9)/\flagsOf (X+r) (e-9)=flagsOf ((p+My)*2^9) (f-9):=by
  refine MF hd (.inr ⟨by omega,?_,?_,by omega⟩)
  ·have h1:X+r-1=X+(r-1):=by omega
   rw[h1,AI X (r-1) (2^d),AI p My (2^9),comm];exact ua n1 _
  ·have h1:X+r+1=X+(r+1):=by omega
   rw[h1,AI X (r+1) (2^d),AI p My (2^9),comm,e2];exact ua n2 _
 have a2:Cj (X-r) (e-9)=Cj ((p-My)*2^9) (f-9)/\flagsOf (X-r) (e-9)=flagsOf ((p-My)*2^9) (f-9):=by
  rw[e2,comm] at hXd;refine MF hd (.inr ⟨by omega,?_,?_,by omega⟩)
  ·have h1:X-r-1=X-(r+1):=by omega
   rw[h1,yk X (r+1) (2^d),yk p My (2^9),comm,e2];omega
  ·have h1:X-r+1=X-(r-1):=by omega
   rw[h1,yk X (r-1) (2^d),yk p My (2^9),comm];omega
 rw[(Aa9 _ f).1,(Aa9 _ f).2] at a1 a2;exact⟨a1,hlt,a2⟩
theorem Aad{Mx My d:Nat}{e f:Int}(hd:e=f+d)(hx:Mx<2^53)(hy:My<2^53)(hbig:10<=d->2^52<=Mx):
 AkC Mx My d e f (Mx*2^9) (F7 (My*2^9) (min d 63)):=by
 have hA:=Cs d;have hY:My*2^9<2^62:=by omega
 have comm:Mx*2^9*2^d=Mx*2^d*2^9:=by rw[A4,A1 (2^9),<- A4]
 have s9:=fun V=>Aa9 V f
 by_cases hz:(My*2^9)%2^d=0
 ·
  have hr:∃r,F7 (My*2^9) (min d 63)=r/\My*2^9=r*2^d:=by
   by_cases hd63:d<=63
   ·rw[ym hd63];exact⟨_,rfl,by rw[YS hz]; exact(Nat.div_mul_cancel (vY hz)).symm⟩
   ·have hp:2^62<=2^d:=Aq (by decide) (by omega);have:My*2^9=0:=by rw[Ao (by omega)] at hz; exact hz
    rw[xH (by omega),this];exact⟨0,by decide,by omega⟩
  obtain⟨r,hr,hYr⟩:=hr;rw[hr]
  have hle:r<=2^62:=by have:r*1<=r*2^d:=yg r hA;omega
  have cmp:∀x y:Nat,x*2^d<y*2^d↔x<y:=fun x y=>xt hA
  refine⟨?_,fun h=>?_,fun h=>?_,fun h=>?_,hle⟩
  ·rw[<- (s9 _).1,<- (s9 _).2];exact MF hd (.inl (by rw[AI (Mx*2^d) My (2^9),AI (Mx*2^9) r (2^d),comm,hYr]))
  ·have h1:=(cmp r (Mx*2^9)).2 h;refine⟨by omega,?_⟩;rw[<- (s9 _).1,<- (s9 _).2];exact MF hd (.inl (by first | rw[yk (Mx*2^d) My (2^9),yk (Mx*2^9) r (2^d),comm,hYr] | rw[yk My (Mx*2^d) (2^9),yk r (Mx*2^9) (2^d),comm,hYr]))
  ·have h1:=(cmp (Mx*2^9) r).2 h;refine⟨by omega,?_⟩;rw[<- (s9 _).1,<- (s9 _).2];exact MF hd (.inl (by first | rw[yk (Mx*2^d) My (2^9),yk (Mx*2^9) r (2^d),comm,hYr] | rw[yk My (Mx*2^d) (2^9),yk r (Mx*2^9) (2^d),comm,hYr]))
  ·rw[<- h] at hYr;omega
 ·
  have hd10:=AoG hz;have hMx:=hbig hd10;obtain⟨n1,n2,n3⟩:=YT hY hz
  have hrle:F7 (My*2^9) (min d 63)<=2^53:=by
   refine Nat.le_of_not_lt fun h=>?_
   have h1:2^53*2^d<=(F7 (My*2^9) (min d 63)-1)*2^d:=An _ (by omega);have h2:2^10<=2^d:=Aq (by decide) hd10;have h3:2^53*2^10<=2^53*2^d:=yg _ h2;omega
  generalize F7 (My*2^9) (min d 63)=r at *
  have hr1:1<=r:=by omega
  have e1:(r-1)*2^d+2^d=r*2^d:=by
   obtain⟨k,rfl⟩:∃k,r=k+1:=⟨r-1,by omega⟩
   rw[yC,AI,zA]
  have e2:(r+1)*2^d=r*2^d+2^d:=by rw[AI,zA]
  rw[e2] at n2;have hXr:r<Mx*2^9:=by omega
  have hXd:(r+1)*2^d<=Mx*2^9*2^d:=An _ (by omega);rw[e2,comm] at hXd;obtain⟨p1,p2,p3⟩:=Ak8 hd comm n1 n2 n3 (by omega) (by omega) hrle;exact⟨p1,fun _=>⟨p2,p3⟩,fun h=>by omega,fun h=>by omega,by omega⟩
theorem Sw(n:Bool)(m:Nat)(e:Int):FY n m e wy=(BG n (Cj m e),flagsOf m e):=by
 unfold FY;have:=CZ m 2 e;have e1:m*2^2=4*m+false.toNat:=by simp; omega
 have e2:e-((2:Nat):Int)=e-2:=by omega
 rw[e1,e2] at this;rw[this.1,this.2]
theorem Ju(E:Int):Cj 0 E=0:=Az rfl
theorem Nc(E:Int):flagsOf 0 E=0:=Az rfl
theorem F2{b:Nat}(h:F9 b=wg):Bj b≠4/\Bj b≠3:=by
 unfold F9 at h;simp only[Ai] at h;unfold Bj;rw[Ay (by omega)];split
 ·omega
 ·split<;>omega
theorem VS{b:Nat}(h:-1064<=By b):2^52<=Bs b:=by
 unfold By at h;unfold Bs;split at h
 ·omega
 ·rw[Ay (by assumption)]; omega
theorem MJ(z:Nat)(s:Bool){V:Nat}(hV:V≠0)(f:Int):HV z (FX s V) f=(BG s (Cj V f),flagsOf V f):=by
 unfold HV FX;cases s
 ·have h1:¬(V:Int)=0:=by omega
  have h2:¬(V:Int)<0:=by omega
  simp only[ye,if_false,h1,h2,decide_false,zX]
 ·have h1:¬-(V:Int)=0:=by omega
  have h2:-(V:Int)<0:=by omega
  simp only[if_true,h1,if_false,h2,decide_true,Int.natAbs_neg,zX]
theorem AkA{p q X r:Nat}{e f:Int}(s t:Bool)
 (plus:Cj (X+r) e=Cj (p+q) f/\flagsOf (X+r) e=flagsOf (p+q) f)
 (less:r<X->q<p/\Cj (X-r) e=Cj (p-q) f/\flagsOf (X-r) e=flagsOf (p-q) f)
 (Ja:X<r->p<q/\Cj (r-X) e=Cj (q-p) f/\flagsOf (r-X) e=flagsOf (q-p) f)
 (same:X=r->p=q):
 HV (BG (s&&t) 0) (FX s p+FX t q) f=(if s=t then FY s (X+r) e wy
  else if r<X then FY s (X-r) e wy
  else if X<r then FY t (r-X) e wy
  else (0,0)):=by
 simp only[Sw];by_cases hs:s=t
 ·rw[Az hs,<- hs];have hsum:FX s p+FX s q=FX s (p+q):=by unfold FX; cases s<;>simp<;>omega
  rw[hsum,plus.1,plus.2];by_cases h0:p+q=0
  ·rw[h0,Ju,Nc];unfold HV;have:FX s 0=0:=by unfold FX; cases s<;>rfl
   rw[Az this,Ah]
  ·exact MJ _ _ h0 _
 ·rw[Ay hs];by_cases h1:r<X
  ·obtain⟨c1,c2,c3⟩:=less h1;rw[Az h1,c2,c3]
   have hsum:FX s p+FX t q=FX s (p-q):=by unfold FX; cases s<;>cases t<;>simp at hs ⊢<;>omega
   rw[hsum];exact MJ _ _ (by omega) _
  ·rw[Ay h1];by_cases h2:X<r
   ·obtain⟨c1,c2,c3⟩:=Ja h2;rw[Az h2,c2,c3]
    have hsum:FX s p+FX t q=FX t (q-p):=by unfold FX; cases s<;>cases t<;>simp at hs ⊢<;>omega
    rw[hsum];exact MJ _ _ (by omega) _
   ·rw[Ay h2];have c:=same (by omega)
    have hsum:FX s p+FX t q=0:=by unfold FX; cases s<;>cases t<;>simp at hs ⊢<;>omega
    have hz:(s&&t)=wy:=by cases s<;>cases t<;>simp at hs ⊢
    rw[hsum,hz];rfl
theorem Ai0{a b:Nat}(ha:F9 a=wg)(hb:F9 b=wg):
 Em a b=HV (BG (BE a&&BE b) 0) (DT a (min (By a) (By b))+DT b (min (By a) (By b))) (min (By a) (By b)):=by
 have k1:=F2 ha;have k2:=F2 hb;unfold Em;rw[Ay (fun h=>h.elim k1.1 k2.1),Ay k1.2,Ay k2.2]
theorem Aap(b:Nat):DT b (By b)=FX (BE b) (Bs b):=by unfold DT; rw[Int.sub_self,Int.toNat_zero,AB,AN]
theorem Af0{b:Nat}{f:Int}{d:Nat}(h:By b=f+d):DT b f=FX (BE b) (Bs b*2^d):=by
 unfold DT;have:(By b-f).toNat=d:=by omega
 rw[this]
theorem Aac{a b:Nat}(ha:F9 a=wg)(hb:F9 b=wg){d:Nat}(hd:By a=By b+d):
 Em a b=(if BE a=BE b then FY (BE a) (Bs a*2^9+F7 (Bs b*2^9) (min d 63)) (By a-9) wy
  else if F7 (Bs b*2^9) (min d 63)<Bs a*2^9 then FY (BE a) (Bs a*2^9-F7 (Bs b*2^9) (min d 63)) (By a-9) wy
  else if Bs a*2^9<F7 (Bs b*2^9) (min d 63) then FY (BE b) (F7 (Bs b*2^9) (min d 63)-Bs a*2^9) (By a-9) wy
  else (0,0)):=by
 have hx:=E1 a;have hy:=E1 b;have C:=Aad (Mx:=Bs a) (My:=Bs b) hd hx hy (fun h=>VS (by have:=C4 b; omega));rw[Ai0 ha hb,Int.min_eq_right (by omega),Aap,Af0 hd];exact AkA _ _ C.plus C.less C.Ja C.same
theorem OL{b:Nat}(h:b<2^64):D5 b<2^64:=by unfold D5; split<;>omega
theorem Aby(m:Nat)(e:Int):flagsOf m e<32:=by
 unfold flagsOf flags;split
 ·decide
 ·split
  ·decide
  ·split
   ·decide
   ·split<;>decide
theorem Nw{a b:Nat}(ha:a<2^64)(hb:b<2^64):(Em a b).1<2^64/\(Em a b).2<32:=by
 unfold Em;split
 ·exact⟨by decide,by decide⟩
 ·split
  ·split
   ·decide
   ·exact⟨ha,(by decide:0<32)⟩
  ·split
   ·exact⟨hb,(by decide:0<32)⟩
   ·unfold HV;split
    ·refine⟨?_,(by decide:0<32)⟩;unfold BG; split<;>decide
    ·exact⟨Qr _ _ _,Aby _ _⟩
def Cg(r c:Nat)(f:Nat->Nat->Int):Bb:=(zg (r*c)).map fun j=>f (j / c) (j%c)
theorem Ca(r c:Nat)(f:Nat->Nat->Int):(Cg r c f).length=r*c:=by unfold Cg; rw[AK,AH]
theorem HJ{r c i k:Nat}(hi:i<r)(hk:k<c):i*c+k<r*c:=by have:(i+1)*c<=r*c:=An c hi;rw[AI,zA] at this;omega
theorem RC{c i k:Nat}(hk:k<c):(i*c+k) / c=i/\(i*c+k)%c=k:=by
 constructor
 ·rw[A1,Nat.mul_add_div (by omega),z8 hk,AM]
 ·rw[A1,Nat.mul_add_mod,Ao hk]
theorem Hi{r c:Nat}{f:Nat->Nat->Int}{j:Nat}(h:j<r*c):(Cg r c f)[j]?=xM (f (j / c) (j%c)):=by unfold Cg;rw[AW,List.getElem?_range h];rfl
theorem Z5{r c i k:Nat}{f:Nat->Nat->Int}(hi:i<r)(hk:k<c):(Cg r c f).getD (i*c+k) 0=f i k:=by obtain⟨d1,d2⟩:=RC (i:=i) hk;rw[Al,Hi (HJ hi hk),d1,d2];rfl
theorem QK{l m:Bb}(h:l.length=m.length)(he:∀j,j<l.length->l[j]?=m[j]?):l=m:=by
 refine List.ext_getElem? fun j=>?_
 by_cases hj:j<l.length
 ·exact he j hj
 ·rw[AY (by omega),AY (by omega)]
theorem Dv{r c:Nat}{f g:Nat->Nat->Int}(h:∀i k,i<r->k<c->f i k=g i k):Cg r c f=Cg r c g:=by
 refine QK (by rw[Ca,Ca]) fun j hj=>?_
 rw[Ca] at hj
 have hc:0<c:=by
  rcases yv c with h0 | h0
  ·subst h0; rw[yj] at hj; omega
  ·exact h0
 rw[Hi hj,Hi hj,h (j / c) (j%c) ((yM hc).2 hj) (zv _ hc)]
theorem AeH{r c:Nat}{l:Bb}(h:l.length=r*c):l=Cg r c fun i k=>l.getD (i*c+k) 0:=by
 refine QK (by rw[Ca,h]) fun j hj=>?_
 rw[Hi (by omega)];have e:j / c*c+j%c=j:=by rw[A1]; exact zK j c
 rw[e,Al,As hj];rfl
theorem QS{r c i k:Nat}{f:Nat->Nat->Int}(hk:k<c)(x:Int):
 (Cg r c f).set (i*c+k) x=Cg r c fun a b=>if a=i/\b=k then x else f a b:=by
 refine QK (by rw[xo,Ca,Ca]) fun j hj=>?_
 rw[xo,Ca] at hj;obtain⟨d1,d2⟩:=RC (i:=i) hk;rw[Hi hj,List.getElem?_set];by_cases h:i*c+k=j
 ·subst h;rw[Az rfl,Az (by rw[Ca]; exact hj),d1,d2,Az ⟨rfl,rfl⟩]
 ·rw[Ay h,Hi hj,Ay]
  rintro ⟨h1,h2⟩
  exact h (by rw[<- h1,<- h2,A1]; exact zK j c)
theorem J1(r c:Nat)(f:Nat->Nat->Int):Cg (r+1) c f=Cg r c f++(zg c).map (f r):=by
 unfold Cg;rw[AI,zA,List.range_add,yS,List.map_map];congr 1;refine List.map_congr_left fun k hk=>?_
 have hk:=List.mem_range.1 hk;obtain⟨d1,d2⟩:=RC (i:=r) hk;show f ((r*c+k) / c) ((r*c+k)%c)=f r k;rw[d1,d2]
theorem J0(c:Nat)(f:Nat->Nat->Int):Cg 0 c f=[]:=by unfold Cg; rw[zI]; rfl
theorem GY(k:Nat)(g:Nat->Int):(zg (k+1)).map g=(zg k).map g++[g k]:=by rw[List.range_succ,yS]; rfl
theorem U5(r c:Nat):Cg r c (fun _ _=>0)=List.replicate (r*c) 0:=by unfold Cg;rw[List.map_const',AH]
def J4:Nat->Bb->Bb->Nat
 | s,x::xs,y::ys=>J4 (Em s (EA x.toNat y.toNat).1).1 xs ys
 | s,_,_=>s
def Fu(x y:Bb):Int:=J4 0 x y
theorem LI{a b:Nat}:(EA a b).1<2^64:=by
 unfold EA;split
 ·decide
 ·split
  ·split
   ·decide
   ·unfold BG; split<;>decide
  ·exact Qr _ _ _
theorem XY:∀(x y:Bb) (s:Nat),s<2^64->J4 s x y<2^64
 | x::xs,y::ys,s,h=>XY xs ys _ (Nw h LI).1
 | [],_,_,h=>by unfold J4; exact h
 | _::_,[],_,h=>by unfold J4; exact h
theorem Wu:∀(x y:Bb) (s:Nat),J4 s x y=J4 s y x
 | x::xs,y::ys,s=>by show J4 _ xs ys=J4 _ ys xs;rw[Mw,Wu xs ys]
 | [],[],_=>rfl
 | [],_::_,_=>rfl
 | _::_,[],_=>rfl
theorem AeU(x y:Bb):Fu x y=Fu y x:=congrArg (fun n:Nat=>(n:Int)) (Wu x y 0)
def Ce(n:Int):Bool:=decide (0<=n)&&decide (n<=6)
def B5(r c:Int)(l:Bb):Bool:=(Ce r&&Ce c)&&decide ((l.length:Int)=r*c)
def Ki(r c:Int)(l:Bb):Int:=if B5 r c l=wg then 0 else 1
def Ru(r c:Int)(l:Bb)(p q:Int)(m:Bb):Int:=if (B5 r c l&&B5 p q m)=wg then 0 else 1
def Db(_r c:Int)(l:Bb)(i k:Int):Bool:=CE (0<=i/\i<10/\0<=k/\k<10/\0<=c/\c<10/\i*c+k<l.length/\l.length<1000)
def Cc(c:Int)(l:Bb)(i k:Int):Int:=l.getD (i*c+k).toNat 0
def Hc(i k:Int):Int:=if i=k then 4607182418800017408 else 0
def Tz(x y i k:Int):Bool:=CE (0<=x/\x<10/\0<=y/\y<10/\0<=i/\i<10/\0<=k/\k<10)
def GI(r c x y a b:Int):Bool:=decide (0<=x/\0<=y/\0<=a/\0<=b/\x<=r/\y<=c/\a<=r-x/\b<=c-y)
def Ml(r c:Int)(l:Bb)(p q:Int)(m:Bb)(i k:Int):Bool:=CE (0<=r/\r<10/\0<=i/\i<20/\(if i<r then Db r c l i k=wg else Db p q m (i-r) k=wg))
def HT(r c:Int)(l:Bb)(q:Int)(m:Bb)(i k:Int):Int:=if i<r then Cc c l i k else Cc q m (i-r) k
def KY(r c:Int)(l:Bb)(i:Int):Bool:=B5 r c l&&CE (0<=i/\i<r)
def EM(r c:Int)(l:Bb)(k:Int):Bool:=B5 r c l&&CE (0<=k/\k<c)
def RI(r c:Int)(l:Bb)(p q:Int)(m:Bb)(i k:Int):Bool:=(KY r c l i&&EM p q m k)&&((Bg l&&Bg m)&&CE (c=p))
def Ee(c:Int)(l:Bb)(i:Int):Bb:=List.drop (i*c).toNat (List.take ((i+1)*c).toNat l)
def Hw(r c:Int)(l:Bb)(k:Int):Bb:=(zg r.toNat).map fun j:Nat=>Cc c l (j:Int) k
abbrev MX:=Int × Int × Bb × Int
def Gv(e:Int):MX:=(0,0,[],e)
def Ng(n:Int):MX:=if Ce n=wg then (n,n,Cg n.toNat n.toNat fun i k=>Hc i k,0) else Gv 3
def CG(r c:Int)(l:Bb):MX:=if B5 r c l=wg then (c,r,Cg c.toNat r.toNat fun i k=>Cc c l k i,0) else Gv 1
def EW(r c:Int)(l:Bb)(x y a b:Int):MX :=if B5 r c l=wg then (if GI r c x y a b=wg then (a,b,Cg a.toNat b.toNat fun i k=>Cc c l (x+i) (y+k),0) else Gv 3) else Gv 1
def E6(r c:Int)(l:Bb)(p q:Int)(m:Bb):MX :=if (B5 r c l&&B5 p q m)=wg then (if c=p then (r,q,Cg r.toNat q.toNat fun i k=>Fu (Ee c l i) (Hw p q m k),0) else Gv 3) else Gv 1
def IV(r c:Int)(l:Bb)(p q:Int)(m:Bb):MX :=if (B5 r c l&&B5 p q m)=wg then (if r=p/\c=q then (r,c,Cg r.toNat c.toNat fun i k=>CA (Cc c l i k) (Cc q m i k),0) else Gv 3) else Gv 1
def C6(r c:Int)(l:Bb)(p q:Int)(m:Bb):MX :=if (B5 r c l&&B5 p q m)=wg then (if c=q/\r+p<=6 then (r+p,c,Cg (r+p).toNat c.toNat fun i k=>HT r c l q m i k,0) else Gv 3) else Gv 1
def NA(x y:Bb):Bool:=decide (x.length=y.length)&&decide (x.length<=64)
def Apc(l:Bb):Bool:=CE (l.length<=17592186044416)
theorem Hz{n:Int}:Ce n=wg↔0<=n/\n<=6:=by unfold Ce; simp
theorem Hg{r c:Int}{l:Bb}:B5 r c l=wg↔(0<=r/\r<=6)/\(0<=c/\c<=6)/\(l.length:Int)=r*c:=by unfold B5;rw[Am,Am,Hz,Hz,Ai,and_assoc]
theorem CU{r c:Int}{l:Bb}(h:B5 r c l=wg):∃R C:Nat,r=R/\c=C/\R<=6/\C<=6/\l.length=R*C:=by
 obtain⟨h1,h2,h3⟩:=Hg.1 h;refine⟨r.toNat,c.toNat,by omega,by omega,by omega,by omega,?_⟩;have:(((r.toNat*c.toNat:Nat)):Int)=r*c:=by rw[Ax,wB h1.1,wB h2.1]
 omega
theorem EF{n:Int}(h:Ce n=wg):∃R:Nat,n=R/\R<=6:=by have:=Hz.1 h;exact⟨n.toNat,by omega,by omega⟩
theorem O3{n:Nat}(h:n<=6):Ce (n:Int)=wg:=Hz.2 ⟨by omega,by omega⟩
theorem D8{r c:Nat}{l:Bb}(hr:r<=6)(hc:c<=6)(hl:l.length=r*c):B5 (r:Int) (c:Int) l=wg :=Hg.2 ⟨⟨by omega,by omega⟩,⟨by omega,by omega⟩,by rw[hl,Ax]⟩
theorem Jg(c:Nat)(l:Bb)(i k:Nat):Cc (c:Int) l (i:Int) (k:Int)=l.getD (i*c+k) 0:=by
 unfold Cc
 have:((i:Int)*(c:Int)+(k:Int)).toNat=i*c+k:=by rw[<- Ax,<- Int.natCast_add,Ad]
 rw[this]
theorem Dl{r c i k:Nat}{R:Int}{l:Bb}(hr:r<=6)(hc:c<=6)(hl:l.length=r*c)(hi:i<r)(hk:k<c):Db R (c:Int) l (i:Int) (k:Int)=wg:=by have:=HJ hi hk;have h36:=A9 hr hc;refine Bt.2 ⟨by omega,by omega,by omega,by omega,by omega,by omega,?_,by omega⟩;rw[<- Ax];omega
theorem G2{r c i k:Nat}{f:Nat->Nat->Int}(hi:i<r)(hk:k<c):Cc (c:Int) (Cg r c f) (i:Int) (k:Int)=f i k:=by rw[Jg,Z5 hi hk]
theorem MZ{r c:Nat}(f:Nat->Nat->Int)(hr:r<=6)(hc:c<=6):B5 (r:Int) (c:Int) (Cg r c f)=wg:=D8 hr hc (Ca r c f)
theorem KN{r c:Nat}{l:Bb}(h:l.length=r*c):(Cg r c fun i k=>Cc (c:Int) l (i:Int) (k:Int))=l:=by
 conv=>rhs; rw[AeH h]
 exact Dv fun i k _ _=>Jg c l i k
theorem GS{l:Bb}(h:Bg l=wg){j:Nat}(hj:j<l.length):Bo (l.getD j 0)=wg:=by have h:=Bt.1 h;rw[Al,As hj];exact h _ (List.getElem_mem hj)
theorem KF{b:Nat}(h:b<2^64):BG (BE b) (b%2^63)=b:=by
 unfold BG BE;by_cases hb:2^63<=b
 ·simp only[hb,decide_true,if_true]; omega
 ·simp only[hb,decide_false,ye,if_false]; omega
theorem UA{b:Nat}(h:b<2^64)(h4:Bj b≠4):BG (BE b) (Cj (Bs b) (By b))=b:=by rw[KG h4,KF h]
theorem AeN{b:Nat}(h3:Bj b≠3)(h4:Bj b≠4):flagsOf (Bs b) (By b)=0:=by
 by_cases h0:Bs b=0
 ·rw[h0]; exact Nc _
 ·have h1:=E1 b;have h2:=C4 b;have h5:=MW h3 h4;exact(PU wy h0 (Oc (by omega) h2.1) (by rw[KG h4]; exact h5)).1
theorem mul_pow{a p:Nat}(a3:Bj a≠3)(a4:Bj a≠4)(p3:Bj p≠3)(p4:Bj p≠4)(hp:Bs p=2^52)(hn:BE p=wy):
 EA a p=(BG (BE a) (Cj (Bs a) (By a+By p+52)),flagsOf (Bs a) (By a+By p+52)):=by
 obtain⟨s1,s2⟩:=CZ (Bs a) 52 (By a+By p+52);have e:By a+By p+52-((52:Nat):Int)=By a+By p:=by omega
 rw[e] at s1 s2;have e2:(BE a !=wy)=BE a:=by cases BE a<;>rfl
 unfold EA;rw[Ay (by omega),Ay (by omega),hp,hn,s1,s2,e2]
theorem Ag8:Bs 4607182418800017408=2^52/\By 4607182418800017408=-52/\Bj 4607182418800017408=2/\BE 4607182418800017408=wy:=by decide +kernel
theorem mul_one{a:Nat}(h:a<2^64)(a3:Bj a≠3)(a4:Bj a≠4):EA a 4607182418800017408=(a,0):=by
 obtain⟨o1,o2,o3,o4⟩:=Ag8;have e:By a+-52+52=By a:=by omega
 rw[mul_pow a3 a4 (by omega) (by omega) o1 o4,o2,e,UA h a4,AeN a3 a4]
def Jm(n:Nat):Nat:=Ieee.Datum.rootFrom n (n.log2 / 2+1) 0
theorem Ajh(k:Nat):1 <<< k=2^k:=by rw[yN,zA]
theorem R5{n:Nat}:∀(todo root:Nat),root*root<=n->n<(root+2^todo)*(root+2^todo) ->
 Ieee.Datum.rootFrom n todo root*Ieee.Datum.rootFrom n todo root<=n/\n<(Ieee.Datum.rootFrom n todo root+1)*(Ieee.Datum.rootFrom n todo root+1)
 | 0,root,h1,h2=>⟨h1,h2⟩
 | todo+1,root,h1,h2=>by
   unfold Ieee.Datum.rootFrom;simp only[Ajh];have hp:2^(todo+1)=2^todo+2^todo:=by rw[zG]; omega
   rw[hp] at h2;by_cases h:(root+2^todo)*(root+2^todo)<=n
   ·rw[Az h];exact R5 todo _ h (by rw[yf]; exact h2)
   ·rw[Ay h];exact R5 todo _ h1 (by omega)
theorem JR(n:Nat):Jm n*Jm n<=n/\n<(Jm n+1)*(Jm n+1):=by
 refine R5 _ _ (by simp) ?_;rw[AO,<- A2];rcases yv n with rfl | hn
 ·decide
 ·refine(AV (by omega)).1 ?_;omega
theorem YE{a b:Nat}(h:a*a<b*b):a<b:=by
 rcases AA a b with h1 | h1
 ·exact h1
 ·have:=A9 h1 h1; omega
theorem U0{n w:Nat}(h1:w*w<=n)(h2:n<(w+1)*(w+1)):w=Jm n:=by obtain⟨a,b⟩:=JR n;have c1:=YE (AG h1 b);have c2:=YE (AG a h2);omega
theorem XL{n w:Nat}(h:w*w<=n):w<=Jm n:=by have:=YE (AG h (JR n).2);omega
def Eb(n:Nat):Nat:=2*Jm n+(if Jm n*Jm n=n then 0 else 1)
theorem R4(a c:Nat):a*c*(a*c)=a*a*(c*c):=by rw[A4,yT c,<- A4 a a]
theorem VJ{n:Nat}(d:Nat)(E:Int)(h:2^53<=Jm n):
 Cj (Eb (n*(2^d*2^d))) (E-d)=Cj (Eb n) E/\flagsOf (Eb (n*(2^d*2^d))) (E-d)=flagsOf (Eb n) E:=by
 have hA:=Cs d;obtain⟨h1,h2⟩:=JR n;unfold Eb;generalize hw:Jm n=w at *
 generalize hc:2^d=c at *
 have hcc:0<c*c:=x6 hA hA;by_cases h0:w*w=n
 ·have e1:Jm (n*(c*c))=w*c:=by
   refine(U0 ?_ ?_).symm
   ·rw[R4,h0]; exact A7 _
   ·have:=R4 w c;rw[h0] at this;rw[AI,yc,this]; omega
  rw[e1,R4,h0,Az rfl,Az rfl];have:=CZ (2*w+0) d E;rw[hc,show(2*w+0)*c=2*(w*c)+0 by rw[AM,AM,A4]] at this;exact this
 ·rw[Ay h0];obtain⟨g1,g2⟩:=JR (n*(c*c));have q1:w*c<=Jm (n*(c*c)):=XL (by rw[R4]; exact An _ h1)
  have q2:Jm (n*(c*c))<(w+1)*c:=by refine YE (AG g1 ?_);rw[R4];exact(xt hcc).2 h2
  have q3:Jm (n*(c*c))=w*c->Jm (n*(c*c))*Jm (n*(c*c))≠n*(c*c):=fun h5 h6=>by rw[h5,R4] at h6;exact h0 (Nat.eq_of_mul_eq_mul_right hcc h6)
  generalize hQ:Jm (n*(c*c))=Q at *
  have p1:(2*w+1-1)*c=2*(w*c):=by rw[yC,A4]
  have p2:(2*w+1+1)*c=2*((w+1)*c):=by rw[show 2*w+1+1=2*(w+1) by omega,A4]
  have od:(2*w+1)%2=1:=by omega
  generalize hV:2*Q+(if Q*Q=n*(c*c) then 0 else 1)=V
  have v1:(2*w+1-1)*2^d<V:=by
   rw[hc,p1,<- hV];by_cases h5:Q=w*c
   ·rw[Ay (q3 h5)]; omega
   ·split<;>omega
  have v2:V<(2*w+1+1)*2^d:=by rw[hc,p2,<- hV];split<;>omega
  have lV:=Ob od (by omega) v1 v2;have hs:54<=(2*w+1).log2:=by rw[zP (by omega)]; omega
  have ee:E-(d:Int)+d=E:=by omega
  have:=NP (E:=E-d) od v1 v2 (by unfold Cl; rw[lV]; omega) (by unfold Cl; omega);rw[ee] at this;exact this
theorem QQ{n t:Nat}(h:2^(t+t)<=n):2^t<=Jm n:=XL (by rw[<- A2]; exact h)
theorem pow_two(k d:Nat):2^(k+2*d)=2^k*(2^d*2^d):=by rw[A2,Nat.two_mul,A2]
theorem VK{m k l:Nat}{E F:Int}(h1:2^106<=m*2^k)(h2:2^106<=m*2^l)(he:2*E+k=2*F+l):
 Cj (Eb (m*2^k)) E=Cj (Eb (m*2^l)) F/\flagsOf (Eb (m*2^k)) E=flagsOf (Eb (m*2^l)) F:=by
 rcases x7 k l with h | h
 ·obtain⟨d,rfl⟩:∃d,l=k+2*d:=⟨(l-k) / 2,by omega⟩
  have:=VJ (n:=m*2^k) d E (QQ (t:=53) h1);rw[A4,<- pow_two,show E-(d:Int)=F by omega] at this;exact⟨this.1.symm,this.2.symm⟩
 ·obtain⟨d,rfl⟩:∃d,k=l+2*d:=⟨(k-l) / 2,by omega⟩
  have:=VJ (n:=m*2^l) d F (QQ (t:=53) h2);rw[A4,<- pow_two,show F-(d:Int)=E by omega] at this;exact this
def EV(b:Nat):Nat:=128+(By b%2).toNat
def Gu(b:Nat):Nat × Nat:=
 if Bj b=4 then (Jt,0)
 else if Bj b=0\/b=Dk then (b,0)
 else if BE b=wg then (Jt,16)
 else (Cj (Eb (Bs b*2^EV b)) ((By b-EV b) / 2-1),flagsOf (Eb (Bs b*2^EV b)) ((By b-EV b) / 2-1))
theorem Dd{b:Nat}(h3:Bj b≠3)(h4:Bj b≠4):Bs b=0↔Bj b=0:=by
 have:=Ir b;have:=HI b;unfold Bs;unfold Bj at *
 split at h3<;>split<;>(try split)<;>(try split)<;>simp_all<;>omega
theorem Qo{b:Nat}(h:Bj b=4):Gu b=(Jt,0):=Az h
theorem IA{b:Nat}(h4:Bj b≠4)(h:Bj b=0\/b=Dk):Gu b=(b,0):=by unfold Gu; rw[Ay h4,Az h]
theorem Qn{b:Nat}(h4:Bj b≠4)(h:¬(Bj b=0\/b=Dk))(hn:BE b=wg):Gu b=(Jt,16):=by unfold Gu; rw[Ay h4,Ay h,Az hn]
theorem NK{b:Nat}(h4:Bj b≠4)(h:¬(Bj b=0\/b=Dk))(hn:BE b=wy):
 Gu b=(Cj (Eb (Bs b*2^EV b)) ((By b-EV b) / 2-1),flagsOf (Eb (Bs b*2^EV b)) ((By b-EV b) / 2-1)):=by
 unfold Gu; rw[Ay h4,Ay h,Ay (by rw[hn]; decide)]
theorem Aka:BE Dk=wy:=by decide
theorem U4:Bj Dk=3:=by decide
theorem J5:DM Dk=Dk:=by decide
theorem Aff{d:Nat}(h:Bj d=4):DM d=Jt:=Az h
theorem YD(b d:Nat)(x:Ieee.Datum)(h:Ieee.double.read b=x):(Ieee.double.sqrt b).getD d=((x.root 54).map Ieee.double.write).getD d:=by rw[<- h]; rfl
theorem Fx(r:Nat):BG wy r=r:=rfl
def Mz(m:Nat)(i:Int):Nat:=2*54-m.log2+((i-((2*54-m.log2:Nat):Int))%2).toNat
theorem Agr{m:Nat}{i:Int}(h:m≠0):(Ieee.Datum.number wy m i).root 54=xM (.number wy (2*Ieee.Datum.rootFrom (m <<< Mz m i) ((m <<< Mz m i).log2 / 2+1) 0+(Ieee.Datum.rootFrom (m <<< Mz m i) ((m <<< Mz m i).log2 / 2+1) 0*Ieee.Datum.rootFrom (m <<< Mz m i) ((m <<< Mz m i).log2 / 2+1) 0 !=m <<< Mz m i).toNat) ((i-Mz m i) / 2-1)):=by unfold Ieee.Datum.root Mz;dsimp only;rw[Ay h,Ay (by decide)]
theorem AlD{m:Nat}{i:Int}{d:Nat}(h:m≠0)(hlog:m.log2<=52)(r:Int)(k:Nat)(hk:2^106<=m*2^k)(hr:2*r+k=i-2):
 DM ((((Ieee.Datum.number wy m i).root 54).map Ieee.double.write).getD d)=Cj (Eb (m*2^k)) r:=by
 have hpow:2^m.log2<=m:=zS h;have hmo:108<=m.log2+Mz m i/\(i-Mz m i)%2=0:=by unfold Mz; omega
 rw[Agr h,z5,Ba,KC,Gs _ (HE _ _),Fx];generalize Mz m i=Ja at *
 have g1:2^106<=m*2^Ja:=by have:2^108<=2^(m.log2+Ja):=Aq (by decide) hmo.1;rw[A2] at this;have h5:=An (2^Ja) hpow;omega
 have pe2:2*((i-(Ja:Int)) / 2-1)+Ja=i-2:=by omega
 rw[<- (VK g1 hk (E:=(i-(Ja:Int)) / 2-1) (F:=r) (by omega)).1,yN]
 have e:∀w:Nat,2*w+(w*w !=m*2^Ja).toNat=2*w+(if w*w=m*2^Ja then 0 else 1):=fun w=>by
  by_cases hww:w*w=m*2^Ja
  ·rw[Az hww,hww]; simp
  ·rw[Ay hww];have:(w*w !=m*2^Ja)=wg:=by simpa using hww
   rw[this]; rfl
 rw[e];unfold Eb Jm;rfl
theorem NV{b:Nat}(hm:Bs b≠0):2^106<=Bs b*2^EV b/\2*((By b-(EV b:Int)) / 2-1)+EV b=By b-2:=by refine⟨?_,by unfold EV; omega⟩;have:2^128<=2^EV b:=Aq (by decide) (by unfold EV; omega);have h5:=A9 (show 1<=Bs b by omega) this;omega
theorem Un{b:Nat}(hm:Bs b≠0):(Bs b).log2<=52:=by have:=(AV hm).2 (show Bs b<2^53 from E1 b);omega
theorem Ags(s:Bool)(f:Nat):(Ieee.Datum.nan s f).root 54=xN:=rfl
theorem AdU:(Ieee.Datum.infinity wg).root 54=xN:=rfl
theorem AdV:(Ieee.Datum.infinity wy).root 54=xM (.infinity wy):=rfl
theorem AdT(s:Bool)(i:Int):(Ieee.Datum.number s 0 i).root 54=xM (.number s 0 i):=rfl
theorem AaH{m:Nat}(i:Int)(h:m≠0):(Ieee.Datum.number wg m i).root 54=xN:=by unfold Ieee.Datum.root;dsimp only;rw[Ay h,Az rfl]
theorem PZ{d:Nat}(hd:Bj d=4):DM ((Option.map Ieee.double.write xN).getD d)=Jt:=Aff hd
theorem AdW{b:Nat}(hb:b<2^64){d:Nat}(hd:Bj d=4):DM ((Ieee.double.sqrt b).getD d)=(Gu b).1:=by
 rw[YD b d _ (HG hb)];by_cases h4:Bj b=4
 ·rw[Qo h4,G9 h4,Ags,PZ hd]
 by_cases h3:Bj b=3
 ·rw[Ew h3];have hw:=JE hb h3;cases hn:BE b with
  | true =>
    have hne:¬(Bj b=0\/b=Dk):=by
     intro h;rcases h with h | h
     ·omega
     ·rw[h,Aka] at hn; cases hn
    rw[Qn h4 hne hn,AdU,PZ hd]
  | false =>rw[hn,Fx] at hw;rw[IA h4 (.inr hw.symm),AdV,z5,Ba,Ad1,Fx,J5];exact hw
 rw[Ev h3 h4];have hz:=Dd h3 h4;by_cases h0:Bj b=0
 ·have hm:=hz.2 h0;have:=UA hb h4;rw[hm] at this;rw[IA h4 (.inl h0),hm,AdT,z5,Ba,KC,Gs _ (HE _ _),this]
 have hi:¬(Bj b=0\/b=Dk):=by
  intro h;rcases h with h | h
  ·exact h0 h
  ·rw[h,U4] at h3; exact h3 rfl
 have hm:Bs b≠0:=fun h=>h0 (hz.1 h)
 cases hn:BE b with
 | true=>rw[Qn h4 hi hn,AaH _ hm,PZ hd]
 | false =>obtain⟨k1,k2⟩:=NV hm;rw[NK h4 hi hn,AlD hm (Un hm) _ _ k1 k2]
def Co(b:Nat)(n:Int):Nat × Nat:=
 if Bj b=4 then (Jt,0)
 else if Bj b=3\/Bj b=0 then (b,0)
 else (BG (BE b) (Cj (Bs b) (By b+n)),flagsOf (Bs b) (By b+n))
theorem AdA{V:Nat}{E:Int}(h0:V≠0)(h:E+V.log2+1<=-1075):Cj V E=0/\flagsOf V E=3:=by
 have hl:Cl V E=-1074:=by unfold Cl; omega
 obtain⟨k,hk⟩:∃k:Nat,(-1074:Int)-E=((k:Nat):Int):=⟨(-1074-E).toNat,by omega⟩
 have hV:V<2^(V.log2+1):=(AV h0).1 (by omega);have hp:2^(V.log2+1)*2<=2^k:=by rw[<- zG]; exact Aq (by decide) (by omega)
 have e1:V*2^(-((-1074:Int)-E)).toNat=V:=by rw[hk]; simp
 have e2:((-1074:Int)-E).toNat=k:=by rw[hk]; rfl
 have hk2:kept V E=0:=by unfold kept HR;rw[hl,e1,e2];unfold HH;rw[z8 (by omega),Ao (by omega),Ay (by omega)]
 have hx:exact V E=wy:=by unfold exact KQ;rw[hl,e1,e2,Ao (by omega)];exact Ag h0
 have hr:Cj V E=0:=by unfold Cj;rw[Ay h0,hl,hk2];rfl
 refine⟨hr,?_⟩;unfold flagsOf;rw[Ay h0,hr,hx];rfl
theorem Ae6{m:Nat}(h:m<2^53):m.log2<=52:=by
 rcases yv m with rfl | h0
 ·decide
 ·have:=(AV (by omega)).2 h; omega
theorem Aep(n:Bool){m:Nat}{e:Int}{Ja:Bool}(hm:m<2^53)(h0:m≠0\/Ja=wg)(he:e<=-1130):
 FY n m e Ja=(BG n 0,3):=by
 have h1:Ja.toNat<=1:=by cases Ja<;>decide
 have hV:4*m+Ja.toNat≠0:=by
  rcases h0 with h | h
  ·omega
  ·rw[h]; simp
 have hl:(4*m+Ja.toNat).log2<=54:=by have:=(AV hV).2 (show 4*m+Ja.toNat<2^55 by omega); omega
 have:=AdA hV (E:=e-2) (by omega);unfold FY;rw[this.1,this.2]
theorem AgO(n:Bool):FY n 0 (-1074) wg=(BG n 0,3):=by cases n<;>decide +kernel
theorem AaC{b:Nat}{n:Int}(h4:Bj b≠4)(h:¬(Bj b=3\/Bj b=0))(hn:By b+n<=-1130):Co b n=(BG (BE b) 0,3):=by
 have hm:Bs b≠0:=fun h5=>h (.inr ((Dd (by omega) h4).1 h5))
 have:=AdA hm (E:=By b+n) (by have:=Un hm; omega);unfold Co;rw[Ay h4,Ay h,this.1,this.2]
theorem He{b:Nat}{n:Int}(h4:Bj b≠4)(h:¬(Bj b=3\/Bj b=0)):Co b n=(BG (BE b) (Cj (Bs b) (By b+n)),flagsOf (Bs b) (By b+n)):=by unfold Co; rw[Ay h4,Ay h]
def Ea(b:Nat):Int:=if F9 b=wg/\Bj b≠0 then ((Bs b).log2:Int)+By b else 0
def CV(b:Nat):Nat:=b%2^63
def Vo(a b:Nat):Int:=if Bj a=4\/Bj b=4 then 0 else if F1 a<F1 b then -1 else if F1 b<F1 a then 1 else 0
def Vp(a b:Nat):Bool:=!(decide (Bj a=4\/Bj b=4))
def Abe(a b:Nat):Nat:=if Vp a b=wg then (if Vo a b<0 then b else a) else Jt
def VN(b:Int):Int:=F1 b.toNat
def Ma(a b:Int):Int:=Vo a.toNat b.toNat
def VU(a b:Int):Bool:=Vp a.toNat b.toNat
def Gf(x:Int):Int:=CV x.toNat
def M4(a b:Int):Int:=Abe a.toNat b.toNat
def BP(x n:Int):Int:=(Co x.toNat n).1
def Ajl(x n:Int):Int:=(Co x.toNat n).2
def D1(x n:Int):Bool:=Bo x&&CE (-2300<=n/\n<=2300)
def BK(x:Int):Int:=Ea x.toNat
def It:Bb->Nat->Nat
 | [],m=>m
 | x::l,m=>if Bj x.toNat=4 then Jt else It l (max m (CV x.toNat))
def BA(l:Bb):Int:=It l 0
def Dc(l:Bb):Bool:=l.all CO
def Cm(r c:Int)(l:Bb):Int:=if B5 r c l=wg then (if Dc l=wg then 0 else 4) else 1
def JA(c:Int)(l:Bb)(n:Nat):Bool:=(zg n).any fun i:Nat=>decide (B8 (Cc c l (i:Int) (i:Int))=0)
def Jo(r c:Int)(l:Bb)(p q:Int)(m:Bb):Int:=
 if Cm r c l≠0 then Cm r c l else if Cm p q m≠0 then Cm p q m
 else if r≠c\/r≠p then 3 else if JA c l r.toNat=wg then 5 else 0
def H5(c:Int)(l:Bb)(i:Int):Int->Int->Bb->Int
 | s,_,[]=>s
 | s,j,x::xs=>H5 c l i (CA s (CN (Cc c l i j) x)) (j+1) xs
def LY(c:Int)(l:Bb)(b:Nat->Int)(n:Nat):Nat->Bb
 | 0=>[]
 | k+1=>El (H5 c l ((n-1-k:Nat):Int) (b (n-1-k)) ((n-k:Nat):Int) (LY c l b n k)) (Cc c l ((n-1-k:Nat):Int) ((n-1-k:Nat):Int))::LY c l b n k
def XH(c:Int)(l:Bb)(b:Nat->Int):Nat->Bb
 | 0=>[]
 | k+1=>XH c l b k++[El (H5 c l (k:Int) (b k) 0 (XH c l b k)) (Cc c l (k:Int) (k:Int))]
def Rt(c:Int)(l:Bb)(q:Int)(m:Bb)(n w:Nat):Bb:=Cg n w fun i j=>(LY c l (fun i=>Cc q m (i:Int) (j:Int)) n n).getD i 0
def loG(c:Int)(l:Bb)(q:Int)(m:Bb)(n w:Nat):Bb:=Cg n w fun i j=>(XH c l (fun i=>Cc q m (i:Int) (j:Int)) n).getD i 0
def Hb(r c:Int)(l:Bb):MX:=if Dc l=wg then (r,c,l,0) else Gv 2
def Rq(r c:Int)(l:Bb)(p q:Int)(m:Bb):MX :=if Jo r c l p q m≠0 then Gv (Jo r c l p q m) else Hb r q (Rt c l q m r.toNat q.toNat)
def XF(r c:Int)(l:Bb)(p q:Int)(m:Bb):MX :=if Jo r c l p q m≠0 then Gv (Jo r c l p q m) else Hb r q (loG c l q m r.toNat q.toNat)
def DA(c:Int)(l:Bb)(n:Nat):Bb:=(zg n).map fun i:Nat=>Gf (Cc c l (i:Int) (i:Int))
def P2(d:Bb):Bool:=d.any fun x=>!(decide (Ma (BP (BA d) (-40)) x<0))
def Li(r c:Int)(l:Bb):Bool:=P2 (DA c l (min r.toNat c.toNat))
def Hr(r c:Int)(l:Bb):Bool × Int:=if Cm r c l≠0 then (wy,Cm r c l) else (Li r c l,0)
def NI(r c:Int)(l:Bb)(p q:Int)(m:Bb):Bool:=(B5 r c l&&B5 p q m)&&((Bg l&&Bg m)&&CE (r=c/\r=p))
def Fe(n:Nat):Bb:=Cg n n fun i k=>Hc (i:Int) (k:Int)
def Dh(r c:Int)(l:Bb)(p q:Int)(m:Bb):MX :=if (CG r c l).2.2.2≠0 then Gv (CG r c l).2.2.2 else E6 (CG r c l).1 (CG r c l).2.1 (CG r c l).2.2.1 p q m
theorem Akp{a b:Nat}:(JW a b).1<2^64:=by
 have h1:Dk<2^63:=by decide
 have hs:∀(s:Bool) {r:Nat},r<2^63->BG s r<2^64:=by
  intro s r h;unfold BG;cases s
  ·rw[Ay (by decide)]; omega
  ·rw[Az rfl]; omega
 have hN:Jt<2^64:=by decide
 unfold JW;by_cases c1:Bj a=4\/Bj b=4
 ·rw[Az c1]; exact hN
 rw[Ay c1];by_cases c2:Bj a=Bj b/\(Bj a=3\/Bj a=0)
 ·rw[Az c2]; exact hN
 rw[Ay c2];by_cases c3:Bj a=3
 ·rw[Az c3]; exact hs _ h1
 rw[Ay c3];by_cases c4:Bj b=3\/Bj a=0
 ·rw[Az c4]; exact hs _ (by decide)
 rw[Ay c4];by_cases c5:Bj b=0
 ·rw[Az c5]; exact hs _ h1
 rw[Ay c5];exact hs _ (HD _ _)
theorem Yb(a b:Int):Bo (El a b)=wg:=Cq Akp
theorem Kb{a b:Int}(ha:Bo a=wg)(hb:Bo b=wg):Bo (CA a b)=wg:=by obtain⟨x,rfl,hx⟩:=BR ha;obtain⟨y,rfl,hy⟩:=BR hb;exact Cq (Nw (by rw[Ad]; exact hx) (OL (by rw[Ad]; exact hy))).1
theorem FV{r c:Nat}{f:Nat->Nat->Int}(h:∀i k,Bo (f i k)=wg):Bg (Cg r c f)=wg:=Bt.2 fun x hx=>by obtain⟨j,_,rfl⟩:=List.mem_map.1 hx;exact h _ _
theorem Ft(a b:Int):Bo (CN a b)=wg:=Cq LI
theorem Hx(c:Int)(l:Bb)(b:Nat->Int)(n:Nat):∀k,(LY c l b n k).length=k
 | 0=>rfl
 | k+1=>by rw[LY,zt,Hx c l b n k]
theorem Aas(c:Int)(l:Bb)(b:Nat->Int)(n:Nat):∀k,∀x∈LY c l b n k,Bo x=wg
 | 0,x,h=>by cases h
 | k+1,x,h=>by
   rw[LY] at h;rcases zL.1 h with rfl | h
   ·exact Yb _ _
   ·exact Aas c l b n k x h
theorem Y2(c:Int)(l:Bb)(b:Nat->Int)(n k:Nat):∀d,(LY c l b n (k+d)).drop d=LY c l b n k
 | 0=>rfl
 | d+1=>by rw[<- yf,LY,List.drop_succ_cons];exact Y2 c l b n k d
theorem Tr{c:Int}{l:Bb}{b:Nat->Int}{n k:Nat}(h:k<=n):(LY c l b n n).drop (n-k)=LY c l b n k:=by have:=Y2 c l b n k (n-k);rw[uc h] at this;exact this
theorem WL{c:Int}{l:Bb}{b:Nat->Int}{n i:Nat}(h:i<n):
 (LY c l b n n).getD i 0=El (H5 c l (i:Int) (b i) ((i+1:Nat):Int) ((LY c l b n n).drop (i+1))) (Cc c l (i:Int) (i:Int)):=by
 have e1:=Tr (c:=c) (l:=l) (b:=b) (n:=n) (k:=n-i) (by omega);have e2:=Tr (c:=c) (l:=l) (b:=b) (n:=n) (k:=n-i-1) (by omega);rw[show n-(n-i)=i by omega] at e1;rw[show n-(n-i-1)=i+1 by omega] at e2;rw[e2]
 have e3:(LY c l b n n).getD i 0=((LY c l b n n).drop i).getD 0 0:=by rw[Al,Al,List.getElem?_drop,AM]
 rw[e3,e1,show n-i=(n-i-1)+1 by omega,LY];have e4:n-1-(n-i-1)=i:=by omega
 have e5:n-(n-i-1)=i+1:=by omega
 rw[e4,e5];rfl
theorem QU{l:Bb}(h:∀x∈l,Bo x=wg)(i:Nat):Bo (l.getD i 0)=wg:=by
 rw[Al];cases hi:l[i]? with
 | none=>exact Cq (n:=0) (by decide)
 | some x=>exact h x (List.mem_of_getElem? hi)
theorem RO{c:Int}{l:Bb}{i s j:Int}{xs:Bb}{t:Nat}(h:t<xs.length):H5 c l i s j (xs.drop t)=H5 c l i (CA s (CN (Cc c l i j) (xs.getD t 0))) (j+1) (xs.drop (t+1)):=by rw[List.drop_eq_getElem_cons h,H5,Al,As h]; rfl
theorem I4(c:Int)(l:Bb)(b:Nat->Int):∀k,(XH c l b k).length=k
 | 0=>rfl
 | k+1=>by rw[XH,A5,I4 c l b k]; rfl
theorem Abj(c:Int)(l:Bb)(b:Nat->Int):∀k,∀x∈XH c l b k,Bo x=wg
 | 0,x,h=>by cases h
 | k+1,x,h=>by
   rw[XH] at h;rcases List.mem_append.1 h with h | h
   ·exact Abj c l b k x h
   ·rw[List.mem_singleton.1 h]; exact Yb _ _
theorem Zn{c:Int}{l:Bb}{b:Nat->Int}{k:Nat}:∀d,(XH c l b (k+d)).take k=XH c l b k
 | 0=>by rw[AM]; exact List.take_of_length_le (by rw[I4]; omega)
 | d+1=>by rw[<- yf,XH,List.take_append_of_le_length (by rw[I4]; omega)];exact Zn d
theorem Zo{c:Int}{l:Bb}{b:Nat->Int}{n k:Nat}(h:k<=n):(XH c l b n).take k=XH c l b k:=by have:=Zn (c:=c) (l:=l) (b:=b) (k:=k) (n-k);rw[uc h] at this;exact this
theorem AjR{c:Int}{l:Bb}{b:Nat->Int}{n i:Nat}(h:i<n):
 (XH c l b n).getD i 0=El (H5 c l (i:Int) (b i) 0 ((XH c l b n).take i)) (Cc c l (i:Int) (i:Int)):=by
 have e1:=Zo (c:=c) (l:=l) (b:=b) (n:=n) (k:=i+1) (by omega);have e2:=Zo (c:=c) (l:=l) (b:=b) (n:=n) (k:=i) (by omega)
 have e3:(XH c l b n).getD i 0=((XH c l b n).take (i+1)).getD i 0:=by rw[Al,Al,List.getElem?_take_of_lt (by omega)]
 rw[e3,e1,e2,XH,Al,AS (by rw[I4]; omega),I4,Nat.sub_self];rfl
def AgC:Int:=4607182418800017408
def ET(x:Int):Int:=(Gu x.toNat).1
def NL(x:Int):Int:=(Gu x.toNat).2
def JH(k:Int):Int->Bb->Int
 | s,[]=>s
 | s,x::l=>JH k (EN s (CN (BP x k) (BP x k))) l
def CB(x:Bb):Int :=if BA x=0\/CO (BA x)=wy then BA x else BP (ET (JH (-BK (BA x)) 0 x)) (BK (BA x))
def CX(l:Bb):Bool:=l.all fun x=>decide (B8 x=0)
def IK:Bb->Int
 | []=>0
 | x::l=>if B8 x=0 then IK l else x
def BM(l:Bb)(k:Int):Bb:=l.map fun x=>BP x k
def Gc(n:Nat)(f:Nat->Int):Bb:=AgC::(zg (n-1)).map fun j=>f (j+1)
def Jn(x:Bb):Int:=if DI (IK x)=wg then CB (BM x (-BK (BA x))) else CM (CB (BM x (-BK (BA x))))
def DK(x:Bb):Int:=BP (Jn x) (BK (BA x))
def DU(x:Bb):Int:=BP (x.getD 0 0) (-BK (BA x))
def K6(x:Bb):Bb:=Gc x.length fun j=>El (BP (x.getD j 0) (-BK (BA x))) (CA (DU x) (Jn x))
def Lw(x:Bb):Int:=El (CA (Jn x) (DU x)) (Jn x)
def I2(x:Bb):Bb × Int × Int × Int:=
 if CX (x.drop 1)=wg then (Gc x.length fun _=>0,0,x.getD 0 0,0)
 else if CO (DK x)=wg then (K6 x,Lw x,DK x,0) else ([],0,0,2)
def BV(x:Bb):Bb × Int × Int × Int :=if x.length=0\/64<x.length then ([],0,0,3) else if Dc x=wg then I2 x else ([],0,0,4)
def Cb(c:Int)(l:Bb)(b i:Int)(n:Nat):Bb:=(zg n).map fun j:Nat=>Cc c l (i+(j:Int)) b
def HB(c:Int)(l:Bb)(i:Int)(v:Bb)(t b:Int):Int:=CN t (Fu v (Cb c l b i v.length))
def FB(c:Int)(l:Bb)(i k:Int)(v:Bb)(t a b:Int):Int :=if k<=b/\i<=a/\a<i+v.length then CA (Cc c l a b) (CN (HB c l i v t b) (v.getD (a-i).toNat 0)) else Cc c l a b
def Eh(r c:Nat)(l:Bb)(i k:Int)(v:Bb)(t:Int):Bb:=Cg r c fun a b=>FB (c:Int) l i k v t (a:Int) (b:Int)
def HW(r c i k:Int)(v:Bb):Bool:=decide (0<=i/\(v.length:Int)<=r/\i<=r-v.length/\0<=k/\k<=c)
def H9(r c:Nat)(l:Bb)(j:Nat)(x:Int):Bb:=Cg r c fun a b=>if b=j/\j<=a then (if a=j then x else 0) else Cc (c:Int) l (a:Int) (b:Int)
def CT(r c:Nat)(l:Bb)(j:Nat):Bb:=Cb (c:Int) l (j:Int) (j:Int) (r-j)
def Kg(r c:Nat)(l:Bb)(j:Nat):Bb:=H9 r c (Eh r c l (j:Int) (j:Int) (BV (CT r c l j)).1 (BV (CT r c l j)).2.1) j (BV (CT r c l j)).2.2.1
def FZ(r c:Nat):Nat->Nat->Bb->Option (Bb × List (Bb × Int))
 | 0,_,l=>xM (l,[])
 | n+1,j,l=>if (BV (CT r c l j)).2.2.2=0 then
  (FZ r c n (j+1) (Kg r c l j)).map fun x=>(x.1,((BV (CT r c l j)).1,(BV (CT r c l j)).2.1)::x.2) else xN
def Er(r c:Nat):Nat:=min c (r-1)
def Fo(n:Nat):Nat->List (Bb × Int)->Bb->Bb
 | _,[],q=>q
 | j,m::ms,q=>Eh n n (Fo n (j+1) ms q) (j:Int) 0 m.1 m.2
def Gw(r c:Nat)(l:Bb):Option (Bb × List (Bb × Int)):=FZ r c (Er r c) 0 l
def FW(r c:Nat)(l:Bb):Bb:=match Gw r c l with
 | some x=>Fo r 0 x.2 (Fe r)
 | none=>[]
def Fc(r c:Nat)(l:Bb):Bb:=match Gw r c l with
 | some x=>x.1
 | none=>[]
def Ga(r c:Int)(l:Bb):MX:=if (Gw r.toNat c.toNat l).isSome=wg then (r,c,Fc r.toNat c.toNat l,0) else Gv 2
def Ue(ms:List (Bb × Int)):List (List DV):=ms.map fun m=>[.Bh .arg .u64 m.1,.int .u64 m.2]
def M3(r c:Int)(l:Bb):List (List DV):=match Gw r.toNat c.toNat l with
 | some x=>Ue x.2
 | none=>[]
def QH(m:Int):Int:=Jm (m.toNat*2^64)
def QI(m:Int):Bool:=decide (Jm (m.toNat*2^64)*Jm (m.toNat*2^64)=m.toNat*2^64)
def N4:Bb->Int->Int
 | [],_=>0
 | x::l,i=>if B8 x=0 then N4 l (i+1) else i
def IM(r c:Nat)(l:Bb):Bool:=(Gw r c l).isSome&&(Dc (FW r c l)&&Dc (Fc r c l))
def DZ(r c:Int)(l:Bb):Int:=if Cm r c l≠0 then Cm r c l else if IM r.toNat c.toNat l=wg then 0 else 2
def qX(r c:Int)(l:Bb):MX:=if DZ r c l≠0 then Gv (DZ r c l) else (r,r,FW r.toNat c.toNat l,0)
def rX(r c:Int)(l:Bb):MX:=if DZ r c l≠0 then Gv (DZ r c l) else (r,c,Fc r.toNat c.toNat l,0)
def E3(r c:Int)(l:Bb):MX:=if DZ r c l≠0 then Gv (DZ r c l) else (r,min r c,(EW r r (FW r.toNat c.toNat l) 0 0 r (min r c)).2.2.1,0)
def GH(r c:Int)(l:Bb):MX:=if DZ r c l≠0 then Gv (DZ r c l) else (min r c,c,(EW r c (Fc r.toNat c.toNat l) 0 0 (min r c) c).2.2.1,0)
def Aar(a b:MX)(p q:Int)(m:Bb):MX:=
 if (Dh a.1 a.2.1 a.2.2.1 p q m).2.2.2≠0 then Gv (Dh a.1 a.2.1 a.2.2.1 p q m).2.2.2
 else Rq b.1 b.2.1 b.2.2.1 (Dh a.1 a.2.1 a.2.2.1 p q m).1 (Dh a.1 a.2.1 a.2.2.1 p q m).2.1 (Dh a.1 a.2.1 a.2.2.1 p q m).2.2.1
def Dz(r c:Int)(l:Bb)(p q:Int)(m:Bb):MX:=
 if Cm r c l≠0 then Gv (Cm r c l) else if Cm p q m≠0 then Gv (Cm p q m) else if r<c\/r≠p then Gv 3
 else if DZ r c l≠0 then Gv (DZ r c l)
 else if (Hr (GH r c l).1 (GH r c l).2.1 (GH r c l).2.2.1).1=wg then Gv 5
 else Aar (E3 r c l) (GH r c l) p q m
def Rj(x:Nat):Bool:=CE (x<2^64)
def ZD(x:Nat):Bool:=CE (x<2^64/\Bj x≠3/\Bj x≠4)
def H6(x:Nat)(k:Int):Nat:=if Bj x=4 then x else (Co x k).1
def K2(x:Nat):Nat:=if CV x<4503599627370496 then (EA x 4841369599423283200).1 else x
def HM(x:Nat):Int:=if CV x<4503599627370496 then -52 else 0
def PV(b:Int):Int:=if CO b=wg then 0 else if DI b=wg then -1 else 1
def mulM(x y:MX):MX:=E6 x.1 x.2.1 x.2.2.1 y.1 y.2.1 y.2.2.1
def AfH(x:MX):MX:=CG x.1 x.2.1 x.2.2.1
def GA(x:MX)(i k a b:Int):MX:=EW x.1 x.2.1 x.2.2.1 i k a b
def Lx(r c:Int)(l:Bb)(e:Int):MX:=if e≠0 then Gv e else if Cm r c l≠0 then Gv 2 else (r,c,l,0)
def XP(x:MX):MX:=Lx x.1 x.2.1 x.2.2.1 x.2.2.2
def IU(r c:Int)(l:Bb)(p q:Int)(m:Bb)(a b:Int)(g:Bb)(u v:Int)(h:Bb):Int:=
 if Cm r c l≠0 then Cm r c l else if Cm p q m≠0 then Cm p q m else if Cm a b g≠0 then Cm a b g else if Cm u v h≠0 then Cm u v h
 else if q≠c\/a≠r\/u≠p\/b≠1\/v≠1\/c<p\/r+p<c then 3 else 0
def Sh(l m g h:Bb):Bool:=(Bg l&&Bg m)&&(Bg g&&Bg h)
def eqT(p q:Int)(m:Bb):Bb:=(CG p q m).2.2.1
def eqR(p q:Int)(m:Bb):MX:=rX q p (eqT p q m)
def Pl(p q:Int)(m:Bb):MX:=AfH (GA (eqR p q m) 0 0 p p)
def hY(p q:Int)(m:Bb)(u v:Int)(h:Bb):MX:=
 if DZ q p (eqT p q m)≠0 then Gv (DZ q p (eqT p q m)) else if (Hr (Pl p q m).1 (Pl p q m).2.1 (Pl p q m).2.2.1).1=wg then Gv 5
 else XF (Pl p q m).1 (Pl p q m).2.1 (Pl p q m).2.2.1 u v h
def hQ(p q:Int)(m:Bb):MX:=
 if DZ q p (eqT p q m)≠0 then Gv (DZ q p (eqT p q m)) else if (Hr (Pl p q m).1 (Pl p q m).2.1 (Pl p q m).2.2.1).1=wg then Gv 5
 else qX q p (eqT p q m)
def AlV(r c:Int)(l:Bb)(p q:Int)(m:Bb):MX:=XP (mulM (r,c,l,0) (hQ p q m))
def Abg(w y:MX)(r p:Int):MX:=mulM (GA w 0 0 r p) y
def Ahg(a b:Int)(g:Bb)(d:MX):MX:=XP (IV a b g d.1 d.2.1 d.2.2.1)
def XJ(x y:MX):MX:=Dz x.1 x.2.1 x.2.2.1 y.1 y.2.1 y.2.2.1
def R3(x y:MX):MX:=C6 x.1 x.2.1 x.2.2.1 y.1 y.2.1 y.2.2.1
def Uk(q y z:MX):MX:=if z.2.2.2≠0 then Gv z.2.2.2 else if (R3 y z).2.2.2≠0 then Gv (R3 y z).2.2.2 else XP (mulM q (R3 y z))
def Ahf(q y w f:MX)(r c p:Int):MX:=if f.2.2.2≠0 then Gv f.2.2.2 else Uk q y (XJ (GA w 0 p r (c-p)) f)
def AcD(q y w:MX)(r c p a b:Int)(g:Bb):MX:=if w.2.2.2≠0 then Gv w.2.2.2 else Ahf q y w (Ahg a b g (Abg w y r p)) r c p
def Dy(r c:Int)(l:Bb)(p q:Int)(m:Bb)(a b:Int)(g:Bb)(u v:Int)(h:Bb):MX:=
 if IU r c l p q m a b g u v h≠0 then Gv (IU r c l p q m a b g u v h)
 else if (hY p q m u v h).2.2.2≠0 then Gv (hY p q m u v h).2.2.2
 else AcD (hQ p q m) (hY p q m u v h) (AlV r c l p q m) r c p a b g
def upM(x y:MX):MX:=Rq x.1 x.2.1 x.2.2.1 y.1 y.2.1 y.2.2.1
def loM(x y:MX):MX:=XF x.1 x.2.1 x.2.2.1 y.1 y.2.1 y.2.2.1
def AoC(x y:MX):MX:=IV x.1 x.2.1 x.2.2.1 y.1 y.2.1 y.2.2.1
def AiJ(x y:MX):MX:=Dh x.1 x.2.1 x.2.2.1 y.1 y.2.1 y.2.2.1
def AkS(x:MX):Bool:=(Hr x.1 x.2.1 x.2.2.1).1
def Aky(x:MX):Int:=Cm x.1 x.2.1 x.2.2.1
def lqE(r c:Int)(l:Bb):Int :=if (CG r c l).2.2.2≠0 then (CG r c l).2.2.2 else DZ (CG r c l).1 (CG r c l).2.1 (CG r c l).2.2.1
def lqL(r c:Int)(l:Bb):MX :=if lqE r c l≠0 then Gv (lqE r c l) else AfH (rX (CG r c l).1 (CG r c l).2.1 (CG r c l).2.2.1)
def lqQ(r c:Int)(l:Bb):MX :=if lqE r c l≠0 then Gv (lqE r c l) else AfH (qX (CG r c l).1 (CG r c l).2.1 (CG r c l).2.2.1)
def AkI(r c:Int)(l:Bb)(p q:Int)(m:Bb)(u v:Int)(h:Bb):Int:=
 if Cm r c l≠0 then Cm r c l else if Cm p q m≠0 then Cm p q m else if Cm u v h≠0 then Cm u v h
 else if p≠r\/u≠r\/v≠1\/r<c\/c+q<r then 3 else 0
def gT(r c:Int)(l:Bb):MX:=GA (rX r c l) 0 0 c (rX r c l).2.1
def gC(r c:Int)(l:Bb)(u v:Int)(h:Bb):MX:=Dh (qX r c l).1 (qX r c l).2.1 (qX r c l).2.2.1 u v h
def gE(r c:Int)(l:Bb)(p q:Int)(m:Bb)(u v:Int)(h:Bb):Int:=
 if DZ r c l≠0 then DZ r c l else if AkS (gT r c l)=wg then 5
 else if Aky (gC r c l u v h)≠0\/Aky (gC r c l p q m)≠0 then 2 else 0
def Anm(c:Int)(x:MX):MX:=GA x 0 0 c x.2.1
def An3(r c:Int)(x:MX):MX:=GA x c 0 (r-c) x.2.1
def erS(x:MX):MX:=GA (lqL x.1 x.2.1 x.2.2.1) 0 0 x.1 x.1
def erO(x:MX):MX:=GA (lqQ x.1 x.2.1 x.2.2.1) 0 0 x.1 (lqQ x.1 x.2.1 x.2.2.1).2.1
def erY(x y:MX):MX:=
 if lqE x.1 x.2.1 x.2.2.1≠0 then Gv (lqE x.1 x.2.1 x.2.2.1) else if AkS (erS x)=wg then Gv 5
 else if (loM (erS x) y).2.2.2≠0 then Gv (loM (erS x) y).2.2.2
 else XP (AiJ (erO x) (loM (erS x) y))
def gF(r c:Int)(C E y:MX):MX:=AoC (Anm c C) (mulM (Anm c E) y)
def gX2(r c:Int)(T C E y:MX):MX:=if y.2.2.2≠0 then Gv y.2.2.2 else if Aky (gF r c C E y)≠0 then Gv 2 else upM T (gF r c C E y)
def gY0(r c:Int)(l:Bb)(p q:Int)(m:Bb)(u v:Int)(h:Bb):MX:=erY (An3 r c (gC r c l p q m)) (An3 r c (gC r c l u v h))
def gX(r c:Int)(l:Bb)(p q:Int)(m:Bb)(u v:Int)(h:Bb):MX:=
 if AkI r c l p q m u v h≠0 then Gv (AkI r c l p q m u v h) else if gE r c l p q m u v h≠0 then Gv (gE r c l p q m u v h)
 else gX2 r c (gT r c l) (gC r c l u v h) (gC r c l p q m) (gY0 r c l p q m u v h)
def VC(k b:Int):Bool:=CO b&&(decide (B8 b=0)||(decide (-k<=BK b)&&decide (BK b<k)))
def JG(x:Bb)(k:Int):Bool:=x.all (VC k)
structure Wh(x:Int)(v:Int):Prop where
 word:Bo x=wg
 k3:Bj x.toNat≠3
 k4:Bj x.toNat≠4
 val:∃g:Int,g<=0/\g<=By x.toNat/\DT x.toNat g=v*((2^(-g).toNat:Nat):Int)
end Go.CI
end
