/- A verified evaluator of the program's form and its use for this seat: S1Env, Rnd, Flt, Words, NearL, IeeL, OrdL, MulL, Limb, DyL, DyV, ExactL, MulW, SumL, MatL, MatW, PowL, RootL, ScaleL, SolW, TriL, HouW, LseW, GgW, RidW, WhoW, InfW. -/
import Derived.Test.YtclmlepbdjafdaaGreatProg
import Derived.Test.YtclmlepbdjafdaaGreatTD
set_option linter.unusedVariables false
set_option linter.unusedSimpArgs false
noncomputable section
open Int (toNat)
open List (length getD)
namespace Go.Proofs.S1
open Go Go.Den Go.Proofs
set_option maxRecDepth 100000
abbrev tB:Nat:=32
abbrev tMR:Nat:=119
abbrev tW:Nat:=106
def tys:List (Nat × TI):=[
 (2,⟨1,8,(.int .i64),[.int .i64 (0:Int)]⟩),
 (3,⟨1,8,(.int .i64),[.int .i64 (0:Int)]⟩),
 (4,⟨1,1,.bool,[.bool false]⟩),
 (5,⟨1,1,(.int .u8),[.int .u8 (0:Int)]⟩),
 (22,⟨1,24,(.slice 32),[.nil]⟩),
 (25,⟨3,40,(.struct [(0,3),(1,3),(2,22)]),[.int .i64 (0:Int),.int .i64 (0:Int),.nil]⟩),
 (27,⟨14,208,(.struct [(0,25),(3,25),(6,25),(9,25),(12,22),(13,22)]),[.int .i64 (0:Int),.int .i64 (0:Int),.nil,.int .i64 (0:Int),.int .i64 (0:Int),.nil,.int .i64 (0:Int),.int .i64 (0:Int),.nil,.int .i64 (0:Int),.int .i64 (0:Int),.nil,.nil,.nil]⟩),
 (31,⟨1,8,(.int .u64),[.int .u64 (0:Int)]⟩),
 (32,⟨1,8,(.int .u64),[.int .u64 (0:Int)]⟩),
 (37,⟨1,8,(.int .i64),[.int .i64 (0:Int)]⟩),
 (41,⟨1,1,(.int .u8),[.int .u8 (0:Int)]⟩),
 (46,⟨1,24,(.slice 106),[.nil]⟩),
 (48,⟨2,32,(.struct [(0,4),(1,46)]),[.bool false,.nil]⟩),
 (50,⟨3,40,(.struct [(0,48),(2,3)]),[.bool false,.nil,.int .i64 (0:Int)]⟩),
 (53,⟨1,8,.fl,[.fl 0]⟩),
 (69,⟨1,8,(.int .u64),[.int .u64 (0:Int)]⟩),
 (82,⟨6,80,(.array 2 25),[.int .i64 (0:Int),.int .i64 (0:Int),.nil,.int .i64 (0:Int),.int .i64 (0:Int),.nil]⟩),
 (92,⟨1,24,(.slice 3),[.nil]⟩),
 (100,⟨3,24,(.struct [(0,4),(1,3),(2,31)]),[.bool false,.int .i64 (0:Int),.int .u64 (0:Int)]⟩),
 (106,⟨1,4,(.int .u32),[.int .u32 (0:Int)]⟩),
 (114,⟨1,24,(.slice 119),[.nil]⟩),
 (119,⟨2,32,(.struct [(0,22),(1,32)]),[.nil,.int .u64 (0:Int)]⟩),
 (123,⟨3,24,(.struct [(0,32),(1,32),(2,4)]),[.int .u64 (0:Int),.int .u64 (0:Int),.bool false]⟩)]
theorem ty2:B7 Tryz.prog 2 ⟨1,8,(.int .i64),[.int .i64 (0:Int)]⟩:=Cw (z:=.int .i64 (0:Int)) (by kernel_rfl) (fun c w=>by simp [A5,Ak,Value.cells]) rfl (by simp [Value.cells,Value.oneCell']) (by simp only [Ck]; exact Tryz.underlying2)
theorem ty3:B7 Tryz.prog 3 ⟨1,8,(.int .i64),[.int .i64 (0:Int)]⟩:=Cw (z:=.int .i64 (0:Int)) (by kernel_rfl) (fun c w=>by simp [A5,Ak,Value.cells]) rfl (by simp [Value.cells,Value.oneCell']) (by simp only [Ck]; exact Tryz.underlying3)
theorem ty4:B7 Tryz.prog 4 ⟨1,1,.bool,[.bool false]⟩:=Cw (z:=.bool false) (by kernel_rfl) (fun c w=>by simp [A5,Ak,Value.cells]) rfl (by simp [Value.cells,Value.oneCell']) (by simp only [Ck]; exact Tryz.underlying4)
theorem ty5:B7 Tryz.prog 5 ⟨1,1,(.int .u8),[.int .u8 (0:Int)]⟩:=Cw (z:=.int .u8 (0:Int)) (by kernel_rfl) (fun c w=>by simp [A5,Ak,Value.cells]) rfl (by simp [Value.cells,Value.oneCell']) (by simp only [Ck]; exact Tryz.underlying5)
theorem Ap2:B7 Tryz.prog 22 ⟨1,24,(.slice 32),[.nil]⟩:=Cw (z:=.slice none 0 0) (by kernel_rfl) (fun c w=>by simp [A5,Ak,Value.cells]) rfl (by simp [Value.cells,Value.oneCell']) (by simp only [Ck]; exact Tryz.underlying22)
theorem Ap1:B7 Tryz.prog 25 ⟨3,40,(.struct [(0,3),(1,3),(2,22)]),[.int .i64 (0:Int),.int .i64 (0:Int),.nil]⟩:=Cw (z:=.agg #[.int .i64 (0:Int),.int .i64 (0:Int),.slice none 0 0]) (by kernel_rfl) (fun c w=>by simp [A5,Ak,Value.cells]) rfl (by simp [Value.cells,Value.oneCell']) (by simp only [Ck]; exact ⟨_,Tryz.underlying25,by kernel_rfl⟩)
theorem Ap0:B7 Tryz.prog 27 ⟨14,208,(.struct [(0,25),(3,25),(6,25),(9,25),(12,22),(13,22)]),[.int .i64 (0:Int),.int .i64 (0:Int),.nil,.int .i64 (0:Int),.int .i64 (0:Int),.nil,.int .i64 (0:Int),.int .i64 (0:Int),.nil,.int .i64 (0:Int),.int .i64 (0:Int),.nil,.nil,.nil]⟩:=Cw (z:=.agg #[.int .i64 (0:Int),.int .i64 (0:Int),.slice none 0 0,.int .i64 (0:Int),.int .i64 (0:Int),.slice none 0 0,.int .i64 (0:Int),.int .i64 (0:Int),.slice none 0 0,.int .i64 (0:Int),.int .i64 (0:Int),.slice none 0 0,.slice none 0 0,.slice none 0 0]) (by kernel_rfl) (fun c w=>by simp [A5,Ak,Value.cells]) rfl (by simp [Value.cells,Value.oneCell']) (by simp only [Ck]; exact ⟨_,Tryz.underlying27,by kernel_rfl⟩)
theorem An6:B7 Tryz.prog 31 ⟨1,8,(.int .u64),[.int .u64 (0:Int)]⟩:=Cw (z:=.int .u64 (0:Int)) (by kernel_rfl) (fun c w=>by simp [A5,Ak,Value.cells]) rfl (by simp [Value.cells,Value.oneCell']) (by simp only [Ck]; exact Tryz.underlying31)
theorem Apz:B7 Tryz.prog 32 ⟨1,8,(.int .u64),[.int .u64 (0:Int)]⟩:=Cw (z:=.int .u64 (0:Int)) (by kernel_rfl) (fun c w=>by simp [A5,Ak,Value.cells]) rfl (by simp [Value.cells,Value.oneCell']) (by simp only [Ck]; exact Tryz.underlying32)
theorem Apy:B7 Tryz.prog 37 ⟨1,8,(.int .i64),[.int .i64 (0:Int)]⟩:=Cw (z:=.int .i64 (0:Int)) (by kernel_rfl) (fun c w=>by simp [A5,Ak,Value.cells]) rfl (by simp [Value.cells,Value.oneCell']) (by simp only [Ck]; exact Tryz.underlying37)
theorem Apx:B7 Tryz.prog 41 ⟨1,1,(.int .u8),[.int .u8 (0:Int)]⟩:=Cw (z:=.int .u8 (0:Int)) (by kernel_rfl) (fun c w=>by simp [A5,Ak,Value.cells]) rfl (by simp [Value.cells,Value.oneCell']) (by simp only [Ck]; exact Tryz.underlying41)
theorem Apw:B7 Tryz.prog 46 ⟨1,24,(.slice 106),[.nil]⟩:=Cw (z:=.slice none 0 0) (by kernel_rfl) (fun c w=>by simp [A5,Ak,Value.cells]) rfl (by simp [Value.cells,Value.oneCell']) (by simp only [Ck]; exact Tryz.underlying46)
theorem Apv:B7 Tryz.prog 48 ⟨2,32,(.struct [(0,4),(1,46)]),[.bool false,.nil]⟩:=Cw (z:=.agg #[.bool false,.slice none 0 0]) (by kernel_rfl) (fun c w=>by simp [A5,Ak,Value.cells]) rfl (by simp [Value.cells,Value.oneCell']) (by simp only [Ck]; exact ⟨_,Tryz.underlying48,by kernel_rfl⟩)
theorem Apu:B7 Tryz.prog 50 ⟨3,40,(.struct [(0,48),(2,3)]),[.bool false,.nil,.int .i64 (0:Int)]⟩:=Cw (z:=.agg #[.bool false,.slice none 0 0,.int .i64 (0:Int)]) (by kernel_rfl) (fun c w=>by simp [A5,Ak,Value.cells]) rfl (by simp [Value.cells,Value.oneCell']) (by simp only [Ck]; exact ⟨_,Tryz.underlying50,by kernel_rfl⟩)
theorem Apt:B7 Tryz.prog 53 ⟨1,8,.fl,[.fl 0]⟩:=Cw (z:=.float .f64 0) (by kernel_rfl) (fun c w=>by simp [A5,Ak,Value.cells,Mv]) rfl (by simp [Value.cells,Value.oneCell']) (by simp only [Ck]; exact Tryz.underlying53)
theorem Aps:B7 Tryz.prog 69 ⟨1,8,(.int .u64),[.int .u64 (0:Int)]⟩:=Cw (z:=.int .u64 (0:Int)) (by kernel_rfl) (fun c w=>by simp [A5,Ak,Value.cells]) rfl (by simp [Value.cells,Value.oneCell']) (by simp only [Ck]; exact Tryz.underlying69)
theorem Apr:B7 Tryz.prog 82 ⟨6,80,(.array 2 25),[.int .i64 (0:Int),.int .i64 (0:Int),.nil,.int .i64 (0:Int),.int .i64 (0:Int),.nil]⟩:=Cw (z:=.agg #[.int .i64 (0:Int),.int .i64 (0:Int),.slice none 0 0,.int .i64 (0:Int),.int .i64 (0:Int),.slice none 0 0]) (by kernel_rfl) (fun c w=>by simp [A5,Ak,Value.cells]) rfl (by simp [Value.cells,Value.oneCell']) (by simp only [Ck]; exact Tryz.underlying82)
theorem Apq:B7 Tryz.prog 92 ⟨1,24,(.slice 3),[.nil]⟩:=Cw (z:=.slice none 0 0) (by kernel_rfl) (fun c w=>by simp [A5,Ak,Value.cells]) rfl (by simp [Value.cells,Value.oneCell']) (by simp only [Ck]; exact Tryz.underlying92)
theorem Aob:B7 Tryz.prog 100 ⟨3,24,(.struct [(0,4),(1,3),(2,31)]),[.bool false,.int .i64 (0:Int),.int .u64 (0:Int)]⟩:=Cw (z:=.agg #[.bool false,.int .i64 (0:Int),.int .u64 (0:Int)]) (by kernel_rfl) (fun c w=>by simp [A5,Ak,Value.cells]) rfl (by simp [Value.cells,Value.oneCell']) (by simp only [Ck]; exact ⟨_,Tryz.underlying100,by kernel_rfl⟩)
theorem Aoa:B7 Tryz.prog 106 ⟨1,4,(.int .u32),[.int .u32 (0:Int)]⟩:=Cw (z:=.int .u32 (0:Int)) (by kernel_rfl) (fun c w=>by simp [A5,Ak,Value.cells]) rfl (by simp [Value.cells,Value.oneCell']) (by simp only [Ck]; exact Tryz.underlying106)
theorem An9:B7 Tryz.prog 114 ⟨1,24,(.slice 119),[.nil]⟩:=Cw (z:=.slice none 0 0) (by kernel_rfl) (fun c w=>by simp [A5,Ak,Value.cells]) rfl (by simp [Value.cells,Value.oneCell']) (by simp only [Ck]; exact Tryz.underlying114)
theorem An8:B7 Tryz.prog 119 ⟨2,32,(.struct [(0,22),(1,32)]),[.nil,.int .u64 (0:Int)]⟩:=Cw (z:=.agg #[.slice none 0 0,.int .u64 (0:Int)]) (by kernel_rfl) (fun c w=>by simp [A5,Ak,Value.cells]) rfl (by simp [Value.cells,Value.oneCell']) (by simp only [Ck]; exact ⟨_,Tryz.underlying119,by kernel_rfl⟩)
theorem An7:B7 Tryz.prog 123 ⟨3,24,(.struct [(0,32),(1,32),(2,4)]),[.int .u64 (0:Int),.int .u64 (0:Int),.bool false]⟩:=Cw (z:=.agg #[.int .u64 (0:Int),.int .u64 (0:Int),.bool false]) (by kernel_rfl) (fun c w=>by simp [A5,Ak,Value.cells]) rfl (by simp [Value.cells,Value.oneCell']) (by simp only [Ck]; exact ⟨_,Tryz.underlying123,by kernel_rfl⟩)
theorem Amh:Ow Tryz.prog tys:=.cons ty2 <| .cons ty3 <| .cons ty4 <| .cons ty5 <| .cons Ap2 <| .cons Ap1 <| .cons Ap0 <| .cons An6 <| .cons Apz <| .cons Apy <| .cons Apx <| .cons Apw <| .cons Apv <| .cons Apu <| .cons Apt <| .cons Aps <| .cons Apr <| .cons Apq <| .cons Aob <| .cons Aoa <| .cons An9 <| .cons An8 <| .cons An7 <| .nil
def exts:List (Nat × Ext):=[(47,.bits),(50,.frombits),(137,.sub64)]
def Aan:List (Nat × Ext)→Nat→Option Ext
 | [],_=>none
 | (m,e)::l,n=>bif Nat.beq m n then some e else Aan l n
theorem Ama (args:Array Value) (w:World):(callFunc 47 args).run Tryz.prog w=((R8 .bits args).run Tryz.prog w).andThen fun v w'=>.ok (.value v) w':=run_callFunc_extern (e:=Extern.MathFloatBits.float64bits) Tryz.func47 (by kernel_rfl) (by kernel_rfl) (by kernel_rfl) (by kernel_rfl) args w
theorem Al9 (args:Array Value) (w:World):(callFunc 50 args).run Tryz.prog w=((R8 .frombits args).run Tryz.prog w).andThen fun v w'=>.ok (.value v) w':=run_callFunc_extern (e:=Extern.MathFloatBits.float64frombits) Tryz.func50 (by kernel_rfl) (by kernel_rfl) (by kernel_rfl) (by kernel_rfl) args w
theorem Aik (args:Array Value) (w:World):(callFunc 137 args).run Tryz.prog w=((R8 .sub64 args).run Tryz.prog w).andThen fun v w'=>.ok (.value v) w':=run_callFunc_extern (e:=Tx) Tryz.func137 (by kernel_rfl) (by kernel_rfl) (by kernel_rfl) (by kernel_rfl) args w
def Anm:List Nat:=[100]
theorem Ao7:Acx Tryz.prog 100 ⟨3,24,(.struct [(0,4),(1,3),(2,31)]),[.bool false,.int .i64 (0:Int),.int .u64 (0:Int)]⟩ where
 guard:=by kernel_rfl
 eq:=by
  intro w c x y xs ys hx hy hlx hly
  obtain ⟨a0,x1,rfl,hx1⟩:=T0 hx
  obtain ⟨a1,x2,rfl,hx2⟩:=N9 hx1
  obtain ⟨a2,x3,rfl,hx3⟩:=N9 hx2
  obtain rfl:=Wd hx3
  obtain ⟨b0,y1,rfl,hy1⟩:=T0 hy
  obtain ⟨b1,y2,rfl,hy2⟩:=N9 hy1
  obtain ⟨b2,y3,rfl,hy3⟩:=N9 hy2
  obtain rfl:=Wd hy3
  obtain ⟨xs⟩:=xs
  obtain ⟨ys⟩:=ys
  simp only [A5.Ca,A5.Ey,Ak] at hlx hly
  obtain ⟨_,_,rfl,rfl,_,_,rfl,rfl,_,_,rfl,rfl,rfl⟩:=hlx
  obtain ⟨_,_,rfl,rfl,_,_,rfl,rfl,_,_,rfl,rfl,rfl⟩:=hly
  have hu:Tryz.prog.underlying 100=some (.struct (Tryz.prog.fieldsOf 100)):=by kernel_rfl
  have hp:Tryz.prog.stoodInHeld 100=false:=by kernel_rfl
  unfold Op.equal Op.maxDepth
  rw [run_equalIn_struct w 9999 100 _ _ hu hp]
  have hfs:Tryz.prog.fieldsOf 100=(match Tryz.prog.underlying 100 with | some (.struct fs)=>fs | _=>#[]):=rfl
  rw [hfs,Tryz.underlying100]
  simp [Op.eqFields,Ly w ty3 rfl,Ly w ty4 rfl,Ly w An6 rfl,run_equalIn_int w _ _ _ _ _ _ Tryz.underlying3,run_equalIn_bool w _ _ _ _ Tryz.underlying4,run_equalIn_int w _ _ _ _ _ _ Tryz.underlying31,Aap,Aao]
  by_cases h0:a0=b0<;>by_cases h1:a1=b1<;>by_cases h2:a2=b2<;>simp [h0,h1,h2]
def Bi (Bh:Nat→Option Entry) (adopt:Nat→Bool) (hint:Nat→Option Bc) (live:Nat→Option (List Nat)):Env:={ ty:=Agf tys,Bh:=Bh,ext:=Aan exts,eqs:=fun t=>Jo t Anm,adopt:=adopt,live:=live,hint:=hint }
theorem A2 {l:List (Nat × Entry)} (h:Ay Tryz.prog l) (adopt:Nat→Bool) (hint:Nat→Option Bc) (live:Nat→Option (List Nat)):Hz Tryz.prog (Bi (Bg l) adopt hint live) where
 ty:=fun t ti ht=>Amh.get ht
 Bh:=fun g e hg=>(h.get hg).meets
 call:=fun g e hg=>(h.get hg).call
 ext:=by
  intro g x hx args w
  simp only [Bi,exts,Aan] at hx
  cases hb:Nat.beq 47 g with
  | true =>
    rw [hb] at hx
    cases hx
    obtain rfl:=Ar9 hb
    exact Ama args w
  | false =>
  rw [hb,Arv] at hx
  clear hb
  cases hb:Nat.beq 50 g with
  | true =>
    rw [hb] at hx
    cases hx
    obtain rfl:=Ar9 hb
    exact Al9 args w
  | false =>
  rw [hb,Arv] at hx
  clear hb
  cases hb:Nat.beq 137 g with
  | true =>
    rw [hb] at hx
    cases hx
    obtain rfl:=Ar9 hb
    exact Aik args w
  | false =>
  rw [hb,Arv] at hx
  clear hb
  cases hx
 eqs:=by
  intro t ti ht hti
  simp only [Bi,Anm,Jo] at ht hti
  cases hb:Nat.beq t 100 with
  | true =>
    obtain rfl:=Ar9 hb
    cases hti
    exact Ao7
  | false =>
  rw [hb,Arv] at ht
  clear hb
  cases ht
 mixed:=by kernel_rfl
def Al8:List (Nat × Ext):=[(47,.bitsN),(50,.frombits),(137,.sub64)]
def Ad1:List (Nat × List CK)→Nat→List CK
 | [],_=>[]
 | (m,e)::l,n=>bif Nat.beq m n then e else Ad1 l n
def Vb (Bh:Nat→Option Entry) (adopt:Nat→Bool) (hint:Nat→Option Bc) (live:Nat→Option (List Nat)) (adv:Nat→List CK):Env:={ ty:=Agf tys,Bh:=Bh,ext:=Aan Al8,eqs:=fun t=>Jo t Anm,adopt:=adopt,live:=live,hint:=hint,adv:=adv }
theorem Yg {l:List (Nat × Entry)} (h:Ay Tryz.prog l) (adopt:Nat→Bool) (hint:Nat→Option Bc) (live:Nat→Option (List Nat)) (adv:Nat→List CK):Hz Tryz.prog (Vb (Bg l) adopt hint live adv) :=
 have k:=A2 h adopt hint live
 ⟨k.ty,k.Bh,k.call,(by
  intro g x hx args w
  simp only [Vb,Al8,Aan] at hx
  cases hb:Nat.beq 47 g with
  | true =>
    rw [hb] at hx
    cases hx
    obtain rfl:=Ar9 hb
    exact Ama args w
  | false =>
  rw [hb,Arv] at hx
  clear hb
  cases hb:Nat.beq 50 g with
  | true =>
    rw [hb] at hx
    cases hx
    obtain rfl:=Ar9 hb
    exact Al9 args w
  | false =>
  rw [hb,Arv] at hx
  clear hb
  cases hb:Nat.beq 137 g with
  | true =>
    rw [hb] at hx
    cases hx
    obtain rfl:=Ar9 hb
    exact Aik args w
  | false =>
  rw [hb,Arv] at hx
  clear hb
  cases hx),k.eqs,k.mixed,k.spoil⟩
end Go.Proofs.S1
namespace Go.Rnd
def J8 (V k:Nat):Nat:=V / 2^k+(if 2^k<2*(V%2^k)∨(2*(V%2^k)=2^k∧V / 2^k%2=1) then 1 else 0)
def Ho (V:Nat) (s:Int):Nat:=J8 (V*2^(-s).toNat) s.toNat
def J1 (V:Nat) (s:Int):Bool:=decide (V*2^(-s).toNat%2^s.toNat=0)
def Bx (M:Nat) (E:Int):Int:=max (E+M.log2-52) (-1074)
def kept (M:Nat) (E:Int):Nat:=Ho M (Bx M E-E)
def Dy:Nat:=2047*2^52
def B1 (M:Nat) (E:Int):Nat:=if M=0 then 0 else min ((Bx M E+1074).toNat*2^52+kept M E) Dy
def exact (M:Nat) (E:Int):Bool:=J1 M (Bx M E-E)
def flags (r:Nat) (ex:Bool):Nat:=if r=Dy then 5 else if ex then 0 else if 2^52≤r then 1 else 3
def flagsOf (M:Nat) (E:Int):Nat:=if M=0 then 0 else flags (B1 M E) (exact M E)
theorem By (k:Nat):0<2^k:=Nat.pow_pos (by decide)
theorem Le (V:Nat):J8 V 0=V:=by
 unfold J8; simp [Nat.mod_one]
theorem Ql (V a k:Nat):J8 (V*2^a) (a+k)=J8 V k:=by
 unfold J8
 have hA:=By a
 have e:2^(a+k)=2^a*2^k:=Asg 2 a k
 have hd:V*2^a / 2^(a+k)=V / 2^k:=by
  rw [e,Asf V,Nat.mul_div_mul_left _ _ hA]
 have hm:V*2^a%2^(a+k)=2^a*(V%2^k):=by
  rw [e,Asf V,Nat.mul_mod_mul_left]
 rw [hd,hm,e]
 have h1:(2^a*2^k<2*(2^a*(V%2^k)))↔(2^k<2*(V%2^k)):=by
  rw [Nat.mul_left_comm 2]
  exact Nat.mul_lt_mul_left hA
 have h2:(2*(2^a*(V%2^k))=2^a*2^k)↔(2*(V%2^k)=2^k):=by
  rw [Nat.mul_left_comm 2]
  exact Nat.mul_right_inj (by omega)
 simp only [h1,h2]
theorem mod_mul (V a k:Nat):(V*2^a%2^(a+k)=0)↔(V%2^k=0):=by
 have hA:=By a
 rw [Asg,Asf V,Nat.mul_mod_mul_left]
 constructor
 ·intro h
  rcases Nat.mul_eq_zero.1 h with h | h
  ·omega
  ·exact h
 ·intro h; rw [h]; rfl
theorem So (V k:Nat) (s:Int):Ho (V*2^k) (s+k)=Ho V s∧J1 (V*2^k) (s+k)=J1 V s:=by
 unfold Ho J1
 by_cases h0:0≤s
 ·have e1:(-(s+k)).toNat=0:=by omega
  have e2:(-s).toNat=0:=by omega
  have e3:(s+k).toNat=k+s.toNat:=by omega
  rw [e1,e2,e3,Asq,As1,As1]
  exact ⟨Ql V k _,by simp only [mod_mul]⟩
 ·by_cases h1:0≤s+k
  ·have e1:(-(s+k)).toNat=0:=by omega
   have e2:s.toNat=0:=by omega
   have e3:k=(s+k).toNat+(-s).toNat:=by omega
   rw [e1,e2,Asq,As1]
   have e4:V*2^k=V*2^(-s).toNat*2^(s+k).toNat:=by
    rw [Asi,← Asg,Nat.add_comm (-s).toNat,← e3]
   rw [e4]
   refine ⟨?_,?_⟩
   ·have:=Ql (V*2^(-s).toNat) (s+k).toNat 0
    rw [As0] at this; exact this
   ·have:=mod_mul (V*2^(-s).toNat) (s+k).toNat 0
    rw [As0,Asq] at this
    simp only [this]
  ·have e1:(s+k).toNat=0:=by omega
   have e2:s.toNat=0:=by omega
   have e3:(-s).toNat=k+(-(s+k)).toNat:=by omega
   rw [e1,e2,e3,Asg,Asi]
   exact ⟨rfl,rfl⟩
theorem Kc (M k:Nat) (hM:M≠0):(M*2^k).log2=M.log2+k:=by
 have hk:=By k
 have hne:M*2^k≠0:=by
  intro h
  rcases Nat.mul_eq_zero.1 h with h | h<;>omega
 have h1:=Nat.log2_self_le hM
 have h2:=Nat.lt_log2_self (n:=M)
 have a:M.log2+k≤(M*2^k).log2:=by
  rw [Nat.le_log2 hne,Asg]
  exact Ar3 _ h1
 have b:(M*2^k).log2<M.log2+k+1:=by
  rw [As8 hne,Nat.add_right_comm,Asg]
  exact (Nat.mul_lt_mul_right hk).2 h2
 omega
theorem Q1 {n a:Nat} (h1:2^a≤n) (h2:n<2^(a+1)):n.log2=a:=by
 have:=By a
 have hn:n≠0:=by omega
 have b1:=(Nat.le_log2 hn).2 h1
 have b2:=(As8 hn).2 h2
 omega
theorem Aca (M k:Nat) (E:Int) (hM:M≠0):Bx (M*2^k) (E-k)=Bx M E:=by
 unfold Bx; rw [Kc M k hM]; congr 1; omega
theorem Gf {M k:Nat} (hM:M≠0):M*2^k≠0:=by
 have:=By k
 intro h
 rcases Nat.mul_eq_zero.1 h with h | h<;>omega
theorem Di (M k:Nat) (E:Int):B1 (M*2^k) (E-k)=B1 M E∧flagsOf (M*2^k) (E-k)=flagsOf M E:=by
 by_cases hM:M=0
 ·subst hM; simp [B1,flagsOf]
 ·have hl:=Aca M k E hM
  have e:Bx M E-(E-k)=Bx M E-E+k:=by omega
  have h1:B1 (M*2^k) (E-k)=B1 M E:=by
   unfold B1 kept
   rw [Asd (Gf hM),Asd hM,hl,e,(So M k _).1]
  refine ⟨h1,?_⟩
  unfold flagsOf
  rw [Asd (Gf hM),Asd hM,h1]
  unfold exact
  rw [hl,e,(So M k _).2]
theorem Ag1 {V s d k:Nat} (hs:s%2=1) (h1:(s-1)*2^d<V) (h2:V<(s+1)*2^d) (hk:2≤k) :
 J8 V (d+k)=J8 s k∧V%2^(d+k)≠0∧s%2^k≠0:=by
 have hA:=By d
 obtain ⟨j,rfl⟩:∃ j,k=j+2:=⟨k-2,by omega⟩
 have hB:2^(j+2)=4*2^j:=by rw [Asg]; omega
 have hBp:=By (j+2)
 have hC:=By j
 have hsd:=Nat.div_add_mod s (2^(j+2))
 have hr2:s%2^(j+2)%2=1:=by
  rw [hB,show 4*2^j=2*(2*2^j) by omega,Nat.mod_mul_right_mod]; exact hs
 have hrlt:=Nat.mod_lt s hBp
 generalize hq:s / 2^(j+2)=q at *
 generalize hr:s%2^(j+2)=r at *
 have hAB:2^(d+(j+2))=2^d*2^(j+2):=Asg 2 d (j+2)
 generalize hBB:2^(j+2)=b at *
 generalize hAA:2^d=a at *
 have e1:(s-1)*a=q*(a*b)+(r-1)*a:=by
  have:s-1=b*q+(r-1):=by omega
  rw [this,Asw,Asf b q,Asi,Asf b a]
 have e2:(s+1)*a=q*(a*b)+(r+1)*a:=by
  have:s+1=b*q+(r+1):=by omega
  rw [this,Asw,Asf b q,Asi,Asf b a]
 have e3:(r+1)*a≤b*a:=Ar3 a (by omega)
 rw [Asf b a] at e3
 rw [e1] at h1
 rw [e2] at h2
 have hdiv:V / (a*b)=q:=Nat.div_eq_of_lt_le (by omega) (by rw [Asw]; omega)
 have hmod:V%(a*b)=V-q*(a*b):=by
  have:=Nat.div_add_mod V (a*b)
  rw [hdiv,Asf (a*b) q] at this; omega
 have hb2:b=2*(2*2^j):=by omega
 generalize hc:2^j=c at *
 have hR1:(r-1)*a<V-q*(a*b):=by omega
 have hR2:V-q*(a*b)<(r+1)*a:=by omega
 generalize hR:V-q*(a*b)=R at *
 have hab:a*b=2*(2*c*a):=by rw [hb2,Asf a,Asi]
 have key:(a*b<2*R∨(2*R=a*b∧q%2=1))↔(b<2*r∨(2*r=b∧q%2=1)):=by
  rw [hab,hb2]
  rcases Asp r (2*c) with hlt | hge
  ·have:(r+1)*a≤2*c*a:=Ar3 a (by omega)
   constructor<;>(intro h; omega)
  ·have hgt:2*c+1≤r:=by omega
   have:2*c*a≤(r-1)*a:=Ar3 a (by omega)
   constructor
   ·intro _; left; omega
   ·intro _; left; omega
 refine ⟨?_,?_,?_⟩
 ·unfold J8
  rw [hAB,hdiv,hmod,hBB,hq,hr]
  simp only [key]
 ·rw [hAB,hmod]
  have:=Nat.zero_le ((r-1)*a)
  omega
 ·omega
theorem M4 {V s d:Nat} {E:Int} (hs:s%2=1) (h1:(s-1)*2^d<V) (h2:V<(s+1)*2^d) (hl:Bx V E=Bx s (E+d)) (hk:E+d+2≤Bx s (E+d)) :
 B1 V E=B1 s (E+d)∧flagsOf V E=flagsOf s (E+d):=by
 have hV:V≠0:=by omega
 have hs0:s≠0:=by omega
 generalize hL:Bx s (E+d)=L at *
 obtain ⟨k,hk2⟩:∃ k:Nat,L-(E+d)=k+2:=⟨(L-(E+d)-2).toNat,by omega⟩
 obtain ⟨a1,a2,a3⟩:=Ag1 (k:=k+2) hs h1 h2 (by omega)
 have e1:(L-E).toNat=d+(k+2):=by omega
 have e2:(-(L-E)).toNat=0:=by omega
 have e3:(L-(E+d)).toNat=k+2:=by omega
 have e4:(-(L-(E+d))).toNat=0:=by omega
 have hr:B1 V E=B1 s (E+d):=by
  unfold B1 kept Ho
  rw [Asd hV,Asd hs0,hl,hL,e1,e2,e3,e4]
  simp only [Asq,As1]
  rw [a1]
 refine ⟨hr,?_⟩
 unfold flagsOf exact J1
 rw [Asd hV,Asd hs0,hr,hl,hL,e1,e2,e3,e4]
 simp only [Asq,As1,a2,a3,decide_false]
theorem Ng {V s d:Nat} (hs:s%2=1) (hs3:3≤s) (h1:(s-1)*2^d<V) (h2:V<(s+1)*2^d):V.log2=s.log2+d:=by
 have hs0:s≠0:=by omega
 have a1:=Nat.log2_self_le hs0
 have a2:=Nat.lt_log2_self (n:=s)
 have hl:1≤s.log2:=by rw [Nat.le_log2 hs0]; omega
 obtain ⟨t,ht⟩:∃ t,s.log2=t+1:=⟨s.log2-1,by omega⟩
 rw [ht] at a1 a2 ⊢
 have ev1:2^(t+1)=2*2^t:=by rw [Nat.pow_succ]; omega
 have ev2:2^(t+1+1)=2*(2*2^t):=by rw [Nat.pow_succ,ev1]; omega
 refine Q1 ?_ ?_
 ·rw [Asg]
  have:2^(t+1)*2^d≤(s-1)*2^d:=Ar3 _ (by omega)
  omega
 ·have e:t+1+d+1=(t+1+1)+d:=by omega
  rw [e,Asg]
  have:(s+1)*2^d≤2^(t+1+1)*2^d:=Ar3 _ (by omega)
  omega
end Go.Rnd
namespace Go.Rnd
def Bu (b:Nat):Bool:=decide (2^63≤b)
def C8 (b:Nat):Nat:=b / 2^52%2048
def Co (b:Nat):Nat:=b%2^52
def Ag (b:Nat):Nat:=if C8 b=2047 then (if Co b=0 then 3 else 4) else if 0<C8 b then 2 else if 0<Co b then 1 else 0
def Ii (b:Nat):Bool:=decide (C8 b<2047)
def Pr (b:Nat):Nat:=if 2^63≤b then b-2^63 else b+2^63
def Ar (b:Nat):Nat:=if C8 b=0 then Co b else Co b+2^52
def Ax (b:Nat):Int:=if C8 b=0 then -1074 else (C8 b:Int)-1075
def Be (neg:Bool) (r:Nat):Nat:=if neg then 2^63+r else r
def Gz (neg:Bool) (m:Nat):Int:=if neg then -(m:Int) else m
def Ir (b:Nat) (e:Int):Int:=Gz (Bu b) (Ar b*2^(Ax b-e).toNat)
def Vq:Nat:=0x7ff8000000000000
def Pk (z:Nat) (S:Int) (e:Int):Nat × Nat :=
 if S=0 then (z,0) else (Be (decide (S<0)) (B1 S.natAbs e),flagsOf S.natAbs e)
def N1 (a b:Nat):Nat × Nat :=
 if Ag a=4∨Ag b=4 then (Vq,0)
 else if Ag a=3 then (if Ag b=3∧a≠b then (Vq,16) else (a,0))
 else if Ag b=3 then (b,0)
 else Pk (Be (Bu a&&Bu b) 0) (Ir a (min (Ax a) (Ax b))+Ir b (min (Ax a) (Ax b))) (min (Ax a) (Ax b))
def Aow (a b:Nat):Nat × Nat:=N1 a (Pr b)
def Ev (neg:Bool) (m:Nat) (e:Int) (more:Bool):Nat × Nat :=
 (Be neg (B1 (4*m+more.toNat) (e-2)),flagsOf (4*m+more.toNat) (e-2))
def C9 (x:Int):Bool:=Bu x.toNat
def Ja (x:Int):Int:=C8 x.toNat
def Cg (x:Int):Int:=Co x.toNat
def Ba (x:Int):Int:=Ag x.toNat
def Da (x:Int):Bool:=Ii x.toNat
def Dc (x:Int):Int:=Pr x.toNat
def Bk (x:Int):Int:=Ar x.toNat
def A7 (x:Int):Int:=Ax x.toNat
def Dw (neg:Bool) (m e:Int) (more:Bool):Int:=(Ev neg m.toNat e more).1
def Dv (neg:Bool) (m e:Int) (more:Bool):Int:=(Ev neg m.toNat e more).2
def Jh (a b:Int):Int:=(N1 a.toNat b.toNat).1
def S4 (a b:Int):Int:=(N1 a.toNat b.toNat).2
def Gu (a b:Int):Int:=(Aow a.toNat b.toNat).1
def Aox (a b:Int):Int:=(Aow a.toNat b.toNat).2
theorem G6 (b:Nat):C8 b<2048:=Nat.mod_lt _ (by decide)
theorem Hr (b:Nat):Co b<4503599627370496:=Nat.mod_lt _ (by decide)
theorem Er (b:Nat):Ar b<9007199254740992:=by
 have:=Hr b
 unfold Ar; split<;>omega
theorem Dt (b:Nat):-1074≤Ax b∧Ax b≤972:=by
 have:=G6 b
 unfold Ax; split<;>omega
theorem Jw {m:Nat} {e:Int} (h1:2^52≤m) (h2:m<2^53) (he:-1074≤e):B1 m e=min ((e+1074).toNat*2^52+m) Dy:=by
 have hl:m.log2=52:=Q1 h1 h2
 have hm:m≠0:=by omega
 have hle:Bx m e=e:=by unfold Bx; rw [hl]; omega
 unfold B1 kept
 rw [Asd hm,hle,Int.sub_self]
 unfold Ho
 simp [Le]
theorem T4 {m:Nat} (h2:m<2^52):B1 m (-1074)=m:=by
 by_cases hm:m=0
 ·subst hm; rfl
 ·have hl:m.log2<52:=(As8 hm).2 h2
  have hle:Bx m (-1074)=-1074:=by unfold Bx; omega
  unfold B1 kept
  rw [Asd hm,hle,Int.sub_self]
  unfold Ho Dy
  simp [Le]
  omega
theorem Od (m:Nat) (e:Int):B1 m e≤Dy:=by
 unfold B1
 split
 ·exact Nat.zero_le _
 ·exact Nat.min_le_right _ _
theorem Gs:Dy=9218868437227405312:=rfl
theorem Tb (m:Nat) (e:Int):B1 m e<2^63:=by
 have:=Od m e
 rw [Gs] at this
 omega
theorem Qb (n:Bool) (m:Nat) (e:Int):Be n (B1 m e)<2^64:=by
 have:=Tb m e
 unfold Be; split<;>omega
theorem Un {r:Nat} (h:r<2^63):Pr r=2^63+r:=by
 unfold Pr; rw [Asd (by omega)]; omega
end Go.Rnd
namespace Go.Rnd
open Go.Den
def Il (m e:Int):Bool:=Br (0≤m∧m≤9007199254740992∧-1074≤e∧e+m / 9007199254740992≤100000)
def Lz (m e:Int):Nat:=if 9007199254740992≤m then 1 else if m<4503599627370496 then 2+(e+1074).toNat else 0
def Qo (n:Bool) (m e:Int):Int:=Be n (B1 m.toNat e)
def Dk (m e:Int) (r:Bool):Bool :=
 Br (0≤m∧m<18446744073709551616∧e≤50000∧(-1137≤e∨(m<4611686018427387904∧-1140≤e))∧(r=true→4503599627370496≤m∨e≤-1074))
def Ei (n D:Nat):Nat:=if n%2^D=0 then n / 2^D else 2*(n / 2^D / 2)+1
def D1 (m d:Int):Int:=Ei m.toNat (min d.toNat 63)
def Cj (l:List Int):Bool:=Br (l.length<4611686018427387904∧∀ x∈l,Aj x=true)
def E2 (x:Nat):Nat:=if Ag x=4 then Vq else x
def Vi (x:Int):Int:=E2 x.toNat
def Kw (x:Nat):Int:=E2 x
def L9 (x:Int):Bool:=Br (0≤x)
theorem Kb (n:Nat):L9 (n:Int)=true:=Al.2 (Int.natCast_nonneg n)
theorem Qx {x:Int} (h:L9 x=true):∃ n:Nat,x=n:=⟨x.toNat,by have:=Al.1 h; omega⟩
end Go.Rnd
namespace Go.Rnd
theorem Ao0 (a c:Nat):(a+1)*c+c=a*c+(c+c):=by rw [Asw,Nat.one_mul,Nat.add_assoc]
theorem Aoc:2^52+2^52=2^53:=by decide
theorem Aoz (a:Nat):(a+1)*2^52+2^52=a*2^52+2^53:=(Ao0 a (2^52)).trans (congrArg (fun x=>a*2^52+x) Aoc)
theorem Ami:2^52*2^1=2^53:=by decide
theorem Aj2 {E:Int}:B1 (2^53) E=B1 (2^52) (E+1):=by
 have:=(Di (2^52) 1 (E+1)).1
 have e1:E+1-((1:Nat):Int)=E:=by omega
 rw [e1,Ami] at this
 exact this
theorem Agy {E:Int} (hE:-1074≤E):B1 (2^53) E=min ((E+1074).toNat*2^52+2^53) Dy:=by
 have e3:(E+1+1074).toNat=(E+1074).toNat+1:=by omega
 rw [Aj2,Jw (by decide) (by decide) (by omega),e3]
 exact congrArg (fun x=>min x Dy) (Aoz _)
theorem Aeh {q:Nat} {E:Int} (h1:q≤2^53) (hE:-1074≤E) (h2:2^52≤q∨E=-1074):B1 q E=min ((E+1074).toNat*2^52+q) Dy:=by
 by_cases ha:q=2^53
 ·rw [ha]; exact Agy hE
 ·by_cases hb:2^52≤q
  ·exact Jw hb (by omega) hE
  ·obtain rfl:E=-1074:=h2.resolve_left hb
   rw [T4 (by omega)]
   unfold Dy
   simp
   omega
theorem Aeo {M D s:Nat} (hs:s≤1):J8 (4*M+s) (D+2)=M / 2^D+(if 0<D∧(2^(D-1)<M%2^D∨(M%2^D=2^(D-1)∧(s=1∨M / 2^D%2=1))) then 1 else 0) ∧
 ((4*M+s)%2^(D+2)=0↔M%2^D=0∧s=0):=by
 have hp:2^(D+2)=2^D*4:=by rw [Asg]
 have hA:=By D
 have hdm:=Nat.div_add_mod M (2^D)
 have hlt:=Nat.mod_lt M hA
 have hdiv:(4*M+s) / (2^D*4)=M / 2^D:=by
  rw [Asf (2^D) 4,← Asl]
  congr 1; omega
 have hmod:(4*M+s)%(2^D*4)=4*(M%2^D)+s:=by
  have h:=Nat.div_add_mod (4*M+s) (2^D*4)
  rw [hdiv] at h
  have e:2^D*4*(M / 2^D)=4*(2^D*(M / 2^D)):=by rw [Asf (2^D) 4,Asi]
  rw [e] at h
  omega
 unfold J8
 rw [hp,hdiv,hmod]
 generalize M%2^D=r at *
 generalize M / 2^D=q at *
 refine ⟨?_,by omega⟩
 congr 1
 have key:(2^D*4<2*(4*r+s)∨2*(4*r+s)=2^D*4∧q%2=1)↔(0<D∧(2^(D-1)<r∨(r=2^(D-1)∧(s=1∨q%2=1)))):=by
  cases D with
  | zero=>simp only [Asq] at hlt ⊢; omega
  | succ d =>
    rw [Nat.pow_succ] at hlt ⊢
    simp only [Nat.add_sub_cancel]
    generalize 2^d=c at *
    omega
 simp only [key]
structure Drop (M:Nat) (e:Int) (D:Nat):Prop where
 le:D≤63
 stop:D<63→M / 2^D<2^53∧-1074≤e+D
 least:∀ d,d<D→2^53≤M / 2^d∨e+d < -1074
def Zp (M D s:Nat):Nat:=M / 2^D+(if 0<D∧(2^(D-1)<M%2^D∨(M%2^D=2^(D-1)∧(s=1∨M / 2^D%2=1))) then 1 else 0)
theorem Ag4 {M D s:Nat} (h:M / 2^D<2^53):Zp M D s≤2^53:=by
 unfold Zp; split<;>omega
theorem Ag5 {M D s:Nat}:M / 2^D≤Zp M D s:=by unfold Zp; omega
theorem Anp {M D:Nat} {c:Nat} (h:M / 2^D<c):M<c*2^D:=(Nat.div_lt_iff_lt_mul (By D)).1 h
theorem Ah4 {M D:Nat} {c:Nat} (h:c≤M / 2^D):c*2^D≤M:=(Nat.le_div_iff_mul_le (By D)).1 h
theorem Ux {V:Nat} {E L:Int} (h:(E+V.log2-52=L∧-1074≤L)∨(E+V.log2-52≤L∧L=-1074)):Bx V E=L:=by unfold Bx; omega
theorem Afe {M s:Nat} (hs:s≤1) (hM:M≠0):(4*M+s).log2=M.log2+2:=by
 have h1:=Nat.log2_self_le hM
 have h2:=Nat.lt_log2_self (n:=M)
 refine Q1 ?_ ?_
 ·rw [Asg]; omega
 ·have e:2^(M.log2+2+1)=2^(M.log2+1)*4:=by rw [show M.log2+2+1=M.log2+1+2 by omega,Asg]
  omega
theorem Ae5 {M D s:Nat} {e:Int} (hD:Drop M e D) (hs:s≤1) (hV:4*M+s≠0) (hM:M<2^64) (he:-1137≤e∨(M<2^62∧-1140≤e)) (hr:s=1→2^52≤M∨e≤-1074) :
 B1 (4*M+s) (e-2)=B1 (if e+D < -1074 then 0 else Zp M D s) (max (e+D) (-1074)) ∧
 flagsOf (4*M+s) (e-2)=flags (B1 (4*M+s) (e-2)) (decide (M%2^D=0∧s=0)) ∧
 (if e+D < -1074 then 0 else Zp M D s)≤2^53:=by
 have hA:=By D
 by_cases hlow:e+D < -1074
 ·
  have hD63:D=63:=by
   rcases Asp D 63 with h | h
   ·have:=(hD.stop h).2; omega
   ·have:=hD.le; omega
  subst hD63
  have hM62:M<2^62:=by rcases he with h | h; omega; exact h.1
  have he2:-1140≤e:=by rcases he with h | h; omega; exact h.2
  have hV64:4*M+s<2^64:=by omega
  have hlog:(4*M+s).log2<64:=(As8 hV).2 hV64
  have hl:Bx (4*M+s) (e-2)=-1074:=Ux (.inr ⟨by omega,rfl⟩)
  obtain ⟨k,hk⟩:∃ k:Nat,(-1074-(e-2)).toNat=66+k:=⟨(-1074-(e-2)).toNat-66,by omega⟩
  have e2:(-(-1074-(e-2))).toNat=0:=by omega
  have hp:2^66≤2^(66+k):=Ar6 (by decide) (by omega)
  have hsm:4*M+s<2^(66+k):=by omega
  have hz:Ho (4*M+s) (-1074-(e-2))=0:=by
   unfold Ho J8
   rw [e2,hk,Asq,As1,Nat.div_eq_of_lt hsm,Ar4 hsm,Asd (by omega)]
  have hru:B1 (4*M+s) (e-2)=0:=by
   unfold B1 kept
   rw [Asd hV,hl,hz]
   simp
  refine ⟨?_,?_,?_⟩
  ·rw [hru,Ase hlow]; rfl
  ·unfold flagsOf exact J1
   rw [Asd hV,hl,e2,hk,Asq,As1,Ar4 hsm]
   congr 1
   have h63:M%2^63=M:=Ar4 (by omega)
   rw [h63,Ar7]
   simp only [Ary]
   omega
  ·rw [Ase hlow]; exact Nat.zero_le _
 ·have hmax:max (e+D) (-1074)=e+D:=by omega
  have hq:M / 2^D<2^53:=by
   rcases Asp D 63 with h | h
   ·exact (hD.stop h).1
   ·have:D=63:=by have:=hD.le; omega
    subst this
    exact Asu (Nat.div_le_of_le_mul (show M≤2^63*2 by omega)) (by decide)
  obtain ⟨c1,c2⟩:=Aeo (M:=M) (D:=D) hs
  rw [Asd hlow,hmax]
  refine ⟨?_,?_,Ag4 hq⟩
  all_goals
   by_cases hD0:D=0∧s=0
   ·obtain ⟨rfl,rfl⟩:=hD0
    have hM0:M≠0:=by omega
    obtain ⟨s1,s2⟩:=Di M 2 e
    have e1:M*2^2=4*M+0:=by omega
    have e2:e-((2:Nat):Int)=e-2:=by omega
    rw [e1,e2] at s1 s2
    have hq0:Zp M 0 0=M:=by unfold Zp; simp
    have hle:Bx M e≤e:=by
     have:M.log2<53:=(As8 hM0).2 (by simpa using hq)
     unfold Bx; simp only [Int.natCast_zero,Int.add_zero] at hlow; omega
    first
    | (rw [s1,hq0]; simp; done)
    | (rw [s2,s1]
       unfold flagsOf exact J1
       have z:(Bx M e-e).toNat=0:=by omega
       rw [Asd hM0,z]
       simp [Nat.mod_one])
   ·
    have hl:Bx (4*M+s) (e-2)=e+D:=by
     by_cases hM0:M=0
     ·subst hM0
      have hs1:s=1:=by omega
      subst hs1
      have hle:e+D=-1074:=by
       rcases Nat.eq_zero_or_pos D with rfl | hpos
       ·have:=hr rfl; omega
       ·have h:=hD.least (D-1) (by omega)
        simp only [Nat.zero_div] at h
        omega
      refine Ux (.inr ⟨?_,hle⟩)
      have:(4*0+1:Nat).log2=0:=by decide
      rw [this]; omega
     ·have hlog:=Afe hs hM0
      have hub:M.log2<53+D:=by
       rw [As8 hM0,Asg]; exact Anp hq
      have hcase:52+D≤M.log2∨e+D=-1074:=by
       rcases Nat.eq_zero_or_pos D with rfl | hpos
       ·have hs1:s=1:=by omega
        rcases hr hs1 with h | h
        ·left; rw [Nat.le_log2 hM0]; simpa using h
        ·right; simp only [Int.natCast_zero,Int.add_zero] at hlow ⊢; omega
       ·rcases hD.least (D-1) (by omega) with h | h
        ·left
         rw [Nat.le_log2 hM0]
         have:=Ah4 h
         have e1:2^(52+D)=2^53*2^(D-1):=by rw [← Asg]; congr 1; omega
         rw [e1]; exact this
        ·right; omega
      refine Ux ?_
      rw [hlog]
      rcases hcase with h | h
      ·left; omega
      ·right; omega
    have e1:(e+D-(e-2)).toNat=D+2:=by omega
    have e2:(-(e+(D:Int)-(e-2))).toNat=0:=by omega
    have hkept:kept (4*M+s) (e-2)=Zp M D s:=by
     unfold kept Ho
     rw [hl,e1,e2,Asq,As1,c1]; rfl
    first
    | (have hbig:2^52≤Zp M D s∨e+D=-1074:=by
        rcases Nat.eq_zero_or_pos D with rfl | hpos
        ·have hs1:s=1:=by omega
         rcases hr hs1 with h | h
         ·left; exact Asz (by simpa using h) Ag5
         ·right; simp only [Int.natCast_zero,Int.add_zero] at hlow ⊢; omega
        ·rcases hD.least (D-1) (by omega) with h | h
         ·left
          refine Asz ?_ Ag5
          rw [Nat.le_div_iff_mul_le hA]
          have:=Ah4 h
          have e1:2^52*2^D=2^53*2^(D-1):=by rw [← Asg,← Asg]; congr 1; omega
          rw [e1]; exact this
         ·right; omega
       rw [Aeh (Ag4 hq) (by omega) hbig]
       unfold B1
       rw [Asd hV,hl,hkept]; done)
    | (unfold flagsOf exact J1
       rw [Asd hV,hl,e1,e2,Asq,As1]
       congr 1
       rw [Ar7]
       simp only [Ary]
       exact c2)
theorem Wl (n:Bool) {r:Nat} (h:r<2^63):C8 (Be n r)=r / 2^52:=by
 unfold C8 Be; cases n
 ·simp only [Bool.false_eq_true,if_false]; omega
 ·simp only [if_true]; omega
theorem U7 (n:Bool) (r:Nat):Co (Be n r)=r%2^52:=by
 unfold Co Be; cases n
 ·rfl
 ·simp only [if_true]; omega
theorem R3 (n:Bool) {r:Nat} (h:r≤Dy):Ag (Be n r)=if r=Dy then 3 else if 2^52≤r then 2 else if 0<r then 1 else 0:=by
 rw [Gs] at *
 unfold Ag
 rw [Wl n (by omega),U7]
 by_cases h1:r=9218868437227405312
 ·subst h1; simp
 ·rw [Asd h1,Asd (by omega)]
  by_cases h2:2^52≤r
  ·rw [Ase h2,Ase (by omega)]
  ·rw [Asd h2,Asd (by omega)]
   by_cases h3:0<r
   ·rw [Ase h3,Ase (by omega)]
   ·rw [Asd h3,Asd (by omega)]
end Go.Rnd
namespace Go.Rnd
open Ieee
theorem Anq (neg:Bool) (V k:Nat):Toward.even.cut neg V k=J8 V k:=by
 unfold Toward.cut J8
 simp only [Nat.shiftLeft_eq,Nat.one_mul]
 by_cases h:k≤V.log2+2
 ·rw [Nat.min_eq_left h]
  congr 1
  by_cases h1:2^k<2*(V%2^k)
  ·simp [h1]
  ·by_cases h2:2*(V%2^k)=2^k∧V / 2^k%2=1
   ·simp [h2.1,h2.2]
   ·simp [h1,h2]
    intro h3
    have:=Nat.mod_lt (V / 2^k) (show 0<2 by decide)
    omega
 ·rw [Nat.min_eq_right (by omega)]
  have hV:V<2^(V.log2+1):=Nat.lt_log2_self
  have e:2^(V.log2+2)=2*2^(V.log2+1):=by rw [Nat.pow_succ,Asf]
  have hk:2^(V.log2+2)≤2^k:=Ar6 (by decide) (by omega)
  have d1:V / 2^(V.log2+2)=0:=Nat.div_eq_of_lt (by omega)
  have d2:V / 2^k=0:=Nat.div_eq_of_lt (by omega)
  have m1:V%2^(V.log2+2)=V:=Ar4 (by omega)
  have m2:V%2^k=V:=Ar4 (by omega)
  rw [d1,d2,m1,m2]
  have c1:¬ (2^(V.log2+2)<2*V):=by omega
  have c2:¬ (2^k<2*V):=by omega
  simp [c1,c2]
theorem Ajn (neg:Bool) (r:Nat):Ieee.double.word neg r=Be neg r:=rfl
theorem Aby (neg:Bool) (M:Nat) (E:Int):Ieee.double.nearest neg M E=Be neg (B1 M E):=by
 unfold Format.nearest B1
 by_cases h:M=0
 ·rw [Ase h,Ase h]; rfl
 ·rw [Asd h,Asd h,Ajn]
  have e1:Ieee.double.leastPlace=-1074:=by decide
  have e2:max (E+(M.log2:Int)-(Ieee.double.fractionBits:Int)) Ieee.double.leastPlace=Bx M E:=by rw [e1]; rfl
  rw [e2,e1,Anq,Nat.shiftLeft_eq]
  unfold kept Ho
  have e3:(-(Bx M E-E)).toNat=(E-Bx M E).toNat:=by congr 1; omega
  have e4:Bx M E - -1074=Bx M E+1074:=by omega
  rw [e3,e4]
  rfl
theorem Gh (b:Nat):(C8 b=2047∧Co b=0∧Ag b=3)∨(C8 b=2047∧Co b≠0∧Ag b=4)∨(C8 b<2047∧Ag b≠3∧Ag b≠4):=by
 have:=G6 b
 unfold Ag
 by_cases h1:C8 b=2047
 ·by_cases h2:Co b=0<;>simp [h1,h2]
 ·refine .inr (.inr ⟨by omega,?_⟩)
  rw [Asd h1]
  split
  ·decide
  ·split<;>decide
theorem Oc (b:Nat):b%2^63=C8 b*2^52+Co b:=by unfold C8 Co; omega
def Qk (b:Nat):Datum:=if Ag b=4 then .nan (Bu b) (Co b) else if Ag b=3 then .infinity (Bu b) else .number (Bu b) (Ar b) (Ax b)
theorem Og {b:Nat} (h:b<2^64):Ieee.double.read b=Qk b:=by
 unfold Format.read Qk
 have e0:Ieee.double.signWeight=2^63:=rfl
 have e1:Ieee.double.leastPlace=-1074:=by decide
 have e2:Ieee.double.binade=2^52:=rfl
 have e3:Ieee.double.infRung=Dy:=rfl
 have hn:(b / 2^63%2==1)=Bu b:=by
  unfold Bu
  rw [Ar7]
  simp only [beq_iff_eq,Ary]
  omega
 dsimp only
 rw [e0,e1,e2,e3,hn,Oc,Gs]
 have hf:Co b<2^52:=Hr b
 rcases Gh b with ⟨h1,h2,h3⟩ | ⟨h1,h2,h3⟩ | ⟨h1,h2,h3⟩
 ·rw [Asd (by omega),Asd (by omega),Ase (by omega),Asd (by omega),Ase h3]
 ·rw [Asd (by omega),Asd (by omega),Asd (by omega),Ase h3]
  have e:C8 b*2^52+Co b-9218868437227405312=Co b:=by omega
  rw [e]
 ·rw [Asd h3,Asd h2]
  by_cases h0:C8 b=0
  ·rw [Ase (by omega)]
   unfold Ar Ax
   rw [Ase h0,Ase h0,h0,Nat.zero_mul,As2]
  ·rw [Asd (by omega),Ase (by omega)]
   unfold Ar Ax
   rw [Asd h0,Asd h0]
   have m1:(C8 b*2^52+Co b)%2^52=Co b:=by omega
   have m2:(C8 b*2^52+Co b) / 2^52=C8 b:=by omega
   have e:(-1074:Int)+((C8 b-1:Nat):Int)=(C8 b:Int)-1075:=by omega
   rw [m1,m2,Nat.add_comm (2^52),e]
theorem Ad4 (s:Bool) (m:Nat) (e:Int):Ieee.double.write (.number s m e)=Be s (B1 m e):=Aby s m e
theorem Vh (s:Bool) {r:Nat} (h:r≤Dy):E2 (Be s r)=Be s r:=by
 unfold E2
 rw [Asd]
 rw [R3 s h]
 split
 ·decide
 ·split
  ·decide
  ·split<;>decide
theorem Wa (s:Bool) (m up:Nat):Ieee.signed s m up=Gz s (m*2^up):=by
 unfold Ieee.signed Gz
 rw [Nat.shiftLeft_eq]
theorem Oh {b:Nat} (h:Ag b=4):Qk b=.nan (Bu b) (Co b):=Ase h
theorem Ib {b:Nat} (h:Ag b=3):Qk b=.infinity (Bu b):=by unfold Qk; rw [Asd (by omega),Ase h]
theorem Ia {b:Nat} (h3:Ag b≠3) (h4:Ag b≠4):Qk b=.number (Bu b) (Ar b) (Ax b):=by unfold Qk; rw [Asd h4,Asd h3]
theorem Uh (b:Nat):(Ieee.double.read b).isNaN=decide (Ag b=4):=by
 unfold Format.read
 have e0:Ieee.double.signWeight=2^63:=rfl
 have e2:Ieee.double.binade=2^52:=rfl
 have e3:Ieee.double.infRung=Dy:=rfl
 dsimp only
 rw [e0,e2,e3,Oc,Gs]
 have hf:Co b<2^52:=Hr b
 rcases Gh b with ⟨h1,h2,h3⟩ | ⟨h1,h2,h3⟩ | ⟨h1,h2,h3⟩
 ·rw [Asd (by omega),Asd (by omega),Ase (by omega),Arw (by omega)]; rfl
 ·rw [Asd (by omega),Asd (by omega),Asd (by omega),Ars h3]; rfl
 ·rw [Arw h3]
  by_cases h0:C8 b=0
  ·rw [Ase (by omega)]; rfl
  ·rw [Asd (by omega),Ase (by omega)]; rfl
end Go.Rnd
namespace Go.Rnd
open Ieee
theorem Rq {V W k:Nat} (h:V≤W):J8 V k≤J8 W k:=by
 unfold J8
 have hA:=By k
 have hq:V / 2^k≤W / 2^k:=Nat.div_le_div_right h
 rcases Asp (V / 2^k) (W / 2^k) with h1 | h1
 ·split<;>split<;>omega
 ·have he:V / 2^k=W / 2^k:=by omega
  have v:=Nat.div_add_mod V (2^k)
  have w:=Nat.div_add_mod W (2^k)
  rw [he] at v ⊢
  have hr:V%2^k≤W%2^k:=by omega
  by_cases hc:2^k<2*(V%2^k)∨2*(V%2^k)=2^k∧W / 2^k%2=1
  ·have hc':2^k<2*(W%2^k)∨2*(W%2^k)=2^k∧W / 2^k%2=1:=by
    rcases hc with hc | ⟨hc,hd⟩
    ·exact .inl (by omega)
    ·rcases Asp (2^k) (2*(W%2^k)) with h2 | h2
     ·exact .inl h2
     ·exact .inr ⟨by omega,hd⟩
   rw [Ase hc,Ase hc']
   exact Asm _
  ·rw [Asd hc]
   exact Nat.le_add_right _ _
theorem Aj5 {V c k:Nat} (h:V≤c*2^k):J8 V k≤c:=by
 have h1:=Rq (k:=k) h
 have:J8 (c*2^k) k=c:=by
  have:=Ql c k 0
  rw [As0,Le] at this
  exact this
 omega
theorem Aku {V c k:Nat} (h:c*2^k≤V):c≤J8 V k:=by
 have h1:=Rq (k:=k) h
 have:J8 (c*2^k) k=c:=by
  have:=Ql c k 0
  rw [As0,Le] at this
  exact this
 omega
theorem Abr {V W:Nat} {s:Int} (h:V≤W):Ho V s≤Ho W s:=Rq (Ar3 _ h)
theorem Acb {V W:Nat} {E:Int} (hV:V≠0) (h:V≤W):Bx V E≤Bx W E:=by
 have:V.log2≤W.log2:=(Nat.le_log2 (by omega)).2 (Asz (Nat.log2_self_le hV) h)
 unfold Bx; omega
theorem Akv {V:Nat} {E:Int}:kept V E≤2^53:=by
 have hV:V<2^(V.log2+1):=Nat.lt_log2_self
 unfold kept Ho
 refine Aj5 ?_
 have hl:E+V.log2-52≤Bx V E:=by unfold Bx; omega
 rw [← Asg]
 have h1:V*2^(-(Bx V E-E)).toNat≤2^(V.log2+1)*2^(-(Bx V E-E)).toNat:=Ar3 _ (Nat.le_of_lt hV)
 rw [← Asg] at h1
 exact Asz h1 (Ar6 (by decide) (by omega))
theorem X7 {V:Nat} {E:Int} (hV:V≠0) (hl:Bx V E=E+V.log2-52):2^52≤kept V E:=by
 have h1:2^V.log2≤V:=Nat.log2_self_le hV
 unfold kept Ho
 refine Aku ?_
 rw [← Asg]
 have h2:2^V.log2*2^(-(Bx V E-E)).toNat≤V*2^(-(Bx V E-E)).toNat:=Ar3 _ h1
 rw [← Asg] at h2
 exact Asz (Ar6 (by decide) (by omega)) h2
theorem Wf {V W:Nat} {E:Int} (h:V≤W):B1 V E≤B1 W E:=by
 unfold B1
 by_cases hV:V=0
 ·rw [Ase hV]; exact Nat.zero_le _
 ·have hW:W≠0:=by omega
  rw [Asd hV,Asd hW]
  have hl:=Acb (E:=E) hV h
  have key:(Bx V E+1074).toNat*2^52+kept V E≤(Bx W E+1074).toNat*2^52+kept W E:=by
   rcases Int.lt_or_eq_of_le hl with h1 | h1
   ·have hb:-1074≤Bx V E:=by unfold Bx; omega
    have hn:Bx W E=E+W.log2-52:=by unfold Bx at h1 hb ⊢; omega
    have k1:=Akv (V:=V) (E:=E)
    have k2:=X7 hW hn
    have h2:(Bx V E+1074).toNat+1≤(Bx W E+1074).toNat:=by omega
    have h3:((Bx V E+1074).toNat+1)*2^52≤(Bx W E+1074).toNat*2^52:=Ar3 _ h2
    rw [Asw (Bx V E+1074).toNat 1 (2^52),Nat.one_mul] at h3
    omega
   ·unfold kept
    rw [h1]
    exact Nat.add_le_add_left (Abr h) _
  omega
theorem Ob {b:Nat} (h4:Ag b≠4):B1 (Ar b) (Ax b)=b%2^63:=by
 have hf:Co b<2^52:=Hr b
 have hr:=Oc b
 rw [hr]
 unfold Ar Ax
 by_cases h0:C8 b=0
 ·rw [Ase h0,Ase h0,T4 hf,h0,Nat.zero_mul,As2]
 ·rw [Asd h0,Asd h0,Jw (by omega) (by omega) (by omega),Gs]
  have e:((C8 b:Int)-1075+1074).toNat=C8 b-1:=by omega
  rw [e]
  have h5:(C8 b-1)*2^52+(Co b+2^52)=C8 b*2^52+Co b:=by omega
  rw [h5]
  rcases Gh b with ⟨h1,h2,_⟩ | ⟨_,_,h⟩ | ⟨h1,_,_⟩
  ·rw [h1,h2]; decide
  ·exact absurd h h4
  ·omega
def E6 (b:Nat):Int:=Gz (Bu b) (b%2^63)
def O8 (b:Nat) (f:Int):Nat:=Ar b*2^(Ax b-f).toNat
theorem Qy {b:Nat} {f:Int} (h4:Ag b≠4) (hf:f≤Ax b):B1 (O8 b f) f=b%2^63:=by
 rw [← Ob h4]
 have h:=(Di (Ar b) (Ax b-f).toNat (Ax b)).1
 have e:Ax b-((Ax b-f).toNat:Int)=f:=by omega
 rw [e] at h
 exact h
theorem Ahq {a b:Nat} (h:a%2^63=b%2^63) (f:Int):O8 a f=O8 b f:=by
 have h1:C8 a=C8 b:=by unfold C8; omega
 have h2:Co a=Co b:=by unfold Co; omega
 unfold O8 Ar Ax
 rw [h1,h2]
theorem Ahr {a b:Nat} {f:Int} (ha:Ag a≠4) (hb:Ag b≠4) (hfa:f≤Ax a) (hfb:f≤Ax b):O8 a f<O8 b f↔a%2^63<b%2^63:=by
 constructor
 ·intro h
  have h1:=Wf (E:=f) (Nat.le_of_lt h)
  rw [Qy ha hfa,Qy hb hfb] at h1
  rcases Nat.lt_or_eq_of_le h1 with h2 | h2
  ·exact h2
  ·have:=Ahq h2 f; omega
 ·intro h
  rcases Asp (O8 a f) (O8 b f) with h1 | h1
  ·exact h1
  ·have h1:=Wf (E:=f) h1
   rw [Qy ha hfa,Qy hb hfb] at h1
   omega
theorem Z3 (b:Nat) (f:Int):O8 b f=0↔b%2^63=0:=by
 have hp:=By (Ax b-f).toNat
 unfold O8
 rw [Nat.mul_eq_zero,Oc]
 have h1:¬ (2^(Ax b-f).toNat=0):=by omega
 have h2:Ar b=0↔C8 b*2^52+Co b=0:=by unfold Ar; split<;>omega
 rw [h2]
 exact ⟨fun h=>h.resolve_right h1,.inl⟩
theorem Am0 {s t:Bool} {m n m' n':Nat} (h1:m<n↔m'<n') (h2:n<m↔n'<m') (h3:m=0↔m'=0) (h4:n=0↔n'=0):Gz s m<Gz t n↔Gz s m'<Gz t n':=by
 unfold Gz
 cases s<;>cases t<;>simp<;>omega
theorem Xh {a b:Nat} {f:Int} (ha:Ag a≠4) (hb:Ag b≠4) (hfa:f≤Ax a) (hfb:f≤Ax b):Ir a f<Ir b f↔E6 a<E6 b :=
 Am0 (Ahr ha hb hfa hfb) (Ahr hb ha hfb hfa) (Z3 a f) (Z3 b f)
theorem Afr {x y x' y':Int} (h1:x<y↔x'<y') (h2:y<x↔y'<x'):compare x y=compare x' y':=by
 show compareOfLessAndEq x y=compareOfLessAndEq x' y'
 unfold compareOfLessAndEq
 by_cases h:x<y
 ·rw [Ase h,Ase (h1.1 h)]
 ·rw [Asd h,Asd (fun k=>h (h1.2 k))]
  by_cases e:x=y
  ·rw [Ase e,Ase (by omega)]
  ·rw [Asd e,Asd (by omega)]
theorem Anh {b:Nat} (h4:Ag b≠4):b%2^63≤Dy:=by
 rw [← Ob h4]; exact Od _ _
theorem Q4 {b:Nat} (h:Ag b=3):b%2^63=Dy:=by
 rw [Oc]
 rcases Gh b with ⟨h1,h2,_⟩ | ⟨_,_,h4⟩ | ⟨_,h4,_⟩
 ·rw [h1,h2]; rfl
 ·omega
 ·omega
theorem Q5 {b:Nat} (h3:Ag b≠3) (h4:Ag b≠4):b%2^63<Dy:=by
 have hf:Co b<2^52:=Hr b
 rw [Oc,Gs]
 rcases Gh b with ⟨_,_,h⟩ | ⟨_,_,h⟩ | ⟨h1,_,_⟩
 ·exact absurd h h3
 ·exact absurd h h4
 ·omega
theorem Acm {x y:Int} (h:x<y):compare x y=.lt:=by
 show compareOfLessAndEq x y=_; unfold compareOfLessAndEq; rw [Ase h]
theorem Acn {x y:Int} (h:y<x):compare x y=.gt:=by
 show compareOfLessAndEq x y=_; unfold compareOfLessAndEq; rw [Asd (by omega),Asd (by omega)]
theorem Lk {a b:Nat} (ha:a<2^64) (hb:b<2^64) (a4:Ag a≠4) (b4:Ag b≠4):Ieee.double.order a b=some (compare (E6 a) (E6 b)):=by
 unfold Format.order
 rw [Og ha,Og hb]
 have hpos:0<Dy:=by decide
 by_cases a3:Ag a=3
 ·have ka:=Q4 a3
  rw [Ib a3]
  by_cases b3:Ag b=3
  ·have kb:=Q4 b3
   rw [Ib b3]
   show some (compare (Bu b).toNat (Bu a).toNat)=_
   unfold E6
   rw [ka,kb]
   cases Bu a<;>cases Bu b<;>decide
  ·have kb:=Q5 b3 b4
   rw [Ia b3 b4]
   show some (if Bu a then Ordering.lt else .gt)=_
   unfold E6 Gz
   rw [ka]
   cases Bu a
   ·rw [Acn (by simp; split<;>omega)]; rfl
   ·rw [Acm (by simp; split<;>omega)]; rfl
 ·have ka:=Q5 a3 a4
  rw [Ia a3 a4]
  by_cases b3:Ag b=3
  ·have kb:=Q4 b3
   rw [Ib b3]
   show some (if Bu b then Ordering.gt else .lt)=_
   unfold E6 Gz
   rw [kb]
   cases Bu b
   ·rw [Acm (by simp; split<;>omega)]; rfl
   ·rw [Acn (by simp; split<;>omega)]; rfl
  ·rw [Ia b3 b4]
   show some (compare (Ieee.signed _ _ _) (Ieee.signed _ _ _))=_
   rw [Wa,Wa]
   congr 1
   exact Afr (Xh a4 b4 (Int.min_le_left _ _) (Int.min_le_right _ _)) (Xh b4 a4 (Int.min_le_right _ _) (Int.min_le_left _ _))
theorem Ru {a b:Nat} (ha:a<2^64) (hb:b<2^64) (h:Ag a=4∨Ag b=4):Ieee.double.order a b=none:=by
 unfold Format.order
 rw [Og ha,Og hb]
 by_cases a4:Ag a=4
 ·rw [Oh a4]; cases Qk b<;>rfl
 ·rw [Oh (h.resolve_left a4)]; cases Qk a<;>rfl
theorem Nj (s:Bool) {r:Nat} (h:r<2^63):E6 (Be s r)=Gz s r:=by
 unfold E6 Be Bu
 cases s
 ·have h1:¬ 2^63≤r:=by omega
  have h2:r%2^63=r:=Ar4 h
  simp only [Bool.false_eq_true,if_false,Arw h1,h2]
 ·have h1:2^63≤2^63+r:=by omega
  have h2:(2^63+r)%2^63=r:=by omega
  simp only [if_true,Ars h1,h2]
end Go.Rnd
namespace Go.Rnd
def K3 (a b:Nat):Nat × Nat :=
 if Ag a=4∨Ag b=4 then (Vq,0)
 else if Ag a=3∨Ag b=3 then (if Ag a=0∨Ag b=0 then (Vq,16) else (Be (Bu a !=Bu b) Dy,0))
 else (Be (Bu a !=Bu b) (B1 (Ar a*Ar b) (Ax a+Ax b)),flagsOf (Ar a*Ar b) (Ax a+Ax b))
def E4 (X Y K:Nat):Nat:=2*(X*2^K / Y)+(if X*2^K%Y=0 then 0 else 1)
def Aci (a b:Nat):Nat × Nat :=
 if Ag a=4∨Ag b=4 then (Vq,0)
 else if Ag a=Ag b∧(Ag a=3∨Ag a=0) then (Vq,16)
 else if Ag a=3 then (Be (Bu a !=Bu b) Dy,0)
 else if Ag b=3∨Ag a=0 then (Be (Bu a !=Bu b) 0,0)
 else if Ag b=0 then (Be (Bu a !=Bu b) Dy,8)
 else (Be (Bu a !=Bu b) (B1 (E4 (Ar a) (Ar b) 120) (Ax a-Ax b-121)),flagsOf (E4 (Ar a) (Ar b) 120) (Ax a-Ax b-121))
theorem Wr (a b:Nat):K3 a b=K3 b a:=by
 have e:(Bu a !=Bu b)=(Bu b !=Bu a):=by cases Bu a<;>cases Bu b<;>rfl
 unfold K3
 rw [e,Asf (Ar a),Int.add_comm (Ax a)]
 simp only [or_comm]
theorem Abz {V k:Nat} {E:Int} (hm:1≤V / 2^k) (hc:2^53≤V / 2^k∨E+k+1≤-1074) :
 B1 (4*(V / 2^k)+(if V%2^k=0 then 0 else 1)) (E+k-2)=B1 V E∧flagsOf (4*(V / 2^k)+(if V%2^k=0 then 0 else 1)) (E+k-2)=flagsOf V E:=by
 have hA:=By k
 have h1:=Nat.div_add_mod V (2^k)
 have h2:=Nat.mod_lt V hA
 generalize hq:V / 2^k=q at *
 generalize hr:V%2^k=r at *
 by_cases h0:r=0
 ·rw [Ase h0]
  obtain ⟨a1,a2⟩:=Di q k (E+k)
  obtain ⟨b1,b2⟩:=Di q 2 (E+k)
  have e1:E+(k:Int)-k=E:=by omega
  have e2:V=q*2^k:=by rw [Asf]; omega
  have e3:q*2^2=4*q+0:=by omega
  have e4:E+(k:Int)-((2:Nat):Int)=E+k-2:=by omega
  rw [e1,← e2] at a1 a2
  rw [e3,e4] at b1 b2
  rw [a1,a2,b1,b2]
  exact ⟨rfl,rfl⟩
 ·rw [Asd h0]
  obtain ⟨d,rfl⟩:∃ d,k=d+1:=by
   cases k with
   | zero=>simp only [Asq] at h2; omega
   | succ d=>exact ⟨d,rfl⟩
  have hD:2^(d+1)=2*2^d:=by rw [Nat.pow_succ]; omega
  rw [hD] at h1 h2
  generalize hc2:2^d=c at *
  have p1:(2*q+1-1)*c=2*c*q:=by rw [Nat.add_sub_cancel,Asf,Nat.mul_left_comm,Asi]
  have p2:(2*q+1+1)*c=2*c*q+2*c:=by
   rw [show 2*q+1+1=2*(q+1) by omega,Asi,Asw,Nat.mul_add,Asf q c,Asi]; omega
  have lt1:(2*q+1-1)*2^d<V:=by rw [hc2,p1]; omega
  have lt2:V<(2*q+1+1)*2^d:=by rw [hc2,p2]; omega
  have od:(2*q+1)%2=1:=by omega
  have lV:=Ng od (by omega) lt1 lt2
  have l4:(4*q+1).log2=(2*q+1).log2+1:=Ng (d:=1) od (by omega) (by omega) (by omega)
  have hs:(2*q+1).log2≥54∨E+d+2≤-1074:=by
   rcases hc with h | h
   ·left; rw [ge_iff_le,Nat.le_log2 (by omega)]; omega
   ·right; omega
  have hk:E+d+2≤Bx (2*q+1) (E+d):=by unfold Bx; omega
  obtain ⟨a1,a2⟩:=M4 (E:=E) od lt1 lt2 (by unfold Bx; rw [lV]; omega) hk
  have ee:E+((d+1:Nat):Int)-2+((1:Nat):Int)=E+d:=by omega
  obtain ⟨b1,b2⟩:=M4 (V:=4*q+1) (d:=1) (E:=E+((d+1:Nat):Int)-2) od (by omega) (by omega) (by unfold Bx; rw [l4]; omega) (by rw [ee]; unfold Bx; omega)
  rw [ee] at b1 b2
  rw [a1,a2,b1,b2]
  exact ⟨rfl,rfl⟩
theorem Qw (n:Bool) {V k:Nat} {E e:Int} {s:Bool} (he:e=E+k) (hs:s=decide (V%2^k≠0)) (hm:1≤V / 2^k) (hc:2^53≤V / 2^k∨E+k+1≤-1074) :
 Ev n (V / 2^k) e s=(Be n (B1 V E),flagsOf V E):=by
 obtain ⟨a,b⟩:=Abz hm hc
 have e1:s.toNat=if V%2^k=0 then 0 else 1:=by
  rw [hs]
  by_cases h:V%2^k=0
  ·rw [Arw (by omega),Ase h]; rfl
  ·rw [Ars h,Asd h]; rfl
 unfold Ev
 rw [he,e1,a,b]
theorem Ty {X Y K:Nat} (d:Nat) (E:Int) (hY:0<Y) (h:2^53≤X*2^K / Y) :
 B1 (E4 X Y (K+d)) (E-d)=B1 (E4 X Y K) E∧flagsOf (E4 X Y (K+d)) (E-d)=flagsOf (E4 X Y K) E:=by
 have hA:=By d
 unfold E4
 have e:X*2^(K+d)=X*2^K*2^d:=by rw [Asg,Asi]
 rw [e]
 generalize X*2^K=Z at *
 have h1:=Nat.div_add_mod Z Y
 have h2:=Nat.mod_lt Z hY
 by_cases h0:Z%Y=0
 ·obtain ⟨q,rfl⟩:=Nat.dvd_of_mod_eq_zero h0
  have e1:Y*q*2^d=Y*(q*2^d):=Asi _ _ _
  rw [e1,Nat.mul_mod_right,Nat.mul_mod_right,Nat.mul_div_cancel_left _ hY,Nat.mul_div_cancel_left _ hY,Ase rfl]
  have:=Di (2*q+0) d E
  rw [show (2*q+0)*2^d=2*(q*2^d)+0 by rw [As0,As0,Asi]] at this
  exact this
 ·have h3:=Nat.div_add_mod (Z*2^d) Y
  have h4:=Nat.mod_lt (Z*2^d) hY
  rw [Asd h0]
  generalize hq:Z / Y=q at *
  generalize hr:Z%Y=r at *
  generalize hc:2^d=c at *
  have hz:Z*c=Y*(q*c)+r*c:=by rw [← h1,Asw,Asi]
  have hrc:r*c<Y*c:=(Nat.mul_lt_mul_right hA).2 h2
  have hrc0:0<r*c:=Nat.mul_pos (by omega) hA
  have q1:q*c≤Z*c / Y:=by rw [Nat.le_div_iff_mul_le hY,Asf (q*c)]; omega
  have q2:Z*c / Y<(q+1)*c:=by
   rw [Nat.div_lt_iff_lt_mul hY,Asw,Asw,Nat.one_mul,Asf (q*c),Asf c Y]; omega
  have q3:Z*c / Y=q*c→Z*c%Y≠0:=fun h5 h6=>by rw [h5,h6] at h3; omega
  generalize hQ:Z*c / Y=Q at *
  have p1:(2*q+1-1)*c=2*(q*c):=by rw [Nat.add_sub_cancel,Asi]
  have p2:(2*q+1+1)*c=2*((q+1)*c):=by rw [show 2*q+1+1=2*(q+1) by omega,Asi]
  have od:(2*q+1)%2=1:=by omega
  generalize hV:2*Q+(if Z*c%Y=0 then 0 else 1)=V
  have v1:(2*q+1-1)*2^d<V:=by
   rw [hc,p1,← hV]
   by_cases h5:Q=q*c
   ·rw [Asd (q3 h5)]; omega
   ·split<;>omega
  have v2:V<(2*q+1+1)*2^d:=by
   rw [hc,p2,← hV]
   split<;>omega
  have lV:=Ng od (by omega) v1 v2
  have hs:54≤(2*q+1).log2:=by rw [Nat.le_log2 (by omega)]; omega
  have ee:E-(d:Int)+d=E:=by omega
  have:=M4 (E:=E-d) od v1 v2 (by unfold Bx; rw [lV]; omega) (by unfold Bx; omega)
  rw [ee] at this
  exact this
theorem Abf {X Y K L:Nat} {E F:Int} (hY:0<Y) (h1:2^53≤X*2^K / Y) (h2:2^53≤X*2^L / Y) (he:E+K=F+L) :
 B1 (E4 X Y K) E=B1 (E4 X Y L) F∧flagsOf (E4 X Y K) E=flagsOf (E4 X Y L) F:=by
 rcases Nat.le_total K L with h | h
 ·obtain ⟨d,rfl⟩:=Nat.exists_eq_add_of_le h
  have:=Ty d E hY h1
  rw [show E-(d:Int)=F by omega] at this
  exact ⟨this.1.symm,this.2.symm⟩
 ·obtain ⟨d,rfl⟩:=Nat.exists_eq_add_of_le h
  have:=Ty d F hY h2
  rw [show F-(d:Int)=E by omega] at this
  exact this
theorem Abg (X Y a K:Nat):E4 (X*2^a) Y K=E4 X Y (K+a):=by
 unfold E4
 have:X*2^a*2^K=X*2^(K+a):=by rw [Asi,← Asg,Nat.add_comm a K]
 rw [this]
theorem Y7 (X Y b K:Nat):E4 X (Y*2^b) (K+b)=E4 X Y K:=by
 have hp:=By b
 unfold E4
 have:X*2^(K+b)=X*2^K*2^b:=by rw [Asg,Asi]
 rw [this,Nat.mul_div_mul_right _ _ hp,Nat.mul_mod_mul_right]
 have:(X*2^K%Y*2^b=0)↔(X*2^K%Y=0):=by
  constructor
  ·intro h
   rcases Nat.mul_eq_zero.1 h with h | h
   ·exact h
   ·omega
  ·intro h; rw [h,Nat.zero_mul]
 simp only [this]
theorem Am3 {X Y K t:Nat} (hX:0<X) (hY0:0<Y) (hY:Y<2^t) (hK:53+t≤K):2^53≤X*2^K / Y:=by
 rw [Nat.le_div_iff_mul_le hY0]
 have h1:2^53*Y≤2^53*2^t:=Nat.mul_le_mul_left _ (by omega)
 have h2:2^(53+t)≤2^K:=Ar6 (by decide) hK
 have h3:1*2^K≤X*2^K:=Ar3 _ (by omega)
 rw [Asg] at h2
 omega
theorem Ae6 (n:Bool) {X Y K:Nat} {e E:Int} {s:Bool} (hs:s=decide (X*2^K%Y≠0)) (he:E=e-1) (hq:2^53≤X*2^K / Y) :
 Ev n (X*2^K / Y) e s=(Be n (B1 (E4 X Y K) E),flagsOf (E4 X Y K) E):=by
 have e1:E4 X Y K / 2^1=X*2^K / Y:=by
  unfold E4
  split<;>omega
 have e2:decide (E4 X Y K%2^1≠0)=decide (X*2^K%Y≠0):=by
  unfold E4
  by_cases h:X*2^K%Y=0
  ·rw [Ase h,Arw (by omega),Arw (by omega)]
  ·rw [Asd h,Ars (by omega),Ars h]
 have:=Qw n (V:=E4 X Y K) (k:=1) (E:=E) (e:=e) (s:=s) (by omega) (by rw [e2]; exact hs) (by omega) (.inl (by omega))
 rw [e1] at this
 exact this
end Go.Rnd
namespace Go.Rnd
open Go.Den
def B2:List Int→Nat
 | []=>0
 | x::l=>x.toNat+4294967296*B2 l
def digits:Nat→Nat→List Int
 | 0,_=>[]
 | k+1,v=>((v%4294967296:Nat):Int)::digits k (v / 4294967296)
def Cy (n:Nat):Nat:=if n=0 then 0 else n.log2 / 32+1
def Nh (n:Nat):List Int:=digits (Cy n) n
def Ai (v:Int):List Int:=Nh v.natAbs
def A9 (v:Int):Bool:=decide (v<0)
def wv (n:Bool) (l:List Int):Int:=Gz n (B2 l)
def U5 (l:List Int):Prop:=∀ x∈l,0≤x∧x<4294967296
def F2 (l:List Int):Bool:=Br (l.length<1073741824∧U5 l)
def He (n:Bool) (l:List Int):Bool:=Br (l.length<268435456∧l=Nh (B2 l)∧(n=true→l≠[]))
def Te (n:Bool) (l:List Int):Bool:=Br (l.length<134217728∧l=Nh (B2 l)∧(n=true→l≠[]))
def Am9 (k:Int):Bool:=Br (-1000000≤k∧k≤1000000)
def Adr (k:Int):Bool:=Br (-9223372036854775808≤k∧k≤9223372036854775807)
def Ff (l:List Int) (i:Int):Int:=if 0≤i then l.getD i.toNat 0 else 0
def Hp (a b:List Int):List Int:=digits (max a.length b.length+1) (B2 a+B2 b)
def Fx (a b:List Int):List Int:=digits a.length (B2 a-B2 b)
def leL (a b:List Int):Bool:=Br (B2 a≤B2 b)
def Sb (a b:Nat):Int:=if a<b then -1 else if b<a then 1 else 0
def S5 (a b:Int):Int:=if a<b then -1 else if b<a then 1 else 0
def Ik (v:Int) (j:Nat):Int:=Gz (A9 v) (v.natAbs / 2^j)
def E8 (v k:Int):Int:=if 0≤k then v*((2^k.toNat:Nat):Int) else Ik v (-k).toNat
def Vx (v:Int):Int:=if v=0 then 0 else (v.natAbs.log2:Int)+1
def Aev (v:Int):Bool:=decide (v%2=1)
theorem two32:2^32=4294967296:=by decide
theorem Lf (k:Nat):2^(32*(k+1))=4294967296*2^(32*k):=by
 rw [Nat.mul_add,As1,Asg,Asf,two32]
theorem D7:∀ (k v:Nat),(digits k v).length=k
 | 0,_=>rfl
 | k+1,v=>by rw [digits,List.length_cons,D7 k]
theorem Lr:∀ (k v:Nat),U5 (digits k v)
 | 0,_=>fun x h=>by cases h
 | k+1,v=>fun x h=>by
   rw [digits,List.mem_cons] at h
   rcases h with rfl | h
   ·omega
   ·exact Lr k _ x h
theorem Iq:∀ (k v:Nat),B2 (digits k v)=v%2^(32*k)
 | 0,v=>by rw [digits,B2,Nat.mul_zero,Asq,Nat.mod_one]
 | k+1,v=>by
   rw [digits,B2,Iq k,Art,Lf,Nat.mod_mul]
theorem Km:∀ {l:List Int},U5 l→B2 l<2^(32*l.length)
 | [],_=>by decide
 | x::l,h=>by
   have h1:=h x (As7 ..)
   have h2:=Km (l:=l) (fun y hy=>h y (Asx _ hy))
   rw [B2,List.length_cons,Lf]
   omega
theorem Nr:∀ {l:List Int},U5 l→digits l.length (B2 l)=l
 | [],_=>rfl
 | x::l,h=>by
   have h1:=h x (As7 ..)
   have h2:=Nr (l:=l) (fun y hy=>h y (Asx _ hy))
   rw [B2,List.length_cons,digits]
   have e1:(x.toNat+4294967296*B2 l)%4294967296=x.toNat:=by omega
   have e2:(x.toNat+4294967296*B2 l) / 4294967296=B2 l:=by omega
   rw [e1,e2,h2]
   congr 1
   omega
theorem Jp (n:Nat):n<2^(32*Cy n):=by
 unfold Cy
 by_cases h:n=0
 ·rw [Ase h,h]; decide
 ·rw [Asd h]
  exact As3 Nat.lt_log2_self (Ar6 (by decide) (by omega))
theorem Kt {n k:Nat} (h:n<2^(32*k)):Cy n≤k:=by
 unfold Cy
 by_cases h0:n=0
 ·rw [Ase h0]; exact Nat.zero_le _
 ·rw [Asd h0]
  have:=(As8 h0).2 h
  omega
theorem Akr {n k:Nat} (h:2^(32*k)≤n):k+1≤Cy n:=by
 have hp:=By (32*k)
 unfold Cy
 rw [Asd (by omega)]
 have:=(Nat.le_log2 (by omega)).2 h
 omega
theorem Jy {n m:Nat} (h:n≤m):Cy n≤Cy m:=Kt (Asu h (Jp m))
theorem Pg (n:Nat):B2 (Nh n)=n:=by
 unfold Nh
 rw [Iq,Ar4 (Jp n)]
theorem Fz (n:Nat):(Nh n).length=Cy n:=D7 _ _
theorem Z7 (n:Nat):U5 (Nh n):=Lr _ _
theorem Ve:∀ (k v i:Nat),i<k→(digits k v).getD i 0=((v / 2^(32*i)%4294967296:Nat):Int)
 | k+1,v,0,_=>by rw [digits,List.getD_cons_zero,Nat.mul_zero,Asq,Nat.div_one]
 | k+1,v,i+1,h=>by
   rw [digits,List.getD_cons_succ,Ve k _ i (by omega),Lf,Asl]
theorem Ot {l:List Int} (h:U5 l) (i:Nat):l.getD i 0=((B2 l / 2^(32*i)%4294967296:Nat):Int):=by
 by_cases hi:i<l.length
 ·have:=Ve l.length (B2 l) i hi
  rw [Nr h] at this
  exact this
 ·have h1:=Km h
  have h2:2^(32*l.length)≤2^(32*i):=Ar6 (by decide) (by omega)
  rw [Nat.div_eq_of_lt (by omega),Ar1,Ata (by omega)]
  rfl
theorem F0 {l:List Int} (h:U5 l) (i:Nat):Ff l (i:Int)=((B2 l / 2^(32*i)%4294967296:Nat):Int):=by
 unfold Ff
 rw [Ase (by omega),Art,Ot h]
theorem Kv:∀ (k v:Nat),digits (k+1) v=digits k v++[((v / 2^(32*k)%4294967296:Nat):Int)]
 | 0,v=>by rw [digits,digits,digits,Nat.mul_zero,Asq,Nat.div_one]; rfl
 | k+1,v=>by
   rw [digits,Kv k,Lf,← Asl]
   rfl
theorem Sx:∀ (j k v:Nat),j≤k→(digits k v).take j=digits j v
 | 0,_,_,_=>by rw [List.take_zero,digits]
 | j+1,k+1,v,h=>by rw [digits,List.take_succ_cons,Sx j k _ (by omega),digits]
theorem Ab9 {l:List Int} (h:U5 l):l.take (Cy (B2 l))=Nh (B2 l):=by
 have h1:=Sx (Cy (B2 l)) l.length (B2 l) (Kt (Km h))
 rw [Nr h] at h1
 exact h1
theorem G1 {n:Nat} (h:n≠0):0<Cy n:=by unfold Cy; rw [Asd h]; omega
theorem F6 (v:Int):wv (A9 v) (Ai v)=v:=by
 unfold wv A9 Ai Gz
 rw [Pg]
 by_cases h:v<0
 ·rw [Ars h,Ase rfl]; omega
 ·rw [Arw h,Asd (by decide)]; omega
theorem K2 {l:List Int} (h:l.length<1073741824) (hi:U5 l):F2 l=true:=Al.2 ⟨h,hi⟩
theorem Io {l:List Int} (h:F2 l=true):l.length<1073741824∧U5 l:=Al.1 h
theorem Aaw (v:Int):Ai v=Nh (B2 (Ai v))∧(A9 v=true→Ai v≠[]):=by
 unfold Ai
 rw [Pg]
 refine ⟨rfl,fun h e=>?_⟩
 have h1:v<0:=Ash h
 have h2:=Fz v.natAbs
 rw [e] at h2
 have:=G1 (n:=v.natAbs) (by omega)
 rw [← h2] at this
 exact absurd this (by decide)
theorem Hb {v:Int} (h:Cy v.natAbs<268435456):He (A9 v) (Ai v)=true :=
 Al.2 ⟨by unfold Ai; rw [Fz]; exact h,Aaw v⟩
theorem Ahc {v:Int} (h:Cy v.natAbs<134217728):Te (A9 v) (Ai v)=true :=
 Al.2 ⟨by unfold Ai; rw [Fz]; exact h,Aaw v⟩
theorem W7 {n:Bool} {l:List Int} (h1:l=Nh (B2 l)) (h2:n=true→l≠[]):n=A9 (wv n l)∧l=Ai (wv n l):=by
 have e:(wv n l).natAbs=B2 l:=by unfold wv Gz; split<;>omega
 refine ⟨?_,by unfold Ai; rw [e]; exact h1⟩
 unfold A9 wv Gz
 cases n
 ·simp
 ·have h3:=h2 rfl
  have h4:B2 l≠0:=fun h=>by
   rw [h] at h1
   exact h3 h1
  simp; omega
theorem G7 {n:Bool} {l:List Int} (h:He n l=true):∃ v,n=A9 v∧l=Ai v∧Cy v.natAbs<268435456:=by
 obtain ⟨h0,h1,h2⟩:=Al.1 h
 obtain ⟨e1,e2⟩:=W7 h1 h2
 refine ⟨_,e1,e2,?_⟩
 have:=congrArg length e2
 unfold Ai at this
 rw [Fz] at this
 omega
theorem L8 {n:Bool} {l:List Int} (h:Te n l=true):∃ v,n=A9 v∧l=Ai v∧Cy v.natAbs<134217728:=by
 obtain ⟨h0,h1,h2⟩:=Al.1 h
 obtain ⟨e1,e2⟩:=W7 h1 h2
 refine ⟨_,e1,e2,?_⟩
 have:=congrArg length e2
 unfold Ai at this
 rw [Fz] at this
 omega
theorem Lm {v:Int} (h:Cy v.natAbs<1073741824):F2 (Ai v)=true :=
 K2 (by unfold Ai; rw [Fz]; exact h) (Z7 _)
theorem C5 (v:Int):B2 (Ai v)=v.natAbs:=Pg _
theorem B8 (v:Int):(Ai v).length=Cy v.natAbs:=Fz _
theorem Amd (n:Bool) (l:List Int):wv (!n) l=- wv n l:=by
 unfold wv Gz
 cases n<;>simp
theorem Aes {a b:List Int} (ha:U5 a) (hb:U5 b):B2 (Hp a b)=B2 a+B2 b:=by
 unfold Hp
 rw [Iq,Ar4]
 have h1:=Km ha
 have h2:=Km hb
 have h3:2^(32*a.length)≤2^(32*max a.length b.length):=Ar6 (by decide) (by omega)
 have h4:2^(32*b.length)≤2^(32*max a.length b.length):=Ar6 (by decide) (by omega)
 rw [Lf]
 omega
theorem Qm (a b:List Int):(Hp a b).length=max a.length b.length+1:=D7 _ _
theorem Zr (a b:List Int):U5 (Hp a b):=Lr _ _
theorem Ab4 {a:List Int} (b:List Int) (ha:U5 a):B2 (Fx a b)=B2 a-B2 b:=by
 unfold Fx
 rw [Iq,Ar4]
 have h1:=Km ha
 omega
theorem O7 (a b:List Int):(Fx a b).length=a.length:=D7 _ _
theorem Wt (a b:List Int):U5 (Fx a b):=Lr _ _
theorem Jk (v:Int) (j:Nat):(Ik v j).natAbs=v.natAbs / 2^j:=by
 unfold Ik
 generalize v.natAbs / 2^j=m
 unfold Gz; split<;>omega
theorem Qe {v:Int} (h:v<0) (m:Nat):Gz (A9 v) m=-(m:Int):=by
 unfold Gz A9; rw [Ars h,Ase rfl]
theorem Qd {v:Int} (h:¬ v<0) (m:Nat):Gz (A9 v) m=(m:Int):=by
 unfold Gz A9; rw [Arw h,Asd (by decide)]
theorem Xq (v:Int) (i j:Nat):Ik (Ik v i) j=Ik v (i+j):=by
 have e:v.natAbs / 2^(i+j)=v.natAbs / 2^i / 2^j:=by rw [Asg,Asl]
 have h1:=Jk v i
 by_cases hv:v<0
 ·have h2:Ik v i=-((v.natAbs / 2^i:Nat):Int):=Qe hv _
  rw [show Ik v (i+j)=-((v.natAbs / 2^(i+j):Nat):Int) from Qe hv _,e]
  by_cases h0:v.natAbs / 2^i=0
  ·rw [h2,h0]
   show Ik 0 j=_
   rw [Nat.zero_div]
   show Gz (A9 0) (0 / 2^j)=_
   rw [Nat.zero_div]; rfl
  ·have h3:Ik v i<0:=by omega
   rw [show Ik (Ik v i) j=-(((Ik v i).natAbs / 2^j:Nat):Int) from Qe h3 _,h1]
 ·have h2:Ik v i=((v.natAbs / 2^i:Nat):Int):=Qd hv _
  have h3:¬ Ik v i<0:=by omega
  rw [show Ik (Ik v i) j=(((Ik v i).natAbs / 2^j:Nat):Int) from Qd h3 _,h1,show Ik v (i+j)=((v.natAbs / 2^(i+j):Nat):Int) from Qd hv _,e]
theorem Zg (v:Int):Ik v 0=v:=by
 unfold Ik Gz A9
 rw [Asq,Nat.div_one]
 by_cases h:v<0
 ·rw [Ars h,Ase rfl]; omega
 ·rw [Arw h,Asd (by decide)]; omega
theorem Oa (j:Nat):Ik 0 j=0:=by
 unfold Ik
 rw [show (Int.natAbs 0)=0 from rfl,Nat.zero_div]
 rfl
theorem Ad6 {l:List Int} (h:U5 l):B2 (l.drop 1)=B2 l / 4294967296:=by
 cases l with
 | nil=>rfl
 | cons x l =>
   have:=h x (As7 ..)
   show B2 l=_
   rw [B2]; omega
theorem Aae {l:List Int} (h:U5 l):U5 (l.drop 1):=fun x hx=>h x (List.mem_of_mem_drop hx)
theorem Aia {l:List Int} (h:U5 l):U5 ([(0:Int)]++l):=fun x hx=>by
 rcases List.mem_cons.1 hx with rfl | hx
 ·omega
 ·exact h x hx
theorem Ah0 (n:Nat):Cy (2*n)≤Cy n+1:=by
 refine Kt ?_
 have h:=Jp n
 rw [Lf]
 omega
theorem Akq (n:Nat):Cy (n*4294967296)≤Cy n+1:=by
 refine Kt ?_
 have h:=Jp n
 rw [Lf]
 omega
theorem Z5 {n m:Nat} (h:2^m≤n):(n / 2^m).log2+m=n.log2:=by
 have hp:=By m
 have h0:n≠0:=by omega
 have hm:m≤n.log2:=(Nat.le_log2 h0).2 h
 have e:(n / 2^m).log2=n.log2-m:=by
  refine Q1 ?_ ?_
  ·rw [Nat.le_div_iff_mul_le hp,← Asg]
   exact Asz (Ar6 (by decide) (by omega)) (Nat.log2_self_le h0)
  ·rw [Nat.div_lt_iff_lt_mul hp,← Asg]
   exact As3 Nat.lt_log2_self (Ar6 (by decide) (by omega))
 omega
end Go.Rnd
namespace Go.Rnd
open Go.Den
def Ph (n:Nat):Nat:=if h:n=0∨n%2=1 then 0 else Ph (n / 2)+1
termination_by n
decreasing_by omega
def mD (v:Int):Int:=Ik v (Ph v.natAbs)
def eD (v e:Int):Int:=if v=0 then 0 else e+Ph v.natAbs
def Ci (v e w f:Int):Int:=if v=0 then f else if w=0 then e else min e f
def Ajf (v e w f:Int):Int:=E8 v (e-Ci v e w f)+E8 w (f-Ci v e w f)
def N2 (v e w f:Int):Int:=mD (Ajf v e w f)
def Aji (v e w f:Int):Int:=eD (Ajf v e w f) (Ci v e w f)
def G0 (v e:Int):Int:=if v=0 then 0 else Vx v+e
def Kk (v:Int):Int:=if v<0 then -1 else if v=0 then 0 else 1
def S6 (v e w f:Int):Int:=S5 (E8 v (e-Ci v e w f)) (E8 w (f-Ci v e w f))
def Vu (e:Int):Bool:=Br (-2000000≤e∧e≤2000000)
def Tf (e:Int):Bool:=Br (-400000≤e∧e≤400000)
def Zu (v e f:Int):Bool:=Br (v=0∨(-1000000≤e-f∧e-f≤1000000))&&Br (-400000≤e∧e≤400000∧-1000000≤f∧f≤1000000)
theorem Abd {n:Nat} (h:n=0∨n%2=1):Ph n=0:=by rw [Ph,dif_pos h]
theorem Ac2 {n:Nat} (h0:n≠0) (h:n%2=0):Ph n=Ph (n / 2)+1:=by rw [Ph,dif_neg (by omega)]
theorem Xj {n:Nat} (h:n≠0):∀ k,Ph (n*2^k)=k+Ph n
 | 0=>by rw [Asq,As1,As2]
 | k+1=>by
   have hp:=By k
   have h1:n*2^k≠0:=by
    intro e
    rcases Nat.mul_eq_zero.1 e with e | e<;>omega
   have e:n*2^(k+1)=n*2^k*2:=by rw [Nat.pow_succ,Asi]
   rw [e,Ac2 (by omega) (by omega),Nat.mul_div_cancel _ (by decide),Xj h k]
   omega
theorem Ac1 (n:Nat) (h:n≠0):∃ m,n=m*2^Ph n∧m%2=1:=by
 induction n using Nat.strongRecOn with
 | _ n ih =>
   by_cases h2:n%2=1
   ·refine ⟨n,?_,h2⟩
    rw [Abd (.inr h2),Asq,As1]
   ·obtain ⟨m,h3,h4⟩:=ih (n / 2) (by omega) (by omega)
    refine ⟨m,?_,h4⟩
    rw [Ac2 h (by omega),Nat.pow_succ,← Asi,← h3]
    omega
theorem Alz {n:Nat} (h:n≠0):Ph n≤n.log2:=by
 obtain ⟨m,h1,h2⟩:=Ac1 n h
 refine (Nat.le_log2 h).2 ?_
 have:1*2^Ph n≤m*2^Ph n:=Ar3 _ (by omega)
 omega
theorem Wv {n:Nat}:n.log2<32*Cy n+1:=by
 unfold Cy
 by_cases h:n=0
 ·rw [h]; decide
 ·rw [Asd h]; omega
theorem Aht {v:Int} {k:Nat} (h:v.natAbs%2^k=0):mD (Ik v k)=mD v:=by
 unfold mD
 by_cases h0:v=0
 ·rw [h0,Oa]
 ·have hp:=By k
  have hv:=Nat.div_add_mod v.natAbs (2^k)
  rw [h,As0,Asf] at hv
  have hq:v.natAbs / 2^k≠0:=by
   intro e; rw [e] at hv; omega
  have:=Xj hq k
  rw [hv] at this
  rw [Jk,Xq,this]
theorem Aio {v e:Int} {k:Nat} (h:v.natAbs%2^k=0) (h0:v≠0):eD (Ik v k) (e+k)=eD v e:=by
 unfold eD
 have hp:=By k
 have hv:=Nat.div_add_mod v.natAbs (2^k)
 rw [h,As0,Asf] at hv
 have hq:v.natAbs / 2^k≠0:=by
  intro e; rw [e] at hv; omega
 have ht:=Xj hq k
 rw [hv] at ht
 have ha:=Jk v k
 rw [Asd h0,Asd (by omega),ha,ht]
 omega
theorem Ane {v:Int} (h:v%2=1):mD v=v:=by
 unfold mD
 rw [Abd (.inr (by omega)),Zg]
theorem Ann {v:Int} (h:v%2=1) (e:Int):eD v e=e:=by
 unfold eD
 rw [Abd (.inr (by omega)),Asd (by omega)]
 omega
theorem Ahm {v:Int} (h:v≠0) (k:Nat):v*((2^k:Nat):Int)≠0:=by
 have hp:=By k
 intro e
 rcases Int.mul_eq_zero.1 e with e | e
 ·exact h e
 ·omega
theorem X4 (v:Int):v=mD v*((2^Ph v.natAbs:Nat):Int):=by
 by_cases h:v=0
 ·rw [h]
  show (0:Int)=Ik 0 _*_
  rw [Oa,Int.zero_mul]
 ·obtain ⟨m,h1,h2⟩:=Ac1 v.natAbs (by omega)
  have hp:=By (Ph v.natAbs)
  have hq:v.natAbs / 2^Ph v.natAbs=m:=Nat.div_eq_of_eq_mul_left hp h1
  unfold mD Ik
  rw [hq]
  by_cases hv:v<0
  ·rw [Qe hv,Int.neg_mul,← Asc,← h1]; omega
  ·rw [Qd hv,← Asc,← h1]; omega
theorem Ti {v:Int}:mD v=0↔v=0:=by
 constructor
 ·intro h
  have:=X4 v
  rw [h,Int.zero_mul] at this
  exact this
 ·intro h
  rw [h]
  exact Oa _
theorem Wu (v:Int):(mD v).natAbs≤v.natAbs:=by
 unfold mD
 rw [Jk]
 exact Nat.div_le_self _ _
end Go.Rnd
namespace Go.Rnd
open Go.Den
def Y2 (v e g:Int):Int:=v*((2^(e-g).toNat:Nat):Int)
theorem Gb (e g:Int):Y2 0 e g=0:=Int.zero_mul _
theorem V4 {v e g h:Int} (h1:h≤e) (h2:g≤h):Y2 v e g=Y2 v e h*((2^(h-g).toNat:Nat):Int):=by
 unfold Y2
 rw [Int.mul_assoc,← Asc,← Asg]
 have:(e-h).toNat+(h-g).toNat=(e-g).toNat:=by omega
 rw [this]
theorem Ac0 {S l g:Int} (h:g≤l):Y2 (mD S) (eD S l) g=Y2 S l g:=by
 by_cases h0:S=0
 ·rw [h0,Ti.2 rfl,Gb,Gb]
 ·have e:eD S l=l+Ph S.natAbs:=by unfold eD; rw [Asd h0]
  rw [e]
  unfold Y2
  have e1:(l+(Ph S.natAbs:Int)-g).toNat=Ph S.natAbs+(l-g).toNat:=by omega
  rw [e1,Asg,Asc,← Int.mul_assoc,← X4]
theorem Ac5 {v e l:Int} (h:v≠0→l≤e):E8 v (e-l)=Y2 v e l:=by
 by_cases h0:v=0
 ·rw [h0,Gb]
  unfold E8
  split
  ·exact Int.zero_mul _
  ·exact Oa _
 ·unfold E8 Y2
  rw [Ase (by have:=h h0; omega)]
theorem Anf {v e w f:Int}:(v≠0→Ci v e w f≤e)∧(w≠0→Ci v e w f≤f):=by
 unfold Ci
 constructor
 ·intro h
  rw [Asd h]
  split<;>omega
 ·intro h
  split
  ·omega
  ·omega
theorem Amb {v e g:Int} (h:g≤e) (h0:v≠0):g≤eD v e:=by
 unfold eD
 rw [Asd h0]
 omega
theorem Ai1 (x y:Int) (k:Nat):S5 (x*((2^k:Nat):Int)) (y*((2^k:Nat):Int))=S5 x y:=by
 have hp:=By k
 have h1:x*((2^k:Nat):Int)<y*((2^k:Nat):Int)↔x<y:=Int.mul_lt_mul_right (by omega)
 have h2:y*((2^k:Nat):Int)<x*((2^k:Nat):Int)↔y<x:=Int.mul_lt_mul_right (by omega)
 unfold S5
 simp only [h1,h2]
theorem Alb {v e w f g:Int} (h1:v≠0→g≤e) (h2:w≠0→g≤f):S6 v e w f=S5 (Y2 v e g) (Y2 w f g):=by
 obtain ⟨l1,l2⟩:=Anf (v:=v) (e:=e) (w:=w) (f:=f)
 unfold S6
 rw [Ac5 l1,Ac5 l2]
 by_cases h0:v=0∧w=0
 ·rw [h0.1,h0.2,Gb,Gb,Gb,Gb]
 ·have hg:g≤Ci v e w f:=by
   unfold Ci
   split
   ·rename_i hv
    exact h2 (fun k=>h0 ⟨hv,k⟩)
   ·split
    ·exact h1 (by assumption)
    ·have:=h1 (by assumption); have:=h2 (by assumption); omega
  have e1:Y2 v e g=Y2 v e (Ci v e w f)*((2^(Ci v e w f-g).toNat:Nat):Int):=by
   by_cases h0:v=0
   ·rw [h0,Gb,Gb,Int.zero_mul]
   ·exact V4 (l1 h0) hg
  have e2:Y2 w f g=Y2 w f (Ci v e w f)*((2^(Ci v e w f-g).toNat:Nat):Int):=by
   by_cases h0:w=0
   ·rw [h0,Gb,Gb,Int.zero_mul]
   ·exact V4 (l2 h0) hg
  rw [e1,e2,Ai1]
def A1 (l:List Int):Bool:=Br (∀ x∈l,Aj x=true)
def E9 (x:Int):Int:=Gz (Bu x.toNat) (Ar x.toNat)
def O2 (n:Bool) (b:Int):Int:=if n then Dc b else b
end Go.Rnd
namespace Go.Rnd
open Go.Den
theorem Aa8 (s:Bool) {q:Nat} {L:Int} (hq:q<2^53) (hL:-1074≤L) (h:2^52≤q∨L=-1074) (hr:(L+1074).toNat*2^52+q<Dy) :
 Ar (Be s ((L+1074).toNat*2^52+q))=q∧Ax (Be s ((L+1074).toNat*2^52+q))=L:=by
 rw [Gs] at hr
 obtain ⟨t,ht⟩:∃ t:Nat,L=t-1074:=⟨(L+1074).toNat,by omega⟩
 have et:(L+1074).toNat=t:=by omega
 rw [et] at hr ⊢
 have hp:=Wl s (r:=t*2^52+q) (by omega)
 have hf:=U7 s (t*2^52+q)
 unfold Ar Ax
 by_cases h52:2^52≤q
 ·have e1:C8 (Be s (t*2^52+q))=t+1:=by rw [hp]; omega
  rw [e1,hf,Asd (by omega),Asd (by omega)]
  omega
 ·have t0:t=0:=by omega
  subst t0
  have e1:C8 (Be s (0*2^52+q))=0:=by rw [hp]; omega
  rw [e1,hf,Ase rfl,Ase rfl]
  omega
theorem sign_neg (s:Bool) {r:Nat} (h:r<2^63):Bu (Be s r)=s:=by
 unfold Bu Be
 cases s
 ·simp only [Bool.false_eq_true,if_false,Asa]; omega
 ·simp only [if_true,Ary]; omega
theorem Acg (s:Bool) {V:Nat} {E:Int} (h0:V≠0) (hE:Bx V E≤E) (hi:B1 V E<Dy) :
 flagsOf V E=0∧∃ k:Nat,Ar (Be s (B1 V E))=V*2^k∧Ax (Be s (B1 V E))=E-k:=by
 have hl2:V.log2=V.log2:=rfl
 have ek:kept V E=V*2^(E-Bx V E).toNat:=by
  unfold kept Ho
  have e1:(Bx V E-E).toNat=0:=by omega
  have e2:(-(Bx V E-E)).toNat=(E-Bx V E).toNat:=by omega
  rw [e1,e2,Le]
 have eex:exact V E=true:=by
  unfold exact J1
  have e1:(Bx V E-E).toNat=0:=by omega
  rw [e1,Asq,Nat.mod_one]; rfl
 constructor
 ·unfold flagsOf flags
  rw [Asd h0,Asd (by omega),eex]; rfl
 ·have hr:B1 V E=(Bx V E+1074).toNat*2^52+kept V E:=by
   unfold B1 at hi ⊢
   rw [Asd h0] at hi ⊢
   omega
  have hk:kept V E<2^53:=by
   rw [ek,← As8 (Gf h0),Kc V _ h0]
   unfold Bx at hE ⊢
   omega
  have hb:2^52≤kept V E∨Bx V E=-1074:=by
   by_cases h:Bx V E=-1074
   ·exact .inr h
   ·left
    refine X7 h0 ?_
    unfold Bx at h ⊢
    omega
  rw [hr] at hi
  obtain ⟨p1,p2⟩:=Aa8 s hk (by unfold Bx; omega) hb hi
  refine ⟨(E-Bx V E).toNat,?_,?_⟩
  ·rw [hr,p1,ek]
  ·rw [hr,p2]; omega
theorem Aab {V:Nat} {E:Int} (h:V<2^53) (hE:-1074≤E):Bx V E≤E:=by
 by_cases h0:V=0
 ·subst h0; unfold Bx; rw [Nat.log2_zero]; omega
 ·have:=(As8 h0).2 h
  unfold Bx; omega
end Go.Rnd
namespace Go.Rnd
open Go.Den
def Dx (x:Int):Int:=if x=0 then 0 else (x.toNat.log2:Int)+1
def O6 (x y:Int):Int:=((x.toNat*y.toNat / 18446744073709551616:Nat):Int)
def Kq (x y:Int):Int:=((x.toNat*y.toNat%18446744073709551616:Nat):Int)
def Ahk (a b:Int):Bool:=decide (Ba a=4)||decide (Ba b=4)
def Bv (b:Nat):Nat:=52-(Ar b).log2
def Ch (b:Int):Int:=((Ar b.toNat*2^Bv b.toNat:Nat):Int)
def Fu (b:Int):Int:=Ax b.toNat-Bv b.toNat
def Jm (b:Int):Bool:=Br (Ar b.toNat≠0)
def Lw (m e:Int):Bool:=Br (1152921504606846976≤m∧m<4611686018427387904∧-6000≤e∧e≤6000)
def Hh (a b:Int):Int:=(K3 a.toNat b.toNat).1
def Ao3 (a b:Int):Int:=(K3 a.toNat b.toNat).2
def Gj (a b:Int):Int:=(Aci a.toNat b.toNat).1
def Ao8 (a b:Int):Int:=(Aci a.toNat b.toNat).2
end Go.Rnd
namespace Go.Rnd
theorem Af4 (a b:Nat):N1 a b=N1 b a:=by
 unfold N1
 by_cases ha:Ag a=4
 ·simp only [ha,true_or,or_true,if_true]
 ·by_cases hb:Ag b=4
  ·simp only [hb,true_or,or_true,if_true]
  ·simp only [ha,hb,or_self,if_false]
   by_cases ha3:Ag a=3
   ·by_cases hb3:Ag b=3
    ·simp only [ha3,hb3,if_true,true_and]
     by_cases e:a=b
     ·subst e; rfl
     ·rw [Ase e,Ase (fun h=>e h.symm)]
    ·simp only [ha3,hb3,if_true,if_false,false_and]
   ·by_cases hb3:Ag b=3
    ·simp only [ha3,hb3,if_true,if_false,false_and]
    ·simp only [ha3,hb3,if_false]
     rw [Bool.and_comm,Int.min_comm,Int.add_comm]
theorem Zm {Y D:Nat} (h:Y%2^D=0):Ei Y D=Y / 2^D:=by unfold Ei; rw [Ase h]
theorem Abq {Y D:Nat} (h:Y%2^D≠0):Ei Y D%2=1:=by unfold Ei; rw [Asd h]; omega
theorem Zn {Y d:Nat} (hY:Y<2^62) (h:Y%2^d≠0):(Ei Y (min d 63)-1)*2^d<Y∧Y<(Ei Y (min d 63)+1)*2^d∧Ei Y (min d 63)%2=1:=by
 have hA:=By d
 by_cases hd:d≤63
 ·rw [Nat.min_eq_left hd]
  refine ⟨?_,?_,Abq h⟩
  all_goals
   unfold Ei
   rw [Asd h]
   have h1:=Nat.div_add_mod Y (2^d)
   have h2:=Nat.mod_lt Y hA
   generalize Y / 2^d=q at *
   generalize Y%2^d=r at *
   generalize 2^d=c at *
   rw [Asf] at h1
  ·have h3:(2*(q / 2)+1-1)*c≤q*c:=Ar3 c (by omega)
   omega
  ·have h3:(q+1)*c≤(2*(q / 2)+1+1)*c:=Ar3 c (by omega)
   rw [Asw,Nat.one_mul] at h3
   omega
 ·rw [Nat.min_eq_right (by omega)]
  have h63:Y%2^63=Y:=Ar4 (by omega)
  have hd0:Y / 2^63=0:=Nat.div_eq_of_lt (by omega)
  have hY0:Y≠0:=by intro e; rw [e] at h; simp at h
  have hr:Ei Y 63=1:=by unfold Ei; rw [h63,Asd hY0,hd0]
  have hp:2^62≤2^d:=Ar6 (by decide) (by omega)
  rw [hr]
  refine ⟨by simp; omega,by omega,rfl⟩
theorem Aq4 {d M:Nat} (h:(M*2^9)%2^d≠0):10≤d:=by
 refine Nat.lt_of_not_le fun hle=>h ?_
 obtain ⟨k,hk⟩:∃ k,9=d+k:=⟨9-d,by omega⟩
 rw [hk,Asg,Asf (2^d),← Asi,Nat.mul_mod_left]
theorem Lu {V m d:Nat} {e f:Int} (hd:e=f+d) (h:V=m*2^d∨(m%2=1∧(m-1)*2^d<V∧V<(m+1)*2^d∧2^60≤m)) :
 B1 m (e-9)=B1 V (f-9)∧flagsOf m (e-9)=flagsOf V (f-9):=by
 rcases h with rfl | ⟨h1,h2,h3,h4⟩
 ·have:=Di m d (e-9)
  have e1:e-9-(d:Int)=f-9:=by omega
  rw [e1] at this
  exact ⟨this.1.symm,this.2.symm⟩
 ·have hm0:m≠0:=by omega
  have hlog:=Ng h1 (by omega) h2 h3
  have hl60:60≤m.log2:=(Nat.le_log2 hm0).2 h4
  have e1:f-9+(d:Int)=e-9:=by omega
  have hle:Bx V (f-9)=Bx m (f-9+d):=by unfold Bx; rw [hlog]; congr 1; omega
  have hk:f-9+d+2≤Bx m (f-9+d):=by unfold Bx; omega
  obtain ⟨a1,a2⟩:=M4 h1 h2 h3 hle hk
  rw [e1] at a1 a2
  exact ⟨a1.symm,a2.symm⟩
theorem Abj (V:Nat) (f:Int):B1 (V*2^9) (f-9)=B1 V f∧flagsOf (V*2^9) (f-9)=flagsOf V f:=Di V 9 f
structure Aly (Mx My d:Nat) (e f:Int) (X r:Nat):Prop where
 plus:B1 (X+r) (e-9)=B1 (Mx*2^d+My) f∧flagsOf (X+r) (e-9)=flagsOf (Mx*2^d+My) f
 less:r<X→My<Mx*2^d∧B1 (X-r) (e-9)=B1 (Mx*2^d-My) f∧flagsOf (X-r) (e-9)=flagsOf (Mx*2^d-My) f
 more:X<r→Mx*2^d<My∧B1 (r-X) (e-9)=B1 (My-Mx*2^d) f∧flagsOf (r-X) (e-9)=flagsOf (My-Mx*2^d) f
 same:X=r→Mx*2^d=My
 small:r≤2^62
theorem Alv {X My r d p:Nat} {e f:Int} (hd:e=f+d) (comm:X*2^d=p*2^9) (n1:(r-1)*2^d<My*2^9) (n2:My*2^9<r*2^d+2^d) (n3:r%2=1) (hX2:X%2=0) (hX:2^61≤X) (hr:r≤2^53) :
 (B1 (X+r) (e-9)=B1 (p+My) f∧flagsOf (X+r) (e-9)=flagsOf (p+My) f)∧My<p∧B1 (X-r) (e-9)=B1 (p-My) f∧flagsOf (X-r) (e-9)=flagsOf (p-My) f:=by
 have e1:(r-1)*2^d+2^d=r*2^d:=by
  obtain ⟨k,rfl⟩:∃ k,r=k+1:=⟨r-1,by omega⟩
  rw [Nat.add_sub_cancel,Asw,Nat.one_mul]
 have e2:(r+1)*2^d=r*2^d+2^d:=by rw [Asw,Nat.one_mul]
 have hXd:(r+1)*2^d≤X*2^d:=Ar3 _ (by omega)
 have hlt:My<p:=by rw [e2,comm] at hXd; omega
 have a1:B1 (X+r) (e-9)=B1 ((p+My)*2^9) (f-9)∧flagsOf (X+r) (e-9)=flagsOf ((p+My)*2^9) (f-9):=by
  refine Lu hd (.inr ⟨by omega,?_,?_,by omega⟩)
  ·have h1:X+r-1=X+(r-1):=by omega
   rw [h1,Asw X (r-1) (2^d),Asw p My (2^9),comm]
   exact Nat.add_lt_add_left n1 _
  ·have h1:X+r+1=X+(r+1):=by omega
   rw [h1,Asw X (r+1) (2^d),Asw p My (2^9),comm,e2]
   exact Nat.add_lt_add_left n2 _
 have a2:B1 (X-r) (e-9)=B1 ((p-My)*2^9) (f-9)∧flagsOf (X-r) (e-9)=flagsOf ((p-My)*2^9) (f-9):=by
  rw [e2,comm] at hXd
  refine Lu hd (.inr ⟨by omega,?_,?_,by omega⟩)
  ·have h1:X-r-1=X-(r+1):=by omega
   rw [h1,Nat.sub_mul X (r+1) (2^d),Nat.sub_mul p My (2^9),comm,e2]
   omega
  ·have h1:X-r+1=X-(r-1):=by omega
   rw [h1,Nat.sub_mul X (r-1) (2^d),Nat.sub_mul p My (2^9),comm]
   omega
 rw [(Abj _ f).1,(Abj _ f).2] at a1 a2
 exact ⟨a1,hlt,a2⟩
theorem Aa3 {Mx My d:Nat} {e f:Int} (hd:e=f+d) (hx:Mx<2^53) (hy:My<2^53) (hbig:10≤d→2^52≤Mx) :
 Aly Mx My d e f (Mx*2^9) (Ei (My*2^9) (min d 63)):=by
 have hA:=By d
 have hY:My*2^9<2^62:=by omega
 have comm:Mx*2^9*2^d=Mx*2^d*2^9:=by rw [Asi,Asf (2^9),← Asi]
 have s9:=fun V=>Abj V f
 by_cases hz:(My*2^9)%2^d=0
 ·
  have hr:∃ r,Ei (My*2^9) (min d 63)=r∧My*2^9=r*2^d:=by
   by_cases hd63:d≤63
   ·rw [Nat.min_eq_left hd63]
    exact ⟨_,rfl,by rw [Zm hz]; exact (Nat.div_mul_cancel (Nat.dvd_of_mod_eq_zero hz)).symm⟩
   ·have hp:2^62≤2^d:=Ar6 (by decide) (by omega)
    have:My*2^9=0:=by rw [Ar4 (by omega)] at hz; exact hz
    rw [Nat.min_eq_right (by omega),this]
    exact ⟨0,by decide,by omega⟩
  obtain ⟨r,hr,hYr⟩:=hr
  rw [hr]
  have hle:r≤2^62:=by
   have:r*1≤r*2^d:=Nat.mul_le_mul_left r hA
   omega
  have cmp:∀ x y:Nat,x*2^d<y*2^d↔x<y:=fun x y=>Nat.mul_lt_mul_right hA
  refine ⟨?_,fun h=>?_,fun h=>?_,fun h=>?_,hle⟩
  ·rw [← (s9 _).1,← (s9 _).2]
   exact Lu hd (.inl (by rw [Asw (Mx*2^d) My (2^9),Asw (Mx*2^9) r (2^d),comm,hYr]))
  ·have h1:=(cmp r (Mx*2^9)).2 h
   refine ⟨by omega,?_⟩
   rw [← (s9 _).1,← (s9 _).2]
   exact Lu hd (.inl (by first | rw [Nat.sub_mul (Mx*2^d) My (2^9),Nat.sub_mul (Mx*2^9) r (2^d),comm,hYr] | rw [Nat.sub_mul My (Mx*2^d) (2^9),Nat.sub_mul r (Mx*2^9) (2^d),comm,hYr]))
  ·have h1:=(cmp (Mx*2^9) r).2 h
   refine ⟨by omega,?_⟩
   rw [← (s9 _).1,← (s9 _).2]
   exact Lu hd (.inl (by first | rw [Nat.sub_mul (Mx*2^d) My (2^9),Nat.sub_mul (Mx*2^9) r (2^d),comm,hYr] | rw [Nat.sub_mul My (Mx*2^d) (2^9),Nat.sub_mul r (Mx*2^9) (2^d),comm,hYr]))
  ·rw [← h] at hYr
   omega
 ·
  have hd10:=Aq4 hz
  have hMx:=hbig hd10
  obtain ⟨n1,n2,n3⟩:=Zn hY hz
  have hrle:Ei (My*2^9) (min d 63)≤2^53:=by
   refine Nat.le_of_not_lt fun h=>?_
   have h1:2^53*2^d≤(Ei (My*2^9) (min d 63)-1)*2^d:=Ar3 _ (by omega)
   have h2:2^10≤2^d:=Ar6 (by decide) hd10
   have h3:2^53*2^10≤2^53*2^d:=Nat.mul_le_mul_left _ h2
   omega
  generalize Ei (My*2^9) (min d 63)=r at *
  have hr1:1≤r:=by omega
  have e1:(r-1)*2^d+2^d=r*2^d:=by
   obtain ⟨k,rfl⟩:∃ k,r=k+1:=⟨r-1,by omega⟩
   rw [Nat.add_sub_cancel,Asw,Nat.one_mul]
  have e2:(r+1)*2^d=r*2^d+2^d:=by rw [Asw,Nat.one_mul]
  rw [e2] at n2
  have hXr:r<Mx*2^9:=by omega
  have hXd:(r+1)*2^d≤Mx*2^9*2^d:=Ar3 _ (by omega)
  rw [e2,comm] at hXd
  obtain ⟨p1,p2,p3⟩:=Alv hd comm n1 n2 n3 (by omega) (by omega) hrle
  exact ⟨p1,fun _=>⟨p2,p3⟩,fun h=>by omega,fun h=>by omega,by omega⟩
theorem Sq (n:Bool) (m:Nat) (e:Int):Ev n m e false=(Be n (B1 m e),flagsOf m e):=by
 unfold Ev
 have:=Di m 2 e
 have e1:m*2^2=4*m+false.toNat:=by simp; omega
 have e2:e-((2:Nat):Int)=e-2:=by omega
 rw [e1,e2] at this
 rw [this.1,this.2]
theorem We (E:Int):B1 0 E=0:=Ase rfl
theorem Md (E:Int):flagsOf 0 E=0:=Ase rfl
theorem Q8 {b:Nat} (h:Ii b=true):Ag b≠4∧Ag b≠3:=by
 unfold Ii at h
 simp only [Ary] at h
 unfold Ag
 rw [Asd (by omega)]
 split
 ·omega
 ·split<;>omega
theorem Wo {b:Nat} (h:-1064≤Ax b):2^52≤Ar b:=by
 unfold Ax at h
 unfold Ar
 split at h
 ·omega
 ·rw [Asd (by assumption)]; omega
theorem Pj (z:Nat) (s:Bool) {V:Nat} (hV:V≠0) (f:Int):Pk z (Gz s V) f=(Be s (B1 V f),flagsOf V f):=by
 unfold Pk Gz
 cases s
 ·have h1:¬ (V:Int)=0:=by omega
  have h2:¬ (V:Int)<0:=by omega
  simp only [Bool.false_eq_true,if_false,h1,h2,decide_false,Int.natAbs_natCast]
 ·have h1:¬ -(V:Int)=0:=by omega
  have h2:-(V:Int)<0:=by omega
  simp only [if_true,h1,if_false,h2,decide_true,Int.natAbs_neg,Int.natAbs_natCast]
theorem Alw {p q X r:Nat} {e f:Int} (s t:Bool)
 (plus:B1 (X+r) e=B1 (p+q) f∧flagsOf (X+r) e=flagsOf (p+q) f)
 (less:r<X→q<p∧B1 (X-r) e=B1 (p-q) f∧flagsOf (X-r) e=flagsOf (p-q) f)
 (more:X<r→p<q∧B1 (r-X) e=B1 (q-p) f∧flagsOf (r-X) e=flagsOf (q-p) f)
 (same:X=r→p=q) :
 Pk (Be (s&&t) 0) (Gz s p+Gz t q) f=(if s=t then Ev s (X+r) e false
  else if r<X then Ev s (X-r) e false
  else if X<r then Ev t (r-X) e false
  else (0,0)):=by
 simp only [Sq]
 by_cases hs:s=t
 ·rw [Ase hs,← hs]
  have hsum:Gz s p+Gz s q=Gz s (p+q):=by unfold Gz; cases s<;>simp<;>omega
  rw [hsum,plus.1,plus.2]
  by_cases h0:p+q=0
  ·rw [h0,We,Md]
   unfold Pk
   have:Gz s 0=0:=by unfold Gz; cases s<;>rfl
   rw [Ase this,Arx]
  ·exact Pj _ _ h0 _
 ·rw [Asd hs]
  by_cases h1:r<X
  ·obtain ⟨c1,c2,c3⟩:=less h1
   rw [Ase h1,c2,c3]
   have hsum:Gz s p+Gz t q=Gz s (p-q):=by
    unfold Gz; cases s<;>cases t<;>simp at hs ⊢<;>omega
   rw [hsum]
   exact Pj _ _ (by omega) _
  ·rw [Asd h1]
   by_cases h2:X<r
   ·obtain ⟨c1,c2,c3⟩:=more h2
    rw [Ase h2,c2,c3]
    have hsum:Gz s p+Gz t q=Gz t (q-p):=by
     unfold Gz; cases s<;>cases t<;>simp at hs ⊢<;>omega
    rw [hsum]
    exact Pj _ _ (by omega) _
   ·rw [Asd h2]
    have c:=same (by omega)
    have hsum:Gz s p+Gz t q=0:=by
     unfold Gz; cases s<;>cases t<;>simp at hs ⊢<;>omega
    have hz:(s&&t)=false:=by cases s<;>cases t<;>simp at hs ⊢
    rw [hsum,hz]
    rfl
theorem Ajg {a b:Nat} (ha:Ii a=true) (hb:Ii b=true) :
 N1 a b=Pk (Be (Bu a&&Bu b) 0) (Ir a (min (Ax a) (Ax b))+Ir b (min (Ax a) (Ax b))) (min (Ax a) (Ax b)):=by
 have k1:=Q8 ha
 have k2:=Q8 hb
 unfold N1
 rw [Asd (fun h=>h.elim k1.1 k2.1),Asd k1.2,Asd k2.2]
theorem Abc (b:Nat):Ir b (Ax b)=Gz (Bu b) (Ar b):=by
 unfold Ir; rw [Int.sub_self,Int.toNat_zero,Asq,As1]
theorem Agc {b:Nat} {f:Int} {d:Nat} (h:Ax b=f+d):Ir b f=Gz (Bu b) (Ar b*2^d):=by
 unfold Ir
 have:(Ax b-f).toNat=d:=by omega
 rw [this]
theorem Aa2 {a b:Nat} (ha:Ii a=true) (hb:Ii b=true) {d:Nat} (hd:Ax a=Ax b+d) :
 N1 a b=(if Bu a=Bu b then Ev (Bu a) (Ar a*2^9+Ei (Ar b*2^9) (min d 63)) (Ax a-9) false
  else if Ei (Ar b*2^9) (min d 63)<Ar a*2^9 then Ev (Bu a) (Ar a*2^9-Ei (Ar b*2^9) (min d 63)) (Ax a-9) false
  else if Ar a*2^9<Ei (Ar b*2^9) (min d 63) then Ev (Bu b) (Ei (Ar b*2^9) (min d 63)-Ar a*2^9) (Ax a-9) false
  else (0,0)):=by
 have hx:=Er a
 have hy:=Er b
 have C:=Aa3 (Mx:=Ar a) (My:=Ar b) hd hx hy (fun h=>Wo (by have:=Dt b; omega))
 rw [Ajg ha hb,Int.min_eq_right (by omega),Abc,Agc hd]
 exact Alw _ _ C.plus C.less C.more C.same
theorem Rz {b:Nat} (h:b<2^64):Pr b<2^64:=by unfold Pr; split<;>omega
theorem Ace (m:Nat) (e:Int):flagsOf m e<32:=by
 unfold flagsOf flags
 split
 ·decide
 ·split
  ·decide
  ·split
   ·decide
   ·split<;>decide
theorem Tn {a b:Nat} (ha:a<2^64) (hb:b<2^64):(N1 a b).1<2^64∧(N1 a b).2<32:=by
 unfold N1
 split
 ·exact ⟨by decide,by decide⟩
 ·split
  ·split
   ·decide
   ·exact ⟨ha,(by decide:0<32)⟩
  ·split
   ·exact ⟨hb,(by decide:0<32)⟩
   ·unfold Pk
    split
    ·refine ⟨?_,(by decide:0<32)⟩
     unfold Be; split<;>decide
    ·exact ⟨Qb _ _ _,Ace _ _⟩
end Go.Rnd
namespace Go.Rnd
open Go.Den
def Dr (r c:Nat) (f:Nat→Nat→Int):List Int:=(List.range (r*c)).map fun j=>f (j / c) (j%c)
theorem Cs (r c:Nat) (f:Nat→Nat→Int):(Dr r c f).length=r*c:=by unfold Dr; rw [Asy,Asv]
theorem Lg {r c i k:Nat} (hi:i<r) (hk:k<c):i*c+k<r*c:=by
 have:(i+1)*c≤r*c:=Ar3 c hi
 rw [Asw,Nat.one_mul] at this
 omega
theorem Wm {c i k:Nat} (hk:k<c):(i*c+k) / c=i∧(i*c+k)%c=k:=by
 constructor
 ·rw [Asf,Nat.mul_add_div (by omega),Nat.div_eq_of_lt hk,As0]
 ·rw [Asf,Nat.mul_add_mod,Ar4 hk]
theorem G2 {r c:Nat} {f:Nat→Nat→Int} {j:Nat} (h:j<r*c):(Dr r c f)[j]?=some (f (j / c) (j%c)):=by
 unfold Dr
 rw [As9,List.getElem?_range h]
 rfl
theorem Ut {l m:List Int} (h:l.length=m.length) (he:∀ j,j<l.length→l[j]?=m[j]?):l=m:=by
 refine List.ext_getElem? fun j=>?_
 by_cases hj:j<l.length
 ·exact he j hj
 ·rw [Ata (by omega),Ata (by omega)]
theorem Gi {r c:Nat} {f g:Nat→Nat→Int} (h:∀ i k,i<r→k<c→f i k=g i k):Dr r c f=Dr r c g:=by
 refine Ut (by rw [Cs,Cs]) fun j hj=>?_
 rw [Cs] at hj
 have hc:0<c:=by
  rcases Nat.eq_zero_or_pos c with h0 | h0
  ·subst h0; rw [Nat.mul_zero] at hj; omega
  ·exact h0
 rw [G2 hj,G2 hj,h (j / c) (j%c) ((Nat.div_lt_iff_lt_mul hc).2 hj) (Nat.mod_lt _ hc)]
theorem Afj {r c:Nat} {l:List Int} (h:l.length=r*c):l=Dr r c fun i k=>l.getD (i*c+k) 0:=by
 refine Ut (by rw [Cs,h]) fun j hj=>?_
 rw [G2 (by omega)]
 have e:j / c*c+j%c=j:=by rw [Asf]; exact Nat.div_add_mod j c
 rw [e,Ar1,Ar8 hj]
 rfl
theorem U6 {r c i k:Nat} {f:Nat→Nat→Int} (hk:k<c) (x:Int) :
 (Dr r c f).set (i*c+k) x=Dr r c fun a b=>if a=i∧b=k then x else f a b:=by
 refine Ut (by rw [List.length_set,Cs,Cs]) fun j hj=>?_
 rw [List.length_set,Cs] at hj
 obtain ⟨d1,d2⟩:=Wm (i:=i) hk
 rw [G2 hj,List.getElem?_set]
 by_cases h:i*c+k=j
 ·subst h
  rw [Ase rfl,Ase (by rw [Cs]; exact hj),d1,d2,Ase ⟨rfl,rfl⟩]
 ·rw [Asd h,G2 hj,Asd]
  rintro ⟨h1,h2⟩
  exact h (by rw [← h1,← h2,Asf]; exact Nat.div_add_mod j c)
theorem Oq (r c:Nat) (f:Nat→Nat→Int):Dr (r+1) c f=Dr r c f++(List.range c).map (f r):=by
 unfold Dr
 rw [Asw,Nat.one_mul,List.range_add,List.map_append,List.map_map]
 congr 1
 refine List.map_congr_left fun k hk=>?_
 have hk:=List.mem_range.1 hk
 obtain ⟨d1,d2⟩:=Wm (i:=r) hk
 show f ((r*c+k) / c) ((r*c+k)%c)=f r k
 rw [d1,d2]
theorem Oo (c:Nat) (f:Nat→Nat→Int):Dr 0 c f=[]:=by
 unfold Dr; rw [Nat.zero_mul]; rfl
theorem Ld (k:Nat) (g:Nat→Int):(List.range (k+1)).map g=(List.range k).map g++[g k]:=by
 rw [List.range_succ,List.map_append]; rfl
def Aas:Nat→List Int→List Int→Nat
 | s,x::xs,y::ys=>Aas (N1 s (K3 x.toNat y.toNat).1).1 xs ys
 | s,_,_=>s
def Oz (x y:List Int):Int:=Aas 0 x y
theorem Tg {a b:Nat}:(K3 a b).1<2^64:=by
 unfold K3
 split
 ·decide
 ·split
  ·split
   ·decide
   ·unfold Be; split<;>decide
  ·exact Qb _ _ _
theorem Yi:∀ (x y:List Int) (s:Nat),s<2^64→Aas s x y<2^64
 | x::xs,y::ys,s,h=>Yi xs ys _ (Tn h Tg).1
 | [],_,_,h=>by unfold Aas; exact h
 | _::_,[],_,h=>by unfold Aas; exact h
end Go.Rnd
namespace Go.Rnd
open Go.Den
def B9 (n:Int):Bool:=decide (0≤n)&&decide (n≤6)
def Bo (r c:Int) (l:List Int):Bool:=(B9 r&&B9 c)&&decide ((l.length:Int)=r*c)
def Kf (r c:Int) (l:List Int):Int:=if Bo r c l=true then 0 else 1
def Tr (r c:Int) (l:List Int) (p q:Int) (m:List Int):Int:=if (Bo r c l&&Bo p q m)=true then 0 else 1
def I4 (_r c:Int) (l:List Int) (i k:Int):Bool:=Br (0≤i∧i<10∧0≤k∧k<10∧0≤c∧c<10∧i*c+k<l.length∧l.length<1000)
def Mr (c:Int) (l:List Int) (i k:Int):Int:=l.getD (i*c+k).toNat 0
def R7 (i k:Int):Int:=if i=k then 4607182418800017408 else 0
def Rl (x y i k:Int):Bool:=Br (0≤x∧x<10∧0≤y∧y<10∧0≤i∧i<10∧0≤k∧k<10)
def Mo (r c x y a b:Int):Bool:=decide (0≤x∧0≤y∧0≤a∧0≤b∧x≤r∧y≤c∧a≤r-x∧b≤c-y)
def J5 (r c:Int) (l:List Int) (p q:Int) (m:List Int) (i k:Int):Bool:=Br (0≤r∧r<10∧0≤i∧i<20∧(if i<r then I4 r c l i k=true else I4 p q m (i-r) k=true))
def J6 (r c:Int) (l:List Int) (q:Int) (m:List Int) (i k:Int):Int:=if i<r then Mr c l i k else Mr q m (i-r) k
def Xt (r c:Int) (l:List Int) (i:Int):Bool:=Bo r c l&&Br (0≤i∧i<r)
def Gl (r c:Int) (l:List Int) (k:Int):Bool:=Bo r c l&&Br (0≤k∧k<c)
def Pq (r c:Int) (l:List Int) (p q:Int) (m:List Int) (i k:Int):Bool:=(Xt r c l i&&Gl p q m k)&&((A1 l&&A1 m)&&Br (c=p))
def K1 (c:Int) (l:List Int) (i:Int):List Int:=List.drop (i*c).toNat (List.take ((i+1)*c).toNat l)
def Py (r c:Int) (l:List Int) (k:Int):List Int:=(List.range r.toNat).map fun j:Nat=>Mr c l (j:Int) k
abbrev MX:=Int × Int × List Int × Int
def O5 (e:Int):MX:=(0,0,[],e)
def F3 (n:Int):MX:=if B9 n=true then (n,n,Dr n.toNat n.toNat fun i k=>R7 i k,0) else O5 3
def Al0 (r c:Int) (l:List Int):MX:=if Bo r c l=true then (c,r,Dr c.toNat r.toNat fun i k=>Mr c l k i,0) else O5 1
def F7 (r c:Int) (l:List Int) (x y a b:Int):MX :=
 if Bo r c l=true then (if Mo r c x y a b=true then (a,b,Dr a.toNat b.toNat fun i k=>Mr c l (x+i) (y+k),0) else O5 3) else O5 1
def Ul (r c:Int) (l:List Int) (p q:Int) (m:List Int):MX :=
 if (Bo r c l&&Bo p q m)=true then (if c=p then (r,q,Dr r.toNat q.toNat fun i k=>Oz (K1 c l i) (Py p q m k),0) else O5 3) else O5 1
def J4 (r c:Int) (l:List Int) (p q:Int) (m:List Int):MX :=
 if (Bo r c l&&Bo p q m)=true then (if c=q∧r+p≤6 then (r+p,c,Dr (r+p).toNat c.toNat fun i k=>J6 r c l q m i k,0) else O5 3) else O5 1
def R4 (x y:List Int):Bool:=decide (x.length=y.length)&&decide (x.length≤64)
def Arf (l:List Int):Bool:=Br (l.length≤17592186044416)
theorem Gd {n:Int}:B9 n=true↔0≤n∧n≤6:=by unfold B9; simp
theorem Gn {r c:Int} {l:List Int}:Bo r c l=true↔(0≤r∧r≤6)∧(0≤c∧c≤6)∧(l.length:Int)=r*c:=by
 unfold Bo
 rw [Ar2,Ar2,Gd,Gd,Ary,and_assoc]
theorem Gm {r c:Int} {l:List Int} (h:Bo r c l=true):∃ R C:Nat,r=R∧c=C∧R≤6∧C≤6∧l.length=R*C:=by
 obtain ⟨h1,h2,h3⟩:=Gn.1 h
 refine ⟨r.toNat,c.toNat,by omega,by omega,by omega,by omega,?_⟩
 have:(((r.toNat*c.toNat:Nat)):Int)=r*c:=by rw [Asc,Int.toNat_of_nonneg h1.1,Int.toNat_of_nonneg h2.1]
 omega
theorem It {n:Int} (h:B9 n=true):∃ R:Nat,n=R∧R≤6:=by
 have:=Gd.1 h
 exact ⟨n.toNat,by omega,by omega⟩
theorem Ajy {n:Nat} (h:n≤6):B9 (n:Int)=true:=Gd.2 ⟨by omega,by omega⟩
theorem M7 {r c:Nat} {l:List Int} (hr:r≤6) (hc:c≤6) (hl:l.length=r*c):Bo (r:Int) (c:Int) l=true :=
 Gn.2 ⟨⟨by omega,by omega⟩,⟨by omega,by omega⟩,by rw [hl,Asc]⟩
theorem Alq (c:Nat) (l:List Int) (i k:Nat):Mr (c:Int) l (i:Int) (k:Int)=l.getD (i*c+k) 0:=by
 unfold Mr
 have:((i:Int)*(c:Int)+(k:Int)).toNat=i*c+k:=by
  rw [← Asc,← Int.natCast_add,Art]
 rw [this]
theorem Aaz {r c i k:Nat} {R:Int} {l:List Int} (hr:r≤6) (hc:c≤6) (hl:l.length=r*c) (hi:i<r) (hk:k<c):I4 R (c:Int) l (i:Int) (k:Int)=true:=by
 have:=Lg hi hk
 have h36:=Aso hr hc
 refine Al.2 ⟨by omega,by omega,by omega,by omega,by omega,by omega,?_,by omega⟩
 rw [← Asc]
 omega
theorem Wz {r c:Nat} {l:List Int} (h:l.length=r*c):(Dr r c fun i k=>Mr (c:Int) l (i:Int) (k:Int))=l:=by
 conv=>rhs; rw [Afj h]
 exact Gi fun i k _ _=>Alq c l i k
theorem Ys {l:List Int} (h:A1 l=true) {j:Nat} (hj:j<l.length):Aj (l.getD j 0)=true:=by
 have h:=Al.1 h
 rw [Ar1,Ar8 hj]
 exact h _ (List.getElem_mem hj)
end Go.Rnd
namespace Go.Rnd
theorem Jv {b:Nat} (h:b<2^64):Be (Bu b) (b%2^63)=b:=by
 unfold Be Bu
 by_cases hb:2^63≤b
 ·simp only [hb,decide_true,if_true]; omega
 ·simp only [hb,decide_false,Bool.false_eq_true,if_false]; omega
theorem Aih {b:Nat} (h:b<2^64) (h4:Ag b≠4):Be (Bu b) (B1 (Ar b) (Ax b))=b:=by
 rw [Ob h4,Jv h]
theorem Afk {b:Nat} (h3:Ag b≠3) (h4:Ag b≠4):flagsOf (Ar b) (Ax b)=0:=by
 by_cases h0:Ar b=0
 ·rw [h0]; exact Md _
 ·have h1:=Er b
  have h2:=Dt b
  have h5:=Q5 h3 h4
  exact (Acg false h0 (Aab (by omega) h2.1) (by rw [Ob h4]; exact h5)).1
theorem mul_pow {a p:Nat} (a3:Ag a≠3) (a4:Ag a≠4) (p3:Ag p≠3) (p4:Ag p≠4) (hp:Ar p=2^52) (hn:Bu p=false) :
 K3 a p=(Be (Bu a) (B1 (Ar a) (Ax a+Ax p+52)),flagsOf (Ar a) (Ax a+Ax p+52)):=by
 obtain ⟨s1,s2⟩:=Di (Ar a) 52 (Ax a+Ax p+52)
 have e:Ax a+Ax p+52-((52:Nat):Int)=Ax a+Ax p:=by omega
 rw [e] at s1 s2
 have e2:(Bu a !=false)=Bu a:=by cases Bu a<;>rfl
 unfold K3
 rw [Asd (by omega),Asd (by omega),hp,hn,s1,s2,e2]
theorem Ll:Ar 4607182418800017408=2^52∧Ax 4607182418800017408=-52∧Ag 4607182418800017408=2∧Bu 4607182418800017408=false:=by decide +kernel
theorem mul_one {a:Nat} (h:a<2^64) (a3:Ag a≠3) (a4:Ag a≠4):K3 a 4607182418800017408=(a,0):=by
 obtain ⟨o1,o2,o3,o4⟩:=Ll
 have e:Ax a+-52+52=Ax a:=by omega
 rw [mul_pow a3 a4 (by omega) (by omega) o1 o4,o2,e,Aih h a4,Afk a3 a4]
end Go.Rnd
namespace Go.Rnd
def P6 (n:Nat):Nat:=Ieee.Datum.rootFrom n (n.log2 / 2+1) 0
theorem Ajz (k:Nat):1 <<< k=2^k:=by rw [Nat.shiftLeft_eq,Nat.one_mul]
theorem Rn {n:Nat}:∀ (todo root:Nat),root*root≤n→n<(root+2^todo)*(root+2^todo) →
 Ieee.Datum.rootFrom n todo root*Ieee.Datum.rootFrom n todo root≤n∧n<(Ieee.Datum.rootFrom n todo root+1)*(Ieee.Datum.rootFrom n todo root+1)
 | 0,root,h1,h2=>⟨h1,h2⟩
 | todo+1,root,h1,h2=>by
   unfold Ieee.Datum.rootFrom
   simp only [Ajz]
   have hp:2^(todo+1)=2^todo+2^todo:=by rw [Nat.pow_succ]; omega
   rw [hp] at h2
   by_cases h:(root+2^todo)*(root+2^todo)≤n
   ·rw [Ase h]
    exact Rn todo _ h (by rw [Nat.add_assoc]; exact h2)
   ·rw [Asd h]
    exact Rn todo _ h1 (by omega)
theorem Nl (n:Nat):P6 n*P6 n≤n∧n<(P6 n+1)*(P6 n+1):=by
 refine Rn _ _ (by simp) ?_
 rw [As2,← Asg]
 rcases Nat.eq_zero_or_pos n with rfl | hn
 ·decide
 ·refine (As8 (by omega)).1 ?_
  omega
theorem Zf {a b:Nat} (h:a*a<b*b):a<b:=by
 rcases Asp a b with h1 | h1
 ·exact h1
 ·have:=Aso h1 h1; omega
theorem U1 {n w:Nat} (h1:w*w≤n) (h2:n<(w+1)*(w+1)):w=P6 n:=by
 obtain ⟨a,b⟩:=Nl n
 have c1:=Zf (Asu h1 b)
 have c2:=Zf (Asu a h2)
 omega
theorem Ah6 {n w:Nat} (h:w*w≤n):w≤P6 n:=by
 have:=Zf (Asu h (Nl n).2)
 omega
def Fc (n:Nat):Nat:=2*P6 n+(if P6 n*P6 n=n then 0 else 1)
theorem Rk (a c:Nat):a*c*(a*c)=a*a*(c*c):=by
 rw [Asi,Nat.mul_left_comm c,← Asi a a]
theorem Wg {n:Nat} (d:Nat) (E:Int) (h:2^53≤P6 n) :
 B1 (Fc (n*(2^d*2^d))) (E-d)=B1 (Fc n) E∧flagsOf (Fc (n*(2^d*2^d))) (E-d)=flagsOf (Fc n) E:=by
 have hA:=By d
 obtain ⟨h1,h2⟩:=Nl n
 unfold Fc
 generalize hw:P6 n=w at *
 generalize hc:2^d=c at *
 have hcc:0<c*c:=Nat.mul_pos hA hA
 by_cases h0:w*w=n
 ·have e1:P6 (n*(c*c))=w*c:=by
   refine (U1 ?_ ?_).symm
   ·rw [Rk,h0]; exact Asm _
   ·have:=Rk w c
    rw [h0] at this
    rw [Asw,Nat.mul_add,this]; omega
  rw [e1,Rk,h0,Ase rfl,Ase rfl]
  have:=Di (2*w+0) d E
  rw [hc,show (2*w+0)*c=2*(w*c)+0 by rw [As0,As0,Asi]] at this
  exact this
 ·rw [Asd h0]
  obtain ⟨g1,g2⟩:=Nl (n*(c*c))
  have q1:w*c≤P6 (n*(c*c)):=Ah6 (by rw [Rk]; exact Ar3 _ h1)
  have q2:P6 (n*(c*c))<(w+1)*c:=by
   refine Zf (Asu g1 ?_)
   rw [Rk]
   exact (Nat.mul_lt_mul_right hcc).2 h2
  have q3:P6 (n*(c*c))=w*c→P6 (n*(c*c))*P6 (n*(c*c))≠n*(c*c):=fun h5 h6=>by
   rw [h5,Rk] at h6
   exact h0 (Nat.eq_of_mul_eq_mul_right hcc h6)
  generalize hQ:P6 (n*(c*c))=Q at *
  have p1:(2*w+1-1)*c=2*(w*c):=by rw [Nat.add_sub_cancel,Asi]
  have p2:(2*w+1+1)*c=2*((w+1)*c):=by rw [show 2*w+1+1=2*(w+1) by omega,Asi]
  have od:(2*w+1)%2=1:=by omega
  generalize hV:2*Q+(if Q*Q=n*(c*c) then 0 else 1)=V
  have v1:(2*w+1-1)*2^d<V:=by
   rw [hc,p1,← hV]
   by_cases h5:Q=w*c
   ·rw [Asd (q3 h5)]; omega
   ·split<;>omega
  have v2:V<(2*w+1+1)*2^d:=by
   rw [hc,p2,← hV]
   split<;>omega
  have lV:=Ng od (by omega) v1 v2
  have hs:54≤(2*w+1).log2:=by rw [Nat.le_log2 (by omega)]; omega
  have ee:E-(d:Int)+d=E:=by omega
  have:=M4 (E:=E-d) od v1 v2 (by unfold Bx; rw [lV]; omega) (by unfold Bx; omega)
  rw [ee] at this
  exact this
theorem X8 {n t:Nat} (h:2^(t+t)≤n):2^t≤P6 n:=Ah6 (by rw [← Asg]; exact h)
theorem pow_two (k d:Nat):2^(k+2*d)=2^k*(2^d*2^d):=by rw [Asg,Nat.two_mul,Asg]
theorem Aek {m k l:Nat} {E F:Int} (h1:2^106≤m*2^k) (h2:2^106≤m*2^l) (he:2*E+k=2*F+l) :
 B1 (Fc (m*2^k)) E=B1 (Fc (m*2^l)) F∧flagsOf (Fc (m*2^k)) E=flagsOf (Fc (m*2^l)) F:=by
 rcases Nat.le_total k l with h | h
 ·obtain ⟨d,rfl⟩:∃ d,l=k+2*d:=⟨(l-k) / 2,by omega⟩
  have:=Wg (n:=m*2^k) d E (X8 (t:=53) h1)
  rw [Asi,← pow_two,show E-(d:Int)=F by omega] at this
  exact ⟨this.1.symm,this.2.symm⟩
 ·obtain ⟨d,rfl⟩:∃ d,k=l+2*d:=⟨(k-l) / 2,by omega⟩
  have:=Wg (n:=m*2^l) d F (X8 (t:=53) h2)
  rw [Asi,← pow_two,show F-(d:Int)=E by omega] at this
  exact this
def Je (b:Nat):Nat:=128+(Ax b%2).toNat
def Mm (b:Nat):Nat × Nat :=
 if Ag b=4 then (Vq,0)
 else if Ag b=0∨b=Dy then (b,0)
 else if Bu b=true then (Vq,16)
 else (B1 (Fc (Ar b*2^Je b)) ((Ax b-Je b) / 2-1),flagsOf (Fc (Ar b*2^Je b)) ((Ax b-Je b) / 2-1))
theorem Ha {b:Nat} (h3:Ag b≠3) (h4:Ag b≠4):Ar b=0↔Ag b=0:=by
 have:=Hr b
 have:=G6 b
 unfold Ar
 unfold Ag at *
 split at h3<;>split<;>(try split)<;>(try split)<;>simp_all<;>omega
theorem Ze {b:Nat} (h:Ag b=4):Mm b=(Vq,0):=Ase h
theorem Rj {b:Nat} (h4:Ag b≠4) (h:Ag b=0∨b=Dy):Mm b=(b,0):=by unfold Mm; rw [Asd h4,Ase h]
theorem Zd {b:Nat} (h4:Ag b≠4) (h:¬ (Ag b=0∨b=Dy)) (hn:Bu b=true):Mm b=(Vq,16):=by unfold Mm; rw [Asd h4,Asd h,Ase hn]
theorem Agp {b:Nat} (h4:Ag b≠4) (h:¬ (Ag b=0∨b=Dy)) (hn:Bu b=false) :
 Mm b=(B1 (Fc (Ar b*2^Je b)) ((Ax b-Je b) / 2-1),flagsOf (Fc (Ar b*2^Je b)) ((Ax b-Je b) / 2-1)):=by
 unfold Mm; rw [Asd h4,Asd h,Asd (by rw [hn]; decide)]
theorem Ou:E2 Dy=Dy:=by decide
theorem Agr (r:Nat):Be false r=r:=rfl
theorem Ag0 {b:Nat} (hm:Ar b≠0):2^106≤Ar b*2^Je b∧2*((Ax b-(Je b:Int)) / 2-1)+Je b=Ax b-2:=by
 refine ⟨?_,by unfold Je; omega⟩
 have:2^128≤2^Je b:=Ar6 (by decide) (by unfold Je; omega)
 have h5:=Aso (show 1≤Ar b by omega) this
 omega
theorem Ahx {b:Nat} (hm:Ar b≠0):(Ar b).log2≤52:=by
 have:=(As8 hm).2 (show Ar b<2^53 from Er b)
 omega
end Go.Rnd
namespace Go.Rnd
def Ew (b:Nat) (n:Int):Nat × Nat :=
 if Ag b=4 then (Vq,0)
 else if Ag b=3∨Ag b=0 then (b,0)
 else (Be (Bu b) (B1 (Ar b) (Ax b+n)),flagsOf (Ar b) (Ax b+n))
theorem Ad8 {V:Nat} {E:Int} (h0:V≠0) (h:E+V.log2+1≤-1075):B1 V E=0∧flagsOf V E=3:=by
 have hl:Bx V E=-1074:=by unfold Bx; omega
 obtain ⟨k,hk⟩:∃ k:Nat,(-1074:Int)-E=((k:Nat):Int):=⟨(-1074-E).toNat,by omega⟩
 have hV:V<2^(V.log2+1):=(As8 h0).1 (by omega)
 have hp:2^(V.log2+1)*2≤2^k:=by rw [← Nat.pow_succ]; exact Ar6 (by decide) (by omega)
 have e1:V*2^(-((-1074:Int)-E)).toNat=V:=by rw [hk]; simp
 have e2:((-1074:Int)-E).toNat=k:=by rw [hk]; rfl
 have hk2:kept V E=0:=by
  unfold kept Ho
  rw [hl,e1,e2]
  unfold J8
  rw [Nat.div_eq_of_lt (by omega),Ar4 (by omega),Asd (by omega)]
 have hx:exact V E=false:=by
  unfold exact J1
  rw [hl,e1,e2,Ar4 (by omega)]
  exact Arw h0
 have hr:B1 V E=0:=by
  unfold B1
  rw [Asd h0,hl,hk2]
  rfl
 refine ⟨hr,?_⟩
 unfold flagsOf
 rw [Asd h0,hr,hx]
 rfl
theorem Ae1 (n:Bool) {m:Nat} {e:Int} {more:Bool} (hm:m<2^53) (h0:m≠0∨more=true) (he:e≤-1130) :
 Ev n m e more=(Be n 0,3):=by
 have h1:more.toNat≤1:=by cases more<;>decide
 have hV:4*m+more.toNat≠0:=by
  rcases h0 with h | h
  ·omega
  ·rw [h]; simp
 have hl:(4*m+more.toNat).log2≤54:=by
  have:=(As8 hV).2 (show 4*m+more.toNat<2^55 by omega); omega
 have:=Ad8 hV (E:=e-2) (by omega)
 unfold Ev
 rw [this.1,this.2]
theorem Ahh (n:Bool):Ev n 0 (-1074) true=(Be n 0,3):=by
 cases n<;>decide +kernel
theorem Abk {b:Nat} {n:Int} (h4:Ag b≠4) (h:¬ (Ag b=3∨Ag b=0)) (hn:Ax b+n≤-1130):Ew b n=(Be (Bu b) 0,3):=by
 have hm:Ar b≠0:=fun h5=>h (.inr ((Ha (by omega) h4).1 h5))
 have:=Ad8 hm (E:=Ax b+n) (by have:=Ahx hm; omega)
 unfold Ew
 rw [Asd h4,Asd h,this.1,this.2]
theorem Aef {b:Nat} {n:Int} (h4:Ag b≠4) (h:¬ (Ag b=3∨Ag b=0)):Ew b n=(Be (Bu b) (B1 (Ar b) (Ax b+n)),flagsOf (Ar b) (Ax b+n)):=by
 unfold Ew; rw [Asd h4,Asd h]
def Ain (b:Nat):Int:=if Ii b=true∧Ag b≠0 then ((Ar b).log2:Int)+Ax b else 0
def G4 (b:Nat):Nat:=b%2^63
def Ag7 (a b:Nat):Int:=if Ag a=4∨Ag b=4 then 0 else if E6 a<E6 b then -1 else if E6 b<E6 a then 1 else 0
def Ag8 (a b:Nat):Bool:=!(decide (Ag a=4∨Ag b=4))
end Go.Rnd
namespace Go.Rnd
open Go.Den
def Wj (b:Int):Int:=E6 b.toNat
def Qr (a b:Int):Int:=Ag7 a.toNat b.toNat
def M8 (a b:Int):Bool:=Ag8 a.toNat b.toNat
def Ahs (x:Int):Int:=G4 x.toNat
def Bs (x n:Int):Int:=(Ew x.toNat n).1
def Aj1 (x n:Int):Int:=(Ew x.toNat n).2
def C0 (x n:Int):Bool:=Aj x&&Br (-2300≤n∧n≤2300)
def Bn (x:Int):Int:=Ain x.toNat
def Yn:List Int→Nat→Nat
 | [],m=>m
 | x::l,m=>if Ag x.toNat=4 then Vq else Yn l (max m (G4 x.toNat))
def Bd (l:List Int):Int:=Yn l 0
def D2 (l:List Int):Bool:=l.all Da
def Et (r c:Int) (l:List Int):Int:=if Bo r c l=true then (if D2 l=true then 0 else 4) else 1
def Akh (c:Int) (l:List Int) (n:Nat):Bool:=(List.range n).any fun i:Nat=>decide (Ba (Mr c l (i:Int) (i:Int))=0)
def Apa (r c:Int) (l:List Int) (p q:Int) (m:List Int):Int :=
 if Et r c l≠0 then Et r c l else if Et p q m≠0 then Et p q m
 else if r≠c∨r≠p then 3 else if Akh c l r.toNat=true then 5 else 0
def Al5 (c:Int) (l:List Int) (i:Int):Int→Int→List Int→Int
 | s,_,[]=>s
 | s,j,x::xs=>Al5 c l i (Gu s (Hh (Mr c l i j) x)) (j+1) xs
def loL (c:Int) (l:List Int) (b:Nat→Int):Nat→List Int
 | 0=>[]
 | k+1=>loL c l b k++[Gj (Al5 c l (k:Int) (b k) 0 (loL c l b k)) (Mr c l (k:Int) (k:Int))]
def loG (c:Int) (l:List Int) (q:Int) (m:List Int) (n w:Nat):List Int:=Dr n w fun i j=>(loL c l (fun i=>Mr q m (i:Int) (j:Int)) n).getD i 0
def Aq9 (r c:Int) (l:List Int):MX:=if D2 l=true then (r,c,l,0) else O5 2
def loX (r c:Int) (l:List Int) (p q:Int) (m:List Int):MX :=
 if Apa r c l p q m≠0 then O5 (Apa r c l p q m) else Aq9 r q (loG c l q m r.toNat q.toNat)
def Ao9 (c:Int) (l:List Int) (n:Nat):List Int:=(List.range n).map fun i:Nat=>Ahs (Mr c l (i:Int) (i:Int))
def Ao6 (d:List Int):Bool:=d.any fun x=>!(decide (Qr (Bs (Bd d) (-40)) x<0))
def Ank (r c:Int) (l:List Int):Bool:=Ao6 (Ao9 c l (min r.toNat c.toNat))
def Al7 (r c:Int) (l:List Int):Bool × Int:=if Et r c l≠0 then (false,Et r c l) else (Ank r c l,0)
def Np (n:Nat):List Int:=Dr n n fun i k=>R7 (i:Int) (k:Int)
end Go.Rnd
namespace Go.Rnd
open Go.Den
theorem Ak7 {a b:Nat}:(Aci a b).1<2^64:=by
 have h1:Dy<2^63:=by decide
 have hs:∀ (s:Bool) {r:Nat},r<2^63→Be s r<2^64:=by
  intro s r h
  unfold Be
  cases s
  ·rw [Asd (by decide)]; omega
  ·rw [Ase rfl]; omega
 have hN:Vq<2^64:=by decide
 unfold Aci
 by_cases c1:Ag a=4∨Ag b=4
 ·rw [Ase c1]; exact hN
 rw [Asd c1]
 by_cases c2:Ag a=Ag b∧(Ag a=3∨Ag a=0)
 ·rw [Ase c2]; exact hN
 rw [Asd c2]
 by_cases c3:Ag a=3
 ·rw [Ase c3]; exact hs _ h1
 rw [Asd c3]
 by_cases c4:Ag b=3∨Ag a=0
 ·rw [Ase c4]; exact hs _ (by decide)
 rw [Asd c4]
 by_cases c5:Ag b=0
 ·rw [Ase c5]; exact hs _ h1
 rw [Asd c5]
 exact hs _ (Tb _ _)
theorem Aiv (a b:Int):Aj (Gj a b)=true:=B6 Ak7
theorem Tw {a b:Int} (ha:Aj a=true) (hb:Aj b=true):Aj (Gu a b)=true:=by
 obtain ⟨x,rfl,hx⟩:=Bt ha
 obtain ⟨y,rfl,hy⟩:=Bt hb
 exact B6 (Tn (by rw [Art]; exact hx) (Rz (by rw [Art]; exact hy))).1
theorem Yb {r c:Nat} {f:Nat→Nat→Int} (h:∀ i k,Aj (f i k)=true):A1 (Dr r c f)=true:=Al.2 fun x hx=>by
 obtain ⟨j,_,rfl⟩:=List.mem_map.1 hx
 exact h _ _
theorem Ry (a b:Int):Aj (Hh a b)=true:=B6 Tg
theorem Aky {l:List Int} (h:∀ x∈l,Aj x=true) (i:Nat):Aj (l.getD i 0)=true:=by
 rw [Ar1]
 cases hi:l[i]? with
 | none=>exact B6 (n:=0) (by decide)
 | some x=>exact h x (List.mem_of_getElem? hi)
end Go.Rnd
namespace Go.Rnd
open Go.Den
def Am8:Int:=4607182418800017408
def Gw (x:Int):Int:=(Mm x.toNat).1
def M3 (x:Int):Int:=(Mm x.toNat).2
def Abh (k:Int):Int→List Int→Int
 | s,[]=>s
 | s,x::l=>Abh k (Jh s (Hh (Bs x k) (Bs x k))) l
def Db (x:List Int):Int :=
 if Bd x=0∨Da (Bd x)=false then Bd x else Bs (Gw (Abh (-Bn (Bd x)) 0 x)) (Bn (Bd x))
def Ix (l:List Int):Bool:=l.all fun x=>decide (Ba x=0)
def O9:List Int→Int
 | []=>0
 | x::l=>if Ba x=0 then O9 l else x
def Az (l:List Int) (k:Int):List Int:=l.map fun x=>Bs x k
def H7 (n:Nat) (f:Nat→Int):List Int:=Am8::(List.range (n-1)).map fun j=>f (j+1)
def muI (x:List Int):Int:=if C9 (O9 x)=true then Db (Az x (-Bn (Bd x))) else Dc (Db (Az x (-Bn (Bd x))))
def G3 (x:List Int):Int:=Bs (muI x) (Bn (Bd x))
def Aig (x:List Int):Int:=Bs (x.getD 0 0) (-Bn (Bd x))
def Zw (x:List Int):List Int:=H7 x.length fun j=>Gj (Bs (x.getD j 0) (-Bn (Bd x))) (Gu (Aig x) (muI x))
def Ab2 (x:List Int):Int:=Gj (Gu (muI x) (Aig x)) (muI x)
def Akk (x:List Int):List Int × Int × Int × Int :=
 if Ix (x.drop 1)=true then (H7 x.length fun _=>0,0,x.getD 0 0,0)
 else if Da (G3 x)=true then (Zw x,Ab2 x,G3 x,0) else ([],0,0,2)
def Cb (x:List Int):List Int × Int × Int × Int :=
 if x.length=0∨64<x.length then ([],0,0,3) else if D2 x=true then Akk x else ([],0,0,4)
def C6 (c:Int) (l:List Int) (b i:Int) (n:Nat):List Int:=(List.range n).map fun j:Nat=>Mr c l (i+(j:Int)) b
def Yo (c:Int) (l:List Int) (i:Int) (v:List Int) (t b:Int):Int:=Hh t (Oz v (C6 c l b i v.length))
def Ny (c:Int) (l:List Int) (i k:Int) (v:List Int) (t a b:Int):Int :=
 if k≤b∧i≤a∧a<i+v.length then Gu (Mr c l a b) (Hh (Yo c l i v t b) (v.getD (a-i).toNat 0)) else Mr c l a b
def Fg (r c:Nat) (l:List Int) (i k:Int) (v:List Int) (t:Int):List Int:=Dr r c fun a b=>Ny (c:Int) l i k v t (a:Int) (b:Int)
def K8 (r c i k:Int) (v:List Int):Bool:=decide (0≤i∧(v.length:Int)≤r∧i≤r-v.length∧0≤k∧k≤c)
def Sc (r c:Nat) (l:List Int) (j:Nat) (x:Int):List Int:=Dr r c fun a b=>if b=j∧j≤a then (if a=j then x else 0) else Mr (c:Int) l (a:Int) (b:Int)
def Fp (r c:Nat) (l:List Int) (j:Nat):List Int:=C6 (c:Int) l (j:Int) (j:Int) (r-j)
def Vv (r c:Nat) (l:List Int) (j:Nat):List Int:=Sc r c (Fg r c l (j:Int) (j:Int) (Cb (Fp r c l j)).1 (Cb (Fp r c l j)).2.1) j (Cb (Fp r c l j)).2.2.1
def Mq (r c:Nat):Nat→Nat→List Int→Option (List Int × List (List Int × Int))
 | 0,_,l=>some (l,[])
 | n+1,j,l=>if (Cb (Fp r c l j)).2.2.2=0 then
  (Mq r c n (j+1) (Vv r c l j)).map fun x=>(x.1,((Cb (Fp r c l j)).1,(Cb (Fp r c l j)).2.1)::x.2) else none
def H5 (r c:Nat):Nat:=min c (r-1)
def Jg (n:Nat):Nat→List (List Int × Int)→List Int→List Int
 | _,[],q=>q
 | j,m::ms,q=>Fg n n (Jg n (j+1) ms q) (j:Int) 0 m.1 m.2
def H4 (r c:Nat) (l:List Int):Option (List Int × List (List Int × Int)):=Mq r c (H5 r c) 0 l
def Ra (r c:Nat) (l:List Int):List Int:=match H4 r c l with
 | some x=>Jg r 0 x.2 (Np r)
 | none=>[]
def Mu (r c:Nat) (l:List Int):List Int:=match H4 r c l with
 | some x=>x.1
 | none=>[]
def Eo (r c:Int) (l:List Int):MX:=if (H4 r.toNat c.toNat l).isSome=true then (r,c,Mu r.toNat c.toNat l,0) else O5 2
def Um (ms:List (List Int × Int)):List (List DV):=ms.map fun m=>[.ints .arg .u64 m.1,.int .u64 m.2]
def Ig (r c:Int) (l:List Int):List (List DV):=match H4 r.toNat c.toNat l with
 | some x=>Um x.2
 | none=>[]
def Qz (m:Int):Int:=P6 (m.toNat*2^64)
def Q0 (m:Int):Bool:=decide (P6 (m.toNat*2^64)*P6 (m.toNat*2^64)=m.toNat*2^64)
def Pe (r c:Nat) (l:List Int):Bool:=(H4 r c l).isSome&&(D2 (Ra r c l)&&D2 (Mu r c l))
def Ga (r c:Int) (l:List Int):Int:=if Et r c l≠0 then Et r c l else if Pe r.toNat c.toNat l=true then 0 else 2
def qX (r c:Int) (l:List Int):MX:=if Ga r c l≠0 then O5 (Ga r c l) else (r,r,Ra r.toNat c.toNat l,0)
def rX (r c:Int) (l:List Int):MX:=if Ga r c l≠0 then O5 (Ga r c l) else (r,c,Mu r.toNat c.toNat l,0)
def Y4 (r c:Int) (l:List Int):MX:=if Ga r c l≠0 then O5 (Ga r c l) else (r,min r c,(F7 r r (Ra r.toNat c.toNat l) 0 0 r (min r c)).2.2.1,0)
def Y3 (r c:Int) (l:List Int):MX:=if Ga r c l≠0 then O5 (Ga r c l) else (min r c,c,(F7 r c (Mu r.toNat c.toNat l) 0 0 (min r c) c).2.2.1,0)
def P2 (x:Nat):Bool:=Br (x<2^64)
def Aak (x:Nat):Bool:=Br (x<2^64∧Ag x≠3∧Ag x≠4)
def Gg (x:Nat) (k:Int):Nat:=if Ag x=4 then x else (Ew x k).1
def Jl (x:Nat):Nat:=if G4 x<4503599627370496 then (K3 x 4841369599423283200).1 else x
def Gr (x:Nat):Int:=if G4 x<4503599627370496 then -52 else 0
def Nq (b:Int):Int:=if Da b=true then 0 else if C9 b=true then -1 else 1
end Go.Rnd
namespace Go.Rnd
open Go.Den
def Aod (x:MX):MX:=Al0 x.1 x.2.1 x.2.2.1
def Am5 (x:MX) (i k a b:Int):MX:=F7 x.1 x.2.1 x.2.2.1 i k a b
def eqT (p q:Int) (m:List Int):List Int:=(Al0 p q m).2.2.1
def eqR (p q:Int) (m:List Int):MX:=rX q p (eqT p q m)
def eqS (p q:Int) (m:List Int):MX:=Aod (Am5 (eqR p q m) 0 0 p p)
def hY (p q:Int) (m:List Int) (u v:Int) (h:List Int):MX :=
 if Ga q p (eqT p q m)≠0 then O5 (Ga q p (eqT p q m)) else if (Al7 (eqS p q m).1 (eqS p q m).2.1 (eqS p q m).2.2.1).1=true then O5 5
 else loX (eqS p q m).1 (eqS p q m).2.1 (eqS p q m).2.2.1 u v h
def hQ (p q:Int) (m:List Int):MX :=
 if Ga q p (eqT p q m)≠0 then O5 (Ga q p (eqT p q m)) else if (Al7 (eqS p q m).1 (eqS p q m).2.1 (eqS p q m).2.2.1).1=true then O5 5
 else qX q p (eqT p q m)
end Go.Rnd
namespace Go.Rnd
open Go.Den
end Go.Rnd
namespace Go.Rnd
open Go.Den
end Go.Rnd
namespace Go.Rnd
open Go.Den
structure Wh (x:Int) (v:Int):Prop where
 word:Aj x=true
 k3:Ag x.toNat≠3
 k4:Ag x.toNat≠4
 val:∃ g:Int,g≤0∧g≤Ax x.toNat∧Ir x.toNat g=v*((2^(-g).toNat:Nat):Int)
end Go.Rnd
namespace Go.Rnd
open Go.Den
def V2 (b:Int):Bool:=!(decide (Qr (Bs 4607182418800017408 (-40)) b<0))
def Jq (l:List Int):Int:=(l.countP V2:Nat)
def Aet (x:Int):Int:=if x=0 then 4607182418800017408 else 0
end Go.Rnd
end
