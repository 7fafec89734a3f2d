/- A verified evaluator of the program's form and its use for this seat: S1Env, Rnd, Flt, Words, NearL, IeeL, OrdL, MulL, Limb, DyL, DyV, ExactL, MulW, SumL, MatL, MatW, PowL, RootL, ScaleL, SolW, TriL, HouW, LseW, GgW, RidW, S1Specs. -/
import Derived.Test.YtjbokjpbiobjpaaProg
import Derived.Test.YtjbokjpbiobjpaaTD
set_option linter.unusedVariables false
set_option linter.unusedSimpArgs false
noncomputable section
namespace Go.Proofs.S1
open Go Go.Den Go.Proofs
set_option maxRecDepth 100000
abbrev tB:Nat:=41
abbrev tMR:Nat:=75
def tys:List (Nat × TI):=[
  (2,⟨1,8,(.int .i64),[.int .i64 (0:Int)]⟩),
  (3,⟨1,8,(.int .i64),[.int .i64 (0:Int)]⟩),
  (4,⟨1,1,.bool,[.bool false]⟩),
  (5,⟨1,1,(.int .u8),[.int .u8 (0:Int)]⟩),
  (22,⟨1,24,(.slice 41),[.nil]⟩),
  (24,⟨3,40,(.struct [(0,3),(1,3),(2,22)]),[.int .i64 (0:Int),.int .i64 (0:Int),.nil]⟩),
  (26,⟨12,160,(.struct [(0,24),(3,24),(6,24),(9,24)]),[.int .i64 (0:Int),.int .i64 (0:Int),.nil,.int .i64 (0:Int),.int .i64 (0:Int),.nil,.int .i64 (0:Int),.int .i64 (0:Int),.nil,.int .i64 (0:Int),.int .i64 (0:Int),.nil]⟩),
  (27,⟨1,8,(.int .i64),[.int .i64 (0:Int)]⟩),
  (30,⟨12,160,(.struct [(0,24),(3,24),(6,24),(9,24)]),[.int .i64 (0:Int),.int .i64 (0:Int),.nil,.int .i64 (0:Int),.int .i64 (0:Int),.nil,.int .i64 (0:Int),.int .i64 (0:Int),.nil,.int .i64 (0:Int),.int .i64 (0:Int),.nil]⟩),
  (34,⟨12,160,(.array 4 24),[.int .i64 (0:Int),.int .i64 (0:Int),.nil,.int .i64 (0:Int),.int .i64 (0:Int),.nil,.int .i64 (0:Int),.int .i64 (0:Int),.nil,.int .i64 (0:Int),.int .i64 (0:Int),.nil]⟩),
  (36,⟨1,24,(.slice 24),[.nil]⟩),
  (40,⟨1,8,(.int .u64),[.int .u64 (0:Int)]⟩),
  (41,⟨1,8,(.int .u64),[.int .u64 (0:Int)]⟩),
  (63,⟨2,16,(.array 2 3),[.int .i64 (0:Int),.int .i64 (0:Int)]⟩),
  (65,⟨6,80,(.array 2 24),[.int .i64 (0:Int),.int .i64 (0:Int),.nil,.int .i64 (0:Int),.int .i64 (0:Int),.nil]⟩),
  (67,⟨3,24,(.struct [(0,4),(1,3),(2,40)]),[.bool false,.int .i64 (0:Int),.int .u64 (0:Int)]⟩),
  (69,⟨1,24,(.slice 75),[.nil]⟩),
  (75,⟨2,32,(.struct [(0,22),(1,41)]),[.nil,.int .u64 (0:Int)]⟩),
  (82,⟨1,8,(.int .i64),[.int .i64 (0:Int)]⟩),
  (85,⟨1,1,(.int .u8),[.int .u8 (0:Int)]⟩)]
theorem ty2:Br Try.prog 2 ⟨1,8,(.int .i64),[.int .i64 (0:Int)]⟩:=Co (z:=.int .i64 (0:Int)) (by kernel_rfl) (fun c w=>by simp [At,Ah,Value.cells]) rfl (by simp [Value.cells,Value.oneCell']) (by simp only [B4]; exact Try.underlying2)
theorem ty3:Br Try.prog 3 ⟨1,8,(.int .i64),[.int .i64 (0:Int)]⟩:=Co (z:=.int .i64 (0:Int)) (by kernel_rfl) (fun c w=>by simp [At,Ah,Value.cells]) rfl (by simp [Value.cells,Value.oneCell']) (by simp only [B4]; exact Try.underlying3)
theorem ty4:Br Try.prog 4 ⟨1,1,.bool,[.bool false]⟩:=Co (z:=.bool false) (by kernel_rfl) (fun c w=>by simp [At,Ah,Value.cells]) rfl (by simp [Value.cells,Value.oneCell']) (by simp only [B4]; exact Try.underlying4)
theorem ty5:Br Try.prog 5 ⟨1,1,(.int .u8),[.int .u8 (0:Int)]⟩:=Co (z:=.int .u8 (0:Int)) (by kernel_rfl) (fun c w=>by simp [At,Ah,Value.cells]) rfl (by simp [Value.cells,Value.oneCell']) (by simp only [B4]; exact Try.underlying5)
theorem ty22:Br Try.prog 22 ⟨1,24,(.slice 41),[.nil]⟩:=Co (z:=.slice none 0 0) (by kernel_rfl) (fun c w=>by simp [At,Ah,Value.cells]) rfl (by simp [Value.cells,Value.oneCell']) (by simp only [B4]; exact Try.underlying22)
theorem ty24:Br Try.prog 24 ⟨3,40,(.struct [(0,3),(1,3),(2,22)]),[.int .i64 (0:Int),.int .i64 (0:Int),.nil]⟩:=Co (z:=.agg #[.int .i64 (0:Int),.int .i64 (0:Int),.slice none 0 0]) (by kernel_rfl) (fun c w=>by simp [At,Ah,Value.cells]) rfl (by simp [Value.cells,Value.oneCell']) (by simp only [B4]; exact ⟨_,Try.underlying24,by kernel_rfl⟩)
theorem ty26:Br Try.prog 26 ⟨12,160,(.struct [(0,24),(3,24),(6,24),(9,24)]),[.int .i64 (0:Int),.int .i64 (0:Int),.nil,.int .i64 (0:Int),.int .i64 (0:Int),.nil,.int .i64 (0:Int),.int .i64 (0:Int),.nil,.int .i64 (0:Int),.int .i64 (0:Int),.nil]⟩:=Co (z:=.agg #[.int .i64 (0:Int),.int .i64 (0:Int),.slice none 0 0,.int .i64 (0:Int),.int .i64 (0:Int),.slice none 0 0,.int .i64 (0:Int),.int .i64 (0:Int),.slice none 0 0,.int .i64 (0:Int),.int .i64 (0:Int),.slice none 0 0]) (by kernel_rfl) (fun c w=>by simp [At,Ah,Value.cells]) rfl (by simp [Value.cells,Value.oneCell']) (by simp only [B4]; exact ⟨_,Try.underlying26,by kernel_rfl⟩)
theorem ty27:Br Try.prog 27 ⟨1,8,(.int .i64),[.int .i64 (0:Int)]⟩:=Co (z:=.int .i64 (0:Int)) (by kernel_rfl) (fun c w=>by simp [At,Ah,Value.cells]) rfl (by simp [Value.cells,Value.oneCell']) (by simp only [B4]; exact Try.underlying27)
theorem ty30:Br Try.prog 30 ⟨12,160,(.struct [(0,24),(3,24),(6,24),(9,24)]),[.int .i64 (0:Int),.int .i64 (0:Int),.nil,.int .i64 (0:Int),.int .i64 (0:Int),.nil,.int .i64 (0:Int),.int .i64 (0:Int),.nil,.int .i64 (0:Int),.int .i64 (0:Int),.nil]⟩:=Co (z:=.agg #[.int .i64 (0:Int),.int .i64 (0:Int),.slice none 0 0,.int .i64 (0:Int),.int .i64 (0:Int),.slice none 0 0,.int .i64 (0:Int),.int .i64 (0:Int),.slice none 0 0,.int .i64 (0:Int),.int .i64 (0:Int),.slice none 0 0]) (by kernel_rfl) (fun c w=>by simp [At,Ah,Value.cells]) rfl (by simp [Value.cells,Value.oneCell']) (by simp only [B4]; exact ⟨_,Try.underlying30,by kernel_rfl⟩)
theorem ty34:Br Try.prog 34 ⟨12,160,(.array 4 24),[.int .i64 (0:Int),.int .i64 (0:Int),.nil,.int .i64 (0:Int),.int .i64 (0:Int),.nil,.int .i64 (0:Int),.int .i64 (0:Int),.nil,.int .i64 (0:Int),.int .i64 (0:Int),.nil]⟩:=Co (z:=.agg #[.int .i64 (0:Int),.int .i64 (0:Int),.slice none 0 0,.int .i64 (0:Int),.int .i64 (0:Int),.slice none 0 0,.int .i64 (0:Int),.int .i64 (0:Int),.slice none 0 0,.int .i64 (0:Int),.int .i64 (0:Int),.slice none 0 0]) (by kernel_rfl) (fun c w=>by simp [At,Ah,Value.cells]) rfl (by simp [Value.cells,Value.oneCell']) (by simp only [B4]; exact Try.underlying34)
theorem ty36:Br Try.prog 36 ⟨1,24,(.slice 24),[.nil]⟩:=Co (z:=.slice none 0 0) (by kernel_rfl) (fun c w=>by simp [At,Ah,Value.cells]) rfl (by simp [Value.cells,Value.oneCell']) (by simp only [B4]; exact Try.underlying36)
theorem ty40:Br Try.prog 40 ⟨1,8,(.int .u64),[.int .u64 (0:Int)]⟩:=Co (z:=.int .u64 (0:Int)) (by kernel_rfl) (fun c w=>by simp [At,Ah,Value.cells]) rfl (by simp [Value.cells,Value.oneCell']) (by simp only [B4]; exact Try.underlying40)
theorem ty41:Br Try.prog 41 ⟨1,8,(.int .u64),[.int .u64 (0:Int)]⟩:=Co (z:=.int .u64 (0:Int)) (by kernel_rfl) (fun c w=>by simp [At,Ah,Value.cells]) rfl (by simp [Value.cells,Value.oneCell']) (by simp only [B4]; exact Try.underlying41)
theorem ty63:Br Try.prog 63 ⟨2,16,(.array 2 3),[.int .i64 (0:Int),.int .i64 (0:Int)]⟩:=Co (z:=.agg #[.int .i64 (0:Int),.int .i64 (0:Int)]) (by kernel_rfl) (fun c w=>by simp [At,Ah,Value.cells]) rfl (by simp [Value.cells,Value.oneCell']) (by simp only [B4]; exact Try.underlying63)
theorem ty65:Br Try.prog 65 ⟨6,80,(.array 2 24),[.int .i64 (0:Int),.int .i64 (0:Int),.nil,.int .i64 (0:Int),.int .i64 (0:Int),.nil]⟩:=Co (z:=.agg #[.int .i64 (0:Int),.int .i64 (0:Int),.slice none 0 0,.int .i64 (0:Int),.int .i64 (0:Int),.slice none 0 0]) (by kernel_rfl) (fun c w=>by simp [At,Ah,Value.cells]) rfl (by simp [Value.cells,Value.oneCell']) (by simp only [B4]; exact Try.underlying65)
theorem ty67:Br Try.prog 67 ⟨3,24,(.struct [(0,4),(1,3),(2,40)]),[.bool false,.int .i64 (0:Int),.int .u64 (0:Int)]⟩:=Co (z:=.agg #[.bool false,.int .i64 (0:Int),.int .u64 (0:Int)]) (by kernel_rfl) (fun c w=>by simp [At,Ah,Value.cells]) rfl (by simp [Value.cells,Value.oneCell']) (by simp only [B4]; exact ⟨_,Try.underlying67,by kernel_rfl⟩)
theorem ty69:Br Try.prog 69 ⟨1,24,(.slice 75),[.nil]⟩:=Co (z:=.slice none 0 0) (by kernel_rfl) (fun c w=>by simp [At,Ah,Value.cells]) rfl (by simp [Value.cells,Value.oneCell']) (by simp only [B4]; exact Try.underlying69)
theorem ty75:Br Try.prog 75 ⟨2,32,(.struct [(0,22),(1,41)]),[.nil,.int .u64 (0:Int)]⟩:=Co (z:=.agg #[.slice none 0 0,.int .u64 (0:Int)]) (by kernel_rfl) (fun c w=>by simp [At,Ah,Value.cells]) rfl (by simp [Value.cells,Value.oneCell']) (by simp only [B4]; exact ⟨_,Try.underlying75,by kernel_rfl⟩)
theorem ty82:Br Try.prog 82 ⟨1,8,(.int .i64),[.int .i64 (0:Int)]⟩:=Co (z:=.int .i64 (0:Int)) (by kernel_rfl) (fun c w=>by simp [At,Ah,Value.cells]) rfl (by simp [Value.cells,Value.oneCell']) (by simp only [B4]; exact Try.underlying82)
theorem ty85:Br Try.prog 85 ⟨1,1,(.int .u8),[.int .u8 (0:Int)]⟩:=Co (z:=.int .u8 (0:Int)) (by kernel_rfl) (fun c w=>by simp [At,Ah,Value.cells]) rfl (by simp [Value.cells,Value.oneCell']) (by simp only [B4]; exact Try.underlying85)
theorem tys_ok:Ms Try.prog tys:=.cons ty2 <| .cons ty3 <| .cons ty4 <| .cons ty5 <| .cons ty22 <| .cons ty24 <| .cons ty26 <| .cons ty27 <| .cons ty30 <| .cons ty34 <| .cons ty36 <| .cons ty40 <| .cons ty41 <| .cons ty63 <| .cons ty65 <| .cons ty67 <| .cons ty69 <| .cons ty75 <| .cons ty82 <| .cons ty85 <| .nil
def exts:List (Nat × Ext):=[(101,.sub64)]
def Xf:List (Nat × Ext)→Nat→Option Ext
  | [],_=>none
  | (m,e)::l,n=>bif Nat.beq m n then some e else Xf l n
theorem Aef (args:Array Value) (w:World):(callFunc 101 args).run Try.prog w=((Vc .sub64 args).run Try.prog w).andThen fun v w'=>.ok (.value v) w':=run_callFunc_extern (e:=Rf) Try.func101 (by kernel_rfl) (by kernel_rfl) (by kernel_rfl) (by kernel_rfl) args w
def eqts:List Nat:=[67,63]
theorem eq67:Vt Try.prog 67 ⟨3,24,(.struct [(0,4),(1,3),(2,40)]),[.bool false,.int .i64 (0:Int),.int .u64 (0:Int)]⟩ where
  guard:=by kernel_rfl
  eq:=by
    intro w c x y xs ys hx hy hlx hly
    obtain ⟨a0,x1,rfl,hx1⟩:=Ri hx
    obtain ⟨a1,x2,rfl,hx2⟩:=Gu hx1
    obtain ⟨a2,x3,rfl,hx3⟩:=Gu hx2
    obtain rfl:=Mh hx3
    obtain ⟨b0,y1,rfl,hy1⟩:=Ri hy
    obtain ⟨b1,y2,rfl,hy2⟩:=Gu hy1
    obtain ⟨b2,y3,rfl,hy3⟩:=Gu hy2
    obtain rfl:=Mh hy3
    obtain ⟨xs⟩:=xs
    obtain ⟨ys⟩:=ys
    simp only [At.Bp,At.Ep,Ah] at hlx hly
    obtain ⟨_,_,rfl,rfl,_,_,rfl,rfl,_,_,rfl,rfl,rfl⟩:=hlx
    obtain ⟨_,_,rfl,rfl,_,_,rfl,rfl,_,_,rfl,rfl,rfl⟩:=hly
    have hu:Try.prog.underlying 67=some (.struct (Try.prog.fieldsOf 67)):=by kernel_rfl
    have hp:Try.prog.stoodInHeld 67=false:=by kernel_rfl
    unfold Op.equal Op.maxDepth
    rw [run_equalIn_struct w 9999 67 _ _ hu hp]
    have hfs:Try.prog.fieldsOf 67=(match Try.prog.underlying 67 with | some (.struct fs)=>fs | _=>#[]):=rfl
    rw [hfs,Try.underlying67]
    simp [Op.eqFields,Io w ty3 rfl,Io w ty4 rfl,Io w ty40 rfl,run_equalIn_int w _ _ _ _ _ _ Try.underlying3,run_equalIn_bool w _ _ _ _ Try.underlying4,run_equalIn_int w _ _ _ _ _ _ Try.underlying40,Tx,Sj]
    by_cases h0:a0=b0<;>by_cases h1:a1=b1<;>by_cases h2:a2=b2<;>simp [h0,h1,h2]
theorem eq63:Vt Try.prog 63 ⟨2,16,(.array 2 3),[.int .i64 (0:Int),.int .i64 (0:Int)]⟩ where
  guard:=by kernel_rfl
  eq:=by
    intro w c x y xs ys hx hy hlx hly
    obtain ⟨a0,x1,rfl,hx1⟩:=Gu hx
    obtain ⟨a1,x2,rfl,hx2⟩:=Gu hx1
    obtain rfl:=Mh hx2
    obtain ⟨b0,y1,rfl,hy1⟩:=Gu hy
    obtain ⟨b1,y2,rfl,hy2⟩:=Gu hy1
    obtain rfl:=Mh hy2
    obtain ⟨xs⟩:=xs
    obtain ⟨ys⟩:=ys
    simp only [At.Bp,At.Ep,Ah] at hlx hly
    obtain ⟨_,_,rfl,rfl,_,_,rfl,rfl,rfl⟩:=hlx
    obtain ⟨_,_,rfl,rfl,_,_,rfl,rfl,rfl⟩:=hly
    obtain ⟨i,_,hi,_⟩:=ty3.info
    have hc:Try.prog.cellsOf 3=1:=by kernel_rfl
    unfold Op.equal Op.maxDepth
    rw [run_equalIn_array w 9999 _ _ Try.underlying63 hi,hc]
    simp [Op.eqItems,List.range,List.range.loop,Io w ty3 rfl,run_equalIn_int w _ _ _ _ _ _ Try.underlying3,Tx,Sj]
    by_cases h0:a0=b0<;>by_cases h1:a1=b1<;>simp [h0,h1]
def Ba (A8:Nat→Option Entry) (adopt:Nat→Bool) (hint:Nat→Option A0) (live:Nat→Option (List Nat)):Env:={ ty:=Acl tys,A8:=A8,ext:=Xf exts,eqs:=fun t=>It t eqts,adopt:=adopt,live:=live,hint:=hint }
theorem Ax {l:List (Nat × Entry)} (h:Av Try.prog l) (adopt:Nat→Bool) (hint:Nat→Option A0) (live:Nat→Option (List Nat)):Hb Try.prog (Ba (A6 l) adopt hint live) where
  ty:=fun t ti ht=>tys_ok.get ht
  A8:=fun g e hg=>(h.get hg).meets
  call:=fun g e hg=>(h.get hg).call
  ext:=by
    intro g x hx args w
    simp only [Ba,exts,Xf] at hx
    cases hb:Nat.beq 101 g with
    | true =>
      rw [hb] at hx
      cases hx
      obtain rfl:=Ah5 hb
      exact Aef args w
    | false =>
    rw [hb,Ahr] at hx
    clear hb
    cases hx
  eqs:=by
    intro t ti ht hti
    simp only [Ba,eqts,It] at ht hti
    cases hb:Nat.beq t 67 with
    | true =>
      obtain rfl:=Ah5 hb
      cases hti
      exact eq67
    | false =>
    rw [hb,Ahr] at ht
    clear hb
    cases hb:Nat.beq t 63 with
    | true =>
      obtain rfl:=Ah5 hb
      cases hti
      exact eq63
    | false =>
    rw [hb,Ahr] at ht
    clear hb
    cases ht
  mixed:=by kernel_rfl
def extsN:List (Nat × Ext):=[(101,.sub64)]
def advOf:List (Nat × List CK)→Nat→List CK
  | [],_=>[]
  | (m,e)::l,n=>bif Nat.beq m n then e else advOf l n
def Yy (A8:Nat→Option Entry) (adopt:Nat→Bool) (hint:Nat→Option A0) (live:Nat→Option (List Nat)) (adv:Nat→List CK):Env:={ ty:=Acl tys,A8:=A8,ext:=Xf extsN,eqs:=fun t=>It t eqts,adopt:=adopt,live:=live,hint:=hint,adv:=adv }
theorem Ag0 {l:List (Nat × Entry)} (h:Av Try.prog l) (adopt:Nat→Bool) (hint:Nat→Option A0) (live:Nat→Option (List Nat)) (adv:Nat→List CK):Hb Try.prog (Yy (A6 l) adopt hint live adv) :=
  have k:=Ax h adopt hint live
  ⟨k.ty,k.A8,k.call,(by
    intro g x hx args w
    simp only [Yy,extsN,Xf] at hx
    cases hb:Nat.beq 101 g with
    | true =>
      rw [hb] at hx
      cases hx
      obtain rfl:=Ah5 hb
      exact Aef args w
    | false =>
    rw [hb,Ahr] at hx
    clear hb
    cases hx),k.eqs,k.mixed,k.spoil⟩
end Go.Proofs.S1
namespace Go.Rnd
def Om (V k:Nat):Nat:=V / 2^k+(if 2^k<2*(V%2^k)∨(2*(V%2^k)=2^k∧V / 2^k%2=1) then 1 else 0)
def Kb (V:Nat) (s:Int):Nat:=Om (V*2^(-s).toNat) s.toNat
def Ju (V:Nat) (s:Int):Bool:=decide (V*2^(-s).toNat%2^s.toNat=0)
def C3 (M:Nat) (E:Int):Int:=max (E+M.log2-52) (-1074)
def kept (M:Nat) (E:Int):Nat:=Kb M (C3 M E-E)
def Gc:Nat:=2047*2^52
def B0 (M:Nat) (E:Int):Nat:=if M=0 then 0 else min ((C3 M E+1074).toNat*2^52+kept M E) Gc
def exact (M:Nat) (E:Int):Bool:=Ju M (C3 M E-E)
def flags (r:Nat) (ex:Bool):Nat:=if r=Gc then 5 else if ex then 0 else if 2^52≤r then 1 else 3
def flagsOf (M:Nat) (E:Int):Nat:=if M=0 then 0 else flags (B0 M E) (exact M E)
theorem Cj (k:Nat):0<2^k:=Nat.pow_pos (by decide)
theorem Tj (V:Nat):Om V 0=V:=by
  unfold Om; simp [Nat.mod_one]
theorem Wp (V a k:Nat):Om (V*2^a) (a+k)=Om V k:=by
  unfold Om
  have hA:=Cj a
  have e:2^(a+k)=2^a*2^k:=Nat.pow_add 2 a k
  have hd:V*2^a / 2^(a+k)=V / 2^k:=by
    rw [e,Nat.mul_comm V,Nat.mul_div_mul_left _ _ hA]
  have hm:V*2^a%2^(a+k)=2^a*(V%2^k):=by
    rw [e,Nat.mul_comm V,Nat.mul_mod_mul_left]
  rw [hd,hm,e]
  have h1:(2^a*2^k<2*(2^a*(V%2^k)))↔(2^k<2*(V%2^k)):=by
    rw [Nat.mul_left_comm 2]
    exact Nat.mul_lt_mul_left hA
  have h2:(2*(2^a*(V%2^k))=2^a*2^k)↔(2*(V%2^k)=2^k):=by
    rw [Nat.mul_left_comm 2]
    exact Nat.mul_right_inj (by omega)
  simp only [h1,h2]
theorem mod_mul (V a k:Nat):(V*2^a%2^(a+k)=0)↔(V%2^k=0):=by
  have hA:=Cj a
  rw [Nat.pow_add,Nat.mul_comm V,Nat.mul_mod_mul_left]
  constructor
  · intro h
    rcases Nat.mul_eq_zero.1 h with h | h
    · omega
    · exact h
  · intro h; rw [h]; rfl
theorem Qg (V k:Nat) (s:Int):Kb (V*2^k) (s+k)=Kb V s∧Ju (V*2^k) (s+k)=Ju V s:=by
  unfold Kb Ju
  by_cases h0:0≤s
  · have e1:(-(s+k)).toNat=0:=by omega
    have e2:(-s).toNat=0:=by omega
    have e3:(s+k).toNat=k+s.toNat:=by omega
    rw [e1,e2,e3,Nat.pow_zero,Nat.mul_one,Nat.mul_one]
    exact ⟨Wp V k _,by simp only [mod_mul]⟩
  · by_cases h1:0≤s+k
    · have e1:(-(s+k)).toNat=0:=by omega
      have e2:s.toNat=0:=by omega
      have e3:k=(s+k).toNat+(-s).toNat:=by omega
      rw [e1,e2,Nat.pow_zero,Nat.mul_one]
      have e4:V*2^k=V*2^(-s).toNat*2^(s+k).toNat:=by
        rw [Nat.mul_assoc,← Nat.pow_add,Nat.add_comm (-s).toNat,← e3]
      rw [e4]
      refine ⟨?_,?_⟩
      · have:=Wp (V*2^(-s).toNat) (s+k).toNat 0
        rw [Nat.add_zero] at this; exact this
      · have:=mod_mul (V*2^(-s).toNat) (s+k).toNat 0
        rw [Nat.add_zero,Nat.pow_zero] at this
        simp only [this]
    · have e1:(s+k).toNat=0:=by omega
      have e2:s.toNat=0:=by omega
      have e3:(-s).toNat=k+(-(s+k)).toNat:=by omega
      rw [e1,e2,e3,Nat.pow_add,Nat.mul_assoc]
      exact ⟨rfl,rfl⟩
theorem R1 (M k:Nat) (hM:M≠0):(M*2^k).log2=M.log2+k:=by
  have hk:=Cj k
  have hne:M*2^k≠0:=by
    intro h
    rcases Nat.mul_eq_zero.1 h with h | h<;>omega
  have h1:=Nat.log2_self_le hM
  have h2:=Nat.lt_log2_self (n:=M)
  have a:M.log2+k≤(M*2^k).log2:=by
    rw [Nat.le_log2 hne,Nat.pow_add]
    exact Ahz _ h1
  have b:(M*2^k).log2<M.log2+k+1:=by
    rw [Nat.log2_lt hne,Nat.add_right_comm,Nat.pow_add]
    exact (Nat.mul_lt_mul_right hk).2 h2
  omega
theorem U1 {n a:Nat} (h1:2^a≤n) (h2:n<2^(a+1)):n.log2=a:=by
  have:=Cj a
  have hn:n≠0:=by omega
  have b1:=(Nat.le_log2 hn).2 h1
  have b2:=(Nat.log2_lt hn).2 h2
  omega
theorem Yr (M k:Nat) (E:Int) (hM:M≠0):C3 (M*2^k) (E-k)=C3 M E:=by
  unfold C3; rw [R1 M k hM]; congr 1; omega
theorem Ku {M k:Nat} (hM:M≠0):M*2^k≠0:=by
  have:=Cj k
  intro h
  rcases Nat.mul_eq_zero.1 h with h | h<;>omega
theorem Dw (M k:Nat) (E:Int):B0 (M*2^k) (E-k)=B0 M E∧flagsOf (M*2^k) (E-k)=flagsOf M E:=by
  by_cases hM:M=0
  · subst hM; simp [B0,flagsOf]
  · have hl:=Yr M k E hM
    have e:C3 M E-(E-k)=C3 M E-E+k:=by omega
    have h1:B0 (M*2^k) (E-k)=B0 M E:=by
      unfold B0 kept
      rw [if_neg (Ku hM),if_neg hM,hl,e,(Qg M k _).1]
    refine ⟨h1,?_⟩
    unfold flagsOf
    rw [if_neg (Ku hM),if_neg hM,h1]
    unfold exact
    rw [hl,e,(Qg M k _).2]
theorem Ac4 {V s d k:Nat} (hs:s%2=1) (h1:(s-1)*2^d<V) (h2:V<(s+1)*2^d) (hk:2≤k) :
    Om V (d+k)=Om s k∧V%2^(d+k)≠0∧s%2^k≠0:=by
  have hA:=Cj d
  obtain ⟨j,rfl⟩:∃ j,k=j+2:=⟨k-2,by omega⟩
  have hB:2^(j+2)=4*2^j:=by rw [Nat.pow_add]; omega
  have hBp:=Cj (j+2)
  have hC:=Cj j
  have hsd:=Nat.div_add_mod s (2^(j+2))
  have hr2:s%2^(j+2)%2=1:=by
    rw [hB,show 4*2^j=2*(2*2^j) by omega,Nat.mod_mul_right_mod]; exact hs
  have hrlt:=Nat.mod_lt s hBp
  generalize hq:s / 2^(j+2)=q at *
  generalize hr:s%2^(j+2)=r at *
  have hAB:2^(d+(j+2))=2^d*2^(j+2):=Nat.pow_add 2 d (j+2)
  generalize hBB:2^(j+2)=b at *
  generalize hAA:2^d=a at *
  have e1:(s-1)*a=q*(a*b)+(r-1)*a:=by
    have:s-1=b*q+(r-1):=by omega
    rw [this,Nat.add_mul,Nat.mul_comm b q,Nat.mul_assoc,Nat.mul_comm b a]
  have e2:(s+1)*a=q*(a*b)+(r+1)*a:=by
    have:s+1=b*q+(r+1):=by omega
    rw [this,Nat.add_mul,Nat.mul_comm b q,Nat.mul_assoc,Nat.mul_comm b a]
  have e3:(r+1)*a≤b*a:=Ahz a (by omega)
  rw [Nat.mul_comm b a] at e3
  rw [e1] at h1
  rw [e2] at h2
  have hdiv:V / (a*b)=q:=Nat.div_eq_of_lt_le (by omega) (by rw [Nat.add_mul]; omega)
  have hmod:V%(a*b)=V-q*(a*b):=by
    have:=Nat.div_add_mod V (a*b)
    rw [hdiv,Nat.mul_comm (a*b) q] at this; omega
  have hb2:b=2*(2*2^j):=by omega
  generalize hc:2^j=c at *
  have hR1:(r-1)*a<V-q*(a*b):=by omega
  have hR2:V-q*(a*b)<(r+1)*a:=by omega
  generalize hR:V-q*(a*b)=R at *
  have hab:a*b=2*(2*c*a):=by rw [hb2,Nat.mul_comm a,Nat.mul_assoc]
  have key:(a*b<2*R∨(2*R=a*b∧q%2=1))↔(b<2*r∨(2*r=b∧q%2=1)):=by
    rw [hab,hb2]
    rcases Nat.lt_or_ge r (2*c) with hlt | hge
    · have:(r+1)*a≤2*c*a:=Ahz a (by omega)
      constructor<;>(intro h; omega)
    · have hgt:2*c+1≤r:=by omega
      have:2*c*a≤(r-1)*a:=Ahz a (by omega)
      constructor
      · intro _; left; omega
      · intro _; left; omega
  refine ⟨?_,?_,?_⟩
  · unfold Om
    rw [hAB,hdiv,hmod,hBB,hq,hr]
    simp only [key]
  · rw [hAB,hmod]
    have:=Nat.zero_le ((r-1)*a)
    omega
  · omega
theorem Ll {V s d:Nat} {E:Int} (hs:s%2=1) (h1:(s-1)*2^d<V) (h2:V<(s+1)*2^d) (hl:C3 V E=C3 s (E+d)) (hk:E+d+2≤C3 s (E+d)) :
    B0 V E=B0 s (E+d)∧flagsOf V E=flagsOf s (E+d):=by
  have hV:V≠0:=by omega
  have hs0:s≠0:=by omega
  generalize hL:C3 s (E+d)=L at *
  obtain ⟨k,hk2⟩:∃ k:Nat,L-(E+d)=k+2:=⟨(L-(E+d)-2).toNat,by omega⟩
  obtain ⟨a1,a2,a3⟩:=Ac4 (k:=k+2) hs h1 h2 (by omega)
  have e1:(L-E).toNat=d+(k+2):=by omega
  have e2:(-(L-E)).toNat=0:=by omega
  have e3:(L-(E+d)).toNat=k+2:=by omega
  have e4:(-(L-(E+d))).toNat=0:=by omega
  have hr:B0 V E=B0 s (E+d):=by
    unfold B0 kept Kb
    rw [if_neg hV,if_neg hs0,hl,hL,e1,e2,e3,e4]
    simp only [Nat.pow_zero,Nat.mul_one]
    rw [a1]
  refine ⟨hr,?_⟩
  unfold flagsOf exact Ju
  rw [if_neg hV,if_neg hs0,hr,hl,hL,e1,e2,e3,e4]
  simp only [Nat.pow_zero,Nat.mul_one,a2,a3,decide_false]
theorem Lu {V s d:Nat} (hs:s%2=1) (hs3:3≤s) (h1:(s-1)*2^d<V) (h2:V<(s+1)*2^d):V.log2=s.log2+d:=by
  have hs0:s≠0:=by omega
  have a1:=Nat.log2_self_le hs0
  have a2:=Nat.lt_log2_self (n:=s)
  have hl:1≤s.log2:=by rw [Nat.le_log2 hs0]; omega
  obtain ⟨t,ht⟩:∃ t,s.log2=t+1:=⟨s.log2-1,by omega⟩
  rw [ht] at a1 a2 ⊢
  have ev1:2^(t+1)=2*2^t:=by rw [Nat.pow_succ]; omega
  have ev2:2^(t+1+1)=2*(2*2^t):=by rw [Nat.pow_succ,ev1]; omega
  refine U1 ?_ ?_
  · rw [Nat.pow_add]
    have:2^(t+1)*2^d≤(s-1)*2^d:=Ahz _ (by omega)
    omega
  · have e:t+1+d+1=(t+1+1)+d:=by omega
    rw [e,Nat.pow_add]
    have:(s+1)*2^d≤2^(t+1+1)*2^d:=Ahz _ (by omega)
    omega
end Go.Rnd
namespace Go.Rnd
def Dn (b:Nat):Bool:=decide (2^63≤b)
def Gp (b:Nat):Nat:=b / 2^52%2048
def F3 (b:Nat):Nat:=b%2^52
def Ao (b:Nat):Nat:=if Gp b=2047 then (if F3 b=0 then 3 else 4) else if 0<Gp b then 2 else if 0<F3 b then 1 else 0
def J0 (b:Nat):Bool:=decide (Gp b<2047)
def Nu (b:Nat):Nat:=if 2^63≤b then b-2^63 else b+2^63
def Ap (b:Nat):Nat:=if Gp b=0 then F3 b else F3 b+2^52
def A2 (b:Nat):Int:=if Gp b=0 then -1074 else (Gp b:Int)-1075
def B7 (neg:Bool) (r:Nat):Nat:=if neg then 2^63+r else r
def Qd (neg:Bool) (m:Nat):Int:=if neg then -(m:Int) else m
def P9 (b:Nat) (e:Int):Int:=Qd (Dn b) (Ap b*2^(A2 b-e).toNat)
def S6:Nat:=0x7ff8000000000000
def Nm (z:Nat) (S:Int) (e:Int):Nat × Nat :=
  if S=0 then (z,0) else (B7 (decide (S<0)) (B0 S.natAbs e),flagsOf S.natAbs e)
def Ma (a b:Nat):Nat × Nat :=
  if Ao a=4∨Ao b=4 then (S6,0)
  else if Ao a=3 then (if Ao b=3∧a≠b then (S6,16) else (a,0))
  else if Ao b=3 then (b,0)
  else Nm (B7 (Dn a&&Dn b) 0) (P9 a (min (A2 a) (A2 b))+P9 b (min (A2 a) (A2 b))) (min (A2 a) (A2 b))
def subN (a b:Nat):Nat × Nat:=Ma a (Nu b)
def Et (neg:Bool) (m:Nat) (e:Int) (more:Bool):Nat × Nat :=
  (B7 neg (B0 (4*m+more.toNat) (e-2)),flagsOf (4*m+more.toNat) (e-2))
def Cy (x:Int):Bool:=Dn x.toNat
def Mw (x:Int):Int:=Gp x.toNat
def Nd (x:Int):Int:=F3 x.toNat
def Az (x:Int):Int:=Ao x.toNat
def Cp (x:Int):Bool:=J0 x.toNat
def Cq (x:Int):Int:=Nu x.toNat
def A1 (x:Int):Int:=Ap x.toNat
def Ay (x:Int):Int:=A2 x.toNat
def Dh (neg:Bool) (m e:Int) (more:Bool):Int:=(Et neg m.toNat e more).1
def Dg (neg:Bool) (m e:Int) (more:Bool):Int:=(Et neg m.toNat e more).2
def Il (a b:Int):Int:=(Ma a.toNat b.toNat).1
def Qt (a b:Int):Int:=(Ma a.toNat b.toNat).2
def C0 (a b:Int):Int:=(subN a.toNat b.toNat).1
def subFI (a b:Int):Int:=(subN a.toNat b.toNat).2
theorem Jj (b:Nat):Gp b<2048:=Nat.mod_lt _ (by decide)
theorem Se (b:Nat):F3 b<4503599627370496:=Nat.mod_lt _ (by decide)
theorem E7 (b:Nat):Ap b<9007199254740992:=by
  have:=Se b
  unfold Ap; split<;>omega
theorem Ek (b:Nat):-1074≤A2 b∧A2 b≤972:=by
  have:=Jj b
  unfold A2; split<;>omega
theorem Po {m:Nat} {e:Int} (h1:2^52≤m) (h2:m<2^53) (he:-1074≤e):B0 m e=min ((e+1074).toNat*2^52+m) Gc:=by
  have hl:m.log2=52:=U1 h1 h2
  have hm:m≠0:=by omega
  have hle:C3 m e=e:=by unfold C3; rw [hl]; omega
  unfold B0 kept
  rw [if_neg hm,hle,Int.sub_self]
  unfold Kb
  simp [Tj]
theorem Wi {m:Nat} (h2:m<2^52):B0 m (-1074)=m:=by
  by_cases hm:m=0
  · subst hm; rfl
  · have hl:m.log2<52:=(Nat.log2_lt hm).2 h2
    have hle:C3 m (-1074)=-1074:=by unfold C3; omega
    unfold B0 kept
    rw [if_neg hm,hle,Int.sub_self]
    unfold Kb Gc
    simp [Tj]
    omega
theorem Zl (m:Nat) (e:Int):B0 m e≤Gc:=by
  unfold B0
  split
  · exact Nat.zero_le _
  · exact Nat.min_le_right _ _
theorem O3:Gc=9218868437227405312:=rfl
theorem Q2 (m:Nat) (e:Int):B0 m e<2^63:=by
  have:=Zl m e
  rw [O3] at this
  omega
theorem Of (n:Bool) (m:Nat) (e:Int):B7 n (B0 m e)<2^64:=by
  have:=Q2 m e
  unfold B7; split<;>omega
theorem Rx {r:Nat} (h:r<2^63):Nu r=2^63+r:=by
  unfold Nu; rw [if_neg (by omega)]; omega
end Go.Rnd
namespace Go.Rnd
open Go.Den
def Hu (m e:Int):Bool:=Dd (0≤m∧m≤9007199254740992∧-1074≤e∧e+m / 9007199254740992≤100000)
def Kp (m e:Int):Nat:=if 9007199254740992≤m then 1 else if m<4503599627370496 then 2+(e+1074).toNat else 0
def Oq (n:Bool) (m e:Int):Int:=B7 n (B0 m.toNat e)
def Cv (m e:Int) (r:Bool):Bool :=
  Dd (0≤m∧m<18446744073709551616∧e≤50000∧(-1137≤e∨(m<4611686018427387904∧-1140≤e))∧(r=true→4503599627370496≤m∨e≤-1074))
def D3 (n D:Nat):Nat:=if n%2^D=0 then n / 2^D else 2*(n / 2^D / 2)+1
def Dl (m d:Int):Int:=D3 m.toNat (min d.toNat 63)
def Cs (l:List Int):Bool:=Dd (l.length<4611686018427387904∧∀ x∈l,Ag x=true)
def Agb (x:Int):Bool:=Dd (0≤x)
theorem Adh (n:Nat):Agb (n:Int)=true:=Ar.2 (Int.natCast_nonneg n)
theorem Adi {x:Int} (h:Agb x=true):∃ n:Nat,x=n:=⟨x.toNat,by have:=Ar.1 h; omega⟩
end Go.Rnd
namespace Go.Rnd
theorem step1 (a c:Nat):(a+1)*c+c=a*c+(c+c):=by rw [Nat.add_mul,Nat.one_mul,Nat.add_assoc]
theorem two52:2^52+2^52=2^53:=by decide
theorem step2 (a:Nat):(a+1)*2^52+2^52=a*2^52+2^53:=(step1 a (2^52)).trans (congrArg (fun x=>a*2^52+x) two52)
theorem two52':2^52*2^1=2^53:=by decide
theorem Af0 {E:Int}:B0 (2^53) E=B0 (2^52) (E+1):=by
  have:=(Dw (2^52) 1 (E+1)).1
  have e1:E+1-((1:Nat):Int)=E:=by omega
  rw [e1,two52'] at this
  exact this
theorem Ac1 {E:Int} (hE:-1074≤E):B0 (2^53) E=min ((E+1074).toNat*2^52+2^53) Gc:=by
  have e3:(E+1+1074).toNat=(E+1074).toNat+1:=by omega
  rw [Af0,Po (by decide) (by decide) (by omega),e3]
  exact congrArg (fun x=>min x Gc) (step2 _)
theorem Aax {q:Nat} {E:Int} (h1:q≤2^53) (hE:-1074≤E) (h2:2^52≤q∨E=-1074):B0 q E=min ((E+1074).toNat*2^52+q) Gc:=by
  by_cases ha:q=2^53
  · rw [ha]; exact Ac1 hE
  · by_cases hb:2^52≤q
    · exact Po hb (by omega) hE
    · obtain rfl:E=-1074:=h2.resolve_left hb
      rw [Wi (by omega)]
      unfold Gc
      simp
      omega
theorem Aa3 {M D s:Nat} (hs:s≤1):Om (4*M+s) (D+2)=M / 2^D+(if 0<D∧(2^(D-1)<M%2^D∨(M%2^D=2^(D-1)∧(s=1∨M / 2^D%2=1))) then 1 else 0) ∧
    ((4*M+s)%2^(D+2)=0↔M%2^D=0∧s=0):=by
  have hp:2^(D+2)=2^D*4:=by rw [Nat.pow_add]
  have hA:=Cj D
  have hdm:=Nat.div_add_mod M (2^D)
  have hlt:=Nat.mod_lt M hA
  have hdiv:(4*M+s) / (2^D*4)=M / 2^D:=by
    rw [Nat.mul_comm (2^D) 4,← Nat.div_div_eq_div_mul]
    congr 1; omega
  have hmod:(4*M+s)%(2^D*4)=4*(M%2^D)+s:=by
    have h:=Nat.div_add_mod (4*M+s) (2^D*4)
    rw [hdiv] at h
    have e:2^D*4*(M / 2^D)=4*(2^D*(M / 2^D)):=by rw [Nat.mul_comm (2^D) 4,Nat.mul_assoc]
    rw [e] at h
    omega
  unfold Om
  rw [hp,hdiv,hmod]
  generalize M%2^D=r at *
  generalize M / 2^D=q at *
  refine ⟨?_,by omega⟩
  congr 1
  have key:(2^D*4<2*(4*r+s)∨2*(4*r+s)=2^D*4∧q%2=1)↔(0<D∧(2^(D-1)<r∨(r=2^(D-1)∧(s=1∨q%2=1)))):=by
    cases D with
    | zero=>simp only [Nat.pow_zero] at hlt ⊢; omega
    | succ d =>
      rw [Nat.pow_succ] at hlt ⊢
      simp only [Nat.add_sub_cancel]
      generalize 2^d=c at *
      omega
  simp only [key]
structure Drop (M:Nat) (e:Int) (D:Nat):Prop where
  le:D≤63
  stop:D<63→M / 2^D<2^53∧-1074≤e+D
  least:∀ d,d<D→2^53≤M / 2^d∨e+d < -1074
def Wq (M D s:Nat):Nat:=M / 2^D+(if 0<D∧(2^(D-1)<M%2^D∨(M%2^D=2^(D-1)∧(s=1∨M / 2^D%2=1))) then 1 else 0)
theorem Ac7 {M D s:Nat} (h:M / 2^D<2^53):Wq M D s≤2^53:=by
  unfold Wq; split<;>omega
theorem Ac8 {M D s:Nat}:M / 2^D≤Wq M D s:=by unfold Wq; omega
theorem div_lt {M D:Nat} {c:Nat} (h:M / 2^D<c):M<c*2^D:=(Nat.div_lt_iff_lt_mul (Cj D)).1 h
theorem Ad3 {M D:Nat} {c:Nat} (h:c≤M / 2^D):c*2^D≤M:=(Nat.le_div_iff_mul_le (Cj D)).1 h
theorem R7 {V:Nat} {E L:Int} (h:(E+V.log2-52=L∧-1074≤L)∨(E+V.log2-52≤L∧L=-1074)):C3 V E=L:=by unfold C3; omega
theorem Abk {M s:Nat} (hs:s≤1) (hM:M≠0):(4*M+s).log2=M.log2+2:=by
  have h1:=Nat.log2_self_le hM
  have h2:=Nat.lt_log2_self (n:=M)
  refine U1 ?_ ?_
  · rw [Nat.pow_add]; omega
  · have e:2^(M.log2+2+1)=2^(M.log2+1)*4:=by rw [show M.log2+2+1=M.log2+1+2 by omega,Nat.pow_add]
    omega
theorem Abe {M D s:Nat} {e:Int} (hD:Drop M e D) (hs:s≤1) (hV:4*M+s≠0) (hM:M<2^64) (he:-1137≤e∨(M<2^62∧-1140≤e)) (hr:s=1→2^52≤M∨e≤-1074) :
    B0 (4*M+s) (e-2)=B0 (if e+D < -1074 then 0 else Wq M D s) (max (e+D) (-1074)) ∧
    flagsOf (4*M+s) (e-2)=flags (B0 (4*M+s) (e-2)) (decide (M%2^D=0∧s=0)) ∧
    (if e+D < -1074 then 0 else Wq M D s)≤2^53:=by
  have hA:=Cj D
  by_cases hlow:e+D < -1074
  ·
    have hD63:D=63:=by
      rcases Nat.lt_or_ge D 63 with h | h
      · have:=(hD.stop h).2; omega
      · have:=hD.le; omega
    subst hD63
    have hM62:M<2^62:=by rcases he with h | h; omega; exact h.1
    have he2:-1140≤e:=by rcases he with h | h; omega; exact h.2
    have hV64:4*M+s<2^64:=by omega
    have hlog:(4*M+s).log2<64:=(Nat.log2_lt hV).2 hV64
    have hl:C3 (4*M+s) (e-2)=-1074:=R7 (.inr ⟨by omega,rfl⟩)
    obtain ⟨k,hk⟩:∃ k:Nat,(-1074-(e-2)).toNat=66+k:=⟨(-1074-(e-2)).toNat-66,by omega⟩
    have e2:(-(-1074-(e-2))).toNat=0:=by omega
    have hp:2^66≤2^(66+k):=Ah2 (by decide) (by omega)
    have hsm:4*M+s<2^(66+k):=by omega
    have hz:Kb (4*M+s) (-1074-(e-2))=0:=by
      unfold Kb Om
      rw [e2,hk,Nat.pow_zero,Nat.mul_one,Nat.div_eq_of_lt hsm,Ah0 hsm,if_neg (by omega)]
    have hru:B0 (4*M+s) (e-2)=0:=by
      unfold B0 kept
      rw [if_neg hV,hl,hz]
      simp
    refine ⟨?_,?_,?_⟩
    · rw [hru,if_pos hlow]; rfl
    · unfold flagsOf exact Ju
      rw [if_neg hV,hl,e2,hk,Nat.pow_zero,Nat.mul_one,Ah0 hsm]
      congr 1
      have h63:M%2^63=M:=Ah0 (by omega)
      rw [h63,Ah3]
      simp only [Ahu]
      omega
    · rw [if_pos hlow]; exact Nat.zero_le _
  · have hmax:max (e+D) (-1074)=e+D:=by omega
    have hq:M / 2^D<2^53:=by
      rcases Nat.lt_or_ge D 63 with h | h
      · exact (hD.stop h).1
      · have:D=63:=by have:=hD.le; omega
        subst this
        exact Nat.lt_of_le_of_lt (Nat.div_le_of_le_mul (show M≤2^63*2 by omega)) (by decide)
    obtain ⟨c1,c2⟩:=Aa3 (M:=M) (D:=D) hs
    rw [if_neg hlow,hmax]
    refine ⟨?_,?_,Ac7 hq⟩
    all_goals
      by_cases hD0:D=0∧s=0
      · obtain ⟨rfl,rfl⟩:=hD0
        have hM0:M≠0:=by omega
        obtain ⟨s1,s2⟩:=Dw M 2 e
        have e1:M*2^2=4*M+0:=by omega
        have e2:e-((2:Nat):Int)=e-2:=by omega
        rw [e1,e2] at s1 s2
        have hq0:Wq M 0 0=M:=by unfold Wq; simp
        have hle:C3 M e≤e:=by
          have:M.log2<53:=(Nat.log2_lt hM0).2 (by simpa using hq)
          unfold C3; simp only [Int.natCast_zero,Int.add_zero] at hlow; omega
        first
        | (rw [s1,hq0]; simp; done)
        | (rw [s2,s1]
           unfold flagsOf exact Ju
           have z:(C3 M e-e).toNat=0:=by omega
           rw [if_neg hM0,z]
           simp [Nat.mod_one])
      ·
        have hl:C3 (4*M+s) (e-2)=e+D:=by
          by_cases hM0:M=0
          · subst hM0
            have hs1:s=1:=by omega
            subst hs1
            have hle:e+D=-1074:=by
              rcases Nat.eq_zero_or_pos D with rfl | hpos
              · have:=hr rfl; omega
              · have h:=hD.least (D-1) (by omega)
                simp only [Nat.zero_div] at h
                omega
            refine R7 (.inr ⟨?_,hle⟩)
            have:(4*0+1:Nat).log2=0:=by decide
            rw [this]; omega
          · have hlog:=Abk hs hM0
            have hub:M.log2<53+D:=by
              rw [Nat.log2_lt hM0,Nat.pow_add]; exact div_lt hq
            have hcase:52+D≤M.log2∨e+D=-1074:=by
              rcases Nat.eq_zero_or_pos D with rfl | hpos
              · have hs1:s=1:=by omega
                rcases hr hs1 with h | h
                · left; rw [Nat.le_log2 hM0]; simpa using h
                · right; simp only [Int.natCast_zero,Int.add_zero] at hlow ⊢; omega
              · rcases hD.least (D-1) (by omega) with h | h
                · left
                  rw [Nat.le_log2 hM0]
                  have:=Ad3 h
                  have e1:2^(52+D)=2^53*2^(D-1):=by rw [← Nat.pow_add]; congr 1; omega
                  rw [e1]; exact this
                · right; omega
            refine R7 ?_
            rw [hlog]
            rcases hcase with h | h
            · left; omega
            · right; omega
        have e1:(e+D-(e-2)).toNat=D+2:=by omega
        have e2:(-(e+(D:Int)-(e-2))).toNat=0:=by omega
        have hkept:kept (4*M+s) (e-2)=Wq M D s:=by
          unfold kept Kb
          rw [hl,e1,e2,Nat.pow_zero,Nat.mul_one,c1]; rfl
        first
        | (have hbig:2^52≤Wq M D s∨e+D=-1074:=by
             rcases Nat.eq_zero_or_pos D with rfl | hpos
             · have hs1:s=1:=by omega
               rcases hr hs1 with h | h
               · left; exact Nat.le_trans (by simpa using h) Ac8
               · right; simp only [Int.natCast_zero,Int.add_zero] at hlow ⊢; omega
             · rcases hD.least (D-1) (by omega) with h | h
               · left
                 refine Nat.le_trans ?_ Ac8
                 rw [Nat.le_div_iff_mul_le hA]
                 have:=Ad3 h
                 have e1:2^52*2^D=2^53*2^(D-1):=by rw [← Nat.pow_add,← Nat.pow_add]; congr 1; omega
                 rw [e1]; exact this
               · right; omega
           rw [Aax (Ac7 hq) (by omega) hbig]
           unfold B0
           rw [if_neg hV,hl,hkept]; done)
        | (unfold flagsOf exact Ju
           rw [if_neg hV,hl,e1,e2,Nat.pow_zero,Nat.mul_one]
           congr 1
           rw [Ah3]
           simp only [Ahu]
           exact c2)
theorem Aa6 (n:Bool) {r:Nat} (h:r<2^63):Gp (B7 n r)=r / 2^52:=by
  unfold Gp B7; cases n
  · simp only [Bool.false_eq_true,if_false]; omega
  · simp only [if_true]; omega
theorem Yu (n:Bool) (r:Nat):F3 (B7 n r)=r%2^52:=by
  unfold F3 B7; cases n
  · rfl
  · simp only [if_true]; omega
theorem Abo (n:Bool) {r:Nat} (h:r≤Gc):Ao (B7 n r)=if r=Gc then 3 else if 2^52≤r then 2 else if 0<r then 1 else 0:=by
  rw [O3] at *
  unfold Ao
  rw [Aa6 n (by omega),Yu]
  by_cases h1:r=9218868437227405312
  · subst h1; simp
  · rw [if_neg h1,if_neg (by omega)]
    by_cases h2:2^52≤r
    · rw [if_pos h2,if_pos (by omega)]
    · rw [if_neg h2,if_neg (by omega)]
      by_cases h3:0<r
      · rw [if_pos h3,if_pos (by omega)]
      · rw [if_neg h3,if_neg (by omega)]
end Go.Rnd
namespace Go.Rnd
open Ieee
theorem Ys (b:Nat):(Gp b=2047∧F3 b=0∧Ao b=3)∨(Gp b=2047∧F3 b≠0∧Ao b=4)∨(Gp b<2047∧Ao b≠3∧Ao b≠4):=by
  have:=Jj b
  unfold Ao
  by_cases h1:Gp b=2047
  · by_cases h2:F3 b=0<;>simp [h1,h2]
  · refine .inr (.inr ⟨by omega,?_⟩)
    rw [if_neg h1]
    split
    · decide
    · split<;>decide
end Go.Rnd
namespace Go.Rnd
open Ieee
def R9 (b:Nat):Int:=Qd (Dn b) (b%2^63)
end Go.Rnd
namespace Go.Rnd
def Sx (a b:Nat):Nat × Nat :=
  if Ao a=4∨Ao b=4 then (S6,0)
  else if Ao a=3∨Ao b=3 then (if Ao a=0∨Ao b=0 then (S6,16) else (B7 (Dn a !=Dn b) Gc,0))
  else (B7 (Dn a !=Dn b) (B0 (Ap a*Ap b) (A2 a+A2 b)),flagsOf (Ap a*Ap b) (A2 a+A2 b))
def E2 (X Y K:Nat):Nat:=2*(X*2^K / Y)+(if X*2^K%Y=0 then 0 else 1)
def Y0 (a b:Nat):Nat × Nat :=
  if Ao a=4∨Ao b=4 then (S6,0)
  else if Ao a=Ao b∧(Ao a=3∨Ao a=0) then (S6,16)
  else if Ao a=3 then (B7 (Dn a !=Dn b) Gc,0)
  else if Ao b=3∨Ao a=0 then (B7 (Dn a !=Dn b) 0,0)
  else if Ao b=0 then (B7 (Dn a !=Dn b) Gc,8)
  else (B7 (Dn a !=Dn b) (B0 (E2 (Ap a) (Ap b) 120) (A2 a-A2 b-121)),flagsOf (E2 (Ap a) (Ap b) 120) (A2 a-A2 b-121))
theorem Yi {V k:Nat} {E:Int} (hm:1≤V / 2^k) (hc:2^53≤V / 2^k∨E+k+1≤-1074) :
    B0 (4*(V / 2^k)+(if V%2^k=0 then 0 else 1)) (E+k-2)=B0 V E∧flagsOf (4*(V / 2^k)+(if V%2^k=0 then 0 else 1)) (E+k-2)=flagsOf V E:=by
  have hA:=Cj k
  have h1:=Nat.div_add_mod V (2^k)
  have h2:=Nat.mod_lt V hA
  generalize hq:V / 2^k=q at *
  generalize hr:V%2^k=r at *
  by_cases h0:r=0
  · rw [if_pos h0]
    obtain ⟨a1,a2⟩:=Dw q k (E+k)
    obtain ⟨b1,b2⟩:=Dw q 2 (E+k)
    have e1:E+(k:Int)-k=E:=by omega
    have e2:V=q*2^k:=by rw [Nat.mul_comm]; omega
    have e3:q*2^2=4*q+0:=by omega
    have e4:E+(k:Int)-((2:Nat):Int)=E+k-2:=by omega
    rw [e1,← e2] at a1 a2
    rw [e3,e4] at b1 b2
    rw [a1,a2,b1,b2]
    exact ⟨rfl,rfl⟩
  · rw [if_neg h0]
    obtain ⟨d,rfl⟩:∃ d,k=d+1:=by
      cases k with
      | zero=>simp only [Nat.pow_zero] at h2; omega
      | succ d=>exact ⟨d,rfl⟩
    have hD:2^(d+1)=2*2^d:=by rw [Nat.pow_succ]; omega
    rw [hD] at h1 h2
    generalize hc2:2^d=c at *
    have p1:(2*q+1-1)*c=2*c*q:=by rw [Nat.add_sub_cancel,Nat.mul_comm,Nat.mul_left_comm,Nat.mul_assoc]
    have p2:(2*q+1+1)*c=2*c*q+2*c:=by
      rw [show 2*q+1+1=2*(q+1) by omega,Nat.mul_assoc,Nat.add_mul,Nat.mul_add,Nat.mul_comm q c,Nat.mul_assoc]; omega
    have lt1:(2*q+1-1)*2^d<V:=by rw [hc2,p1]; omega
    have lt2:V<(2*q+1+1)*2^d:=by rw [hc2,p2]; omega
    have od:(2*q+1)%2=1:=by omega
    have lV:=Lu od (by omega) lt1 lt2
    have l4:(4*q+1).log2=(2*q+1).log2+1:=Lu (d:=1) od (by omega) (by omega) (by omega)
    have hs:(2*q+1).log2≥54∨E+d+2≤-1074:=by
      rcases hc with h | h
      · left; rw [ge_iff_le,Nat.le_log2 (by omega)]; omega
      · right; omega
    have hk:E+d+2≤C3 (2*q+1) (E+d):=by unfold C3; omega
    obtain ⟨a1,a2⟩:=Ll (E:=E) od lt1 lt2 (by unfold C3; rw [lV]; omega) hk
    have ee:E+((d+1:Nat):Int)-2+((1:Nat):Int)=E+d:=by omega
    obtain ⟨b1,b2⟩:=Ll (V:=4*q+1) (d:=1) (E:=E+((d+1:Nat):Int)-2) od (by omega) (by omega) (by unfold C3; rw [l4]; omega) (by rw [ee]; unfold C3; omega)
    rw [ee] at b1 b2
    rw [a1,a2,b1,b2]
    exact ⟨rfl,rfl⟩
theorem Oz (n:Bool) {V k:Nat} {E e:Int} {s:Bool} (he:e=E+k) (hs:s=decide (V%2^k≠0)) (hm:1≤V / 2^k) (hc:2^53≤V / 2^k∨E+k+1≤-1074) :
    Et n (V / 2^k) e s=(B7 n (B0 V E),flagsOf V E):=by
  obtain ⟨a,b⟩:=Yi hm hc
  have e1:s.toNat=if V%2^k=0 then 0 else 1:=by
    rw [hs]
    by_cases h:V%2^k=0
    · rw [Ahs (by omega),if_pos h]; rfl
    · rw [Aho h,if_neg h]; rfl
  unfold Et
  rw [he,e1,a,b]
theorem Rg {X Y K:Nat} (d:Nat) (E:Int) (hY:0<Y) (h:2^53≤X*2^K / Y) :
    B0 (E2 X Y (K+d)) (E-d)=B0 (E2 X Y K) E∧flagsOf (E2 X Y (K+d)) (E-d)=flagsOf (E2 X Y K) E:=by
  have hA:=Cj d
  unfold E2
  have e:X*2^(K+d)=X*2^K*2^d:=by rw [Nat.pow_add,Nat.mul_assoc]
  rw [e]
  generalize X*2^K=Z at *
  have h1:=Nat.div_add_mod Z Y
  have h2:=Nat.mod_lt Z hY
  by_cases h0:Z%Y=0
  · obtain ⟨q,rfl⟩:=Nat.dvd_of_mod_eq_zero h0
    have e1:Y*q*2^d=Y*(q*2^d):=Nat.mul_assoc _ _ _
    rw [e1,Nat.mul_mod_right,Nat.mul_mod_right,Nat.mul_div_cancel_left _ hY,Nat.mul_div_cancel_left _ hY,if_pos rfl]
    have:=Dw (2*q+0) d E
    rw [show (2*q+0)*2^d=2*(q*2^d)+0 by rw [Nat.add_zero,Nat.add_zero,Nat.mul_assoc]] at this
    exact this
  · have h3:=Nat.div_add_mod (Z*2^d) Y
    have h4:=Nat.mod_lt (Z*2^d) hY
    rw [if_neg h0]
    generalize hq:Z / Y=q at *
    generalize hr:Z%Y=r at *
    generalize hc:2^d=c at *
    have hz:Z*c=Y*(q*c)+r*c:=by rw [← h1,Nat.add_mul,Nat.mul_assoc]
    have hrc:r*c<Y*c:=(Nat.mul_lt_mul_right hA).2 h2
    have hrc0:0<r*c:=Nat.mul_pos (by omega) hA
    have q1:q*c≤Z*c / Y:=by rw [Nat.le_div_iff_mul_le hY,Nat.mul_comm (q*c)]; omega
    have q2:Z*c / Y<(q+1)*c:=by
      rw [Nat.div_lt_iff_lt_mul hY,Nat.add_mul,Nat.add_mul,Nat.one_mul,Nat.mul_comm (q*c),Nat.mul_comm c Y]; omega
    have q3:Z*c / Y=q*c→Z*c%Y≠0:=fun h5 h6=>by rw [h5,h6] at h3; omega
    generalize hQ:Z*c / Y=Q at *
    have p1:(2*q+1-1)*c=2*(q*c):=by rw [Nat.add_sub_cancel,Nat.mul_assoc]
    have p2:(2*q+1+1)*c=2*((q+1)*c):=by rw [show 2*q+1+1=2*(q+1) by omega,Nat.mul_assoc]
    have od:(2*q+1)%2=1:=by omega
    generalize hV:2*Q+(if Z*c%Y=0 then 0 else 1)=V
    have v1:(2*q+1-1)*2^d<V:=by
      rw [hc,p1,← hV]
      by_cases h5:Q=q*c
      · rw [if_neg (q3 h5)]; omega
      · split<;>omega
    have v2:V<(2*q+1+1)*2^d:=by
      rw [hc,p2,← hV]
      split<;>omega
    have lV:=Lu od (by omega) v1 v2
    have hs:54≤(2*q+1).log2:=by rw [Nat.le_log2 (by omega)]; omega
    have ee:E-(d:Int)+d=E:=by omega
    have:=Ll (E:=E-d) od v1 v2 (by unfold C3; rw [lV]; omega) (by unfold C3; omega)
    rw [ee] at this
    exact this
theorem X1 {X Y K L:Nat} {E F:Int} (hY:0<Y) (h1:2^53≤X*2^K / Y) (h2:2^53≤X*2^L / Y) (he:E+K=F+L) :
    B0 (E2 X Y K) E=B0 (E2 X Y L) F∧flagsOf (E2 X Y K) E=flagsOf (E2 X Y L) F:=by
  rcases Nat.le_total K L with h | h
  · obtain ⟨d,rfl⟩:=Nat.exists_eq_add_of_le h
    have:=Rg d E hY h1
    rw [show E-(d:Int)=F by omega] at this
    exact ⟨this.1.symm,this.2.symm⟩
  · obtain ⟨d,rfl⟩:=Nat.exists_eq_add_of_le h
    have:=Rg d F hY h2
    rw [show F-(d:Int)=E by omega] at this
    exact this
theorem X2 (X Y a K:Nat):E2 (X*2^a) Y K=E2 X Y (K+a):=by
  unfold E2
  have:X*2^a*2^K=X*2^(K+a):=by rw [Nat.mul_assoc,← Nat.pow_add,Nat.add_comm a K]
  rw [this]
theorem V8 (X Y b K:Nat):E2 X (Y*2^b) (K+b)=E2 X Y K:=by
  have hp:=Cj b
  unfold E2
  have:X*2^(K+b)=X*2^K*2^b:=by rw [Nat.pow_add,Nat.mul_assoc]
  rw [this,Nat.mul_div_mul_right _ _ hp,Nat.mul_mod_mul_right]
  have:(X*2^K%Y*2^b=0)↔(X*2^K%Y=0):=by
    constructor
    · intro h
      rcases Nat.mul_eq_zero.1 h with h | h
      · exact h
      · omega
    · intro h; rw [h,Nat.zero_mul]
  simp only [this]
theorem quo_ge {X Y K t:Nat} (hX:0<X) (hY0:0<Y) (hY:Y<2^t) (hK:53+t≤K):2^53≤X*2^K / Y:=by
  rw [Nat.le_div_iff_mul_le hY0]
  have h1:2^53*Y≤2^53*2^t:=Nat.mul_le_mul_left _ (by omega)
  have h2:2^(53+t)≤2^K:=Ah2 (by decide) hK
  have h3:1*2^K≤X*2^K:=Ahz _ (by omega)
  rw [Nat.pow_add] at h2
  omega
theorem Abf (n:Bool) {X Y K:Nat} {e E:Int} {s:Bool} (hs:s=decide (X*2^K%Y≠0)) (he:E=e-1) (hq:2^53≤X*2^K / Y) :
    Et n (X*2^K / Y) e s=(B7 n (B0 (E2 X Y K) E),flagsOf (E2 X Y K) E):=by
  have e1:E2 X Y K / 2^1=X*2^K / Y:=by
    unfold E2
    split<;>omega
  have e2:decide (E2 X Y K%2^1≠0)=decide (X*2^K%Y≠0):=by
    unfold E2
    by_cases h:X*2^K%Y=0
    · rw [if_pos h,Ahs (by omega),Ahs (by omega)]
    · rw [if_neg h,Aho (by omega),Aho h]
  have:=Oz n (V:=E2 X Y K) (k:=1) (E:=E) (e:=e) (s:=s) (by omega) (by rw [e2]; exact hs) (by omega) (.inl (by omega))
  rw [e1] at this
  exact this
end Go.Rnd
namespace Go.Rnd
open Go.Den
end Go.Rnd
namespace Go.Rnd
open Go.Den
end Go.Rnd
namespace Go.Rnd
open Go.Den
def Af (l:List Int):Bool:=Dd (∀ x∈l,Ag x=true)
def M6 (n:Bool) (b:Int):Int:=if n then Cq b else b
end Go.Rnd
namespace Go.Rnd
open Go.Den
end Go.Rnd
namespace Go.Rnd
open Go.Den
def Di (x:Int):Int:=if x=0 then 0 else (x.toNat.log2:Int)+1
def M9 (x y:Int):Int:=((x.toNat*y.toNat / 18446744073709551616:Nat):Int)
def Jk (x y:Int):Int:=((x.toNat*y.toNat%18446744073709551616:Nat):Int)
def Adk (a b:Int):Bool:=decide (Az a=4)||decide (Az b=4)
def Bg (b:Nat):Nat:=52-(Ap b).log2
def Bv (b:Int):Int:=((Ap b.toNat*2^Bg b.toNat:Nat):Int)
def Ff (b:Int):Int:=A2 b.toNat-Bg b.toNat
def Ir (b:Int):Bool:=Dd (Ap b.toNat≠0)
def Kl (m e:Int):Bool:=Dd (1152921504606846976≤m∧m<4611686018427387904∧-6000≤e∧e≤6000)
def Dz (a b:Int):Int:=(Sx a.toNat b.toNat).1
def mulFI (a b:Int):Int:=(Sx a.toNat b.toNat).2
def Em (a b:Int):Int:=(Y0 a.toNat b.toNat).1
def divFI (a b:Int):Int:=(Y0 a.toNat b.toNat).2
end Go.Rnd
namespace Go.Rnd
theorem Ab9 (a b:Nat):Ma a b=Ma b a:=by
  unfold Ma
  by_cases ha:Ao a=4
  · simp only [ha,true_or,or_true,if_true]
  · by_cases hb:Ao b=4
    · simp only [hb,true_or,or_true,if_true]
    · simp only [ha,hb,or_self,if_false]
      by_cases ha3:Ao a=3
      · by_cases hb3:Ao b=3
        · simp only [ha3,hb3,if_true,true_and]
          by_cases e:a=b
          · subst e; rfl
          · rw [if_pos e,if_pos (fun h=>e h.symm)]
        · simp only [ha3,hb3,if_true,if_false,false_and]
      · by_cases hb3:Ao b=3
        · simp only [ha3,hb3,if_true,if_false,false_and]
        · simp only [ha3,hb3,if_false]
          rw [Bool.and_comm,Int.min_comm,Int.add_comm]
theorem Wm {Y D:Nat} (h:Y%2^D=0):D3 Y D=Y / 2^D:=by unfold D3; rw [if_pos h]
theorem Ya {Y D:Nat} (h:Y%2^D≠0):D3 Y D%2=1:=by unfold D3; rw [if_neg h]; omega
theorem Wn {Y d:Nat} (hY:Y<2^62) (h:Y%2^d≠0):(D3 Y (min d 63)-1)*2^d<Y∧Y<(D3 Y (min d 63)+1)*2^d∧D3 Y (min d 63)%2=1:=by
  have hA:=Cj d
  by_cases hd:d≤63
  · rw [Nat.min_eq_left hd]
    refine ⟨?_,?_,Ya h⟩
    all_goals
      unfold D3
      rw [if_neg h]
      have h1:=Nat.div_add_mod Y (2^d)
      have h2:=Nat.mod_lt Y hA
      generalize Y / 2^d=q at *
      generalize Y%2^d=r at *
      generalize 2^d=c at *
      rw [Nat.mul_comm] at h1
    · have h3:(2*(q / 2)+1-1)*c≤q*c:=Ahz c (by omega)
      omega
    · have h3:(q+1)*c≤(2*(q / 2)+1+1)*c:=Ahz c (by omega)
      rw [Nat.add_mul,Nat.one_mul] at h3
      omega
  · rw [Nat.min_eq_right (by omega)]
    have h63:Y%2^63=Y:=Ah0 (by omega)
    have hd0:Y / 2^63=0:=Nat.div_eq_of_lt (by omega)
    have hY0:Y≠0:=by intro e; rw [e] at h; simp at h
    have hr:D3 Y 63=1:=by unfold D3; rw [h63,if_neg hY0,hd0]
    have hp:2^62≤2^d:=Ah2 (by decide) (by omega)
    rw [hr]
    refine ⟨by simp; omega,by omega,rfl⟩
theorem pow9 {d M:Nat} (h:(M*2^9)%2^d≠0):10≤d:=by
  refine Nat.lt_of_not_le fun hle=>h ?_
  obtain ⟨k,hk⟩:∃ k,9=d+k:=⟨9-d,by omega⟩
  rw [hk,Nat.pow_add,Nat.mul_comm (2^d),← Nat.mul_assoc,Nat.mul_mod_left]
theorem Kk {V m d:Nat} {e f:Int} (hd:e=f+d) (h:V=m*2^d∨(m%2=1∧(m-1)*2^d<V∧V<(m+1)*2^d∧2^60≤m)) :
    B0 m (e-9)=B0 V (f-9)∧flagsOf m (e-9)=flagsOf V (f-9):=by
  rcases h with rfl | ⟨h1,h2,h3,h4⟩
  · have:=Dw m d (e-9)
    have e1:e-9-(d:Int)=f-9:=by omega
    rw [e1] at this
    exact ⟨this.1.symm,this.2.symm⟩
  · have hm0:m≠0:=by omega
    have hlog:=Lu h1 (by omega) h2 h3
    have hl60:60≤m.log2:=(Nat.le_log2 hm0).2 h4
    have e1:f-9+(d:Int)=e-9:=by omega
    have hle:C3 V (f-9)=C3 m (f-9+d):=by unfold C3; rw [hlog]; congr 1; omega
    have hk:f-9+d+2≤C3 m (f-9+d):=by unfold C3; omega
    obtain ⟨a1,a2⟩:=Ll h1 h2 h3 hle hk
    rw [e1] at a1 a2
    exact ⟨a1.symm,a2.symm⟩
theorem X4 (V:Nat) (f:Int):B0 (V*2^9) (f-9)=B0 V f∧flagsOf (V*2^9) (f-9)=flagsOf V f:=Dw V 9 f
structure Ahm (Mx My d:Nat) (e f:Int) (X r:Nat):Prop where
  plus:B0 (X+r) (e-9)=B0 (Mx*2^d+My) f∧flagsOf (X+r) (e-9)=flagsOf (Mx*2^d+My) f
  less:r<X→My<Mx*2^d∧B0 (X-r) (e-9)=B0 (Mx*2^d-My) f∧flagsOf (X-r) (e-9)=flagsOf (Mx*2^d-My) f
  more:X<r→Mx*2^d<My∧B0 (r-X) (e-9)=B0 (My-Mx*2^d) f∧flagsOf (r-X) (e-9)=flagsOf (My-Mx*2^d) f
  same:X=r→Mx*2^d=My
  small:r≤2^62
theorem Ahj {X My r d p:Nat} {e f:Int} (hd:e=f+d) (comm:X*2^d=p*2^9) (n1:(r-1)*2^d<My*2^9) (n2:My*2^9<r*2^d+2^d) (n3:r%2=1) (hX2:X%2=0) (hX:2^61≤X) (hr:r≤2^53) :
    (B0 (X+r) (e-9)=B0 (p+My) f∧flagsOf (X+r) (e-9)=flagsOf (p+My) f)∧My<p∧B0 (X-r) (e-9)=B0 (p-My) f∧flagsOf (X-r) (e-9)=flagsOf (p-My) f:=by
  have e1:(r-1)*2^d+2^d=r*2^d:=by
    obtain ⟨k,rfl⟩:∃ k,r=k+1:=⟨r-1,by omega⟩
    rw [Nat.add_sub_cancel,Nat.add_mul,Nat.one_mul]
  have e2:(r+1)*2^d=r*2^d+2^d:=by rw [Nat.add_mul,Nat.one_mul]
  have hXd:(r+1)*2^d≤X*2^d:=Ahz _ (by omega)
  have hlt:My<p:=by rw [e2,comm] at hXd; omega
  have a1:B0 (X+r) (e-9)=B0 ((p+My)*2^9) (f-9)∧flagsOf (X+r) (e-9)=flagsOf ((p+My)*2^9) (f-9):=by
    refine Kk hd (.inr ⟨by omega,?_,?_,by omega⟩)
    · have h1:X+r-1=X+(r-1):=by omega
      rw [h1,Nat.add_mul X (r-1) (2^d),Nat.add_mul p My (2^9),comm]
      exact Nat.add_lt_add_left n1 _
    · have h1:X+r+1=X+(r+1):=by omega
      rw [h1,Nat.add_mul X (r+1) (2^d),Nat.add_mul p My (2^9),comm,e2]
      exact Nat.add_lt_add_left n2 _
  have a2:B0 (X-r) (e-9)=B0 ((p-My)*2^9) (f-9)∧flagsOf (X-r) (e-9)=flagsOf ((p-My)*2^9) (f-9):=by
    rw [e2,comm] at hXd
    refine Kk hd (.inr ⟨by omega,?_,?_,by omega⟩)
    · have h1:X-r-1=X-(r+1):=by omega
      rw [h1,Nat.sub_mul X (r+1) (2^d),Nat.sub_mul p My (2^9),comm,e2]
      omega
    · have h1:X-r+1=X-(r-1):=by omega
      rw [h1,Nat.sub_mul X (r-1) (2^d),Nat.sub_mul p My (2^9),comm]
      omega
  rw [(X4 _ f).1,(X4 _ f).2] at a1 a2
  exact ⟨a1,hlt,a2⟩
theorem Xr {Mx My d:Nat} {e f:Int} (hd:e=f+d) (hx:Mx<2^53) (hy:My<2^53) (hbig:10≤d→2^52≤Mx) :
    Ahm Mx My d e f (Mx*2^9) (D3 (My*2^9) (min d 63)):=by
  have hA:=Cj d
  have hY:My*2^9<2^62:=by omega
  have comm:Mx*2^9*2^d=Mx*2^d*2^9:=by rw [Nat.mul_assoc,Nat.mul_comm (2^9),← Nat.mul_assoc]
  have s9:=fun V=>X4 V f
  by_cases hz:(My*2^9)%2^d=0
  ·
    have hr:∃ r,D3 (My*2^9) (min d 63)=r∧My*2^9=r*2^d:=by
      by_cases hd63:d≤63
      · rw [Nat.min_eq_left hd63]
        exact ⟨_,rfl,by rw [Wm hz]; exact (Nat.div_mul_cancel (Nat.dvd_of_mod_eq_zero hz)).symm⟩
      · have hp:2^62≤2^d:=Ah2 (by decide) (by omega)
        have:My*2^9=0:=by rw [Ah0 (by omega)] at hz; exact hz
        rw [Nat.min_eq_right (by omega),this]
        exact ⟨0,by decide,by omega⟩
    obtain ⟨r,hr,hYr⟩:=hr
    rw [hr]
    have hle:r≤2^62:=by
      have:r*1≤r*2^d:=Nat.mul_le_mul_left r hA
      omega
    have cmp:∀ x y:Nat,x*2^d<y*2^d↔x<y:=fun x y=>Nat.mul_lt_mul_right hA
    refine ⟨?_,fun h=>?_,fun h=>?_,fun h=>?_,hle⟩
    · rw [← (s9 _).1,← (s9 _).2]
      exact Kk hd (.inl (by rw [Nat.add_mul (Mx*2^d) My (2^9),Nat.add_mul (Mx*2^9) r (2^d),comm,hYr]))
    · have h1:=(cmp r (Mx*2^9)).2 h
      refine ⟨by omega,?_⟩
      rw [← (s9 _).1,← (s9 _).2]
      exact Kk hd (.inl (by first | rw [Nat.sub_mul (Mx*2^d) My (2^9),Nat.sub_mul (Mx*2^9) r (2^d),comm,hYr] | rw [Nat.sub_mul My (Mx*2^d) (2^9),Nat.sub_mul r (Mx*2^9) (2^d),comm,hYr]))
    · have h1:=(cmp (Mx*2^9) r).2 h
      refine ⟨by omega,?_⟩
      rw [← (s9 _).1,← (s9 _).2]
      exact Kk hd (.inl (by first | rw [Nat.sub_mul (Mx*2^d) My (2^9),Nat.sub_mul (Mx*2^9) r (2^d),comm,hYr] | rw [Nat.sub_mul My (Mx*2^d) (2^9),Nat.sub_mul r (Mx*2^9) (2^d),comm,hYr]))
    · rw [← h] at hYr
      omega
  ·
    have hd10:=pow9 hz
    have hMx:=hbig hd10
    obtain ⟨n1,n2,n3⟩:=Wn hY hz
    have hrle:D3 (My*2^9) (min d 63)≤2^53:=by
      refine Nat.le_of_not_lt fun h=>?_
      have h1:2^53*2^d≤(D3 (My*2^9) (min d 63)-1)*2^d:=Ahz _ (by omega)
      have h2:2^10≤2^d:=Ah2 (by decide) hd10
      have h3:2^53*2^10≤2^53*2^d:=Nat.mul_le_mul_left _ h2
      omega
    generalize D3 (My*2^9) (min d 63)=r at *
    have hr1:1≤r:=by omega
    have e1:(r-1)*2^d+2^d=r*2^d:=by
      obtain ⟨k,rfl⟩:∃ k,r=k+1:=⟨r-1,by omega⟩
      rw [Nat.add_sub_cancel,Nat.add_mul,Nat.one_mul]
    have e2:(r+1)*2^d=r*2^d+2^d:=by rw [Nat.add_mul,Nat.one_mul]
    rw [e2] at n2
    have hXr:r<Mx*2^9:=by omega
    have hXd:(r+1)*2^d≤Mx*2^9*2^d:=Ahz _ (by omega)
    rw [e2,comm] at hXd
    obtain ⟨p1,p2,p3⟩:=Ahj hd comm n1 n2 n3 (by omega) (by omega) hrle
    exact ⟨p1,fun _=>⟨p2,p3⟩,fun h=>by omega,fun h=>by omega,by omega⟩
theorem Qi (n:Bool) (m:Nat) (e:Int):Et n m e false=(B7 n (B0 m e),flagsOf m e):=by
  unfold Et
  have:=Dw m 2 e
  have e1:m*2^2=4*m+false.toNat:=by simp; omega
  have e2:e-((2:Nat):Int)=e-2:=by omega
  rw [e1,e2] at this
  rw [this.1,this.2]
theorem Tg (E:Int):B0 0 E=0:=if_pos rfl
theorem O6 (E:Int):flagsOf 0 E=0:=if_pos rfl
theorem Sh {b:Nat} (h:J0 b=true):Ao b≠4∧Ao b≠3:=by
  unfold J0 at h
  simp only [Ahu] at h
  unfold Ao
  rw [if_neg (by omega)]
  split
  · omega
  · split<;>omega
theorem Tn {b:Nat} (h:-1064≤A2 b):2^52≤Ap b:=by
  unfold A2 at h
  unfold Ap
  split at h
  · omega
  · rw [if_neg (by assumption)]; omega
theorem Nl (z:Nat) (s:Bool) {V:Nat} (hV:V≠0) (f:Int):Nm z (Qd s V) f=(B7 s (B0 V f),flagsOf V f):=by
  unfold Nm Qd
  cases s
  · have h1:¬ (V:Int)=0:=by omega
    have h2:¬ (V:Int)<0:=by omega
    simp only [Bool.false_eq_true,if_false,h1,h2,decide_false,Int.natAbs_natCast]
  · have h1:¬ -(V:Int)=0:=by omega
    have h2:-(V:Int)<0:=by omega
    simp only [if_true,h1,if_false,h2,decide_true,Int.natAbs_neg,Int.natAbs_natCast]
theorem Ahk {p q X r:Nat} {e f:Int} (s t:Bool)
    (plus:B0 (X+r) e=B0 (p+q) f∧flagsOf (X+r) e=flagsOf (p+q) f)
    (less:r<X→q<p∧B0 (X-r) e=B0 (p-q) f∧flagsOf (X-r) e=flagsOf (p-q) f)
    (more:X<r→p<q∧B0 (r-X) e=B0 (q-p) f∧flagsOf (r-X) e=flagsOf (q-p) f)
    (same:X=r→p=q) :
    Nm (B7 (s&&t) 0) (Qd s p+Qd t q) f=(if s=t then Et s (X+r) e false
      else if r<X then Et s (X-r) e false
      else if X<r then Et t (r-X) e false
      else (0,0)):=by
  simp only [Qi]
  by_cases hs:s=t
  · rw [if_pos hs,← hs]
    have hsum:Qd s p+Qd s q=Qd s (p+q):=by unfold Qd; cases s<;>simp<;>omega
    rw [hsum,plus.1,plus.2]
    by_cases h0:p+q=0
    · rw [h0,Tg,O6]
      unfold Nm
      have:Qd s 0=0:=by unfold Qd; cases s<;>rfl
      rw [if_pos this,Aht]
    · exact Nl _ _ h0 _
  · rw [if_neg hs]
    by_cases h1:r<X
    · obtain ⟨c1,c2,c3⟩:=less h1
      rw [if_pos h1,c2,c3]
      have hsum:Qd s p+Qd t q=Qd s (p-q):=by
        unfold Qd; cases s<;>cases t<;>simp at hs ⊢<;>omega
      rw [hsum]
      exact Nl _ _ (by omega) _
    · rw [if_neg h1]
      by_cases h2:X<r
      · obtain ⟨c1,c2,c3⟩:=more h2
        rw [if_pos h2,c2,c3]
        have hsum:Qd s p+Qd t q=Qd t (q-p):=by
          unfold Qd; cases s<;>cases t<;>simp at hs ⊢<;>omega
        rw [hsum]
        exact Nl _ _ (by omega) _
      · rw [if_neg h2]
        have c:=same (by omega)
        have hsum:Qd s p+Qd t q=0:=by
          unfold Qd; cases s<;>cases t<;>simp at hs ⊢<;>omega
        have hz:(s&&t)=false:=by cases s<;>cases t<;>simp at hs ⊢
        rw [hsum,hz]
        rfl
theorem Ae3 {a b:Nat} (ha:J0 a=true) (hb:J0 b=true) :
    Ma a b=Nm (B7 (Dn a&&Dn b) 0) (P9 a (min (A2 a) (A2 b))+P9 b (min (A2 a) (A2 b))) (min (A2 a) (A2 b)):=by
  have k1:=Sh ha
  have k2:=Sh hb
  unfold Ma
  rw [if_neg (fun h=>h.elim k1.1 k2.1),if_neg k1.2,if_neg k2.2]
theorem Xx (b:Nat):P9 b (A2 b)=Qd (Dn b) (Ap b):=by
  unfold P9; rw [Int.sub_self,Int.toNat_zero,Nat.pow_zero,Nat.mul_one]
theorem Acg {b:Nat} {f:Int} {d:Nat} (h:A2 b=f+d):P9 b f=Qd (Dn b) (Ap b*2^d):=by
  unfold P9
  have:(A2 b-f).toNat=d:=by omega
  rw [this]
theorem Xq {a b:Nat} (ha:J0 a=true) (hb:J0 b=true) {d:Nat} (hd:A2 a=A2 b+d) :
    Ma a b=(if Dn a=Dn b then Et (Dn a) (Ap a*2^9+D3 (Ap b*2^9) (min d 63)) (A2 a-9) false
      else if D3 (Ap b*2^9) (min d 63)<Ap a*2^9 then Et (Dn a) (Ap a*2^9-D3 (Ap b*2^9) (min d 63)) (A2 a-9) false
      else if Ap a*2^9<D3 (Ap b*2^9) (min d 63) then Et (Dn b) (D3 (Ap b*2^9) (min d 63)-Ap a*2^9) (A2 a-9) false
      else (0,0)):=by
  have hx:=E7 a
  have hy:=E7 b
  have C:=Xr (Mx:=Ap a) (My:=Ap b) hd hx hy (fun h=>Tn (by have:=Ek b; omega))
  rw [Ae3 ha hb,Int.min_eq_right (by omega),Xx,Acg hd]
  exact Ahk _ _ C.plus C.less C.more C.same
theorem Px {b:Nat} (h:b<2^64):Nu b<2^64:=by unfold Nu; split<;>omega
theorem Yw (m:Nat) (e:Int):flagsOf m e<32:=by
  unfold flagsOf flags
  split
  · decide
  · split
    · decide
    · split
      · decide
      · split<;>decide
theorem Rb {a b:Nat} (ha:a<2^64) (hb:b<2^64):(Ma a b).1<2^64∧(Ma a b).2<32:=by
  unfold Ma
  split
  · exact ⟨by decide,by decide⟩
  · split
    · split
      · decide
      · exact ⟨ha,(by decide:0<32)⟩
    · split
      · exact ⟨hb,(by decide:0<32)⟩
      · unfold Nm
        split
        · refine ⟨?_,(by decide:0<32)⟩
          unfold B7; split<;>decide
        · exact ⟨Of _ _ _,Yw _ _⟩
end Go.Rnd
namespace Go.Rnd
open Go.Den
def By (r c:Nat) (f:Nat→Nat→Int):List Int:=(List.range (r*c)).map fun j=>f (j / c) (j%c)
theorem Bq (r c:Nat) (f:Nat→Nat→Int):(By r c f).length=r*c:=by unfold By; rw [List.length_map,List.length_range]
theorem I1 {r c i k:Nat} (hi:i<r) (hk:k<c):i*c+k<r*c:=by
  have:(i+1)*c≤r*c:=Ahz c hi
  rw [Nat.add_mul,Nat.one_mul] at this
  omega
theorem Ps {c i k:Nat} (hk:k<c):(i*c+k) / c=i∧(i*c+k)%c=k:=by
  constructor
  · rw [Nat.mul_comm,Nat.mul_add_div (by omega),Nat.div_eq_of_lt hk,Nat.add_zero]
  · rw [Nat.mul_comm,Nat.mul_add_mod,Ah0 hk]
theorem Fk {r c:Nat} {f:Nat→Nat→Int} {j:Nat} (h:j<r*c):(By r c f)[j]?=some (f (j / c) (j%c)):=by
  unfold By
  rw [List.getElem?_map,List.getElem?_range h]
  rfl
theorem Ad9 {r c i k:Nat} {f:Nat→Nat→Int} (hi:i<r) (hk:k<c):(By r c f).getD (i*c+k) 0=f i k:=by
  obtain ⟨d1,d2⟩:=Ps (i:=i) hk
  rw [Ahx,Fk (I1 hi hk),d1,d2]
  rfl
theorem R3 {l m:List Int} (h:l.length=m.length) (he:∀ j,j<l.length→l[j]?=m[j]?):l=m:=by
  refine List.ext_getElem? fun j=>?_
  by_cases hj:j<l.length
  · exact he j hj
  · rw [List.getElem?_eq_none (by omega),List.getElem?_eq_none (by omega)]
theorem C1 {r c:Nat} {f g:Nat→Nat→Int} (h:∀ i k,i<r→k<c→f i k=g i k):By r c f=By r c g:=by
  refine R3 (by rw [Bq,Bq]) fun j hj=>?_
  rw [Bq] at hj
  have hc:0<c:=by
    rcases Nat.eq_zero_or_pos c with h0 | h0
    · subst h0; rw [Nat.mul_zero] at hj; omega
    · exact h0
  rw [Fk hj,Fk hj,h (j / c) (j%c) ((Nat.div_lt_iff_lt_mul hc).2 hj) (Nat.mod_lt _ hc)]
theorem Abq {r c:Nat} {l:List Int} (h:l.length=r*c):l=By r c fun i k=>l.getD (i*c+k) 0:=by
  refine R3 (by rw [Bq,h]) fun j hj=>?_
  rw [Fk (by omega)]
  have e:j / c*c+j%c=j:=by rw [Nat.mul_comm]; exact Nat.div_add_mod j c
  rw [e,Ahx,Ah4 hj]
  rfl
theorem O4 {r c i k:Nat} {f:Nat→Nat→Int} (hk:k<c) (x:Int) :
    (By r c f).set (i*c+k) x=By r c fun a b=>if a=i∧b=k then x else f a b:=by
  refine R3 (by rw [List.length_set,Bq,Bq]) fun j hj=>?_
  rw [List.length_set,Bq] at hj
  obtain ⟨d1,d2⟩:=Ps (i:=i) hk
  rw [Fk hj,List.getElem?_set]
  by_cases h:i*c+k=j
  · subst h
    rw [if_pos rfl,if_pos (by rw [Bq]; exact hj),d1,d2,if_pos ⟨rfl,rfl⟩]
  · rw [if_neg h,Fk hj,if_neg]
    rintro ⟨h1,h2⟩
    exact h (by rw [← h1,← h2,Nat.mul_comm]; exact Nat.div_add_mod j c)
theorem Ho (r c:Nat) (f:Nat→Nat→Int):By (r+1) c f=By r c f++(List.range c).map (f r):=by
  unfold By
  rw [Nat.add_mul,Nat.one_mul,List.range_add,List.map_append,List.map_map]
  congr 1
  refine List.map_congr_left fun k hk=>?_
  have hk:=List.mem_range.1 hk
  obtain ⟨d1,d2⟩:=Ps (i:=r) hk
  show f ((r*c+k) / c) ((r*c+k)%c)=f r k
  rw [d1,d2]
theorem Hn (c:Nat) (f:Nat→Nat→Int):By 0 c f=[]:=by
  unfold By; rw [Nat.zero_mul]; rfl
theorem Gg (k:Nat) (g:Nat→Int):(List.range (k+1)).map g=(List.range k).map g++[g k]:=by
  rw [List.range_succ,List.map_append]; rfl
def Xi:Nat→List Int→List Int→Nat
  | s,x::xs,y::ys=>Xi (Ma s (Sx x.toNat y.toNat).1).1 xs ys
  | s,_,_=>s
def M3 (x y:List Int):Int:=Xi 0 x y
theorem Q5 {a b:Nat}:(Sx a b).1<2^64:=by
  unfold Sx
  split
  · decide
  · split
    · split
      · decide
      · unfold B7; split<;>decide
    · exact Of _ _ _
theorem Ve:∀ (x y:List Int) (s:Nat),s<2^64→Xi s x y<2^64
  | x::xs,y::ys,s,h=>Ve xs ys _ (Rb h Q5).1
  | [],_,_,h=>by unfold Xi; exact h
  | _::_,[],_,h=>by unfold Xi; exact h
end Go.Rnd
namespace Go.Rnd
open Go.Den
def A7 (n:Int):Bool:=decide (0≤n)&&decide (n≤6)
def Aw (r c:Int) (l:List Int):Bool:=(A7 r&&A7 c)&&decide ((l.length:Int)=r*c)
def Hp (r c:Int) (l:List Int):Int:=if Aw r c l=true then 0 else 1
def Pg (r c:Int) (l:List Int) (p q:Int) (m:List Int):Int:=if (Aw r c l&&Aw p q m)=true then 0 else 1
def Cx (_r c:Int) (l:List Int) (i k:Int):Bool:=Dd (0≤i∧i<10∧0≤k∧k<10∧0≤c∧c<10∧i*c+k<l.length∧l.length<1000)
def Dr (c:Int) (l:List Int) (i k:Int):Int:=l.getD (i*c+k).toNat 0
def P2 (i k:Int):Int:=if i=k then 4607182418800017408 else 0
def Pm (x y i k:Int):Bool:=Dd (0≤x∧x<10∧0≤y∧y<10∧0≤i∧i<10∧0≤k∧k<10)
def Lb (r c x y a b:Int):Bool:=decide (0≤x∧0≤y∧0≤a∧0≤b∧x≤r∧y≤c∧a≤r-x∧b≤c-y)
def I3 (r c:Int) (l:List Int) (p q:Int) (m:List Int) (i k:Int):Bool:=Dd (0≤r∧r<10∧0≤i∧i<20∧(if i<r then Cx r c l i k=true else Cx p q m (i-r) k=true))
def G3 (r c:Int) (l:List Int) (q:Int) (m:List Int) (i k:Int):Int:=if i<r then Dr c l i k else Dr q m (i-r) k
def Uq (r c:Int) (l:List Int) (i:Int):Bool:=Aw r c l&&Dd (0≤i∧i<r)
def Jc (r c:Int) (l:List Int) (k:Int):Bool:=Aw r c l&&Dd (0≤k∧k<c)
def Nt (r c:Int) (l:List Int) (p q:Int) (m:List Int) (i k:Int):Bool:=(Uq r c l i&&Jc p q m k)&&((Af l&&Af m)&&Dd (c=p))
def Jw (c:Int) (l:List Int) (i:Int):List Int:=List.drop (i*c).toNat (List.take ((i+1)*c).toNat l)
def N1 (r c:Int) (l:List Int) (k:Int):List Int:=(List.range r.toNat).map fun j:Nat=>Dr c l (j:Int) k
abbrev MX:=Int × Int × List Int × Int
def Hc (e:Int):MX:=(0,0,[],e)
def Ja (n:Int):MX:=if A7 n=true then (n,n,By n.toNat n.toNat fun i k=>P2 i k,0) else Hc 3
def Bw (r c:Int) (l:List Int):MX:=if Aw r c l=true then (c,r,By c.toNat r.toNat fun i k=>Dr c l k i,0) else Hc 1
def Es (r c:Int) (l:List Int) (x y a b:Int):MX :=
  if Aw r c l=true then (if Lb r c x y a b=true then (a,b,By a.toNat b.toNat fun i k=>Dr c l (x+i) (y+k),0) else Hc 3) else Hc 1
def Dx (r c:Int) (l:List Int) (p q:Int) (m:List Int):MX :=
  if (Aw r c l&&Aw p q m)=true then (if c=p then (r,q,By r.toNat q.toNat fun i k=>M3 (Jw c l i) (N1 p q m k),0) else Hc 3) else Hc 1
def Hx (r c:Int) (l:List Int) (p q:Int) (m:List Int):MX :=
  if (Aw r c l&&Aw p q m)=true then (if r=p∧c=q then (r,c,By r.toNat c.toNat fun i k=>C0 (Dr c l i k) (Dr q m i k),0) else Hc 3) else Hc 1
def Bi (r c:Int) (l:List Int) (p q:Int) (m:List Int):MX :=
  if (Aw r c l&&Aw p q m)=true then (if c=q∧r+p≤6 then (r+p,c,By (r+p).toNat c.toNat fun i k=>G3 r c l q m i k,0) else Hc 3) else Hc 1
def P0 (x y:List Int):Bool:=decide (x.length=y.length)&&decide (x.length≤64)
def okLen (l:List Int):Bool:=Dd (l.length≤17592186044416)
theorem F0 {n:Int}:A7 n=true↔0≤n∧n≤6:=by unfold A7; simp
theorem F5 {r c:Int} {l:List Int}:Aw r c l=true↔(0≤r∧r≤6)∧(0≤c∧c≤6)∧(l.length:Int)=r*c:=by
  unfold Aw
  rw [Ahy,Ahy,F0,F0,Ahu,and_assoc]
theorem Dj {r c:Int} {l:List Int} (h:Aw r c l=true):∃ R C:Nat,r=R∧c=C∧R≤6∧C≤6∧l.length=R*C:=by
  obtain ⟨h1,h2,h3⟩:=F5.1 h
  refine ⟨r.toNat,c.toNat,by omega,by omega,by omega,by omega,?_⟩
  have:(((r.toNat*c.toNat:Nat)):Int)=r*c:=by rw [Ah8,Int.toNat_of_nonneg h1.1,Int.toNat_of_nonneg h2.1]
  omega
theorem Ex {n:Int} (h:A7 n=true):∃ R:Nat,n=R∧R≤6:=by
  have:=F0.1 h
  exact ⟨n.toNat,by omega,by omega⟩
theorem Afw {n:Nat} (h:n≤6):A7 (n:Int)=true:=F0.2 ⟨by omega,by omega⟩
theorem Ol {r c:Nat} {l:List Int} (hr:r≤6) (hc:c≤6) (hl:l.length=r*c):Aw (r:Int) (c:Int) l=true :=
  F5.2 ⟨⟨by omega,by omega⟩,⟨by omega,by omega⟩,by rw [hl,Ah8]⟩
theorem Aaa (c:Nat) (l:List Int) (i k:Nat):Dr (c:Int) l (i:Int) (k:Int)=l.getD (i*c+k) 0:=by
  unfold Dr
  have:((i:Int)*(c:Int)+(k:Int)).toNat=i*c+k:=by
    rw [← Ah8,← Int.natCast_add,Ahp]
  rw [this]
theorem Ez {r c i k:Nat} {R:Int} {l:List Int} (hr:r≤6) (hc:c≤6) (hl:l.length=r*c) (hi:i<r) (hk:k<c):Cx R (c:Int) l (i:Int) (k:Int)=true:=by
  have:=I1 hi hk
  have h36:=Nat.mul_le_mul hr hc
  refine Ar.2 ⟨by omega,by omega,by omega,by omega,by omega,by omega,?_,by omega⟩
  rw [← Ah8]
  omega
theorem Z1 {r c i k:Nat} {f:Nat→Nat→Int} (hi:i<r) (hk:k<c):Dr (c:Int) (By r c f) (i:Int) (k:Int)=f i k:=by
  rw [Aaa,Ad9 hi hk]
theorem Tu {r c:Nat} {l:List Int} (h:l.length=r*c):(By r c fun i k=>Dr (c:Int) l (i:Int) (k:Int))=l:=by
  conv=>rhs; rw [Abq h]
  exact C1 fun i k _ _=>Aaa c l i k
theorem Vq {l:List Int} (h:Af l=true) {j:Nat} (hj:j<l.length):Ag (l.getD j 0)=true:=by
  have h:=Ar.1 h
  rw [Ahx,Ah4 hj]
  exact h _ (List.getElem_mem hj)
end Go.Rnd
namespace Go.Rnd
theorem Aar {b:Nat} (h:b<2^64):B7 (Dn b) (b%2^63)=b:=by
  unfold B7 Dn
  by_cases hb:2^63≤b
  · simp only [hb,decide_true,if_true]; omega
  · simp only [hb,decide_false,Bool.false_eq_true,if_false]; omega
end Go.Rnd
namespace Go.Rnd
def Oa (n:Nat):Nat:=Ieee.Datum.rootFrom n (n.log2 / 2+1) 0
theorem Afx (k:Nat):1 <<< k=2^k:=by rw [Nat.shiftLeft_eq,Nat.one_mul]
theorem Pp {n:Nat}:∀ (todo root:Nat),root*root≤n→n<(root+2^todo)*(root+2^todo) →
    Ieee.Datum.rootFrom n todo root*Ieee.Datum.rootFrom n todo root≤n∧n<(Ieee.Datum.rootFrom n todo root+1)*(Ieee.Datum.rootFrom n todo root+1)
  | 0,root,h1,h2=>⟨h1,h2⟩
  | todo+1,root,h1,h2=>by
    unfold Ieee.Datum.rootFrom
    simp only [Afx]
    have hp:2^(todo+1)=2^todo+2^todo:=by rw [Nat.pow_succ]; omega
    rw [hp] at h2
    by_cases h:(root+2^todo)*(root+2^todo)≤n
    · rw [if_pos h]
      exact Pp todo _ h (by rw [Nat.add_assoc]; exact h2)
    · rw [if_neg h]
      exact Pp todo _ h1 (by omega)
theorem Lw (n:Nat):Oa n*Oa n≤n∧n<(Oa n+1)*(Oa n+1):=by
  refine Pp _ _ (by simp) ?_
  rw [Nat.zero_add,← Nat.pow_add]
  rcases Nat.eq_zero_or_pos n with rfl | hn
  · decide
  · refine (Nat.log2_lt (by omega)).1 ?_
    omega
theorem Wf {a b:Nat} (h:a*a<b*b):a<b:=by
  rcases Nat.lt_or_ge a b with h1 | h1
  · exact h1
  · have:=Nat.mul_le_mul h1 h1; omega
theorem Sb {n w:Nat} (h1:w*w≤n) (h2:n<(w+1)*(w+1)):w=Oa n:=by
  obtain ⟨a,b⟩:=Lw n
  have c1:=Wf (Nat.lt_of_le_of_lt h1 b)
  have c2:=Wf (Nat.lt_of_le_of_lt a h2)
  omega
theorem Ad4 {n w:Nat} (h:w*w≤n):w≤Oa n:=by
  have:=Wf (Nat.lt_of_le_of_lt h (Lw n).2)
  omega
def E6 (n:Nat):Nat:=2*Oa n+(if Oa n*Oa n=n then 0 else 1)
theorem Pl (a c:Nat):a*c*(a*c)=a*a*(c*c):=by
  rw [Nat.mul_assoc,Nat.mul_left_comm c,← Nat.mul_assoc a a]
theorem Th {n:Nat} (d:Nat) (E:Int) (h:2^53≤Oa n) :
    B0 (E6 (n*(2^d*2^d))) (E-d)=B0 (E6 n) E∧flagsOf (E6 (n*(2^d*2^d))) (E-d)=flagsOf (E6 n) E:=by
  have hA:=Cj d
  obtain ⟨h1,h2⟩:=Lw n
  unfold E6
  generalize hw:Oa n=w at *
  generalize hc:2^d=c at *
  have hcc:0<c*c:=Nat.mul_pos hA hA
  by_cases h0:w*w=n
  · have e1:Oa (n*(c*c))=w*c:=by
      refine (Sb ?_ ?_).symm
      · rw [Pl,h0]; exact Nat.le_refl _
      · have:=Pl w c
        rw [h0] at this
        rw [Nat.add_mul,Nat.mul_add,this]; omega
    rw [e1,Pl,h0,if_pos rfl,if_pos rfl]
    have:=Dw (2*w+0) d E
    rw [hc,show (2*w+0)*c=2*(w*c)+0 by rw [Nat.add_zero,Nat.add_zero,Nat.mul_assoc]] at this
    exact this
  · rw [if_neg h0]
    obtain ⟨g1,g2⟩:=Lw (n*(c*c))
    have q1:w*c≤Oa (n*(c*c)):=Ad4 (by rw [Pl]; exact Ahz _ h1)
    have q2:Oa (n*(c*c))<(w+1)*c:=by
      refine Wf (Nat.lt_of_le_of_lt g1 ?_)
      rw [Pl]
      exact (Nat.mul_lt_mul_right hcc).2 h2
    have q3:Oa (n*(c*c))=w*c→Oa (n*(c*c))*Oa (n*(c*c))≠n*(c*c):=fun h5 h6=>by
      rw [h5,Pl] at h6
      exact h0 (Nat.eq_of_mul_eq_mul_right hcc h6)
    generalize hQ:Oa (n*(c*c))=Q at *
    have p1:(2*w+1-1)*c=2*(w*c):=by rw [Nat.add_sub_cancel,Nat.mul_assoc]
    have p2:(2*w+1+1)*c=2*((w+1)*c):=by rw [show 2*w+1+1=2*(w+1) by omega,Nat.mul_assoc]
    have od:(2*w+1)%2=1:=by omega
    generalize hV:2*Q+(if Q*Q=n*(c*c) then 0 else 1)=V
    have v1:(2*w+1-1)*2^d<V:=by
      rw [hc,p1,← hV]
      by_cases h5:Q=w*c
      · rw [if_neg (q3 h5)]; omega
      · split<;>omega
    have v2:V<(2*w+1+1)*2^d:=by
      rw [hc,p2,← hV]
      split<;>omega
    have lV:=Lu od (by omega) v1 v2
    have hs:54≤(2*w+1).log2:=by rw [Nat.le_log2 (by omega)]; omega
    have ee:E-(d:Int)+d=E:=by omega
    have:=Ll (E:=E-d) od v1 v2 (by unfold C3; rw [lV]; omega) (by unfold C3; omega)
    rw [ee] at this
    exact this
theorem U5 {n t:Nat} (h:2^(t+t)≤n):2^t≤Oa n:=Ad4 (by rw [← Nat.pow_add]; exact h)
theorem pow_two (k d:Nat):2^(k+2*d)=2^k*(2^d*2^d):=by rw [Nat.pow_add,Nat.two_mul,Nat.pow_add]
theorem Aa0 {m k l:Nat} {E F:Int} (h1:2^106≤m*2^k) (h2:2^106≤m*2^l) (he:2*E+k=2*F+l) :
    B0 (E6 (m*2^k)) E=B0 (E6 (m*2^l)) F∧flagsOf (E6 (m*2^k)) E=flagsOf (E6 (m*2^l)) F:=by
  rcases Nat.le_total k l with h | h
  · obtain ⟨d,rfl⟩:∃ d,l=k+2*d:=⟨(l-k) / 2,by omega⟩
    have:=Th (n:=m*2^k) d E (U5 (t:=53) h1)
    rw [Nat.mul_assoc,← pow_two,show E-(d:Int)=F by omega] at this
    exact ⟨this.1.symm,this.2.symm⟩
  · obtain ⟨d,rfl⟩:∃ d,k=l+2*d:=⟨(k-l) / 2,by omega⟩
    have:=Th (n:=m*2^l) d F (U5 (t:=53) h2)
    rw [Nat.mul_assoc,← pow_two,show F-(d:Int)=E by omega] at this
    exact this
def Ii (b:Nat):Nat:=128+(A2 b%2).toNat
def K9 (b:Nat):Nat × Nat :=
  if Ao b=4 then (S6,0)
  else if Ao b=0∨b=Gc then (b,0)
  else if Dn b=true then (S6,16)
  else (B0 (E6 (Ap b*2^Ii b)) ((A2 b-Ii b) / 2-1),flagsOf (E6 (Ap b*2^Ii b)) ((A2 b-Ii b) / 2-1))
theorem I6 {b:Nat} (h3:Ao b≠3) (h4:Ao b≠4):Ap b=0↔Ao b=0:=by
  have:=Se b
  have:=Jj b
  unfold Ap
  unfold Ao at *
  split at h3<;>split<;>(try split)<;>(try split)<;>simp_all<;>omega
theorem We {b:Nat} (h:Ao b=4):K9 b=(S6,0):=if_pos h
theorem Pk {b:Nat} (h4:Ao b≠4) (h:Ao b=0∨b=Gc):K9 b=(b,0):=by unfold K9; rw [if_neg h4,if_pos h]
theorem Wd {b:Nat} (h4:Ao b≠4) (h:¬ (Ao b=0∨b=Gc)) (hn:Dn b=true):K9 b=(S6,16):=by unfold K9; rw [if_neg h4,if_neg h,if_pos hn]
theorem Acw {b:Nat} (h4:Ao b≠4) (h:¬ (Ao b=0∨b=Gc)) (hn:Dn b=false) :
    K9 b=(B0 (E6 (Ap b*2^Ii b)) ((A2 b-Ii b) / 2-1),flagsOf (E6 (Ap b*2^Ii b)) ((A2 b-Ii b) / 2-1)):=by
  unfold K9; rw [if_neg h4,if_neg h,if_neg (by rw [hn]; decide)]
theorem Acy (r:Nat):B7 false r=r:=rfl
theorem Ac3 {b:Nat} (hm:Ap b≠0):2^106≤Ap b*2^Ii b∧2*((A2 b-(Ii b:Int)) / 2-1)+Ii b=A2 b-2:=by
  refine ⟨?_,by unfold Ii; omega⟩
  have:2^128≤2^Ii b:=Ah2 (by decide) (by unfold Ii; omega)
  have h5:=Nat.mul_le_mul (show 1≤Ap b by omega) this
  omega
theorem Adv {b:Nat} (hm:Ap b≠0):(Ap b).log2≤52:=by
  have:=(Nat.log2_lt hm).2 (show Ap b<2^53 from E7 b)
  omega
end Go.Rnd
namespace Go.Rnd
def Gn (b:Nat) (n:Int):Nat × Nat :=
  if Ao b=4 then (S6,0)
  else if Ao b=3∨Ao b=0 then (b,0)
  else (B7 (Dn b) (B0 (Ap b) (A2 b+n)),flagsOf (Ap b) (A2 b+n))
theorem Acr {V:Nat} {E:Int} (h0:V≠0) (h:E+V.log2+1≤-1075):B0 V E=0∧flagsOf V E=3:=by
  have hl:C3 V E=-1074:=by unfold C3; omega
  obtain ⟨k,hk⟩:∃ k:Nat,(-1074:Int)-E=((k:Nat):Int):=⟨(-1074-E).toNat,by omega⟩
  have hV:V<2^(V.log2+1):=(Nat.log2_lt h0).1 (by omega)
  have hp:2^(V.log2+1)*2≤2^k:=by rw [← Nat.pow_succ]; exact Ah2 (by decide) (by omega)
  have e1:V*2^(-((-1074:Int)-E)).toNat=V:=by rw [hk]; simp
  have e2:((-1074:Int)-E).toNat=k:=by rw [hk]; rfl
  have hk2:kept V E=0:=by
    unfold kept Kb
    rw [hl,e1,e2]
    unfold Om
    rw [Nat.div_eq_of_lt (by omega),Ah0 (by omega),if_neg (by omega)]
  have hx:exact V E=false:=by
    unfold exact Ju
    rw [hl,e1,e2,Ah0 (by omega)]
    exact Ahs h0
  have hr:B0 V E=0:=by
    unfold B0
    rw [if_neg h0,hl,hk2]
    rfl
  refine ⟨hr,?_⟩
  unfold flagsOf
  rw [if_neg h0,hr,hx]
  rfl
theorem Aba (n:Bool) {m:Nat} {e:Int} {more:Bool} (hm:m<2^53) (h0:m≠0∨more=true) (he:e≤-1130) :
    Et n m e more=(B7 n 0,3):=by
  have h1:more.toNat≤1:=by cases more<;>decide
  have hV:4*m+more.toNat≠0:=by
    rcases h0 with h | h
    · omega
    · rw [h]; simp
  have hl:(4*m+more.toNat).log2≤54:=by
    have:=(Nat.log2_lt hV).2 (show 4*m+more.toNat<2^55 by omega); omega
  have:=Acr hV (E:=e-2) (by omega)
  unfold Et
  rw [this.1,this.2]
theorem Adg (n:Bool):Et n 0 (-1074) true=(B7 n 0,3):=by
  cases n<;>decide +kernel
theorem X5 {b:Nat} {n:Int} (h4:Ao b≠4) (h:¬ (Ao b=3∨Ao b=0)) (hn:A2 b+n≤-1130):Gn b n=(B7 (Dn b) 0,3):=by
  have hm:Ap b≠0:=fun h5=>h (.inr ((I6 (by omega) h4).1 h5))
  have:=Acr hm (E:=A2 b+n) (by have:=Adv hm; omega)
  unfold Gn
  rw [if_neg h4,if_neg h,this.1,this.2]
theorem Aav {b:Nat} {n:Int} (h4:Ao b≠4) (h:¬ (Ao b=3∨Ao b=0)):Gn b n=(B7 (Dn b) (B0 (Ap b) (A2 b+n)),flagsOf (Ap b) (A2 b+n)):=by
  unfold Gn; rw [if_neg h4,if_neg h]
def Aeh (b:Nat):Int:=if J0 b=true∧Ao b≠0 then ((Ap b).log2:Int)+A2 b else 0
def Aca (b:Nat):Nat:=b%2^63
def ordN (a b:Nat):Int:=if Ao a=4∨Ao b=4 then 0 else if R9 a<R9 b then -1 else if R9 b<R9 a then 1 else 0
def ordB (a b:Nat):Bool:=!(decide (Ao a=4∨Ao b=4))
end Go.Rnd
namespace Go.Rnd
open Go.Den
def Tk (b:Int):Int:=R9 b.toNat
def Yf (a b:Int):Int:=ordN a.toNat b.toNat
def ordBI (a b:Int):Bool:=ordB a.toNat b.toNat
def W0 (x:Int):Int:=Aca x.toNat
def Bt (x n:Int):Int:=(Gn x.toNat n).1
def Afz (x n:Int):Int:=(Gn x.toNat n).2
def Dy (x n:Int):Bool:=Ag x&&Dd (-2300≤n∧n≤2300)
def Bk (x:Int):Int:=Aeh x.toNat
def Vl:List Int→Nat→Nat
  | [],m=>m
  | x::l,m=>if Ao x.toNat=4 then S6 else Vl l (max m (Aca x.toNat))
def Bc (l:List Int):Int:=Vl l 0
def Ey (l:List Int):Bool:=l.all Cp
def Bh (r c:Int) (l:List Int):Int:=if Aw r c l=true then (if Ey l=true then 0 else 4) else 1
def Af9 (c:Int) (l:List Int) (n:Nat):Bool:=(List.range n).any fun i:Nat=>decide (Az (Dr c l (i:Int) (i:Int))=0)
def N3 (r c:Int) (l:List Int) (p q:Int) (m:List Int):Int :=
  if Bh r c l≠0 then Bh r c l else if Bh p q m≠0 then Bh p q m
  else if r≠c∨r≠p then 3 else if Af9 c l r.toNat=true then 5 else 0
def Lc (c:Int) (l:List Int) (i:Int):Int→Int→List Int→Int
  | s,_,[]=>s
  | s,j,x::xs=>Lc c l i (C0 s (Dz (Dr c l i j) x)) (j+1) xs
def Ud (c:Int) (l:List Int) (b:Nat→Int) (n:Nat):Nat→List Int
  | 0=>[]
  | k+1=>Em (Lc c l ((n-1-k:Nat):Int) (b (n-1-k)) ((n-k:Nat):Int) (Ud c l b n k)) (Dr c l ((n-1-k:Nat):Int) ((n-1-k:Nat):Int))::Ud c l b n k
def U3 (c:Int) (l:List Int) (b:Nat→Int):Nat→List Int
  | 0=>[]
  | k+1=>U3 c l b k++[Em (Lc c l (k:Int) (b k) 0 (U3 c l b k)) (Dr c l (k:Int) (k:Int))]
def Zh (c:Int) (l:List Int) (q:Int) (m:List Int) (n w:Nat):List Int:=By n w fun i j=>(Ud c l (fun i=>Dr q m (i:Int) (j:Int)) n n).getD i 0
def Zz (c:Int) (l:List Int) (q:Int) (m:List Int) (n w:Nat):List Int:=By n w fun i j=>(U3 c l (fun i=>Dr q m (i:Int) (j:Int)) n).getD i 0
def Iv (r c:Int) (l:List Int):MX:=if Ey l=true then (r,c,l,0) else Hc 2
def upX (r c:Int) (l:List Int) (p q:Int) (m:List Int):MX :=
  if N3 r c l p q m≠0 then Hc (N3 r c l p q m) else Iv r q (Zh c l q m r.toNat q.toNat)
def Vx (r c:Int) (l:List Int) (p q:Int) (m:List Int):MX :=
  if N3 r c l p q m≠0 then Hc (N3 r c l p q m) else Iv r q (Zz c l q m r.toNat q.toNat)
def Qo (c:Int) (l:List Int) (n:Nat):List Int:=(List.range n).map fun i:Nat=>W0 (Dr c l (i:Int) (i:Int))
def flatL (d:List Int):Bool:=d.any fun x=>!(decide (Yf (Bt (Bc d) (-40)) x<0))
def Aeb (r c:Int) (l:List Int):Bool:=flatL (Qo c l (min r.toNat c.toNat))
def Jn (r c:Int) (l:List Int):Bool × Int:=if Bh r c l≠0 then (false,Bh r c l) else (Aeb r c l,0)
def Li (r c:Int) (l:List Int) (p q:Int) (m:List Int):Bool:=(Aw r c l&&Aw p q m)&&((Af l&&Af m)&&Dd (r=c∧r=p))
def L3 (n:Nat):List Int:=By n n fun i k=>P2 (i:Int) (k:Int)
def Cm (r c:Int) (l:List Int) (p q:Int) (m:List Int):MX :=
  if (Bw r c l).2.2.2≠0 then Hc (Bw r c l).2.2.2 else Dx (Bw r c l).1 (Bw r c l).2.1 (Bw r c l).2.2.1 p q m
end Go.Rnd
namespace Go.Rnd
open Go.Den
theorem Ag2 {a b:Nat}:(Y0 a b).1<2^64:=by
  have h1:Gc<2^63:=by decide
  have hs:∀ (s:Bool) {r:Nat},r<2^63→B7 s r<2^64:=by
    intro s r h
    unfold B7
    cases s
    · rw [if_neg (by decide)]; omega
    · rw [if_pos rfl]; omega
  have hN:S6<2^64:=by decide
  unfold Y0
  by_cases c1:Ao a=4∨Ao b=4
  · rw [if_pos c1]; exact hN
  rw [if_neg c1]
  by_cases c2:Ao a=Ao b∧(Ao a=3∨Ao a=0)
  · rw [if_pos c2]; exact hN
  rw [if_neg c2]
  by_cases c3:Ao a=3
  · rw [if_pos c3]; exact hs _ h1
  rw [if_neg c3]
  by_cases c4:Ao b=3∨Ao a=0
  · rw [if_pos c4]; exact hs _ (by decide)
  rw [if_neg c4]
  by_cases c5:Ao b=0
  · rw [if_pos c5]; exact hs _ h1
  rw [if_neg c5]
  exact hs _ (Q2 _ _)
theorem Vg (a b:Int):Ag (Em a b)=true:=Bl Ag2
theorem Lj {a b:Int} (ha:Ag a=true) (hb:Ag b=true):Ag (C0 a b)=true:=by
  obtain ⟨x,rfl,hx⟩:=Bj ha
  obtain ⟨y,rfl,hy⟩:=Bj hb
  exact Bl (Rb (by rw [Ahp]; exact hx) (Px (by rw [Ahp]; exact hy))).1
theorem Gl {r c:Nat} {f:Nat→Nat→Int} (h:∀ i k,Ag (f i k)=true):Af (By r c f)=true:=Ar.2 fun x hx=>by
  obtain ⟨j,_,rfl⟩:=List.mem_map.1 hx
  exact h _ _
theorem Jy (a b:Int):Ag (Dz a b)=true:=Bl Q5
theorem Nj (c:Int) (l:List Int) (b:Nat→Int) (n:Nat):∀ k,(Ud c l b n k).length=k
  | 0=>rfl
  | k+1=>by rw [Ud,List.length_cons,Nj c l b n k]
theorem Xy (c:Int) (l:List Int) (b:Nat→Int) (n:Nat):∀ k,∀ x∈Ud c l b n k,Ag x=true
  | 0,x,h=>by cases h
  | k+1,x,h=>by
    rw [Ud] at h
    rcases List.mem_cons.1 h with rfl | h
    · exact Vg _ _
    · exact Xy c l b n k x h
theorem V1 (c:Int) (l:List Int) (b:Nat→Int) (n k:Nat):∀ d,(Ud c l b n (k+d)).drop d=Ud c l b n k
  | 0=>rfl
  | d+1=>by
    rw [← Nat.add_assoc,Ud,List.drop_succ_cons]
    exact V1 c l b n k d
theorem V0 {c:Int} {l:List Int} {b:Nat→Int} {n k:Nat} (h:k≤n):(Ud c l b n n).drop (n-k)=Ud c l b n k:=by
  have:=V1 c l b n k (n-k)
  rw [Nat.add_sub_cancel' h] at this
  exact this
theorem Afj {c:Int} {l:List Int} {b:Nat→Int} {n i:Nat} (h:i<n) :
    (Ud c l b n n).getD i 0=Em (Lc c l (i:Int) (b i) ((i+1:Nat):Int) ((Ud c l b n n).drop (i+1))) (Dr c l (i:Int) (i:Int)):=by
  have e1:=V0 (c:=c) (l:=l) (b:=b) (n:=n) (k:=n-i) (by omega)
  have e2:=V0 (c:=c) (l:=l) (b:=b) (n:=n) (k:=n-i-1) (by omega)
  rw [show n-(n-i)=i by omega] at e1
  rw [show n-(n-i-1)=i+1 by omega] at e2
  rw [e2]
  have e3:(Ud c l b n n).getD i 0=((Ud c l b n n).drop i).getD 0 0:=by
    rw [Ahx,Ahx,List.getElem?_drop,Nat.add_zero]
  rw [e3,e1,show n-i=(n-i-1)+1 by omega,Ud]
  have e4:n-1-(n-i-1)=i:=by omega
  have e5:n-(n-i-1)=i+1:=by omega
  rw [e4,e5]
  rfl
theorem O5 {l:List Int} (h:∀ x∈l,Ag x=true) (i:Nat):Ag (l.getD i 0)=true:=by
  rw [Ahx]
  cases hi:l[i]? with
  | none=>exact Bl (n:=0) (by decide)
  | some x=>exact h x (List.mem_of_getElem? hi)
theorem Tr {c:Int} {l:List Int} {i s j:Int} {xs:List Int} {t:Nat} (h:t<xs.length):Lc c l i s j (xs.drop t)=Lc c l i (C0 s (Dz (Dr c l i j) (xs.getD t 0))) (j+1) (xs.drop (t+1)):=by
  rw [List.drop_eq_getElem_cons h,Lc,Ahx,Ah4 h]; rfl
theorem Gs (c:Int) (l:List Int) (b:Nat→Int):∀ k,(U3 c l b k).length=k
  | 0=>rfl
  | k+1=>by rw [U3,List.length_append,Gs c l b k]; rfl
theorem Yo (c:Int) (l:List Int) (b:Nat→Int):∀ k,∀ x∈U3 c l b k,Ag x=true
  | 0,x,h=>by cases h
  | k+1,x,h=>by
    rw [U3] at h
    rcases List.mem_append.1 h with h | h
    · exact Yo c l b k x h
    · rw [List.mem_singleton.1 h]; exact Vg _ _
theorem W3 {c:Int} {l:List Int} {b:Nat→Int} {k:Nat}:∀ d,(U3 c l b (k+d)).take k=U3 c l b k
  | 0=>by rw [Nat.add_zero]; exact List.take_of_length_le (by rw [Gs]; omega)
  | d+1=>by
    rw [← Nat.add_assoc,U3,List.take_append_of_le_length (by rw [Gs]; omega)]
    exact W3 d
theorem W4 {c:Int} {l:List Int} {b:Nat→Int} {n k:Nat} (h:k≤n):(U3 c l b n).take k=U3 c l b k:=by
  have:=W3 (c:=c) (l:=l) (b:=b) (k:=k) (n-k)
  rw [Nat.add_sub_cancel' h] at this
  exact this
theorem Agq {c:Int} {l:List Int} {b:Nat→Int} {n i:Nat} (h:i<n) :
    (U3 c l b n).getD i 0=Em (Lc c l (i:Int) (b i) 0 ((U3 c l b n).take i)) (Dr c l (i:Int) (i:Int)):=by
  have e1:=W4 (c:=c) (l:=l) (b:=b) (n:=n) (k:=i+1) (by omega)
  have e2:=W4 (c:=c) (l:=l) (b:=b) (n:=n) (k:=i) (by omega)
  have e3:(U3 c l b n).getD i 0=((U3 c l b n).take (i+1)).getD i 0:=by
    rw [Ahx,Ahx,List.getElem?_take_of_lt (by omega)]
  rw [e3,e1,e2,U3,Ahx,List.getElem?_append_right (by rw [Gs]; omega),Gs,Nat.sub_self]
  rfl
end Go.Rnd
namespace Go.Rnd
open Go.Den
def oneI:Int:=4607182418800017408
def Gb (x:Int):Int:=(K9 x.toNat).1
def Lk (x:Int):Int:=(K9 x.toNat).2
def X3 (k:Int):Int→List Int→Int
  | s,[]=>s
  | s,x::l=>X3 k (Il s (Dz (Bt x k) (Bt x k))) l
def Dm (x:List Int):Int :=
  if Bc x=0∨Cp (Bc x)=false then Bc x else Bt (Gb (X3 (-Bk (Bc x)) 0 x)) (Bk (Bc x))
def H3 (l:List Int):Bool:=l.all fun x=>decide (Az x=0)
def Na:List Int→Int
  | []=>0
  | x::l=>if Az x=0 then Na l else x
def A5 (l:List Int) (k:Int):List Int:=l.map fun x=>Bt x k
def Hg (n:Nat) (f:Nat→Int):List Int:=oneI::(List.range (n-1)).map fun j=>f (j+1)
def muI (x:List Int):Int:=if Cy (Na x)=true then Dm (A5 x (-Bk (Bc x))) else Cq (Dm (A5 x (-Bk (Bc x))))
def Gh (x:List Int):Int:=Bt (muI x) (Bk (Bc x))
def Aed (x:List Int):Int:=Bt (x.getD 0 0) (-Bk (Bc x))
def Wt (x:List Int):List Int:=Hg x.length fun j=>Em (Bt (x.getD j 0) (-Bk (Bc x))) (C0 (Aed x) (muI x))
def Yl (x:List Int):Int:=Em (C0 (muI x) (Aed x)) (muI x)
def Agd (x:List Int):List Int × Int × Int × Int :=
  if H3 (x.drop 1)=true then (Hg x.length fun _=>0,0,x.getD 0 0,0)
  else if Cp (Gh x)=true then (Wt x,Yl x,Gh x,0) else ([],0,0,2)
def Bs (x:List Int):List Int × Int × Int × Int :=
  if x.length=0∨64<x.length then ([],0,0,3) else if Ey x=true then Agd x else ([],0,0,4)
def Cu (c:Int) (l:List Int) (b i:Int) (n:Nat):List Int:=(List.range n).map fun j:Nat=>Dr c l (i+(j:Int)) b
def Vn (c:Int) (l:List Int) (i:Int) (v:List Int) (t b:Int):Int:=Dz t (M3 v (Cu c l b i v.length))
def L6 (c:Int) (l:List Int) (i k:Int) (v:List Int) (t a b:Int):Int :=
  if k≤b∧i≤a∧a<i+v.length then C0 (Dr c l a b) (Dz (Vn c l i v t b) (v.getD (a-i).toNat 0)) else Dr c l a b
def E9 (r c:Nat) (l:List Int) (i k:Int) (v:List Int) (t:Int):List Int:=By r c fun a b=>L6 (c:Int) l i k v t (a:Int) (b:Int)
def J5 (r c i k:Int) (v:List Int):Bool:=decide (0≤i∧(v.length:Int)≤r∧i≤r-v.length∧0≤k∧k≤c)
def P5 (r c:Nat) (l:List Int) (j:Nat) (x:Int):List Int:=By r c fun a b=>if b=j∧j≤a then (if a=j then x else 0) else Dr (c:Int) l (a:Int) (b:Int)
def Fb (r c:Nat) (l:List Int) (j:Nat):List Int:=Cu (c:Int) l (j:Int) (j:Int) (r-j)
def Sy (r c:Nat) (l:List Int) (j:Nat):List Int:=P5 r c (E9 r c l (j:Int) (j:Int) (Bs (Fb r c l j)).1 (Bs (Fb r c l j)).2.1) j (Bs (Fb r c l j)).2.2.1
def Le (r c:Nat):Nat→Nat→List Int→Option (List Int × List (List Int × Int))
  | 0,_,l=>some (l,[])
  | n+1,j,l=>if (Bs (Fb r c l j)).2.2.2=0 then
      (Le r c n (j+1) (Sy r c l j)).map fun x=>(x.1,((Bs (Fb r c l j)).1,(Bs (Fb r c l j)).2.1)::x.2) else none
def He (r c:Nat):Nat:=min c (r-1)
def Ik (n:Nat):Nat→List (List Int × Int)→List Int→List Int
  | _,[],q=>q
  | j,m::ms,q=>E9 n n (Ik n (j+1) ms q) (j:Int) 0 m.1 m.2
def Hd (r c:Nat) (l:List Int):Option (List Int × List (List Int × Int)):=Le r c (He r c) 0 l
def Ny (r c:Nat) (l:List Int):List Int:=match Hd r c l with
  | some x=>Ik r 0 x.2 (L3 r)
  | none=>[]
def K0 (r c:Nat) (l:List Int):List Int:=match Hd r c l with
  | some x=>x.1
  | none=>[]
def Ef (r c:Int) (l:List Int):MX:=if (Hd r.toNat c.toNat l).isSome=true then (r,c,K0 r.toNat c.toNat l,0) else Hc 2
def Rw (ms:List (List Int × Int)):List (List DV):=ms.map fun m=>[.ints .arg .u64 m.1,.int .u64 m.2]
def Hk (r c:Int) (l:List Int):List (List DV):=match Hd r.toNat c.toNat l with
  | some x=>Rw x.2
  | none=>[]
def O0 (m:Int):Int:=Oa (m.toNat*2^64)
def O1 (m:Int):Bool:=decide (Oa (m.toNat*2^64)*Oa (m.toNat*2^64)=m.toNat*2^64)
def Nh (r c:Nat) (l:List Int):Bool:=(Hd r c l).isSome&&(Ey (Ny r c l)&&Ey (K0 r c l))
def Ei (r c:Int) (l:List Int):Int:=if Bh r c l≠0 then Bh r c l else if Nh r.toNat c.toNat l=true then 0 else 2
def qX (r c:Int) (l:List Int):MX:=if Ei r c l≠0 then Hc (Ei r c l) else (r,r,Ny r.toNat c.toNat l,0)
def rX (r c:Int) (l:List Int):MX:=if Ei r c l≠0 then Hc (Ei r c l) else (r,c,K0 r.toNat c.toNat l,0)
def Gj (r c:Int) (l:List Int):MX:=if Ei r c l≠0 then Hc (Ei r c l) else (r,min r c,(Es r r (Ny r.toNat c.toNat l) 0 0 r (min r c)).2.2.1,0)
def J8 (r c:Int) (l:List Int):MX:=if Ei r c l≠0 then Hc (Ei r c l) else (min r c,c,(Es r c (K0 r.toNat c.toNat l) 0 0 (min r c) c).2.2.1,0)
def upTX (a b:MX) (p q:Int) (m:List Int):MX :=
  if (Cm a.1 a.2.1 a.2.2.1 p q m).2.2.2≠0 then Hc (Cm a.1 a.2.1 a.2.2.1 p q m).2.2.2
  else upX b.1 b.2.1 b.2.2.1 (Cm a.1 a.2.1 a.2.2.1 p q m).1 (Cm a.1 a.2.1 a.2.2.1 p q m).2.1 (Cm a.1 a.2.1 a.2.2.1 p q m).2.2.1
def Hl (r c:Int) (l:List Int) (p q:Int) (m:List Int):MX :=
  if Bh r c l≠0 then Hc (Bh r c l) else if Bh p q m≠0 then Hc (Bh p q m) else if r<c∨r≠p then Hc 3
  else if Ei r c l≠0 then Hc (Ei r c l)
  else if (Jn (J8 r c l).1 (J8 r c l).2.1 (J8 r c l).2.2.1).1=true then Hc 5
  else upTX (Gj r c l) (J8 r c l) p q m
end Go.Rnd
namespace Go.Rnd
open Go.Den
def mulM (x y:MX):MX:=Dx x.1 x.2.1 x.2.2.1 y.1 y.2.1 y.2.2.1
def turnM (x:MX):MX:=Bw x.1 x.2.1 x.2.2.1
def Jx (x:MX) (i k a b:Int):MX:=Es x.1 x.2.1 x.2.2.1 i k a b
def J1 (r c:Int) (l:List Int) (e:Int):MX:=if e≠0 then Hc e else if Bh r c l≠0 then Hc 2 else (r,c,l,0)
def Abu (x:MX):MX:=J1 x.1 x.2.1 x.2.2.1 x.2.2.2
def F9 (r c:Int) (l:List Int) (p q:Int) (m:List Int) (a b:Int) (g:List Int) (u v:Int) (h:List Int):Int :=
  if Bh r c l≠0 then Bh r c l else if Bh p q m≠0 then Bh p q m else if Bh a b g≠0 then Bh a b g else if Bh u v h≠0 then Bh u v h
  else if q≠c∨a≠r∨u≠p∨b≠1∨v≠1∨c<p∨r+p<c then 3 else 0
def L8 (l m g h:List Int):Bool:=(Af l&&Af m)&&(Af g&&Af h)
def Z4 (p q:Int) (m:List Int):List Int:=(Bw p q m).2.2.1
def eqR (p q:Int) (m:List Int):MX:=rX q p (Z4 p q m)
def Mz (p q:Int) (m:List Int):MX:=turnM (Jx (eqR p q m) 0 0 p p)
def hY (p q:Int) (m:List Int) (u v:Int) (h:List Int):MX :=
  if Ei q p (Z4 p q m)≠0 then Hc (Ei q p (Z4 p q m)) else if (Jn (Mz p q m).1 (Mz p q m).2.1 (Mz p q m).2.2.1).1=true then Hc 5
  else Vx (Mz p q m).1 (Mz p q m).2.1 (Mz p q m).2.2.1 u v h
def hQ (p q:Int) (m:List Int):MX :=
  if Ei q p (Z4 p q m)≠0 then Hc (Ei q p (Z4 p q m)) else if (Jn (Mz p q m).1 (Mz p q m).2.1 (Mz p q m).2.2.1).1=true then Hc 5
  else qX q p (Z4 p q m)
def lseW (r c:Int) (l:List Int) (p q:Int) (m:List Int):MX:=Abu (mulM (r,c,l,0) (hQ p q m))
def Adr (w y:MX) (r p:Int):MX:=mulM (Jx w 0 0 r p) y
def lseF (a b:Int) (g:List Int) (d:MX):MX:=Abu (Hx a b g d.1 d.2.1 d.2.2.1)
def Yq (x y:MX):MX:=Hl x.1 x.2.1 x.2.2.1 y.1 y.2.1 y.2.2.1
def Uk (x y:MX):MX:=Bi x.1 x.2.1 x.2.2.1 y.1 y.2.1 y.2.2.1
def Zw (q y z:MX):MX:=if z.2.2.2≠0 then Hc z.2.2.2 else if (Uk y z).2.2.2≠0 then Hc (Uk y z).2.2.2 else Abu (mulM q (Uk y z))
def lseX3 (q y w f:MX) (r c p:Int):MX:=if f.2.2.2≠0 then Hc f.2.2.2 else Zw q y (Yq (Jx w 0 p r (c-p)) f)
def Adq (q y w:MX) (r c p a b:Int) (g:List Int):MX:=if w.2.2.2≠0 then Hc w.2.2.2 else lseX3 q y w (lseF a b g (Adr w y r p)) r c p
def Gq (r c:Int) (l:List Int) (p q:Int) (m:List Int) (a b:Int) (g:List Int) (u v:Int) (h:List Int):MX :=
  if F9 r c l p q m a b g u v h≠0 then Hc (F9 r c l p q m a b g u v h)
  else if (hY p q m u v h).2.2.2≠0 then Hc (hY p q m u v h).2.2.2
  else Adq (hQ p q m) (hY p q m u v h) (lseW r c l p q m) r c p a b g
end Go.Rnd
namespace Go.Rnd
open Go.Den
end Go.Rnd
namespace Go.Rnd
open Go.Den
end Go.Rnd
namespace Go.Proofs.S1
open Go Go.Den Go.Rnd
def soft.Split.pre:List Atom→Bool
  | [.i x]=>Ag x
  | _=>false
def soft.Split.out:List Atom→DV
  | [.i x]=>.agg [.bool (Cy x),.int .i64 (Mw x),.int .u64 (Nd x)]
  | _=>.undef
def soft.Split.spec:Entry:=entry [.i .u64] soft.Split.pre soft.Split.out
def soft.Kind.pre:List Atom→Bool
  | [.i x]=>Ag x
  | _=>false
def soft.Kind.out:List Atom→DV
  | [.i x]=>.int .i64 (Az x)
  | _=>.undef
def soft.Kind.spec:Entry:=entry [.i .u64] soft.Kind.pre soft.Kind.out
def soft.Sign.pre:List Atom→Bool
  | [.i x]=>Ag x
  | _=>false
def soft.Sign.out:List Atom→DV
  | [.i x]=>.bool (Cy x)
  | _=>.undef
def soft.Sign.spec:Entry:=entry [.i .u64] soft.Sign.pre soft.Sign.out
def soft.Finite.pre:List Atom→Bool
  | [.i x]=>Ag x
  | _=>false
def soft.Finite.out:List Atom→DV
  | [.i x]=>.bool (Cp x)
  | _=>.undef
def soft.Finite.spec:Entry:=entry [.i .u64] soft.Finite.pre soft.Finite.out
def soft.Ev.pre:List Atom→Bool
  | [.i x]=>Ag x
  | _=>false
def soft.Ev.out:List Atom→DV
  | [.i x]=>.int .u64 (Cq x)
  | _=>.undef
def soft.Ev.spec:Entry:=entry [.i .u64] soft.Ev.pre soft.Ev.out
def soft.Eg.pre:List Atom→Bool
  | [.i x]=>Ag x
  | _=>false
def soft.Eg.out:List Atom→DV
  | [.i x]=>.tup [.int .u64 (A1 x),.int .i64 (Ay x)]
  | _=>.undef
def soft.Eg.spec:Entry:=entry [.i .u64] soft.Eg.pre soft.Eg.out
def soft.Pack.mu:List Atom→Nat
  | [.b _n,.i m,.i e]=>Kp m e
  | _=>0
def soft.Pack.pre:List Atom→Bool
  | [.b _n,.i m,.i e]=>Hu m e
  | _=>false
def soft.Pack.out:List Atom→DV
  | [.b n,.i m,.i e]=>.int .u64 (Oq n m e)
  | _=>.undef
def soft.Pack.spec:Entry:=entry [.b,.i .u64,.i .i64] soft.Pack.pre soft.Pack.out
def soft.B9.pre:List Atom→Bool
  | [.b _n,.i m,.i e,.b r]=>Cv m e r
  | _=>false
def soft.B9.out:List Atom→DV
  | [.b n,.i m,.i e,.b r]=>.tup [.int .u64 (Dh n m e r),.int .u8 (Dg n m e r)]
  | _=>.undef
def soft.B9.spec:Entry:=entry [.b,.i .u64,.i .i64,.b] soft.B9.pre soft.B9.out
def sum.right.pre:List Atom→Bool
  | [.i m,.i d]=>Ag m&&Dd (0≤d∧d<1000000)
  | _=>false
def sum.right.out:List Atom→DV
  | [.i m,.i d]=>.int .u64 (Dl m d)
  | _=>.undef
def sum.right.spec:Entry:=entry [.i .u64,.i .i64] sum.right.pre sum.right.out
def sum.C6.pre:List Atom→Bool
  | [.i a,.i b]=>(Ag a&&Ag b)&&(!(Cp a)||!(Cp b))
  | _=>false
def sum.C6.out:List Atom→DV
  | [.i a,.i b]=>.tup [.int .u64 (Il a b),.int .u8 (Qt a b)]
  | _=>.undef
def sum.C6.spec:Entry:=entry [.i .u64,.i .u64] sum.C6.pre sum.C6.out
def sum.Add.pre:List Atom→Bool
  | [.i a,.i b]=>Ag a&&Ag b
  | _=>false
def sum.Add.out:List Atom→DV
  | [.i a,.i b]=>.tup [.int .u64 (Il a b),.int .u8 (Qt a b)]
  | _=>.undef
def sum.Add.spec:Entry:=entry [.i .u64,.i .u64] sum.Add.pre sum.Add.out
def sum.Sub.pre:List Atom→Bool
  | [.i a,.i b]=>Ag a&&Ag b
  | _=>false
def sum.Sub.out:List Atom→DV
  | [.i a,.i b]=>.tup [.int .u64 (C0 a b),.int .u8 (subFI a b)]
  | _=>.undef
def sum.Sub.spec:Entry:=entry [.i .u64,.i .u64] sum.Sub.pre sum.Sub.out
def Cn.Power.pre:List Atom→Bool
  | [.i x]=>Agb x
  | _=>false
def Cn.Power.out:List Atom→DV
  | [.i x]=>.int .i64 (Mw x)
  | _=>.undef
def Cn.Power.spec:Entry:=entry [.i .u64] Cn.Power.pre Cn.Power.out
def Cn.Finite.pre:List Atom→Bool
  | [.i x]=>Ag x
  | _=>false
def Cn.Finite.out:List Atom→DV
  | [.i x]=>.bool (Cp x)
  | _=>.undef
def Cn.Finite.spec:Entry:=entry [.i .u64] Cn.Finite.pre Cn.Finite.out
def Bu.Bb.pre:List Atom→Bool
  | [.i x]=>Ag x
  | _=>false
def Bu.Bb.out:List Atom→DV
  | [.i x]=>.int .i64 (64-Di x)
  | _=>.undef
def Bu.Bb.spec:Entry:=entry [.i .u64] Bu.Bb.pre Bu.Bb.out
def Bu.Fw.pre:List Atom→Bool
  | [.i x,.i y]=>Ag x&&Ag y
  | _=>false
def Bu.Fw.out:List Atom→DV
  | [.i x,.i y]=>.tup [.int .u64 (M9 x y),.int .u64 (Jk x y)]
  | _=>.undef
def Bu.Fw.spec:Entry:=entry [.i .u64,.i .u64] Bu.Fw.pre Bu.Fw.out
def times.signed.pre:List Atom→Bool
  | [.i b,.b _n]=>Ag b
  | _=>false
def times.signed.out:List Atom→DV
  | [.i b,.b n]=>.int .u64 (M6 n b)
  | _=>.undef
def times.signed.spec:Entry:=entry [.i .u64,.b] times.signed.pre times.signed.out
def times.nan.pre:List Atom→Bool
  | [.i a,.i b]=>Ag a&&Ag b
  | _=>false
def times.nan.out:List Atom→DV
  | [.i a,.i b]=>.bool (Adk a b)
  | _=>.undef
def times.nan.spec:Entry:=entry [.i .u64,.i .u64] times.nan.pre times.nan.out
def times.norm.pre:List Atom→Bool
  | [.i b]=>Ag b&&Ir b
  | _=>false
def times.norm.out:List Atom→DV
  | [.i b]=>.tup [.int .u64 (Bv b),.int .i64 (Ff b)]
  | _=>.undef
def times.norm.spec:Entry:=entry [.i .u64] times.norm.pre times.norm.out
def times.wide.pre:List Atom→Bool
  | [.b _n,.i m,.i e,.b _r]=>Kl m e
  | _=>false
def times.wide.out:List Atom→DV
  | [.b n,.i m,.i e,.b r]=>.tup [.int .u64 (Dh n m e r),.int .u8 (Dg n m e r)]
  | _=>.undef
def times.wide.spec:Entry:=entry [.b,.i .u64,.i .i64,.b] times.wide.pre times.wide.out
def times.Mul.pre:List Atom→Bool
  | [.i a,.i b]=>Ag a&&Ag b
  | _=>false
def times.Mul.out:List Atom→DV
  | [.i a,.i b]=>.tup [.int .u64 (Dz a b),.int .u8 (mulFI a b)]
  | _=>.undef
def times.Mul.spec:Entry:=entry [.i .u64,.i .u64] times.Mul.pre times.Mul.out
def times.Div.pre:List Atom→Bool
  | [.i a,.i b]=>Ag a&&Ag b
  | _=>false
def times.Div.out:List Atom→DV
  | [.i a,.i b]=>.tup [.int .u64 (Em a b),.int .u8 (divFI a b)]
  | _=>.undef
def times.Div.spec:Entry:=entry [.i .u64,.i .u64] times.Div.pre times.Div.out
def Ac.Add.pre:List Atom→Bool
  | [.i a,.i b]=>Ag a&&Ag b
  | _=>false
def Ac.Add.out:List Atom→DV
  | [.i a,.i b]=>.int .u64 (Il a b)
  | _=>.undef
def Ac.Add.spec:Entry:=entry [.i .u64,.i .u64] Ac.Add.pre Ac.Add.out
def Ac.Sub.pre:List Atom→Bool
  | [.i a,.i b]=>Ag a&&Ag b
  | _=>false
def Ac.Sub.out:List Atom→DV
  | [.i a,.i b]=>.int .u64 (C0 a b)
  | _=>.undef
def Ac.Sub.spec:Entry:=entry [.i .u64,.i .u64] Ac.Sub.pre Ac.Sub.out
def Ac.Mul.pre:List Atom→Bool
  | [.i a,.i b]=>Ag a&&Ag b
  | _=>false
def Ac.Mul.out:List Atom→DV
  | [.i a,.i b]=>.int .u64 (Dz a b)
  | _=>.undef
def Ac.Mul.spec:Entry:=entry [.i .u64,.i .u64] Ac.Mul.pre Ac.Mul.out
def Ac.fit.pre:List Atom→Bool
  | [.l _x,.l _y]=>true
  | _=>false
def Ac.fit.out:List Atom→DV
  | [.l x,.l y]=>.bool (P0 x y)
  | _=>.undef
def Ac.fit.spec:Entry:=entry [.s .u64,.s .u64] Ac.fit.pre Ac.fit.out
def Ac.Lf.pre:List Atom→Bool
  | [.l x,.l y]=>(P0 x y&&Af x)&&Af y
  | _=>false
def Ac.Lf.out:List Atom→DV
  | [.l x,.l y]=>.tup [.int .u64 (M3 x y),.int .i64 (0:Int)]
  | _=>.undef
def Ac.Lf.spec:Entry:=entry [.s .u64,.s .u64] Ac.Lf.pre Ac.Lf.out
def Aa.size.pre:List Atom→Bool
  | [.i _n]=>true
  | _=>false
def Aa.size.out:List Atom→DV
  | [.i n]=>.bool (A7 n)
  | _=>.undef
def Aa.size.spec:Entry:=entry [.i .i64] Aa.size.pre Aa.size.out
def Aa.Check.pre:List Atom→Bool
  | [.i _r,.i _c,.l _l]=>true
  | _=>false
def Aa.Check.out:List Atom→DV
  | [.i r,.i c,.l l]=>.int .i64 (Hp r c l)
  | _=>.undef
def Aa.Check.spec:Entry:=entry [.st [.i .i64,.i .i64,.s .u64]] Aa.Check.pre Aa.Check.out
def Aa.get.pre:List Atom→Bool
  | [.i r,.i c,.l l,.i i,.i k]=>Cx r c l i k
  | _=>false
def Aa.get.out:List Atom→DV
  | [.i _r,.i c,.l l,.i i,.i k]=>.int .u64 (Dr c l i k)
  | _=>.undef
def Aa.get.spec:Entry:=entry [.st [.i .i64,.i .i64,.s .u64],.i .i64,.i .i64] Aa.get.pre Aa.get.out
def Aa.two.pre:List Atom→Bool
  | [.i _r,.i _c,.l _l,.i _p,.i _q,.l _m]=>true
  | _=>false
def Aa.two.out:List Atom→DV
  | [.i r,.i c,.l l,.i p,.i q,.l m]=>.int .i64 (Pg r c l p q m)
  | _=>.undef
def Aa.two.spec:Entry:=entry [.st [.i .i64,.i .i64,.s .u64],.st [.i .i64,.i .i64,.s .u64]] Aa.two.pre Aa.two.out
def Aa.Row.pre:List Atom→Bool
  | [.i r,.i c,.l l,.i i,.i f]=>Uq r c l i&&decide (f=0)
  | _=>false
def Aa.Row.out:List Atom→DV
  | [.i _r,.i c,.l l,.i i,.i _f]=>.ints .fresh .u64 (Jw c l i)
  | _=>.undef
def Aa.Row.spec:Entry:=entry [.st [.i .i64,.i .i64,.s .u64],.i .i64,.i .i64] Aa.Row.pre Aa.Row.out
def Aa.Ck.pre:List Atom→Bool
  | [.i r,.i c,.l l,.i k,.i f]=>Jc r c l k&&Dd (0≤f∧f≤r)
  | _=>false
def Aa.Ck.out:List Atom→DV
  | [.i r,.i c,.l l,.i k,.i f]=>.ints .fresh .u64 (Cu c l k f (Int.toNat (r-f)))
  | _=>.undef
def Aa.Ck.spec:Entry:=entry [.st [.i .i64,.i .i64,.s .u64],.i .i64,.i .i64] Aa.Ck.pre Aa.Ck.out
def Aa.Cz.pre:List Atom→Bool
  | [.i _i,.i _k]=>true
  | _=>false
def Aa.Cz.out:List Atom→DV
  | [.i _i,.i _k]=>.int .u64 (0:Int)
  | _=>.undef
def Aa.Cz.spec:Entry:=entry [.i .i64,.i .i64] Aa.Cz.pre Aa.Cz.out
def Aa.Fy.pre:List Atom→Bool
  | [.i _i,.i _k]=>true
  | _=>false
def Aa.Fy.out:List Atom→DV
  | [.i i,.i k]=>.int .u64 (P2 i k)
  | _=>.undef
def Aa.Fy.spec:Entry:=entry [.i .i64,.i .i64] Aa.Fy.pre Aa.Fy.out
def Aa.D5.pre:List Atom→Bool
  | [.i i,.i k,.i r,.i c,.l l]=>Cx r c l k i
  | _=>false
def Aa.D5.out:List Atom→DV
  | [.i i,.i k,.i _r,.i c,.l l]=>.int .u64 (Dr c l k i)
  | _=>.undef
def Aa.D5.spec:Entry:=entry [.i .i64,.i .i64,.cp [.i .i64,.i .i64,.s .u64]] Aa.D5.pre Aa.D5.out
def Aa.D7.pre:List Atom→Bool
  | [.i i,.i k,.i r,.i c,.l l,.i x,.i y]=>Cx r c l (x+i) (y+k)&&Pm x y i k
  | _=>false
def Aa.D7.out:List Atom→DV
  | [.i i,.i k,.i _r,.i c,.l l,.i x,.i y]=>.int .u64 (Dr c l (x+i) (y+k))
  | _=>.undef
def Aa.D7.spec:Entry:=entry [.i .i64,.i .i64,.cp [.i .i64,.i .i64,.s .u64],.cp [.i .i64],.cp [.i .i64]] Aa.D7.pre Aa.D7.out
def Aa.Ft.pre:List Atom→Bool
  | [.i i,.i k,.i r,.i c,.l l,.i p,.i q,.l m]=>((Cx r c l i k&&Cx p q m i k)&&Af l)&&Af m
  | _=>false
def Aa.Ft.out:List Atom→DV
  | [.i i,.i k,.i _r,.i c,.l l,.i _p,.i q,.l m]=>.int .u64 (C0 (Dr c l i k) (Dr q m i k))
  | _=>.undef
def Aa.Ft.spec:Entry:=entry [.i .i64,.i .i64,.cp [.i .i64,.i .i64,.s .u64],.cp [.i .i64,.i .i64,.s .u64]] Aa.Ft.pre Aa.Ft.out
def Aa.Db.pre:List Atom→Bool
  | [.i i,.i k,.i r,.i c,.l l,.i p,.i q,.l m]=>I3 r c l p q m i k
  | _=>false
def Aa.Db.out:List Atom→DV
  | [.i i,.i k,.i r,.i c,.l l,.i _p,.i q,.l m]=>.int .u64 (G3 r c l q m i k)
  | _=>.undef
def Aa.Db.spec:Entry:=entry [.i .i64,.i .i64,.cp [.i .i64,.i .i64,.s .u64],.cp [.i .i64,.i .i64,.s .u64]] Aa.Db.pre Aa.Db.out
def Aa.Fv.pre:List Atom→Bool
  | [.i i,.i k,.i r,.i c,.l l,.i p,.i q,.l m]=>Nt r c l p q m i k
  | _=>false
def Aa.Fv.out:List Atom→DV
  | [.i i,.i k,.i _r,.i c,.l l,.i p,.i q,.l m]=>.int .u64 (M3 (Jw c l i) (N1 p q m k))
  | _=>.undef
def Aa.Fv.spec:Entry:=entry [.i .i64,.i .i64,.cp [.i .i64,.i .i64,.s .u64],.cp [.i .i64,.i .i64,.s .u64]] Aa.Fv.pre Aa.Fv.out
def Aa.of.Fz.pre:List Atom→Bool
  | [.i a,.i b]=>(A7 a&&A7 b)
  | _=>false
def Aa.of.Fz.out:List Atom→DV
  | [.i a,.i b]=>.agg [.int .i64 a,.int .i64 b,.ints .fresh .u64 (By (Int.toNat a) (Int.toNat b) (fun j1 j2=>P2 j1 j2))]
  | _=>.undef
def Aa.of.Fz.spec:Entry:=entry [.i .i64,.i .i64,.fn 66 []] Aa.of.Fz.pre Aa.of.Fz.out
def Aa.of.Cl.pre:List Atom→Bool
  | [.i a,.i b,.i r,.i c,.l l]=>(A7 a&&A7 b)&&Aw r c l&&decide (a=c∧b=r)
  | _=>false
def Aa.of.Cl.out:List Atom→DV
  | [.i a,.i b,.i _r,.i c,.l l]=>.agg [.int .i64 a,.int .i64 b,.ints .fresh .u64 (By (Int.toNat a) (Int.toNat b) (fun j1 j2=>Dr c l j2 j1))]
  | _=>.undef
def Aa.of.Cl.spec:Entry:=entry [.i .i64,.i .i64,.fn 46 [.cp [.i .i64,.i .i64,.s .u64]]] Aa.of.Cl.pre Aa.of.Cl.out
def Aa.of.Part.pre:List Atom→Bool
  | [.i a,.i b,.i r,.i c,.l l,.i x,.i y]=>(A7 a&&A7 b)&&Aw r c l&&Lb r c x y a b
  | _=>false
def Aa.of.Part.out:List Atom→DV
  | [.i a,.i b,.i _r,.i c,.l l,.i x,.i y]=>.agg [.int .i64 a,.int .i64 b,.ints .fresh .u64 (By (Int.toNat a) (Int.toNat b) (fun j1 j2=>Dr c l (x+j1) (y+j2)))]
  | _=>.undef
def Aa.of.Part.spec:Entry:=entry [.i .i64,.i .i64,.fn 36 [.cp [.i .i64,.i .i64,.s .u64],.cp [.i .i64],.cp [.i .i64]]] Aa.of.Part.pre Aa.of.Part.out
def Aa.of.Sub.pre:List Atom→Bool
  | [.i a,.i b,.i r,.i c,.l l,.i p,.i q,.l m]=>(A7 a&&A7 b)&&((Aw r c l&&Aw p q m)&&(Af l&&Af m))&&decide (a=r∧b=c∧p=r∧q=c)
  | _=>false
def Aa.of.Sub.out:List Atom→DV
  | [.i a,.i b,.i _r,.i c,.l l,.i _p,.i q,.l m]=>.agg [.int .i64 a,.int .i64 b,.ints .fresh .u64 (By (Int.toNat a) (Int.toNat b) (fun j1 j2=>C0 (Dr c l j1 j2) (Dr q m j1 j2)))]
  | _=>.undef
def Aa.of.Sub.spec:Entry:=entry [.i .i64,.i .i64,.fn 38 [.cp [.i .i64,.i .i64,.s .u64],.cp [.i .i64,.i .i64,.s .u64]]] Aa.of.Sub.pre Aa.of.Sub.out
def Aa.of.Stack.pre:List Atom→Bool
  | [.i a,.i b,.i r,.i c,.l l,.i p,.i q,.l m]=>(A7 a&&A7 b)&&(Aw r c l&&Aw p q m)&&decide (a=r+p∧b=c∧q=c)
  | _=>false
def Aa.of.Stack.out:List Atom→DV
  | [.i a,.i b,.i r,.i c,.l l,.i _p,.i q,.l m]=>.agg [.int .i64 a,.int .i64 b,.ints .fresh .u64 (By (Int.toNat a) (Int.toNat b) (fun j1 j2=>G3 r c l q m j1 j2))]
  | _=>.undef
def Aa.of.Stack.spec:Entry:=entry [.i .i64,.i .i64,.fn 43 [.cp [.i .i64,.i .i64,.s .u64],.cp [.i .i64,.i .i64,.s .u64]]] Aa.of.Stack.pre Aa.of.Stack.out
def Aa.of.Mul.pre:List Atom→Bool
  | [.i a,.i b,.i r,.i c,.l l,.i p,.i q,.l m]=>(A7 a&&A7 b)&&((Aw r c l&&Aw p q m)&&(Af l&&Af m))&&decide (a=r∧b=q∧c=p)
  | _=>false
def Aa.of.Mul.out:List Atom→DV
  | [.i a,.i b,.i _r,.i c,.l l,.i p,.i q,.l m]=>.agg [.int .i64 a,.int .i64 b,.ints .fresh .u64 (By (Int.toNat a) (Int.toNat b) (fun j1 j2=>M3 (Jw c l j1) (N1 p q m j2)))]
  | _=>.undef
def Aa.of.Mul.spec:Entry:=entry [.i .i64,.i .i64,.fn 32 [.cp [.i .i64,.i .i64,.s .u64],.cp [.i .i64,.i .i64,.s .u64]]] Aa.of.Mul.pre Aa.of.Mul.out
def Aa.Fz.pre:List Atom→Bool
  | [.i _n]=>true
  | _=>false
def Aa.Fz.out:List Atom→DV
  | [.i n]=>.tup [.agg [.int .i64 ((Ja n).1),.int .i64 ((Ja n).2.1),.ints .fresh .u64 ((Ja n).2.2.1)],.int .i64 ((Ja n).2.2.2)]
  | _=>.undef
def Aa.Fz.spec:Entry:=entry [.i .i64] Aa.Fz.pre Aa.Fz.out
def Aa.Cl.pre:List Atom→Bool
  | [.i _r,.i _c,.l _l]=>true
  | _=>false
def Aa.Cl.out:List Atom→DV
  | [.i r,.i c,.l l]=>.tup [.agg [.int .i64 ((Bw r c l).1),.int .i64 ((Bw r c l).2.1),.ints .fresh .u64 ((Bw r c l).2.2.1)],.int .i64 ((Bw r c l).2.2.2)]
  | _=>.undef
def Aa.Cl.spec:Entry:=entry [.st [.i .i64,.i .i64,.s .u64]] Aa.Cl.pre Aa.Cl.out
def Aa.Part.pre:List Atom→Bool
  | [.i _r,.i _c,.l _l,.i _x,.i _y,.i _a,.i _b]=>true
  | _=>false
def Aa.Part.out:List Atom→DV
  | [.i r,.i c,.l l,.i x,.i y,.i a,.i b]=>.tup [.agg [.int .i64 ((Es r c l x y a b).1),.int .i64 ((Es r c l x y a b).2.1),.ints .fresh .u64 ((Es r c l x y a b).2.2.1)],.int .i64 ((Es r c l x y a b).2.2.2)]
  | _=>.undef
def Aa.Part.spec:Entry:=entry [.st [.i .i64,.i .i64,.s .u64],.i .i64,.i .i64,.i .i64,.i .i64] Aa.Part.pre Aa.Part.out
def Aa.Sub.pre:List Atom→Bool
  | [.i _r,.i _c,.l l,.i _p,.i _q,.l m]=>Af l&&Af m
  | _=>false
def Aa.Sub.out:List Atom→DV
  | [.i r,.i c,.l l,.i p,.i q,.l m]=>.tup [.agg [.int .i64 ((Hx r c l p q m).1),.int .i64 ((Hx r c l p q m).2.1),.ints .fresh .u64 ((Hx r c l p q m).2.2.1)],.int .i64 ((Hx r c l p q m).2.2.2)]
  | _=>.undef
def Aa.Sub.spec:Entry:=entry [.st [.i .i64,.i .i64,.s .u64],.st [.i .i64,.i .i64,.s .u64]] Aa.Sub.pre Aa.Sub.out
def Aa.Stack.pre:List Atom→Bool
  | [.i _r,.i _c,.l _l,.i _p,.i _q,.l _m]=>true
  | _=>false
def Aa.Stack.out:List Atom→DV
  | [.i r,.i c,.l l,.i p,.i q,.l m]=>.tup [.agg [.int .i64 ((Bi r c l p q m).1),.int .i64 ((Bi r c l p q m).2.1),.ints .fresh .u64 ((Bi r c l p q m).2.2.1)],.int .i64 ((Bi r c l p q m).2.2.2)]
  | _=>.undef
def Aa.Stack.spec:Entry:=entry [.st [.i .i64,.i .i64,.s .u64],.st [.i .i64,.i .i64,.s .u64]] Aa.Stack.pre Aa.Stack.out
def Aa.Mul.pre:List Atom→Bool
  | [.i _r,.i _c,.l l,.i _p,.i _q,.l m]=>Af l&&Af m
  | _=>false
def Aa.Mul.out:List Atom→DV
  | [.i r,.i c,.l l,.i p,.i q,.l m]=>.tup [.agg [.int .i64 ((Dx r c l p q m).1),.int .i64 ((Dx r c l p q m).2.1),.ints .fresh .u64 ((Dx r c l p q m).2.2.1)],.int .i64 ((Dx r c l p q m).2.2.2)]
  | _=>.undef
def Aa.Mul.spec:Entry:=entry [.st [.i .i64,.i .i64,.s .u64],.st [.i .i64,.i .i64,.s .u64]] Aa.Mul.pre Aa.Mul.out
def Fo.Fu.pre:List Atom→Bool
  | [.i _r,.i _c,.l _l]=>true
  | _=>false
def Fo.Fu.out:List Atom→DV
  | [.i r,.i c,.l l]=>.bool (Aw r c l)
  | _=>.undef
def Fo.Fu.spec:Entry:=entry [.st [.i .i64,.i .i64,.s .u64]] Fo.Fu.pre Fo.Fu.out
def compare.Ip.pre:List Atom→Bool
  | [.i b]=>Ag b
  | _=>false
def compare.Ip.out:List Atom→DV
  | [.i b]=>.int .i64 (Tk b)
  | _=>.undef
def compare.Ip.spec:Entry:=entry [.i .u64] compare.Ip.pre compare.Ip.out
def compare.Order.pre:List Atom→Bool
  | [.i a,.i b]=>Ag a&&Ag b
  | _=>false
def compare.Order.out:List Atom→DV
  | [.i a,.i b]=>.tup [.int .i64 (Yf a b),.bool (ordBI a b)]
  | _=>.undef
def compare.Order.spec:Entry:=entry [.i .u64,.i .u64] compare.Order.pre compare.Order.out
def compare.Ix.pre:List Atom→Bool
  | [.i a,.i b]=>Ag a&&Ag b
  | _=>false
def compare.Ix.out:List Atom→DV
  | [.i a,.i b]=>.bool (decide (Yf a b<0))
  | _=>.undef
def compare.Ix.spec:Entry:=entry [.i .u64,.i .u64] compare.Ix.pre compare.Ix.out
def compare.Qv.pre:List Atom→Bool
  | [.i a]=>Ag a
  | _=>false
def compare.Qv.out:List Atom→DV
  | [.i a]=>.int .u64 (W0 a)
  | _=>.undef
def compare.Qv.spec:Entry:=entry [.i .u64] compare.Qv.pre compare.Qv.out
def compare.Dk.pre:List Atom→Bool
  | [.i a,.i n]=>Dy a n
  | _=>false
def compare.Dk.out:List Atom→DV
  | [.i a,.i n]=>.tup [.int .u64 (Bt a n),.int .u8 (Afz a n)]
  | _=>.undef
def compare.Dk.spec:Entry:=entry [.i .u64,.i .i64] compare.Dk.pre compare.Dk.out
def Ac.Eu.pre:List Atom→Bool
  | [.i a,.i n]=>Dy a n
  | _=>false
def Ac.Eu.out:List Atom→DV
  | [.i a,.i n]=>.int .u64 (Bt a n)
  | _=>.undef
def Ac.Eu.spec:Entry:=entry [.i .u64,.i .i64] Ac.Eu.pre Ac.Eu.out
def Ac.Div.pre:List Atom→Bool
  | [.i a,.i b]=>Ag a&&Ag b
  | _=>false
def Ac.Div.out:List Atom→DV
  | [.i a,.i b]=>.int .u64 (Em a b)
  | _=>.undef
def Ac.Div.spec:Entry:=entry [.i .u64,.i .u64] Ac.Div.pre Ac.Div.out
def Ac.Bz.pre:List Atom→Bool
  | [.l x]=>Cs x
  | _=>false
def Ac.Bz.out:List Atom→DV
  | [.l x]=>.int .u64 (Bc x)
  | _=>.undef
def Ac.Bz.spec:Entry:=entry [.s .u64] Ac.Bz.pre Ac.Bz.out
def Ac.Finite.pre:List Atom→Bool
  | [.l x]=>Cs x
  | _=>false
def Ac.Finite.out:List Atom→DV
  | [.l x]=>.bool (Ey x)
  | _=>.undef
def Ac.Finite.spec:Entry:=entry [.s .u64] Ac.Finite.pre Ac.Finite.out
def Bn.Check.pre:List Atom→Bool
  | [.i _r,.i _c,.l l]=>Af l
  | _=>false
def Bn.Check.out:List Atom→DV
  | [.i r,.i c,.l l]=>.int .i64 (Bh r c l)
  | _=>.undef
def Bn.Check.spec:Entry:=entry [.st [.i .i64,.i .i64,.s .u64]] Bn.Check.pre Bn.Check.out
def solve.check.pre:List Atom→Bool
  | [.i _r,.i _c,.l l,.i _p,.i _q,.l m]=>Af l&&Af m
  | _=>false
def solve.check.out:List Atom→DV
  | [.i r,.i c,.l l,.i p,.i q,.l m]=>.int .i64 (N3 r c l p q m)
  | _=>.undef
def solve.check.spec:Entry:=entry [.st [.i .i64,.i .i64,.s .u64],.st [.i .i64,.i .i64,.s .u64]] solve.check.pre solve.check.out
def B6.B5.up.pre:List Atom→Bool
  | [.i n,.i k]=>Dd (0≤k∧k<n∧n≤10)
  | _=>false
def B6.B5.up.out:List Atom→DV
  | [.i n,.i k]=>.int .i64 (n-1-k)
  | _=>.undef
def B6.B5.up.spec:Entry:=entry [.i .i64,.i .i64] B6.B5.up.pre B6.B5.up.out
def solve.Da.pre:List Atom→Bool
  | [.i _i,.i _k]=>true
  | _=>false
def solve.Da.out:List Atom→DV
  | [.i i,.i k]=>.bool (decide (i<k))
  | _=>.undef
def solve.Da.spec:Entry:=entry [.i .i64,.i .i64] solve.Da.pre solve.Da.out
def Aa.of.Bm.own.pre:List Atom→Bool
  | [.i a,.i b]=>A7 a&&A7 b
  | _=>false
def Aa.of.Bm.own.out:List Atom→DV
  | [.i a,.i b]=>.agg [.int .i64 a,.int .i64 b,.ints (.own 108002 41) .u64 (By (Int.toNat a) (Int.toNat b) (fun _ _=>0))]
  | _=>.undef
def Aa.of.Bm.own.spec:Entry:=entry [.i .i64,.i .i64,.fn 86 []] Aa.of.Bm.own.pre Aa.of.Bm.own.out
def Aa.Bm.own.pre:List Atom→Bool
  | [.i a,.i b]=>A7 a&&A7 b
  | _=>false
def Aa.Bm.own.out:List Atom→DV
  | [.i a,.i b]=>.tup [.agg [.int .i64 a,.int .i64 b,.ints (.own 1136 41) .u64 (By (Int.toNat a) (Int.toNat b) (fun _ _=>0))],.int .i64 (0:Int)]
  | _=>.undef
def Aa.Bm.own.spec:Entry:=entry [.i .i64,.i .i64] Aa.Bm.own.pre Aa.Bm.own.out
def solve.Al.Up.pre:List Atom→Bool
  | [.i r,.i c,.l l,.i p,.i q,.l m,.i n]=>Li r c l p q m&&decide (n=r)
  | _=>false
def solve.Al.Up.out:List Atom→DV
  | [.i r,.i c,.l l,.i _p,.i q,.l m,.i _n]=>.tup [.agg [.int .i64 ((Iv r q (Zh c l q m (Int.toNat r) (Int.toNat q))).1),.int .i64 ((Iv r q (Zh c l q m (Int.toNat r) (Int.toNat q))).2.1),.ints .fresh .u64 ((Iv r q (Zh c l q m (Int.toNat r) (Int.toNat q))).2.2.1)],.int .i64 ((Iv r q (Zh c l q m (Int.toNat r) (Int.toNat q))).2.2.2)]
  | _=>.undef
def solve.Al.Up.spec:Entry:=entry [.st [.i .i64,.i .i64,.s .u64],.st [.i .i64,.i .i64,.s .u64],.fm 63 [.i .i64],.fn 64 []] solve.Al.Up.pre solve.Al.Up.out
def solve.Fs.pre:List Atom→Bool
  | [.i _r,.i _c,.l l,.i _p,.i _q,.l m]=>Af l&&Af m
  | _=>false
def solve.Fs.out:List Atom→DV
  | [.i r,.i c,.l l,.i p,.i q,.l m]=>.tup [.agg [.int .i64 ((upX r c l p q m).1),.int .i64 ((upX r c l p q m).2.1),.ints .fresh .u64 ((upX r c l p q m).2.2.1)],.int .i64 ((upX r c l p q m).2.2.2)]
  | _=>.undef
def solve.Fs.spec:Entry:=entry [.st [.i .i64,.i .i64,.s .u64],.st [.i .i64,.i .i64,.s .u64]] solve.Fs.pre solve.Fs.out
def solve.Flat.pre:List Atom→Bool
  | [.i _r,.i _c,.l l]=>Af l
  | _=>false
def solve.Flat.out:List Atom→DV
  | [.i r,.i c,.l l]=>.tup [.bool ((Jn r c l).1),.int .i64 ((Jn r c l).2)]
  | _=>.undef
def solve.Flat.spec:Entry:=entry [.st [.i .i64,.i .i64,.s .u64]] solve.Flat.pre solve.Flat.out
def qr.D4.pre:List Atom→Bool
  | [.i _r,.i _c,.l l,.i _p,.i _q,.l m]=>Af l&&Af m
  | _=>false
def qr.D4.out:List Atom→DV
  | [.i r,.i c,.l l,.i p,.i q,.l m]=>.tup [.agg [.int .i64 ((Cm r c l p q m).1),.int .i64 ((Cm r c l p q m).2.1),.ints .fresh .u64 ((Cm r c l p q m).2.2.1)],.int .i64 ((Cm r c l p q m).2.2.2)]
  | _=>.undef
def qr.D4.spec:Entry:=entry [.st [.i .i64,.i .i64,.s .u64],.st [.i .i64,.i .i64,.s .u64]] qr.D4.pre qr.D4.out
def Dq.Finite.pre:List Atom→Bool
  | [.l x]=>Cs x
  | _=>false
def Dq.Finite.out:List Atom→DV
  | [.l x]=>.bool (Ey x)
  | _=>.undef
def Dq.Finite.spec:Entry:=entry [.s .u64] Dq.Finite.pre Dq.Finite.out
def Fm.Check.pre:List Atom→Bool
  | [.i _r,.i _c,.l l]=>Af l
  | _=>false
def Fm.Check.out:List Atom→DV
  | [.i r,.i c,.l l]=>.int .i64 (Bh r c l)
  | _=>.undef
def Fm.Check.spec:Entry:=entry [.st [.i .i64,.i .i64,.s .u64]] Fm.Check.pre Fm.Check.out
def B6.B5.down.pre:List Atom→Bool
  | [.i _n,.i _k]=>true
  | _=>false
def B6.B5.down.out:List Atom→DV
  | [.i _n,.i k]=>.int .i64 k
  | _=>.undef
def B6.B5.down.spec:Entry:=entry [.i .i64,.i .i64] B6.B5.down.pre B6.B5.down.out
def solve.Dc.pre:List Atom→Bool
  | [.i _i,.i _k]=>true
  | _=>false
def solve.Dc.out:List Atom→DV
  | [.i i,.i k]=>.bool (decide (k<i))
  | _=>.undef
def solve.Dc.spec:Entry:=entry [.i .i64,.i .i64] solve.Dc.pre solve.Dc.out
def solve.Al.Lo.pre:List Atom→Bool
  | [.i r,.i c,.l l,.i p,.i q,.l m,.i n]=>Li r c l p q m&&decide (n=r)
  | _=>false
def solve.Al.Lo.out:List Atom→DV
  | [.i r,.i c,.l l,.i _p,.i q,.l m,.i _n]=>.tup [.agg [.int .i64 ((Iv r q (Zz c l q m (Int.toNat r) (Int.toNat q))).1),.int .i64 ((Iv r q (Zz c l q m (Int.toNat r) (Int.toNat q))).2.1),.ints .fresh .u64 ((Iv r q (Zz c l q m (Int.toNat r) (Int.toNat q))).2.2.1)],.int .i64 ((Iv r q (Zz c l q m (Int.toNat r) (Int.toNat q))).2.2.2)]
  | _=>.undef
def solve.Al.Lo.spec:Entry:=entry [.st [.i .i64,.i .i64,.s .u64],.st [.i .i64,.i .i64,.s .u64],.fm 57 [.i .i64],.fn 58 []] solve.Al.Lo.pre solve.Al.Lo.out
def solve.Fx.pre:List Atom→Bool
  | [.i _r,.i _c,.l l,.i _p,.i _q,.l m]=>Af l&&Af m
  | _=>false
def solve.Fx.out:List Atom→DV
  | [.i r,.i c,.l l,.i p,.i q,.l m]=>.tup [.agg [.int .i64 ((Vx r c l p q m).1),.int .i64 ((Vx r c l p q m).2.1),.ints .fresh .u64 ((Vx r c l p q m).2.2.1)],.int .i64 ((Vx r c l p q m).2.2.2)]
  | _=>.undef
def solve.Fx.spec:Entry:=entry [.st [.i .i64,.i .i64,.s .u64],.st [.i .i64,.i .i64,.s .u64]] solve.Fx.pre solve.Fx.out
def root.E3.pre:List Atom→Bool
  | [.i m]=>Dd (0≤m∧m<9223372036854775808)
  | _=>false
def root.E3.out:List Atom→DV
  | [.i m]=>.tup [.int .u64 (O0 m),.bool (O1 m)]
  | _=>.undef
def root.E3.spec:Entry:=entry [.i .u64] root.E3.pre root.E3.out
def root.Sqrt.pre:List Atom→Bool
  | [.i a]=>Ag a
  | _=>false
def root.Sqrt.out:List Atom→DV
  | [.i a]=>.tup [.int .u64 (Gb a),.int .u8 (Lk a)]
  | _=>.undef
def root.Sqrt.spec:Entry:=entry [.i .u64] root.Sqrt.pre root.Sqrt.out
def Ac.Sqrt.pre:List Atom→Bool
  | [.i a]=>Ag a
  | _=>false
def Ac.Sqrt.out:List Atom→DV
  | [.i a]=>.int .u64 (Gb a)
  | _=>.undef
def Ac.Sqrt.spec:Entry:=entry [.i .u64] Ac.Sqrt.pre Ac.Sqrt.out
def compare.Qu.pre:List Atom→Bool
  | [.i a]=>Ag a
  | _=>false
def compare.Qu.out:List Atom→DV
  | [.i a]=>.int .i64 (Bk a)
  | _=>.undef
def compare.Qu.spec:Entry:=entry [.i .u64] compare.Qu.pre compare.Qu.out
def Ac.Norm.pre:List Atom→Bool
  | [.l x]=>Cs x&&Dd (List.length x≤64)
  | _=>false
def Ac.Norm.out:List Atom→DV
  | [.l x]=>.tup [.int .u64 (Dm x),.int .i64 (0:Int)]
  | _=>.undef
def Ac.Norm.spec:Entry:=entry [.s .u64] Ac.Norm.pre Ac.Norm.out
def Ai.B8.pre:List Atom→Bool
  | [.l x]=>Cs x
  | _=>false
def Ai.B8.out:List Atom→DV
  | [.l x]=>.bool (H3 x)
  | _=>.undef
def Ai.B8.spec:Entry:=entry [.s .u64] Ai.B8.pre Ai.B8.out
def Ai.lead.pre:List Atom→Bool
  | [.l x]=>Cs x
  | _=>false
def Ai.lead.out:List Atom→DV
  | [.l x]=>.int .u64 (Na x)
  | _=>.undef
def Ai.lead.spec:Entry:=entry [.s .u64] Ai.lead.pre Ai.lead.out
def Ai.Cb.pre:List Atom→Bool
  | [.l x,.i k]=>Cs x&&Dd (List.length x≤1000∧-2300≤k∧k≤2300)
  | _=>false
def Ai.Cb.out:List Atom→DV
  | [.l x,.i k]=>.ints .fresh .u64 (A5 x k)
  | _=>.undef
def Ai.Cb.spec:Entry:=entry [.s .u64,.i .i64] Ai.Cb.pre Ai.Cb.out
def Ai.D9.pre:List Atom→Bool
  | [.i _i]=>true
  | _=>false
def Ai.D9.out:List Atom→DV
  | [.i _i]=>.int .u64 (0:Int)
  | _=>.undef
def Ai.D9.spec:Entry:=entry [.i .i64] Ai.D9.pre Ai.D9.out
def Ai.D8.pre:List Atom→Bool
  | [.i i,.l y,.i d]=>(Dd (0≤i∧i<List.length y)&&Af y)&&Ag d
  | _=>false
def Ai.D8.out:List Atom→DV
  | [.i i,.l y,.i d]=>.int .u64 (Em (List.getD y (Int.toNat i) 0) d)
  | _=>.undef
def Ai.D8.spec:Entry:=entry [.i .i64,.cp [.s .u64],.cp [.i .u64]] Ai.D8.pre Ai.D8.out
def Ai.row.Zero.pre:List Atom→Bool
  | [.i n]=>Dd (1≤n∧n≤64)
  | _=>false
def Ai.row.Zero.out:List Atom→DV
  | [.i n]=>.ints .fresh .u64 (Hg (Int.toNat n) (fun _=>0))
  | _=>.undef
def Ai.row.Zero.spec:Entry:=entry [.i .i64,.fn 76 []] Ai.row.Zero.pre Ai.row.Zero.out
def Ai.row.Div.pre:List Atom→Bool
  | [.i n,.l y,.i d]=>(Dd (1≤n∧n≤64∧n=List.length y)&&Af y)&&Ag d
  | _=>false
def Ai.row.Div.out:List Atom→DV
  | [.i n,.l y,.i d]=>.ints .fresh .u64 (Hg (Int.toNat n) (fun j=>Em (List.getD y j 0) d))
  | _=>.undef
def Ai.row.Div.spec:Entry:=entry [.i .i64,.fn 82 [.cp [.s .u64],.cp [.i .u64]]] Ai.row.Div.pre Ai.row.Div.out
def Ai.Hs.pre:List Atom→Bool
  | [.l x]=>Cs x
  | _=>false
def Ai.Hs.out:List Atom→DV
  | [.l x]=>.tup [.ints .fresh .u64 ((Bs x).1),.int .u64 ((Bs x).2.1),.int .u64 ((Bs x).2.2.1),.int .i64 ((Bs x).2.2.2)]
  | _=>.undef
def Ai.Hs.spec:Entry:=entry [.s .u64] Ai.Hs.pre Ai.Hs.out
def Ai.Apply.pre:List Atom→Bool
  | [.i r,.i c,.l l,.i i,.i k,.l v,.i t]=>((Aw r c l&&J5 r c i k v)&&(Af l&&Af v))&&Ag t
  | _=>false
def Ai.Apply.out:List Atom→DV
  | [.i r,.i c,.l l,.i i,.i k,.l v,.i t]=>.tup [.agg [.int .i64 r,.int .i64 c,.ints (.own 114002 41) .u64 (E9 (Int.toNat r) (Int.toNat c) l i k v t)],.int .i64 (0:Int)]
  | _=>.undef
def Ai.Apply.spec:Entry:=entry [.st [.i .i64,.i .i64,.s .u64],.i .i64,.i .i64,.s .u64,.i .u64] Ai.Apply.pre Ai.Apply.out
def qr.down.pre:List Atom→Bool
  | [.i r,.i c,.l l]=>(Aw r c l&&Ey l)&&Af l
  | _=>false
def qr.down.out:List Atom→DV
  | [.i r,.i c,.l l]=>.tup [.agg [.int .i64 ((Ef r c l).1),.int .i64 ((Ef r c l).2.1),.ints .arg .u64 ((Ef r c l).2.2.1)],.recs .fresh 2 (Hk r c l),.int .i64 ((Ef r c l).2.2.2)]
  | _=>.undef
def qr.down.spec:Entry:=entry [.st [.i .i64,.i .i64,.s .u64]] qr.down.pre qr.down.out
def qr.Ch.pre:List Atom→Bool
  | [.i _r,.i _c,.l l]=>Af l
  | _=>false
def qr.Ch.out:List Atom→DV
  | [.i r,.i c,.l l]=>.tup [.agg [.int .i64 ((qX r c l).1),.int .i64 ((qX r c l).2.1),.ints .arg .u64 ((qX r c l).2.2.1)],.agg [.int .i64 ((rX r c l).1),.int .i64 ((rX r c l).2.1),.ints .arg .u64 ((rX r c l).2.2.1)],.int .i64 (Ei r c l)]
  | _=>.undef
def qr.Ch.spec:Entry:=entry [.st [.i .i64,.i .i64,.s .u64]] qr.Ch.pre qr.Ch.out
def qr.Iw.pre:List Atom→Bool
  | [.i _r,.i _c,.l l]=>Af l
  | _=>false
def qr.Iw.out:List Atom→DV
  | [.i r,.i c,.l l]=>.tup [.agg [.int .i64 ((Gj r c l).1),.int .i64 ((Gj r c l).2.1),.ints .fresh .u64 ((Gj r c l).2.2.1)],.agg [.int .i64 ((J8 r c l).1),.int .i64 ((J8 r c l).2.1),.ints .fresh .u64 ((J8 r c l).2.2.1)],.int .i64 (Ei r c l)]
  | _=>.undef
def qr.Iw.spec:Entry:=entry [.st [.i .i64,.i .i64,.s .u64]] qr.Iw.pre qr.Iw.out
def solve.Fj.pre:List Atom→Bool
  | [.i _r,.i _c,.l l,.i _p,.i _q,.l m]=>Af l&&Af m
  | _=>false
def solve.Fj.out:List Atom→DV
  | [.i r,.i c,.l l,.i p,.i q,.l m]=>.tup [.agg [.int .i64 ((Hl r c l p q m).1),.int .i64 ((Hl r c l p q m).2.1),.ints .fresh .u64 ((Hl r c l p q m).2.2.1)],.int .i64 ((Hl r c l p q m).2.2.2)]
  | _=>.undef
def solve.Fj.spec:Entry:=entry [.st [.i .i64,.i .i64,.s .u64],.st [.i .i64,.i .i64,.s .u64]] solve.Fj.pre solve.Fj.out
def Cd.Check.pre:List Atom→Bool
  | [.i _r,.i _c,.l l,.i _p,.i _q,.l m,.i _a,.i _b,.l g,.i _u,.i _v,.l h]=>L8 l m g h
  | _=>false
def Cd.Check.out:List Atom→DV
  | [.i r,.i c,.l l,.i p,.i q,.l m,.i a,.i b,.l g,.i u,.i v,.l h]=>.int .i64 (F9 r c l p q m a b g u v h)
  | _=>.undef
def Cd.Check.spec:Entry:=entry [.st [.i .i64,.i .i64,.s .u64,.i .i64,.i .i64,.s .u64,.i .i64,.i .i64,.s .u64,.i .i64,.i .i64,.s .u64]] Cd.Check.pre Cd.Check.out
def Cd.finite.pre:List Atom→Bool
  | [.i _r,.i _c,.l l,.i _e]=>Af l
  | _=>false
def Cd.finite.out:List Atom→DV
  | [.i r,.i c,.l l,.i e]=>.tup [.agg [.int .i64 ((J1 r c l e).1),.int .i64 ((J1 r c l e).2.1),.ints .arg .u64 ((J1 r c l e).2.2.1)],.int .i64 ((J1 r c l e).2.2.2)]
  | _=>.undef
def Cd.finite.spec:Entry:=entry [.st [.i .i64,.i .i64,.s .u64],.i .i64] Cd.finite.pre Cd.finite.out
def Cd.held.pre:List Atom→Bool
  | [.i r,.i c,.l l,.i p,.i q,.l m,.i a,.i b,.l g,.i u,.i v,.l h]=>L8 l m g h&&decide (F9 r c l p q m a b g u v h=0)
  | _=>false
def Cd.held.out:List Atom→DV
  | [.i _r,.i _c,.l _l,.i p,.i q,.l m,.i _a,.i _b,.l _g,.i u,.i v,.l h]=>.tup [.agg [.int .i64 ((hQ p q m).1),.int .i64 ((hQ p q m).2.1),.ints .arg .u64 ((hQ p q m).2.2.1)],.agg [.int .i64 ((hY p q m u v h).1),.int .i64 ((hY p q m u v h).2.1),.ints .fresh .u64 ((hY p q m u v h).2.2.1)],.int .i64 ((hY p q m u v h).2.2.2)]
  | _=>.undef
def Cd.held.spec:Entry:=entry [.st [.i .i64,.i .i64,.s .u64,.i .i64,.i .i64,.s .u64,.i .i64,.i .i64,.s .u64,.i .i64,.i .i64,.s .u64]] Cd.held.pre Cd.held.out
def Cd.Solve.pre:List Atom→Bool
  | [.i _r,.i _c,.l l,.i _p,.i _q,.l m,.i _a,.i _b,.l g,.i _u,.i _v,.l h]=>L8 l m g h
  | _=>false
def Cd.Solve.out:List Atom→DV
  | [.i r,.i c,.l l,.i p,.i q,.l m,.i a,.i b,.l g,.i u,.i v,.l h]=>.tup [.agg [.int .i64 ((Gq r c l p q m a b g u v h).1),.int .i64 ((Gq r c l p q m a b g u v h).2.1),.ints .arg .u64 ((Gq r c l p q m a b g u v h).2.2.1)],.int .i64 ((Gq r c l p q m a b g u v h).2.2.2)]
  | _=>.undef
def Cd.Solve.spec:Entry:=entry [.st [.i .i64,.i .i64,.s .u64,.i .i64,.i .i64,.s .u64,.i .i64,.i .i64,.s .u64,.i .i64,.i .i64,.s .u64]] Cd.Solve.pre Cd.Solve.out
def Fc.Check.pre:List Atom→Bool
  | [.i _r,.i _c,.l l,.i _p,.i _q,.l m,.i _a,.i _b,.l g,.i _u,.i _v,.l h]=>L8 l m g h
  | _=>false
def Fc.Check.out:List Atom→DV
  | [.i r,.i c,.l l,.i p,.i q,.l m,.i a,.i b,.l g,.i u,.i v,.l h]=>.int .i64 (F9 r c l p q m a b g u v h)
  | _=>.undef
def Fc.Check.spec:Entry:=entry [.st [.i .i64,.i .i64,.s .u64,.i .i64,.i .i64,.s .u64,.i .i64,.i .i64,.s .u64,.i .i64,.i .i64,.s .u64]] Fc.Check.pre Fc.Check.out
def Bf.one.pre:List Atom→Bool
  | [.i _b]=>true
  | _=>false
def Bf.one.out:List Atom→DV
  | [.i b]=>.agg [.int .i64 (1:Int),.int .i64 (1:Int),.ints .fresh .u64 ([b])]
  | _=>.undef
def Bf.one.spec:Entry:=entry [.i .u64] Bf.one.pre Bf.one.out
def Bf.Fq.pre:List Atom→Bool
  | []=>true
  | _=>false
def Bf.Fq.out:List Atom→DV
  | []=>.bool true
  | _=>.undef
def Bf.Fq.spec:Entry:=entry [] Bf.Fq.pre Bf.Fq.out
def Bf.task.pre:List Atom→Bool
  | [.i _r,.i _c,.l _l,.i _p,.i _q,.l _m,.i _a,.i _b,.l _g,.i _u,.i _v,.l _h]=>true
  | _=>false
def Bf.task.out:List Atom→DV
  | [.i r,.i c,.l l,.i p,.i q,.l m,.i a,.i b,.l g,.i u,.i v,.l h]=>.agg [.int .i64 r,.int .i64 c,.ints .arg .u64 l,.int .i64 p,.int .i64 q,.ints .arg .u64 m,.int .i64 a,.int .i64 b,.ints .arg .u64 g,.int .i64 u,.int .i64 v,.ints .arg .u64 h]
  | _=>.undef
def Bf.task.spec:Entry:=entry [.st [.i .i64,.i .i64,.s .u64,.i .i64,.i .i64,.s .u64,.i .i64,.i .i64,.s .u64,.i .i64,.i .i64,.s .u64]] Bf.task.pre Bf.task.out
def Bf.Ce.pre:List Atom→Bool
  | [.i _r,.i _c,.l l,.i _p,.i _q,.l m,.i _a,.i _b,.l g,.i _u,.i _v,.l h]=>L8 l m g h
  | _=>false
def Bf.Ce.out:List Atom→DV
  | [.i _r,.i _c,.l _l,.i _p,.i _q,.l _m,.i _a,.i _b,.l _g,.i _u,.i _v,.l _h]=>.bool true
  | _=>.undef
def Bf.Ce.spec:Entry:=entry [.st [.i .i64,.i .i64,.s .u64,.i .i64,.i .i64,.s .u64,.i .i64,.i .i64,.s .u64,.i .i64,.i .i64,.s .u64]] Bf.Ce.pre Bf.Ce.out
def Bu.Ia.pre:List Atom→Bool
  | [.i x]=>Ag x
  | _=>false
def Bu.Ia.out:List Atom→DV
  | [.i x]=>.int .i64 (Di x)
  | _=>.undef
def Bu.Ia.spec:Entry:=entry [.i .u64] Bu.Ia.pre Bu.Ia.out
end Go.Proofs.S1
end
