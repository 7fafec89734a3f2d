/- Spe of the verified evaluator and its use for this seat (of my texts S1Env, S1Specs). -/
import Derived.Test.YthopmgndjnnpnaaFlo
import Derived.Test.YthopmgndjnnpnaaProg
import Derived.Test.YthopmgndjnnpnaaMul

/- The seat's types and its environment. -/
namespace Go.Proofs.S1
open Go Go.Den Go.Proofs
def tys : List (Nat × TI) := [
  (2, ⟨1, 8, (.int .i64), [.int .i64 (0 : Int)]⟩),
  (3, ⟨1, 8, (.int .i64), [.int .i64 (0 : Int)]⟩),
  (4, ⟨1, 1, .bool, [.bool false]⟩),
  (5, ⟨1, 1, (.int .u8), [.int .u8 (0 : Int)]⟩),
  (22, ⟨1, 8, (.int .u64), [.int .u64 (0 : Int)]⟩),
  (23, ⟨1, 8, (.int .u64), [.int .u64 (0 : Int)]⟩),
  (24, ⟨1, 1, (.int .u8), [.int .u8 (0 : Int)]⟩),
  (30, ⟨1, 24, (.slice 84), [.nil]⟩),
  (32, ⟨2, 32, (.struct [(0, 4), (1, 30)]), [.bool false, .nil]⟩),
  (34, ⟨3, 40, (.struct [(0, 32), (2, 3)]), [.bool false, .nil, .int .i64 (0 : Int)]⟩),
  (41, ⟨1, 8, .fl, [.fl 0]⟩),
  (46, ⟨1, 24, (.slice 23), [.nil]⟩),
  (56, ⟨1, 8, (.int .u64), [.int .u64 (0 : Int)]⟩),
  (76, ⟨3, 24, (.struct [(0, 4), (1, 3), (2, 22)]), [.bool false, .int .i64 (0 : Int), .int .u64 (0 : Int)]⟩),
  (84, ⟨1, 4, (.int .u32), [.int .u32 (0 : Int)]⟩)]
theorem ty2 : TyFact Try.prog 2 ⟨1, 8, (.int .i64), [.int .i64 (0 : Int)]⟩ := tyFact_mk (z := .int .i64 (0 : Int)) (by kernel_rfl) (fun c w => by simp [LRel, VRel, Value.cells]) rfl (by simp [Value.cells, Value.oneCell']) (by simp only [descOk]; exact Try.underlying2)
theorem ty3 : TyFact Try.prog 3 ⟨1, 8, (.int .i64), [.int .i64 (0 : Int)]⟩ := tyFact_mk (z := .int .i64 (0 : Int)) (by kernel_rfl) (fun c w => by simp [LRel, VRel, Value.cells]) rfl (by simp [Value.cells, Value.oneCell']) (by simp only [descOk]; exact Try.underlying3)
theorem ty4 : TyFact Try.prog 4 ⟨1, 1, .bool, [.bool false]⟩ := tyFact_mk (z := .bool false) (by kernel_rfl) (fun c w => by simp [LRel, VRel, Value.cells]) rfl (by simp [Value.cells, Value.oneCell']) (by simp only [descOk]; exact Try.underlying4)
theorem ty5 : TyFact Try.prog 5 ⟨1, 1, (.int .u8), [.int .u8 (0 : Int)]⟩ := tyFact_mk (z := .int .u8 (0 : Int)) (by kernel_rfl) (fun c w => by simp [LRel, VRel, Value.cells]) rfl (by simp [Value.cells, Value.oneCell']) (by simp only [descOk]; exact Try.underlying5)
theorem ty22 : TyFact Try.prog 22 ⟨1, 8, (.int .u64), [.int .u64 (0 : Int)]⟩ := tyFact_mk (z := .int .u64 (0 : Int)) (by kernel_rfl) (fun c w => by simp [LRel, VRel, Value.cells]) rfl (by simp [Value.cells, Value.oneCell']) (by simp only [descOk]; exact Try.underlying22)
theorem ty23 : TyFact Try.prog 23 ⟨1, 8, (.int .u64), [.int .u64 (0 : Int)]⟩ := tyFact_mk (z := .int .u64 (0 : Int)) (by kernel_rfl) (fun c w => by simp [LRel, VRel, Value.cells]) rfl (by simp [Value.cells, Value.oneCell']) (by simp only [descOk]; exact Try.underlying23)
theorem ty24 : TyFact Try.prog 24 ⟨1, 1, (.int .u8), [.int .u8 (0 : Int)]⟩ := tyFact_mk (z := .int .u8 (0 : Int)) (by kernel_rfl) (fun c w => by simp [LRel, VRel, Value.cells]) rfl (by simp [Value.cells, Value.oneCell']) (by simp only [descOk]; exact Try.underlying24)
theorem ty30 : TyFact Try.prog 30 ⟨1, 24, (.slice 84), [.nil]⟩ := tyFact_mk (z := .slice none 0 0) (by kernel_rfl) (fun c w => by simp [LRel, VRel, Value.cells]) rfl (by simp [Value.cells, Value.oneCell']) (by simp only [descOk]; exact Try.underlying30)
theorem ty32 : TyFact Try.prog 32 ⟨2, 32, (.struct [(0, 4), (1, 30)]), [.bool false, .nil]⟩ := tyFact_mk (z := .agg #[.bool false, .slice none 0 0]) (by kernel_rfl) (fun c w => by simp [LRel, VRel, Value.cells]) rfl (by simp [Value.cells, Value.oneCell']) (by simp only [descOk]; exact ⟨_, Try.underlying32, by kernel_rfl⟩)
theorem ty34 : TyFact Try.prog 34 ⟨3, 40, (.struct [(0, 32), (2, 3)]), [.bool false, .nil, .int .i64 (0 : Int)]⟩ := tyFact_mk (z := .agg #[.bool false, .slice none 0 0, .int .i64 (0 : Int)]) (by kernel_rfl) (fun c w => by simp [LRel, VRel, Value.cells]) rfl (by simp [Value.cells, Value.oneCell']) (by simp only [descOk]; exact ⟨_, Try.underlying34, by kernel_rfl⟩)
theorem ty41 : TyFact Try.prog 41 ⟨1, 8, .fl, [.fl 0]⟩ := tyFact_mk (z := .float .f64 0) (by kernel_rfl) (fun c w => by simp [LRel, VRel, Value.cells, FEq]) rfl (by simp [Value.cells, Value.oneCell']) (by simp only [descOk]; exact Try.underlying41)
theorem ty46 : TyFact Try.prog 46 ⟨1, 24, (.slice 23), [.nil]⟩ := tyFact_mk (z := .slice none 0 0) (by kernel_rfl) (fun c w => by simp [LRel, VRel, Value.cells]) rfl (by simp [Value.cells, Value.oneCell']) (by simp only [descOk]; exact Try.underlying46)
theorem ty56 : TyFact Try.prog 56 ⟨1, 8, (.int .u64), [.int .u64 (0 : Int)]⟩ := tyFact_mk (z := .int .u64 (0 : Int)) (by kernel_rfl) (fun c w => by simp [LRel, VRel, Value.cells]) rfl (by simp [Value.cells, Value.oneCell']) (by simp only [descOk]; exact Try.underlying56)
theorem ty76 : TyFact Try.prog 76 ⟨3, 24, (.struct [(0, 4), (1, 3), (2, 22)]), [.bool false, .int .i64 (0 : Int), .int .u64 (0 : Int)]⟩ := tyFact_mk (z := .agg #[.bool false, .int .i64 (0 : Int), .int .u64 (0 : Int)]) (by kernel_rfl) (fun c w => by simp [LRel, VRel, Value.cells]) rfl (by simp [Value.cells, Value.oneCell']) (by simp only [descOk]; exact ⟨_, Try.underlying76, by kernel_rfl⟩)
theorem ty84 : TyFact Try.prog 84 ⟨1, 4, (.int .u32), [.int .u32 (0 : Int)]⟩ := tyFact_mk (z := .int .u32 (0 : Int)) (by kernel_rfl) (fun c w => by simp [LRel, VRel, Value.cells]) rfl (by simp [Value.cells, Value.oneCell']) (by simp only [descOk]; exact Try.underlying84)
theorem tys_ok : TyFacts Try.prog tys := .cons ty2 <| .cons ty3 <| .cons ty4 <| .cons ty5 <| .cons ty22 <| .cons ty23 <| .cons ty24 <| .cons ty30 <| .cons ty32 <| .cons ty34 <| .cons ty41 <| .cons ty46 <| .cons ty56 <| .cons ty76 <| .cons ty84 <| .nil
def exts : List (Nat × Ext) := [(31, .bits), (61, .frombits)]
def extOf : List (Nat × Ext) → Nat → Option Ext
  | [], _ => none
  | (m, e) :: l, n => bif Nat.beq m n then some e else extOf l n
theorem ext31 (args : Array Value) (w : World) : (callFunc 31 args).run Try.prog w = ((extSem .bits args).run Try.prog w).andThen fun v w' => .ok (.value v) w' := run_callFunc_extern (e := Extern.MathFloatBits.float64bits) Try.func31 (by kernel_rfl) (by kernel_rfl) (by kernel_rfl) (by kernel_rfl) args w
theorem ext61 (args : Array Value) (w : World) : (callFunc 61 args).run Try.prog w = ((extSem .frombits args).run Try.prog w).andThen fun v w' => .ok (.value v) w' := run_callFunc_extern (e := Extern.MathFloatBits.float64frombits) Try.func61 (by kernel_rfl) (by kernel_rfl) (by kernel_rfl) (by kernel_rfl) args w
def eqts : List Nat := [76]
theorem eq76 : EqFact Try.prog 76 ⟨3, 24, (.struct [(0, 4), (1, 3), (2, 22)]), [.bool false, .int .i64 (0 : Int), .int .u64 (0 : Int)]⟩ where
  guard := by kernel_rfl
  eq := by
    intro w c x y xs ys hx hy hlx hly
    obtain ⟨a0, x1, rfl, hx1⟩ := shape_bool hx
    obtain ⟨a1, x2, rfl, hx2⟩ := shape_int hx1
    obtain ⟨a2, x3, rfl, hx3⟩ := shape_int hx2
    obtain rfl := shape_nil hx3
    obtain ⟨b0, y1, rfl, hy1⟩ := shape_bool hy
    obtain ⟨b1, y2, rfl, hy2⟩ := shape_int hy1
    obtain ⟨b2, y3, rfl, hy3⟩ := shape_int hy2
    obtain rfl := shape_nil hy3
    obtain ⟨xs⟩ := xs
    obtain ⟨ys⟩ := ys
    simp only [LRel.cons_iff, LRel.nil_iff, VRel] at hlx hly
    obtain ⟨_, _, rfl, rfl, _, _, rfl, rfl, _, _, rfl, rfl, rfl⟩ := hlx
    obtain ⟨_, _, rfl, rfl, _, _, rfl, rfl, _, _, rfl, rfl, rfl⟩ := hly
    have hu : Try.prog.underlying 76 = some (.struct (Try.prog.fieldsOf 76)) := by kernel_rfl
    have hp : Try.prog.stoodInHeld 76 = false := by kernel_rfl
    unfold Op.equal Op.maxDepth
    rw [run_equalIn_struct w 9999 76 _ _ hu hp]
    have hfs : Try.prog.fieldsOf 76 = (match Try.prog.underlying 76 with | some (.struct fs) => fs | _ => #[]) := rfl
    rw [hfs, Try.underlying76]
    simp [Op.eqFields, run_part_one w ty3 rfl, run_part_one w ty4 rfl, run_part_one w ty22 rfl, run_equalIn_int w _ _ _ _ _ _ Try.underlying3, run_equalIn_bool w _ _ _ _ Try.underlying4, run_equalIn_int w _ _ _ _ _ _ Try.underlying22, eqAll, eqScalar]
    by_cases h0 : a0 = b0 <;> by_cases h1 : a1 = b1 <;> by_cases h2 : a2 = b2 <;> simp [h0, h1, h2]
def envOf (tab : Nat → Option Entry) (adopt : Nat → Bool) (hint : Nat → Option LoopHint) (live : Nat → Option (List Nat)) : Env := { ty := tyOf tys, tab := tab, ext := extOf exts, eqs := fun t => memB t eqts, adopt := adopt, live := live, hint := hint }
theorem env_ok {l : List (Nat × Entry)} (h : Knowns Try.prog l) (adopt : Nat → Bool) (hint : Nat → Option LoopHint) (live : Nat → Option (List Nat)) : EnvOk Try.prog (envOf (tabOf l) adopt hint live) where
  ty := fun t ti ht => tys_ok.get ht
  tab := fun g e hg => (h.get hg).meets
  call := fun g e hg => (h.get hg).call
  ext := by
    intro g x hx args w
    simp only [envOf, exts, extOf] at hx
    cases hb : Nat.beq 31 g with
    | true =>
      rw [hb] at hx
      cases hx
      obtain rfl := Nat.eq_of_beq_eq_true hb
      exact ext31 args w
    | false =>
    rw [hb, cond_false] at hx
    clear hb
    cases hb : Nat.beq 61 g with
    | true =>
      rw [hb] at hx
      cases hx
      obtain rfl := Nat.eq_of_beq_eq_true hb
      exact ext61 args w
    | false =>
    rw [hb, cond_false] at hx
    clear hb
    cases hx
  eqs := by
    intro t ti ht hti
    simp only [envOf, eqts, memB] at ht hti
    cases hb : Nat.beq t 76 with
    | true =>
      obtain rfl := Nat.eq_of_beq_eq_true hb
      cases hti
      exact eq76
    | false =>
    rw [hb, cond_false] at ht
    clear hb
    cases ht
  mixed := by kernel_rfl
end Go.Proofs.S1

/- What each function is shown to answer. -/
namespace Go.Proofs.S1
open Go Go.Den Go.Rnd
noncomputable def soft.Split.pre : List Atom → Bool
  | [.i x] => inU64 x
  | _ => false
def soft.Split.out : List Atom → DV
  | [.i x] => .agg [.bool (negI x), .int .i64 (powI x), .int .u64 (fracI x)]
  | _ => .undef
noncomputable def soft.Split.spec : Entry := entry [.i .u64] soft.Split.pre soft.Split.out

noncomputable def soft.Kind.pre : List Atom → Bool
  | [.i x] => inU64 x
  | _ => false
def soft.Kind.out : List Atom → DV
  | [.i x] => .int .i64 (kindI x)
  | _ => .undef
noncomputable def soft.Kind.spec : Entry := entry [.i .u64] soft.Kind.pre soft.Kind.out

noncomputable def soft.Sign.pre : List Atom → Bool
  | [.i x] => inU64 x
  | _ => false
def soft.Sign.out : List Atom → DV
  | [.i x] => .bool (negI x)
  | _ => .undef
noncomputable def soft.Sign.spec : Entry := entry [.i .u64] soft.Sign.pre soft.Sign.out

noncomputable def soft.Finite.pre : List Atom → Bool
  | [.i x] => inU64 x
  | _ => false
def soft.Finite.out : List Atom → DV
  | [.i x] => .bool (finI x)
  | _ => .undef
noncomputable def soft.Finite.spec : Entry := entry [.i .u64] soft.Finite.pre soft.Finite.out

noncomputable def soft.Minus.pre : List Atom → Bool
  | [.i x] => inU64 x
  | _ => false
def soft.Minus.out : List Atom → DV
  | [.i x] => .int .u64 (minusI x)
  | _ => .undef
noncomputable def soft.Minus.spec : Entry := entry [.i .u64] soft.Minus.pre soft.Minus.out

noncomputable def soft.Parts.pre : List Atom → Bool
  | [.i x] => inU64 x
  | _ => false
def soft.Parts.out : List Atom → DV
  | [.i x] => .tup [.int .u64 (partMI x), .int .i64 (partEI x)]
  | _ => .undef
noncomputable def soft.Parts.spec : Entry := entry [.i .u64] soft.Parts.pre soft.Parts.out

def soft.Pack.mu : List Atom → Nat
  | [.b _n, .i m, .i e] => packMu m e
  | _ => 0
noncomputable def soft.Pack.pre : List Atom → Bool
  | [.b _n, .i m, .i e] => packPre m e
  | _ => false
def soft.Pack.out : List Atom → DV
  | [.b n, .i m, .i e] => .int .u64 (packI n m e)
  | _ => .undef
noncomputable def soft.Pack.spec : Entry := entry [.b, .i .u64, .i .i64] soft.Pack.pre soft.Pack.out

noncomputable def soft.Near.pre : List Atom → Bool
  | [.b _n, .i m, .i e, .b r] => nearPre m e r
  | _ => false
def soft.Near.out : List Atom → DV
  | [.b n, .i m, .i e, .b r] => .tup [.int .u64 (nearBI n m e r), .int .u8 (nearFI n m e r)]
  | _ => .undef
noncomputable def soft.Near.spec : Entry := entry [.b, .i .u64, .i .i64, .b] soft.Near.pre soft.Near.out

noncomputable def sum.right.pre : List Atom → Bool
  | [.i m, .i d] => inU64 m && cdec (0 ≤ d ∧ d < 1000000)
  | _ => false
def sum.right.out : List Atom → DV
  | [.i m, .i d] => .int .u64 (rightI m d)
  | _ => .undef
noncomputable def sum.right.spec : Entry := entry [.i .u64, .i .i64] sum.right.pre sum.right.out

noncomputable def sum.special.pre : List Atom → Bool
  | [.i a, .i b] => (inU64 a && inU64 b) && (!(finI a) || !(finI b))
  | _ => false
def sum.special.out : List Atom → DV
  | [.i a, .i b] => .tup [.int .u64 (addBI a b), .int .u8 (addFI a b)]
  | _ => .undef
noncomputable def sum.special.spec : Entry := entry [.i .u64, .i .u64] sum.special.pre sum.special.out

noncomputable def sum.Add.pre : List Atom → Bool
  | [.i a, .i b] => inU64 a && inU64 b
  | _ => false
def sum.Add.out : List Atom → DV
  | [.i a, .i b] => .tup [.int .u64 (addBI a b), .int .u8 (addFI a b)]
  | _ => .undef
noncomputable def sum.Add.spec : Entry := entry [.i .u64, .i .u64] sum.Add.pre sum.Add.out

noncomputable def sum.Sub.pre : List Atom → Bool
  | [.i a, .i b] => inU64 a && inU64 b
  | _ => false
def sum.Sub.out : List Atom → DV
  | [.i a, .i b] => .tup [.int .u64 (subBI a b), .int .u8 (subFI a b)]
  | _ => .undef
noncomputable def sum.Sub.spec : Entry := entry [.i .u64, .i .u64] sum.Sub.pre sum.Sub.out

noncomputable def sum.All.pre : List Atom → Bool
  | [.l l] => okU64 l
  | _ => false
def sum.All.out : List Atom → DV
  | [.l l] => .tup [.int .u64 (allBI l), .int .u8 (allFI l)]
  | _ => .undef
noncomputable def sum.All.spec : Entry := entry [.s .u64] sum.All.pre sum.All.out

noncomputable def ref04.Neg.pre : List Atom → Bool
  | [.i x] => inU64 x
  | _ => false
def ref04.Neg.out : List Atom → DV
  | [.i x] => .bool (negI x)
  | _ => .undef
noncomputable def ref04.Neg.spec : Entry := entry [.i .u64] ref04.Neg.pre ref04.Neg.out

noncomputable def ref04.Power.pre : List Atom → Bool
  | [.i x] => natI x
  | _ => false
def ref04.Power.out : List Atom → DV
  | [.i x] => .int .i64 (powI x)
  | _ => .undef
noncomputable def ref04.Power.spec : Entry := entry [.i .u64] ref04.Power.pre ref04.Power.out

noncomputable def ref04.Frac.pre : List Atom → Bool
  | [.i x] => natI x
  | _ => false
def ref04.Frac.out : List Atom → DV
  | [.i x] => .int .u64 (fracI x)
  | _ => .undef
noncomputable def ref04.Frac.spec : Entry := entry [.i .u64] ref04.Frac.pre ref04.Frac.out

noncomputable def ref04.Kind.pre : List Atom → Bool
  | [.i x] => natI x
  | _ => false
def ref04.Kind.out : List Atom → DV
  | [.i x] => .int .i64 (kindI x)
  | _ => .undef
noncomputable def ref04.Kind.spec : Entry := entry [.i .u64] ref04.Kind.pre ref04.Kind.out

noncomputable def ref04.Finite.pre : List Atom → Bool
  | [.i x] => inU64 x
  | _ => false
def ref04.Finite.out : List Atom → DV
  | [.i x] => .bool (finI x)
  | _ => .undef
noncomputable def ref04.Finite.spec : Entry := entry [.i .u64] ref04.Finite.pre ref04.Finite.out

noncomputable def ref04.Minus.pre : List Atom → Bool
  | [.i x] => inU64 x
  | _ => false
def ref04.Minus.out : List Atom → DV
  | [.i x] => .int .u64 (minusI x)
  | _ => .undef
noncomputable def ref04.Minus.spec : Entry := entry [.i .u64] ref04.Minus.pre ref04.Minus.out

noncomputable def ref05.Canon.pre : List Atom → Bool
  | [.i x] => natI x
  | _ => false
def ref05.Canon.out : List Atom → DV
  | [.i x] => .int .u64 (canonI x)
  | _ => .undef
noncomputable def ref05.Canon.spec : Entry := entry [.i .u64] ref05.Canon.pre ref05.Canon.out

noncomputable def ref05.Canon.nb.pre : List Atom → Bool
  | [.f _x] => true
  | _ => false
def ref05.Canon.nb.out : List Atom → DV
  | [.f x] => .int .u64 (canonNI x)
  | _ => .undef
noncomputable def ref05.Canon.nb.spec : Entry := entry [.nb] ref05.Canon.nb.pre ref05.Canon.nb.out

noncomputable def ref01.limb.pre : List Atom → Bool
  | [.l l, .i _i] => okL l
  | _ => false
def ref01.limb.out : List Atom → DV
  | [.l l, .i i] => .int .u64 (limbAt l i)
  | _ => .undef
noncomputable def ref01.limb.spec : Entry := entry [.s .u32, .i .i64] ref01.limb.pre ref01.limb.out

noncomputable def ref01.Made.pre : List Atom → Bool
  | [.b _n, .l l] => okL l
  | _ => false
def ref01.Made.out : List Atom → DV
  | [.b n, .l l] => .agg [.bool (negW (wv n l)), .ints .arg .u32 (limbsI (wv n l))]
  | _ => .undef
noncomputable def ref01.Made.spec : Entry := entry [.b, .s .u32] ref01.Made.pre ref01.Made.out

noncomputable def ref01.Of.pre : List Atom → Bool
  | [.i n] => inI64 n
  | _ => false
def ref01.Of.out : List Atom → DV
  | [.i n] => .agg [.bool (negW (n)), .ints .arg .u32 (limbsI (n))]
  | _ => .undef
noncomputable def ref01.Of.spec : Entry := entry [.i .i64] ref01.Of.pre ref01.Of.out

noncomputable def ref01.More.pre : List Atom → Bool
  | [.l a, .l b] => okL a && okL b
  | _ => false
def ref01.More.out : List Atom → DV
  | [.l a, .l b] => .int .i64 (cmpN (valL a) (valL b))
  | _ => .undef
noncomputable def ref01.More.spec : Entry := entry [.s .u32, .s .u32] ref01.More.pre ref01.More.out

noncomputable def ref01.plus.pre : List Atom → Bool
  | [.l a, .l b] => okL a && okL b
  | _ => false
def ref01.plus.out : List Atom → DV
  | [.l a, .l b] => .ints .arg .u32 (plusL a b)
  | _ => .undef
noncomputable def ref01.plus.spec : Entry := entry [.s .u32, .s .u32] ref01.plus.pre ref01.plus.out

noncomputable def ref01.minus.pre : List Atom → Bool
  | [.l a, .l b] => (okL a && okL b) && leL b a
  | _ => false
def ref01.minus.out : List Atom → DV
  | [.l a, .l b] => .ints .arg .u32 (minusL a b)
  | _ => .undef
noncomputable def ref01.minus.spec : Entry := entry [.s .u32, .s .u32] ref01.minus.pre ref01.minus.out

noncomputable def ref01.Add.pre : List Atom → Bool
  | [.b n, .l a, .b m, .l b] => okW n a && okW m b
  | _ => false
def ref01.Add.out : List Atom → DV
  | [.b n, .l a, .b m, .l b] => .agg [.bool (negW (wv n a + wv m b)), .ints .arg .u32 (limbsI (wv n a + wv m b))]
  | _ => .undef
noncomputable def ref01.Add.spec : Entry := entry [.st [.b, .s .u32], .st [.b, .s .u32]] ref01.Add.pre ref01.Add.out

noncomputable def ref01.Neg.pre : List Atom → Bool
  | [.b n, .l a] => okW n a
  | _ => false
def ref01.Neg.out : List Atom → DV
  | [.b n, .l a] => .agg [.bool (negW (- wv n a)), .ints .arg .u32 (limbsI (- wv n a))]
  | _ => .undef
noncomputable def ref01.Neg.spec : Entry := entry [.st [.b, .s .u32]] ref01.Neg.pre ref01.Neg.out

noncomputable def ref01.Sub.pre : List Atom → Bool
  | [.b n, .l a, .b m, .l b] => okW n a && okW m b
  | _ => false
def ref01.Sub.out : List Atom → DV
  | [.b n, .l a, .b m, .l b] => .agg [.bool (negW (wv n a - wv m b)), .ints .arg .u32 (limbsI (wv n a - wv m b))]
  | _ => .undef
noncomputable def ref01.Sub.spec : Entry := entry [.st [.b, .s .u32], .st [.b, .s .u32]] ref01.Sub.pre ref01.Sub.out

noncomputable def ref01.Double.pre : List Atom → Bool
  | [.b n, .l a] => okW n a
  | _ => false
def ref01.Double.out : List Atom → DV
  | [.b n, .l a] => .agg [.bool (negW (2 * wv n a)), .ints .arg .u32 (limbsI (2 * wv n a))]
  | _ => .undef
noncomputable def ref01.Double.spec : Entry := entry [.st [.b, .s .u32]] ref01.Double.pre ref01.Double.out

noncomputable def ref01.Half.pre : List Atom → Bool
  | [.b n, .l a] => okW n a
  | _ => false
def ref01.Half.out : List Atom → DV
  | [.b n, .l a] => .agg [.bool (negW (shR (wv n a) 1)), .ints .arg .u32 (limbsI (shR (wv n a) 1))]
  | _ => .undef
noncomputable def ref01.Half.spec : Entry := entry [.st [.b, .s .u32]] ref01.Half.pre ref01.Half.out

noncomputable def ref01.Shift.pre : List Atom → Bool
  | [.b n, .l a, .i k] => okV n a && okSh k
  | _ => false
def ref01.Shift.out : List Atom → DV
  | [.b n, .l a, .i k] => .agg [.bool (negW (shW (wv n a) k)), .ints .arg .u32 (limbsI (shW (wv n a) k))]
  | _ => .undef
noncomputable def ref01.Shift.spec : Entry := entry [.st [.b, .s .u32], .i .i64] ref01.Shift.pre ref01.Shift.out

noncomputable def ref01.Compare.pre : List Atom → Bool
  | [.b n, .l a, .b m, .l b] => okW n a && okW m b
  | _ => false
def ref01.Compare.out : List Atom → DV
  | [.b n, .l a, .b m, .l b] => .int .i64 (cmpZ (wv n a) (wv m b))
  | _ => .undef
noncomputable def ref01.Compare.spec : Entry := entry [.st [.b, .s .u32], .st [.b, .s .u32]] ref01.Compare.pre ref01.Compare.out

noncomputable def ref01.Len.pre : List Atom → Bool
  | [.b n, .l a] => okW n a
  | _ => false
def ref01.Len.out : List Atom → DV
  | [.b n, .l a] => .int .i64 (lenI (wv n a))
  | _ => .undef
noncomputable def ref01.Len.spec : Entry := entry [.st [.b, .s .u32]] ref01.Len.pre ref01.Len.out

noncomputable def ref01.Odd.pre : List Atom → Bool
  | [.b n, .l a] => okW n a
  | _ => false
def ref01.Odd.out : List Atom → DV
  | [.b n, .l a] => .bool (oddB (wv n a))
  | _ => .undef
noncomputable def ref01.Odd.spec : Entry := entry [.st [.b, .s .u32]] ref01.Odd.pre ref01.Odd.out

noncomputable def ref01.Same.pre : List Atom → Bool
  | [.b n, .l a, .b m, .l b] => okW n a && okW m b
  | _ => false
def ref01.Same.out : List Atom → DV
  | [.b n, .l a, .b m, .l b] => .bool (sameI (wv n a) (wv m b))
  | _ => .undef
noncomputable def ref01.Same.spec : Entry := entry [.st [.b, .s .u32], .st [.b, .s .u32]] ref01.Same.pre ref01.Same.out

noncomputable def ref02.Of.pre : List Atom → Bool
  | [.b n, .l a, .i e] => okW n a && okE2 e
  | _ => false
def ref02.Of.out : List Atom → DV
  | [.b n, .l a, .i e] => .agg [.bool (negW (mD (wv n a))), .ints .arg .u32 (limbsI (mD (wv n a))), .int .i64 (eD (wv n a) e)]
  | _ => .undef
noncomputable def ref02.Of.spec : Entry := entry [.st [.b, .s .u32], .i .i64] ref02.Of.pre ref02.Of.out

noncomputable def ref02.Neg.pre : List Atom → Bool
  | [.b n, .l a, .i _e] => okW n a
  | _ => false
def ref02.Neg.out : List Atom → DV
  | [.b n, .l a, .i e] => .agg [.bool (negW (- wv n a)), .ints .arg .u32 (limbsI (- wv n a)), .int .i64 e]
  | _ => .undef
noncomputable def ref02.Neg.spec : Entry := entry [.st [.b, .s .u32, .i .i64]] ref02.Neg.pre ref02.Neg.out

noncomputable def ref02.Low.pre : List Atom → Bool
  | [.b n, .l a, .i _e, .b m, .l b, .i _f] => okW n a && okW m b
  | _ => false
def ref02.Low.out : List Atom → DV
  | [.b n, .l a, .i e, .b m, .l b, .i f] => .int .i64 (lowI (wv n a) e (wv m b) f)
  | _ => .undef
noncomputable def ref02.Low.spec : Entry := entry [.st [.b, .s .u32, .i .i64], .st [.b, .s .u32, .i .i64]] ref02.Low.pre ref02.Low.out

noncomputable def ref02.Level.pre : List Atom → Bool
  | [.b n, .l a, .i e, .i f] => okV n a && okLv (wv n a) e f
  | _ => false
def ref02.Level.out : List Atom → DV
  | [.b n, .l a, .i e, .i f] => .agg [.bool (negW (shW (wv n a) (e - f))), .ints .arg .u32 (limbsI (shW (wv n a) (e - f)))]
  | _ => .undef
noncomputable def ref02.Level.spec : Entry := entry [.st [.b, .s .u32, .i .i64], .i .i64] ref02.Level.pre ref02.Level.out

noncomputable def ref02.Add.pre : List Atom → Bool
  | [.b n, .l a, .i e, .b m, .l b, .i f] => ((okV n a && okV m b) && okE e) && okE f
  | _ => false
def ref02.Add.out : List Atom → DV
  | [.b n, .l a, .i e, .b m, .l b, .i f] => .agg [.bool (negW (addM (wv n a) e (wv m b) f)), .ints .arg .u32 (limbsI (addM (wv n a) e (wv m b) f)), .int .i64 (addE (wv n a) e (wv m b) f)]
  | _ => .undef
noncomputable def ref02.Add.spec : Entry := entry [.st [.b, .s .u32, .i .i64], .st [.b, .s .u32, .i .i64]] ref02.Add.pre ref02.Add.out

noncomputable def ref02.Sub.pre : List Atom → Bool
  | [.b n, .l a, .i e, .b m, .l b, .i f] => ((okV n a && okV m b) && okE e) && okE f
  | _ => false
def ref02.Sub.out : List Atom → DV
  | [.b n, .l a, .i e, .b m, .l b, .i f] => .agg [.bool (negW (addM (wv n a) e (- wv m b) f)), .ints .arg .u32 (limbsI (addM (wv n a) e (- wv m b) f)), .int .i64 (addE (wv n a) e (- wv m b) f)]
  | _ => .undef
noncomputable def ref02.Sub.spec : Entry := entry [.st [.b, .s .u32, .i .i64], .st [.b, .s .u32, .i .i64]] ref02.Sub.pre ref02.Sub.out

noncomputable def ref02.Scale.pre : List Atom → Bool
  | [.b n, .l a, .i e, .i k] => (okW n a && okE e) && okE k
  | _ => false
def ref02.Scale.out : List Atom → DV
  | [.b n, .l a, .i e, .i k] => .agg [.bool (negW (mD (wv n a))), .ints .arg .u32 (limbsI (mD (wv n a))), .int .i64 (eD (wv n a) (e + k))]
  | _ => .undef
noncomputable def ref02.Scale.spec : Entry := entry [.st [.b, .s .u32, .i .i64], .i .i64] ref02.Scale.pre ref02.Scale.out

noncomputable def ref02.Top.pre : List Atom → Bool
  | [.b n, .l a, .i e] => okW n a && okE e
  | _ => false
def ref02.Top.out : List Atom → DV
  | [.b n, .l a, .i e] => .int .i64 (topI (wv n a) e)
  | _ => .undef
noncomputable def ref02.Top.spec : Entry := entry [.st [.b, .s .u32, .i .i64]] ref02.Top.pre ref02.Top.out

noncomputable def ref02.Sign.pre : List Atom → Bool
  | [.b n, .l a, .i _e] => okW n a
  | _ => false
def ref02.Sign.out : List Atom → DV
  | [.b n, .l a, .i _e] => .int .i64 (sgI (wv n a))
  | _ => .undef
noncomputable def ref02.Sign.spec : Entry := entry [.st [.b, .s .u32, .i .i64]] ref02.Sign.pre ref02.Sign.out

noncomputable def ref02.Compare.pre : List Atom → Bool
  | [.b n, .l a, .i e, .b m, .l b, .i f] => ((okV n a && okV m b) && okE e) && okE f
  | _ => false
def ref02.Compare.out : List Atom → DV
  | [.b n, .l a, .i e, .b m, .l b, .i f] => .int .i64 (cmpD (wv n a) e (wv m b) f)
  | _ => .undef
noncomputable def ref02.Compare.spec : Entry := entry [.st [.b, .s .u32, .i .i64], .st [.b, .s .u32, .i .i64]] ref02.Compare.pre ref02.Compare.out

noncomputable def ref02.Same.pre : List Atom → Bool
  | [.b n, .l a, .i _e, .b m, .l b, .i _f] => okW n a && okW m b
  | _ => false
def ref02.Same.out : List Atom → DV
  | [.b n, .l a, .i e, .b m, .l b, .i f] => .bool (((decide (e = f)) && sameI (wv n a) (wv m b)))
  | _ => .undef
noncomputable def ref02.Same.spec : Entry := entry [.st [.b, .s .u32, .i .i64], .st [.b, .s .u32, .i .i64]] ref02.Same.pre ref02.Same.out

noncomputable def ref04.Value.pre : List Atom → Bool
  | [.i x] => inU64 x
  | _ => false
def ref04.Value.out : List Atom → DV
  | [.i x] => .agg [.bool (negW (mD (valI x))), .ints .arg .u32 (limbsI (mD (valI x))), .int .i64 (eD (valI x) (partEI x))]
  | _ => .undef
noncomputable def ref04.Value.spec : Entry := entry [.i .u64] ref04.Value.pre ref04.Value.out

noncomputable def ref04.abs.pre : List Atom → Bool
  | [.b n, .l a, .i _e] => okW n a
  | _ => false
def ref04.abs.out : List Atom → DV
  | [.b n, .l a, .i e] => .agg [.bool (negW (absI (wv n a))), .ints .arg .u32 (limbsI (absI (wv n a))), .int .i64 e]
  | _ => .undef
noncomputable def ref04.abs.spec : Entry := entry [.st [.b, .s .u32, .i .i64]] ref04.abs.pre ref04.abs.out

noncomputable def ref04.small.pre : List Atom → Bool
  | [.b n, .l a] => okW n a && small64 (wv n a)
  | _ => false
def ref04.small.out : List Atom → DV
  | [.b n, .l a] => .int .u64 (absI (wv n a))
  | _ => .undef
noncomputable def ref04.small.spec : Entry := entry [.st [.b, .s .u32]] ref04.small.pre ref04.small.out

noncomputable def ref04.bits.pre : List Atom → Bool
  | [.i m, .i e] => okBits m e
  | _ => false
def ref04.bits.out : List Atom → DV
  | [.i m, .i e] => .int .u64 (bitsI m e)
  | _ => .undef
noncomputable def ref04.bits.spec : Entry := entry [.i .u64, .i .i64] ref04.bits.pre ref04.bits.out

noncomputable def ref04.Nearest.pre : List Atom → Bool
  | [.b n, .l a, .i e, .i k] => okW n a && okNear (wv n a) e k
  | _ => false
def ref04.Nearest.out : List Atom → DV
  | [.b n, .l a, .i e, .i k] => .tup [.int .u64 (nearRI (wv n a) (k - e)), .bool (nearXI (wv n a) (k - e))]
  | _ => .undef
noncomputable def ref04.Nearest.spec : Entry := entry [.st [.b, .s .u32, .i .i64], .i .i64] ref04.Nearest.pre ref04.Nearest.out

noncomputable def ref04.signed.pre : List Atom → Bool
  | [.i x, .b _n] => inU64 x
  | _ => false
def ref04.signed.out : List Atom → DV
  | [.i x, .b n] => .int .u64 (signI n x)
  | _ => .undef
noncomputable def ref04.signed.spec : Entry := entry [.i .u64, .b] ref04.signed.pre ref04.signed.out

noncomputable def ref04.flags.pre : List Atom → Bool
  | [.i x, .b _r] => natI x
  | _ => false
def ref04.flags.out : List Atom → DV
  | [.i x, .b r] => .int .u8 (flagI x r)
  | _ => .undef
noncomputable def ref04.flags.spec : Entry := entry [.i .u64, .b] ref04.flags.pre ref04.flags.out

noncomputable def ref04.Round.pre : List Atom → Bool
  | [.b n, .l a, .i e] => okW n a && okRnd (wv n a) e
  | _ => false
def ref04.Round.out : List Atom → DV
  | [.b n, .l a, .i e] => .tup [.int .u64 (roundBI (wv n a) e), .int .u8 (roundFI (wv n a) e)]
  | _ => .undef
noncomputable def ref04.Round.spec : Entry := entry [.st [.b, .s .u32, .i .i64]] ref04.Round.pre ref04.Round.out

noncomputable def ref05.Add.pre : List Atom → Bool
  | [.i a, .i b] => inU64 a && inU64 b
  | _ => false
def ref05.Add.out : List Atom → DV
  | [.i a, .i b] => .tup [.int .u64 (addBI a b), .int .u8 (addFI a b)]
  | _ => .undef
noncomputable def ref05.Add.spec : Entry := entry [.i .u64, .i .u64] ref05.Add.pre ref05.Add.out

noncomputable def ref05.Sub.pre : List Atom → Bool
  | [.i a, .i b] => inU64 a && inU64 b
  | _ => false
def ref05.Sub.out : List Atom → DV
  | [.i a, .i b] => .tup [.int .u64 (subBI a b), .int .u8 (subFI a b)]
  | _ => .undef
noncomputable def ref05.Sub.spec : Entry := entry [.i .u64, .i .u64] ref05.Sub.pre ref05.Sub.out

noncomputable def ref05.All.pre : List Atom → Bool
  | [.l l] => okU64 l
  | _ => false
def ref05.All.out : List Atom → DV
  | [.l l] => .tup [.int .u64 (allBI l), .int .u8 (allFI l)]
  | _ => .undef
noncomputable def ref05.All.spec : Entry := entry [.s .u64] ref05.All.pre ref05.All.out

noncomputable def law05.awake.pre : List Atom → Bool
  | [] => true
  | _ => false
def law05.awake.out : List Atom → DV
  | [] => .bool true
  | _ => .undef
noncomputable def law05.awake.spec : Entry := entry [] law05.awake.pre law05.awake.out

noncomputable def law05.SumOrder.pre : List Atom → Bool
  | [.i a, .i b] => inU64 a && inU64 b
  | _ => false
def law05.SumOrder.out : List Atom → DV
  | [.i _a, .i _b] => .bool true
  | _ => .undef
noncomputable def law05.SumOrder.spec : Entry := entry [.i .u64, .i .u64] law05.SumOrder.pre law05.SumOrder.out

noncomputable def law05.SumAdds.pre : List Atom → Bool
  | [.i a, .i b] => inU64 a && inU64 b
  | _ => false
def law05.SumAdds.out : List Atom → DV
  | [.i _a, .i _b] => .bool true
  | _ => .undef
noncomputable def law05.SumAdds.spec : Entry := entry [.i .u64, .i .u64] law05.SumAdds.pre law05.SumAdds.out

noncomputable def law05.SumSubs.pre : List Atom → Bool
  | [.i a, .i b] => inU64 a && inU64 b
  | _ => false
def law05.SumSubs.out : List Atom → DV
  | [.i _a, .i _b] => .bool true
  | _ => .undef
noncomputable def law05.SumSubs.spec : Entry := entry [.i .u64, .i .u64] law05.SumSubs.pre law05.SumSubs.out

noncomputable def law05.SumAlls.pre : List Atom → Bool
  | [.l l] => allU64 l
  | _ => false
def law05.SumAlls.out : List Atom → DV
  | [.l _l] => .bool true
  | _ => .undef
noncomputable def law05.SumAlls.spec : Entry := entry [.s .u64] law05.SumAlls.pre law05.SumAlls.out

noncomputable def law05.SumExact.pre : List Atom → Bool
  | [.i a, .i b] => inU64 a && inU64 b
  | _ => false
def law05.SumExact.out : List Atom → DV
  | [.i _a, .i _b] => .bool true
  | _ => .undef
noncomputable def law05.SumExact.spec : Entry := entry [.i .u64, .i .u64] law05.SumExact.pre law05.SumExact.out

noncomputable def mbits.LeadingZeros64.pre : List Atom → Bool
  | [.i x] => inU64 x
  | _ => false
def mbits.LeadingZeros64.out : List Atom → DV
  | [.i x] => .int .i64 (64 - len64I x)
  | _ => .undef
noncomputable def mbits.LeadingZeros64.spec : Entry := entry [.i .u64] mbits.LeadingZeros64.pre mbits.LeadingZeros64.out

noncomputable def mbits.Mul64.pre : List Atom → Bool
  | [.i x, .i y] => inU64 x && inU64 y
  | _ => false
def mbits.Mul64.out : List Atom → DV
  | [.i x, .i y] => .tup [.int .u64 (mulHi x y), .int .u64 (mulLo x y)]
  | _ => .undef
noncomputable def mbits.Mul64.spec : Entry := entry [.i .u64, .i .u64] mbits.Mul64.pre mbits.Mul64.out

noncomputable def mbits.Len64.pre : List Atom → Bool
  | [.i x] => inU64 x
  | _ => false
def mbits.Len64.out : List Atom → DV
  | [.i x] => .int .i64 (len64I x)
  | _ => .undef
noncomputable def mbits.Len64.spec : Entry := entry [.i .u64] mbits.Len64.pre mbits.Len64.out

noncomputable def times.signed.pre : List Atom → Bool
  | [.i b, .b _n] => inU64 b
  | _ => false
def times.signed.out : List Atom → DV
  | [.i b, .b n] => .int .u64 (signI n b)
  | _ => .undef
noncomputable def times.signed.spec : Entry := entry [.i .u64, .b] times.signed.pre times.signed.out

noncomputable def times.nan.pre : List Atom → Bool
  | [.i a, .i b] => inU64 a && inU64 b
  | _ => false
def times.nan.out : List Atom → DV
  | [.i a, .i b] => .bool (nanI a b)
  | _ => .undef
noncomputable def times.nan.spec : Entry := entry [.i .u64, .i .u64] times.nan.pre times.nan.out

noncomputable def times.norm.pre : List Atom → Bool
  | [.i b] => inU64 b && normPre b
  | _ => false
def times.norm.out : List Atom → DV
  | [.i b] => .tup [.int .u64 (normM b), .int .i64 (normE b)]
  | _ => .undef
noncomputable def times.norm.spec : Entry := entry [.i .u64] times.norm.pre times.norm.out

noncomputable def times.wide.pre : List Atom → Bool
  | [.b _n, .i m, .i e, .b _r] => widePre m e
  | _ => false
def times.wide.out : List Atom → DV
  | [.b n, .i m, .i e, .b r] => .tup [.int .u64 (nearBI n m e r), .int .u8 (nearFI n m e r)]
  | _ => .undef
noncomputable def times.wide.spec : Entry := entry [.b, .i .u64, .i .i64, .b] times.wide.pre times.wide.out

noncomputable def times.Mul.pre : List Atom → Bool
  | [.i a, .i b] => inU64 a && inU64 b
  | _ => false
def times.Mul.out : List Atom → DV
  | [.i a, .i b] => .tup [.int .u64 (mulBI a b), .int .u8 (mulFI a b)]
  | _ => .undef
noncomputable def times.Mul.spec : Entry := entry [.i .u64, .i .u64] times.Mul.pre times.Mul.out

noncomputable def times.Div.pre : List Atom → Bool
  | [.i a, .i b] => inU64 a && inU64 b
  | _ => false
def times.Div.out : List Atom → DV
  | [.i a, .i b] => .tup [.int .u64 (divBI a b), .int .u8 (divFI a b)]
  | _ => .undef
noncomputable def times.Div.spec : Entry := entry [.i .u64, .i .u64] times.Div.pre times.Div.out

noncomputable def times.Square.pre : List Atom → Bool
  | [.i a] => inU64 a
  | _ => false
def times.Square.out : List Atom → DV
  | [.i a] => .tup [.int .u64 (mulBI a a), .int .u8 (mulFI a a)]
  | _ => .undef
noncomputable def times.Square.spec : Entry := entry [.i .u64] times.Square.pre times.Square.out

noncomputable def law06.awake.pre : List Atom → Bool
  | [] => true
  | _ => false
def law06.awake.out : List Atom → DV
  | [] => .bool true
  | _ => .undef
noncomputable def law06.awake.spec : Entry := entry [] law06.awake.pre law06.awake.out

noncomputable def law06.power.pre : List Atom → Bool
  | [.i n] => inI64 n
  | _ => false
def law06.power.out : List Atom → DV
  | [.i n] => .int .u64 (powerI n)
  | _ => .undef
noncomputable def law06.power.spec : Entry := entry [.i .i64] law06.power.pre law06.power.out

noncomputable def law06.TimesOrder.pre : List Atom → Bool
  | [.i a, .i b] => inU64 a && inU64 b
  | _ => false
def law06.TimesOrder.out : List Atom → DV
  | [.i _a, .i _b] => .bool true
  | _ => .undef
noncomputable def law06.TimesOrder.spec : Entry := entry [.i .u64, .i .u64] law06.TimesOrder.pre law06.TimesOrder.out

noncomputable def law06.TimesSelf.pre : List Atom → Bool
  | [.i a] => inU64 a
  | _ => false
def law06.TimesSelf.out : List Atom → DV
  | [.i _a] => .bool true
  | _ => .undef
noncomputable def law06.TimesSelf.spec : Entry := entry [.i .u64] law06.TimesSelf.pre law06.TimesSelf.out

noncomputable def law06.TimesPowers.pre : List Atom → Bool
  | [.i a, .i n] => inU64 a && inI64 n
  | _ => false
def law06.TimesPowers.out : List Atom → DV
  | [.i _a, .i _n] => .bool true
  | _ => .undef
noncomputable def law06.TimesPowers.spec : Entry := entry [.i .u64, .i .i64] law06.TimesPowers.pre law06.TimesPowers.out

noncomputable def law06.float.pre : List Atom → Bool
  | [.i x] => inU64 x
  | _ => false
def law06.float.out : List Atom → DV
  | [.i x] => .fl (Int.toNat x)
  | _ => .undef
noncomputable def law06.float.spec : Entry := entry [.i .u64] law06.float.pre law06.float.out

noncomputable def law06.TimesFloats.pre : List Atom → Bool
  | [.i a, .i b] => inU64 a && inU64 b
  | _ => false
def law06.TimesFloats.out : List Atom → DV
  | [.i _a, .i _b] => .bool true
  | _ => .undef
noncomputable def law06.TimesFloats.spec : Entry := entry [.i .u64, .i .u64] law06.TimesFloats.pre law06.TimesFloats.out

noncomputable def ref01.single.pre : List Atom → Bool
  | [.l a, .i x] => okL a && inU32 x
  | _ => false
def ref01.single.out : List Atom → DV
  | [.l a, .i x] => .ints .arg .u32 (singleL a x)
  | _ => .undef
noncomputable def ref01.single.spec : Entry := entry [.s .u32, .i .u32] ref01.single.pre ref01.single.out

noncomputable def ref01.Mul.pre : List Atom → Bool
  | [.b n, .l a, .b m, .l b] => okM n a && okM m b
  | _ => false
def ref01.Mul.out : List Atom → DV
  | [.b n, .l a, .b m, .l b] => .agg [.bool (negW (wv n a * wv m b)), .ints .arg .u32 (limbsI (wv n a * wv m b))]
  | _ => .undef
noncomputable def ref01.Mul.spec : Entry := entry [.st [.b, .s .u32], .st [.b, .s .u32]] ref01.Mul.pre ref01.Mul.out

noncomputable def ref02.Mul.pre : List Atom → Bool
  | [.b n, .l a, .i e, .b m, .l b, .i f] => (okM n a && okM m b) && (okE e && okE f)
  | _ => false
def ref02.Mul.out : List Atom → DV
  | [.b n, .l a, .i e, .b m, .l b, .i f] => .agg [.bool (negW (mD (wv n a * wv m b))), .ints .arg .u32 (limbsI (mD (wv n a * wv m b))), .int .i64 (eD (wv n a * wv m b) (e + f))]
  | _ => .undef
noncomputable def ref02.Mul.spec : Entry := entry [.st [.b, .s .u32, .i .i64], .st [.b, .s .u32, .i .i64]] ref02.Mul.pre ref02.Mul.out

noncomputable def ref01.plus.own.pre : List Atom → Bool
  | [.l a, .l b] => okL a && okL b
  | _ => false
def ref01.plus.own.out : List Atom → DV
  | [.l a, .l b] => .ints (.own 100005 84) .u32 (plusL a b)
  | _ => .undef
noncomputable def ref01.plus.own.spec : Entry := entry [.s .u32, .s .u32] ref01.plus.own.pre ref01.plus.own.out

noncomputable def ref06.signed.pre : List Atom → Bool
  | [.i b, .b _n] => inU64 b
  | _ => false
def ref06.signed.out : List Atom → DV
  | [.i b, .b n] => .int .u64 (signI n b)
  | _ => .undef
noncomputable def ref06.signed.spec : Entry := entry [.i .u64, .b] ref06.signed.pre ref06.signed.out

noncomputable def ref06.Mul.pre : List Atom → Bool
  | [.i a, .i b] => inU64 a && inU64 b
  | _ => false
def ref06.Mul.out : List Atom → DV
  | [.i a, .i b] => .tup [.int .u64 (mulBI a b), .int .u8 (mulFI a b)]
  | _ => .undef
noncomputable def ref06.Mul.spec : Entry := entry [.i .u64, .i .u64] ref06.Mul.pre ref06.Mul.out

noncomputable def ref06.plain.pre : List Atom → Bool
  | [.b n, .l a] => okW n a
  | _ => false
def ref06.plain.out : List Atom → DV
  | [.b n, .l a] => .agg [.bool (negW (absI (wv n a))), .ints .arg .u32 (limbsI (absI (wv n a)))]
  | _ => .undef
noncomputable def ref06.plain.spec : Entry := entry [.st [.b, .s .u32]] ref06.plain.pre ref06.plain.out

noncomputable def ref06.Quotient.pre : List Atom → Bool
  | [.b n, .l a, .b m, .l b] => okQ n a m b
  | _ => false
def ref06.Quotient.out : List Atom → DV
  | [.b n, .l a, .b m, .l b] => .tup [.agg [.bool (negW (quoI (wv n a) (wv m b))), .ints .arg .u32 (limbsI (quoI (wv n a) (wv m b)))], .agg [.bool (negW (remI (wv n a) (wv m b))), .ints .arg .u32 (limbsI (remI (wv n a) (wv m b)))]]
  | _ => .undef
noncomputable def ref06.Quotient.spec : Entry := entry [.st [.b, .s .u32], .st [.b, .s .u32]] ref06.Quotient.pre ref06.Quotient.out

noncomputable def ref06.Div.pre : List Atom → Bool
  | [.i a, .i b] => inU64 a && inU64 b
  | _ => false
def ref06.Div.out : List Atom → DV
  | [.i a, .i b] => .tup [.int .u64 (divBI a b), .int .u8 (divFI a b)]
  | _ => .undef
noncomputable def ref06.Div.spec : Entry := entry [.i .u64, .i .u64] ref06.Div.pre ref06.Div.out

noncomputable def law06.TimesDivs.pre : List Atom → Bool
  | [.i a, .i b] => inU64 a && inU64 b
  | _ => false
def law06.TimesDivs.out : List Atom → DV
  | [.i _a, .i _b] => .bool true
  | _ => .undef
noncomputable def law06.TimesDivs.spec : Entry := entry [.i .u64, .i .u64] law06.TimesDivs.pre law06.TimesDivs.out

noncomputable def law06.TimesMuls.pre : List Atom → Bool
  | [.i a, .i b] => inU64 a && inU64 b
  | _ => false
def law06.TimesMuls.out : List Atom → DV
  | [.i _a, .i _b] => .bool true
  | _ => .undef
noncomputable def law06.TimesMuls.spec : Entry := entry [.i .u64, .i .u64] law06.TimesMuls.pre law06.TimesMuls.out

noncomputable def law05.float.pre : List Atom → Bool
  | [.i x] => inU64 x
  | _ => false
def law05.float.out : List Atom → DV
  | [.i x] => .fl (Int.toNat x)
  | _ => .undef
noncomputable def law05.float.spec : Entry := entry [.i .u64] law05.float.pre law05.float.out

noncomputable def law05.SumFloats.pre : List Atom → Bool
  | [.i a, .i b] => inU64 a && inU64 b
  | _ => false
def law05.SumFloats.out : List Atom → DV
  | [.i _a, .i _b] => .bool true
  | _ => .undef
noncomputable def law05.SumFloats.spec : Entry := entry [.i .u64, .i .u64] law05.SumFloats.pre law05.SumFloats.out

noncomputable def law05.SumRises.pre : List Atom → Bool
  | [.i a, .i b, .i c] => (inU64 a && inU64 b) && inU64 c
  | _ => false
def law05.SumRises.out : List Atom → DV
  | [.i _a, .i _b, .i _c] => .bool true
  | _ => .undef
noncomputable def law05.SumRises.spec : Entry := entry [.i .u64, .i .u64, .i .u64] law05.SumRises.pre law05.SumRises.out
end Go.Proofs.S1
