/- Spe of the verified evaluator and its use for this seat (of my texts S1Env, S1Specs). -/
import Derived.Test.YthopmgndjnnpnaaFlo
import Derived.Test.YthopmgndjnnpnaaProg

/- The seat's types and its environment. -/
namespace Go.Proofs.S1
open Go Go.Den Go.Proofs
def tys : List (Nat × TI) := [
  (2, ⟨1, 8, (.int .i64), [.int .i64 (0 : Int)]⟩),
  (3, ⟨1, 8, (.int .i64), [.int .i64 (0 : Int)]⟩),
  (4, ⟨1, 1, .bool, [.bool false]⟩),
  (5, ⟨1, 1, (.int .u8), [.int .u8 (0 : Int)]⟩),
  (22, ⟨1, 8, (.int .u64), [.int .u64 (0 : Int)]⟩),
  (23, ⟨1, 8, (.int .u64), [.int .u64 (0 : Int)]⟩),
  (24, ⟨1, 1, (.int .u8), [.int .u8 (0 : Int)]⟩),
  (30, ⟨1, 24, (.slice 84), [.nil]⟩),
  (32, ⟨2, 32, (.struct [(0, 4), (1, 30)]), [.bool false, .nil]⟩),
  (34, ⟨3, 40, (.struct [(0, 32), (2, 3)]), [.bool false, .nil, .int .i64 (0 : Int)]⟩),
  (41, ⟨1, 8, .fl, [.fl 0]⟩),
  (46, ⟨1, 24, (.slice 23), [.nil]⟩),
  (56, ⟨1, 8, (.int .u64), [.int .u64 (0 : Int)]⟩),
  (76, ⟨3, 24, (.struct [(0, 4), (1, 3), (2, 22)]), [.bool false, .int .i64 (0 : Int), .int .u64 (0 : Int)]⟩),
  (84, ⟨1, 4, (.int .u32), [.int .u32 (0 : Int)]⟩)]
theorem ty2 : TyFact Try.prog 2 ⟨1, 8, (.int .i64), [.int .i64 (0 : Int)]⟩ := tyFact_mk (z := .int .i64 (0 : Int)) (by kernel_rfl) (fun c w => by simp [LRel, VRel, Value.cells]) rfl (by simp [Value.cells, Value.oneCell']) (by simp only [descOk]; exact Try.underlying2)
theorem ty3 : TyFact Try.prog 3 ⟨1, 8, (.int .i64), [.int .i64 (0 : Int)]⟩ := tyFact_mk (z := .int .i64 (0 : Int)) (by kernel_rfl) (fun c w => by simp [LRel, VRel, Value.cells]) rfl (by simp [Value.cells, Value.oneCell']) (by simp only [descOk]; exact Try.underlying3)
theorem ty4 : TyFact Try.prog 4 ⟨1, 1, .bool, [.bool false]⟩ := tyFact_mk (z := .bool false) (by kernel_rfl) (fun c w => by simp [LRel, VRel, Value.cells]) rfl (by simp [Value.cells, Value.oneCell']) (by simp only [descOk]; exact Try.underlying4)
theorem ty5 : TyFact Try.prog 5 ⟨1, 1, (.int .u8), [.int .u8 (0 : Int)]⟩ := tyFact_mk (z := .int .u8 (0 : Int)) (by kernel_rfl) (fun c w => by simp [LRel, VRel, Value.cells]) rfl (by simp [Value.cells, Value.oneCell']) (by simp only [descOk]; exact Try.underlying5)
theorem ty22 : TyFact Try.prog 22 ⟨1, 8, (.int .u64), [.int .u64 (0 : Int)]⟩ := tyFact_mk (z := .int .u64 (0 : Int)) (by kernel_rfl) (fun c w => by simp [LRel, VRel, Value.cells]) rfl (by simp [Value.cells, Value.oneCell']) (by simp only [descOk]; exact Try.underlying22)
theorem ty23 : TyFact Try.prog 23 ⟨1, 8, (.int .u64), [.int .u64 (0 : Int)]⟩ := tyFact_mk (z := .int .u64 (0 : Int)) (by kernel_rfl) (fun c w => by simp [LRel, VRel, Value.cells]) rfl (by simp [Value.cells, Value.oneCell']) (by simp only [descOk]; exact Try.underlying23)
theorem ty24 : TyFact Try.prog 24 ⟨1, 1, (.int .u8), [.int .u8 (0 : Int)]⟩ := tyFact_mk (z := .int .u8 (0 : Int)) (by kernel_rfl) (fun c w => by simp [LRel, VRel, Value.cells]) rfl (by simp [Value.cells, Value.oneCell']) (by simp only [descOk]; exact Try.underlying24)
theorem ty30 : TyFact Try.prog 30 ⟨1, 24, (.slice 84), [.nil]⟩ := tyFact_mk (z := .slice none 0 0) (by kernel_rfl) (fun c w => by simp [LRel, VRel, Value.cells]) rfl (by simp [Value.cells, Value.oneCell']) (by simp only [descOk]; exact Try.underlying30)
theorem ty32 : TyFact Try.prog 32 ⟨2, 32, (.struct [(0, 4), (1, 30)]), [.bool false, .nil]⟩ := tyFact_mk (z := .agg #[.bool false, .slice none 0 0]) (by kernel_rfl) (fun c w => by simp [LRel, VRel, Value.cells]) rfl (by simp [Value.cells, Value.oneCell']) (by simp only [descOk]; exact ⟨_, Try.underlying32, by kernel_rfl⟩)
theorem ty34 : TyFact Try.prog 34 ⟨3, 40, (.struct [(0, 32), (2, 3)]), [.bool false, .nil, .int .i64 (0 : Int)]⟩ := tyFact_mk (z := .agg #[.bool false, .slice none 0 0, .int .i64 (0 : Int)]) (by kernel_rfl) (fun c w => by simp [LRel, VRel, Value.cells]) rfl (by simp [Value.cells, Value.oneCell']) (by simp only [descOk]; exact ⟨_, Try.underlying34, by kernel_rfl⟩)
theorem ty41 : TyFact Try.prog 41 ⟨1, 8, .fl, [.fl 0]⟩ := tyFact_mk (z := .float .f64 0) (by kernel_rfl) (fun c w => by simp [LRel, VRel, Value.cells, FEq]) rfl (by simp [Value.cells, Value.oneCell']) (by simp only [descOk]; exact Try.underlying41)
theorem ty46 : TyFact Try.prog 46 ⟨1, 24, (.slice 23), [.nil]⟩ := tyFact_mk (z := .slice none 0 0) (by kernel_rfl) (fun c w => by simp [LRel, VRel, Value.cells]) rfl (by simp [Value.cells, Value.oneCell']) (by simp only [descOk]; exact Try.underlying46)
theorem ty56 : TyFact Try.prog 56 ⟨1, 8, (.int .u64), [.int .u64 (0 : Int)]⟩ := tyFact_mk (z := .int .u64 (0 : Int)) (by kernel_rfl) (fun c w => by simp [LRel, VRel, Value.cells]) rfl (by simp [Value.cells, Value.oneCell']) (by simp only [descOk]; exact Try.underlying56)
theorem ty76 : TyFact Try.prog 76 ⟨3, 24, (.struct [(0, 4), (1, 3), (2, 22)]), [.bool false, .int .i64 (0 : Int), .int .u64 (0 : Int)]⟩ := tyFact_mk (z := .agg #[.bool false, .int .i64 (0 : Int), .int .u64 (0 : Int)]) (by kernel_rfl) (fun c w => by simp [LRel, VRel, Value.cells]) rfl (by simp [Value.cells, Value.oneCell']) (by simp only [descOk]; exact ⟨_, Try.underlying76, by kernel_rfl⟩)
theorem ty84 : TyFact Try.prog 84 ⟨1, 4, (.int .u32), [.int .u32 (0 : Int)]⟩ := tyFact_mk (z := .int .u32 (0 : Int)) (by kernel_rfl) (fun c w => by simp [LRel, VRel, Value.cells]) rfl (by simp [Value.cells, Value.oneCell']) (by simp only [descOk]; exact Try.underlying84)
theorem tys_ok : TyFacts Try.prog tys := .cons ty2 <| .cons ty3 <| .cons ty4 <| .cons ty5 <| .cons ty22 <| .cons ty23 <| .cons ty24 <| .cons ty30 <| .cons ty32 <| .cons ty34 <| .cons ty41 <| .cons ty46 <| .cons ty56 <| .cons ty76 <| .cons ty84 <| .nil
def exts : List (Nat × Ext) := [(31, .bits), (61, .frombits)]
def extOf : List (Nat × Ext) → Nat → Option Ext
  | [], _ => none
  | (m, e) :: l, n => bif Nat.beq m n then some e else extOf l n
theorem ext31 (args : Array Value) (w : World) : (callFunc 31 args).run Try.prog w = ((extSem .bits args).run Try.prog w).andThen fun v w' => .ok (.value v) w' := run_callFunc_extern (e := Extern.MathFloatBits.float64bits) Try.func31 (by kernel_rfl) (by kernel_rfl) (by kernel_rfl) (by kernel_rfl) args w
theorem ext61 (args : Array Value) (w : World) : (callFunc 61 args).run Try.prog w = ((extSem .frombits args).run Try.prog w).andThen fun v w' => .ok (.value v) w' := run_callFunc_extern (e := Extern.MathFloatBits.float64frombits) Try.func61 (by kernel_rfl) (by kernel_rfl) (by kernel_rfl) (by kernel_rfl) args w
def eqts : List Nat := [76]
theorem eq76 : EqFact Try.prog 76 ⟨3, 24, (.struct [(0, 4), (1, 3), (2, 22)]), [.bool false, .int .i64 (0 : Int), .int .u64 (0 : Int)]⟩ where
  guard := by kernel_rfl
  eq := by
    intro w c x y xs ys hx hy hlx hly
    obtain ⟨a0, x1, rfl, hx1⟩ := shape_bool hx
    obtain ⟨a1, x2, rfl, hx2⟩ := shape_int hx1
    obtain ⟨a2, x3, rfl, hx3⟩ := shape_int hx2
    obtain rfl := shape_nil hx3
    obtain ⟨b0, y1, rfl, hy1⟩ := shape_bool hy
    obtain ⟨b1, y2, rfl, hy2⟩ := shape_int hy1
    obtain ⟨b2, y3, rfl, hy3⟩ := shape_int hy2
    obtain rfl := shape_nil hy3
    obtain ⟨xs⟩ := xs
    obtain ⟨ys⟩ := ys
    simp only [LRel.cons_iff, LRel.nil_iff, VRel] at hlx hly
    obtain ⟨_, _, rfl, rfl, _, _, rfl, rfl, _, _, rfl, rfl, rfl⟩ := hlx
    obtain ⟨_, _, rfl, rfl, _, _, rfl, rfl, _, _, rfl, rfl, rfl⟩ := hly
    have hu : Try.prog.underlying 76 = some (.struct (Try.prog.fieldsOf 76)) := by kernel_rfl
    have hp : Try.prog.stoodInHeld 76 = false := by kernel_rfl
    unfold Op.equal Op.maxDepth
    rw [run_equalIn_struct w 9999 76 _ _ hu hp]
    have hfs : Try.prog.fieldsOf 76 = (match Try.prog.underlying 76 with | some (.struct fs) => fs | _ => #[]) := rfl
    rw [hfs, Try.underlying76]
    simp [Op.eqFields, run_part_one w ty3 rfl, run_part_one w ty4 rfl, run_part_one w ty22 rfl, run_equalIn_int w _ _ _ _ _ _ Try.underlying3, run_equalIn_bool w _ _ _ _ Try.underlying4, run_equalIn_int w _ _ _ _ _ _ Try.underlying22, eqAll, eqScalar]
    by_cases h0 : a0 = b0 <;> by_cases h1 : a1 = b1 <;> by_cases h2 : a2 = b2 <;> simp [h0, h1, h2]
def envOf (tab : Nat → Option Entry) (adopt : Nat → Bool) (hint : Nat → Option LoopHint) (live : Nat → Option (List Nat)) : Env := { ty := tyOf tys, tab := tab, ext := extOf exts, eqs := fun t => memB t eqts, adopt := adopt, live := live, hint := hint }
theorem env_ok {l : List (Nat × Entry)} (h : Knowns Try.prog l) (adopt : Nat → Bool) (hint : Nat → Option LoopHint) (live : Nat → Option (List Nat)) : EnvOk Try.prog (envOf (tabOf l) adopt hint live) where
  ty := fun t ti ht => tys_ok.get ht
  tab := fun g e hg => (h.get hg).meets
  call := fun g e hg => (h.get hg).call
  ext := by
    intro g x hx args w
    simp only [envOf, exts, extOf] at hx
    cases hb : Nat.beq 31 g with
    | true =>
      rw [hb] at hx
      cases hx
      obtain rfl := Nat.eq_of_beq_eq_true hb
      exact ext31 args w
    | false =>
    rw [hb, cond_false] at hx
    clear hb
    cases hb : Nat.beq 61 g with
    | true =>
      rw [hb] at hx
      cases hx
      obtain rfl := Nat.eq_of_beq_eq_true hb
      exact ext61 args w
    | false =>
    rw [hb, cond_false] at hx
    clear hb
    cases hx
  eqs := by
    intro t ti ht hti
    simp only [envOf, eqts, memB] at ht hti
    cases hb : Nat.beq t 76 with
    | true =>
      obtain rfl := Nat.eq_of_beq_eq_true hb
      cases hti
      exact eq76
    | false =>
    rw [hb, cond_false] at ht
    clear hb
    cases ht
  mixed := by kernel_rfl
end Go.Proofs.S1

/- What each function is shown to answer. -/
namespace Go.Proofs.S1
open Go Go.Den Go.Rnd
noncomputable def soft.Split.pre : List Atom → Bool
  | [.i x] => inU64 x
  | _ => false
def soft.Split.out : List Atom → DV
  | [.i x] => .agg [.bool (negI x), .int .i64 (powI x), .int .u64 (fracI x)]
  | _ => .undef
noncomputable def soft.Split.spec : Entry := entry [.i .u64] soft.Split.pre soft.Split.out

noncomputable def soft.Kind.pre : List Atom → Bool
  | [.i x] => inU64 x
  | _ => false
def soft.Kind.out : List Atom → DV
  | [.i x] => .int .i64 (kindI x)
  | _ => .undef
noncomputable def soft.Kind.spec : Entry := entry [.i .u64] soft.Kind.pre soft.Kind.out

noncomputable def soft.Sign.pre : List Atom → Bool
  | [.i x] => inU64 x
  | _ => false
def soft.Sign.out : List Atom → DV
  | [.i x] => .bool (negI x)
  | _ => .undef
noncomputable def soft.Sign.spec : Entry := entry [.i .u64] soft.Sign.pre soft.Sign.out

noncomputable def soft.Finite.pre : List Atom → Bool
  | [.i x] => inU64 x
  | _ => false
def soft.Finite.out : List Atom → DV
  | [.i x] => .bool (finI x)
  | _ => .undef
noncomputable def soft.Finite.spec : Entry := entry [.i .u64] soft.Finite.pre soft.Finite.out

noncomputable def soft.Minus.pre : List Atom → Bool
  | [.i x] => inU64 x
  | _ => false
def soft.Minus.out : List Atom → DV
  | [.i x] => .int .u64 (minusI x)
  | _ => .undef
noncomputable def soft.Minus.spec : Entry := entry [.i .u64] soft.Minus.pre soft.Minus.out

noncomputable def soft.Parts.pre : List Atom → Bool
  | [.i x] => inU64 x
  | _ => false
def soft.Parts.out : List Atom → DV
  | [.i x] => .tup [.int .u64 (partMI x), .int .i64 (partEI x)]
  | _ => .undef
noncomputable def soft.Parts.spec : Entry := entry [.i .u64] soft.Parts.pre soft.Parts.out

def soft.Pack.mu : List Atom → Nat
  | [.b _n, .i m, .i e] => packMu m e
  | _ => 0
noncomputable def soft.Pack.pre : List Atom → Bool
  | [.b _n, .i m, .i e] => packPre m e
  | _ => false
def soft.Pack.out : List Atom → DV
  | [.b n, .i m, .i e] => .int .u64 (packI n m e)
  | _ => .undef
noncomputable def soft.Pack.spec : Entry := entry [.b, .i .u64, .i .i64] soft.Pack.pre soft.Pack.out

noncomputable def soft.Near.pre : List Atom → Bool
  | [.b _n, .i m, .i e, .b r] => nearPre m e r
  | _ => false
def soft.Near.out : List Atom → DV
  | [.b n, .i m, .i e, .b r] => .tup [.int .u64 (nearBI n m e r), .int .u8 (nearFI n m e r)]
  | _ => .undef
noncomputable def soft.Near.spec : Entry := entry [.b, .i .u64, .i .i64, .b] soft.Near.pre soft.Near.out

noncomputable def sum.right.pre : List Atom → Bool
  | [.i m, .i d] => inU64 m && cdec (0 ≤ d ∧ d < 1000000)
  | _ => false
def sum.right.out : List Atom → DV
  | [.i m, .i d] => .int .u64 (rightI m d)
  | _ => .undef
noncomputable def sum.right.spec : Entry := entry [.i .u64, .i .i64] sum.right.pre sum.right.out

noncomputable def sum.special.pre : List Atom → Bool
  | [.i a, .i b] => (inU64 a && inU64 b) && (!(finI a) || !(finI b))
  | _ => false
def sum.special.out : List Atom → DV
  | [.i a, .i b] => .tup [.int .u64 (addBI a b), .int .u8 (addFI a b)]
  | _ => .undef
noncomputable def sum.special.spec : Entry := entry [.i .u64, .i .u64] sum.special.pre sum.special.out

noncomputable def sum.Add.pre : List Atom → Bool
  | [.i a, .i b] => inU64 a && inU64 b
  | _ => false
def sum.Add.out : List Atom → DV
  | [.i a, .i b] => .tup [.int .u64 (addBI a b), .int .u8 (addFI a b)]
  | _ => .undef
noncomputable def sum.Add.spec : Entry := entry [.i .u64, .i .u64] sum.Add.pre sum.Add.out

noncomputable def sum.Sub.pre : List Atom → Bool
  | [.i a, .i b] => inU64 a && inU64 b
  | _ => false
def sum.Sub.out : List Atom → DV
  | [.i a, .i b] => .tup [.int .u64 (subBI a b), .int .u8 (subFI a b)]
  | _ => .undef
noncomputable def sum.Sub.spec : Entry := entry [.i .u64, .i .u64] sum.Sub.pre sum.Sub.out

noncomputable def sum.All.pre : List Atom → Bool
  | [.l l] => okU64 l
  | _ => false
def sum.All.out : List Atom → DV
  | [.l l] => .tup [.int .u64 (allBI l), .int .u8 (allFI l)]
  | _ => .undef
noncomputable def sum.All.spec : Entry := entry [.s .u64] sum.All.pre sum.All.out

noncomputable def ref04.Neg.pre : List Atom → Bool
  | [.i x] => inU64 x
  | _ => false
def ref04.Neg.out : List Atom → DV
  | [.i x] => .bool (negI x)
  | _ => .undef
noncomputable def ref04.Neg.spec : Entry := entry [.i .u64] ref04.Neg.pre ref04.Neg.out

noncomputable def ref04.Power.pre : List Atom → Bool
  | [.i x] => natI x
  | _ => false
def ref04.Power.out : List Atom → DV
  | [.i x] => .int .i64 (powI x)
  | _ => .undef
noncomputable def ref04.Power.spec : Entry := entry [.i .u64] ref04.Power.pre ref04.Power.out

noncomputable def ref04.Frac.pre : List Atom → Bool
  | [.i x] => natI x
  | _ => false
def ref04.Frac.out : List Atom → DV
  | [.i x] => .int .u64 (fracI x)
  | _ => .undef
noncomputable def ref04.Frac.spec : Entry := entry [.i .u64] ref04.Frac.pre ref04.Frac.out

noncomputable def ref04.Kind.pre : List Atom → Bool
  | [.i x] => natI x
  | _ => false
def ref04.Kind.out : List Atom → DV
  | [.i x] => .int .i64 (kindI x)
  | _ => .undef
noncomputable def ref04.Kind.spec : Entry := entry [.i .u64] ref04.Kind.pre ref04.Kind.out

noncomputable def ref04.Finite.pre : List Atom → Bool
  | [.i x] => inU64 x
  | _ => false
def ref04.Finite.out : List Atom → DV
  | [.i x] => .bool (finI x)
  | _ => .undef
noncomputable def ref04.Finite.spec : Entry := entry [.i .u64] ref04.Finite.pre ref04.Finite.out

noncomputable def ref04.Minus.pre : List Atom → Bool
  | [.i x] => inU64 x
  | _ => false
def ref04.Minus.out : List Atom → DV
  | [.i x] => .int .u64 (minusI x)
  | _ => .undef
noncomputable def ref04.Minus.spec : Entry := entry [.i .u64] ref04.Minus.pre ref04.Minus.out

noncomputable def ref05.Canon.pre : List Atom → Bool
  | [.i x] => natI x
  | _ => false
def ref05.Canon.out : List Atom → DV
  | [.i x] => .int .u64 (canonI x)
  | _ => .undef
noncomputable def ref05.Canon.spec : Entry := entry [.i .u64] ref05.Canon.pre ref05.Canon.out

noncomputable def ref05.Canon.nb.pre : List Atom → Bool
  | [.f _x] => true
  | _ => false
def ref05.Canon.nb.out : List Atom → DV
  | [.f x] => .int .u64 (canonNI x)
  | _ => .undef
noncomputable def ref05.Canon.nb.spec : Entry := entry [.nb] ref05.Canon.nb.pre ref05.Canon.nb.out

noncomputable def law05.awake.pre : List Atom → Bool
  | [] => true
  | _ => false
def law05.awake.out : List Atom → DV
  | [] => .bool true
  | _ => .undef
noncomputable def law05.awake.spec : Entry := entry [] law05.awake.pre law05.awake.out

noncomputable def law05.SumOrder.pre : List Atom → Bool
  | [.i a, .i b] => inU64 a && inU64 b
  | _ => false
def law05.SumOrder.out : List Atom → DV
  | [.i _a, .i _b] => .bool true
  | _ => .undef
noncomputable def law05.SumOrder.spec : Entry := entry [.i .u64, .i .u64] law05.SumOrder.pre law05.SumOrder.out

noncomputable def law05.float.pre : List Atom → Bool
  | [.i x] => inU64 x
  | _ => false
def law05.float.out : List Atom → DV
  | [.i x] => .fl (Int.toNat x)
  | _ => .undef
noncomputable def law05.float.spec : Entry := entry [.i .u64] law05.float.pre law05.float.out

noncomputable def law05.SumFloats.pre : List Atom → Bool
  | [.i a, .i b] => inU64 a && inU64 b
  | _ => false
def law05.SumFloats.out : List Atom → DV
  | [.i _a, .i _b] => .bool true
  | _ => .undef
noncomputable def law05.SumFloats.spec : Entry := entry [.i .u64, .i .u64] law05.SumFloats.pre law05.SumFloats.out

noncomputable def law05.SumRises.pre : List Atom → Bool
  | [.i a, .i b, .i c] => (inU64 a && inU64 b) && inU64 c
  | _ => false
def law05.SumRises.out : List Atom → DV
  | [.i _a, .i _b, .i _c] => .bool true
  | _ => .undef
noncomputable def law05.SumRises.spec : Entry := entry [.i .u64, .i .u64, .i .u64] law05.SumRises.pre law05.SumRises.out
end Go.Proofs.S1
