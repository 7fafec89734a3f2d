/- Spe of the verified evaluator and its use for this seat (of my texts S1Env, S1Specs). -/
import Derived.Test.YtakfdnpjnbopbaaFlo
import Derived.Test.YtakfdnpjnbopbaaProg
import Derived.Test.YtakfdnpjnbopbaaMat

/- The seat's types and its environment. -/
namespace Go.Proofs.S1
open Go Go.Den Go.Proofs
def tys : List (Nat × TI) := [
  (3, ⟨1, 8, (.int .i64), [.int .i64 (0 : Int)]⟩),
  (4, ⟨1, 1, .bool, [.bool false]⟩),
  (5, ⟨1, 1, (.int .u8), [.int .u8 (0 : Int)]⟩),
  (22, ⟨1, 24, (.slice 39), [.nil]⟩),
  (24, ⟨3, 40, (.struct [(0, 3), (1, 3), (2, 22)]), [.int .i64 (0 : Int), .int .i64 (0 : Int), .nil]⟩),
  (25, ⟨1, 8, (.int .i64), [.int .i64 (0 : Int)]⟩),
  (38, ⟨1, 8, (.int .u64), [.int .u64 (0 : Int)]⟩),
  (39, ⟨1, 8, (.int .u64), [.int .u64 (0 : Int)]⟩),
  (47, ⟨4, 32, (.struct [(0, 3), (1, 3), (2, 3), (3, 3)]), [.int .i64 (0 : Int), .int .i64 (0 : Int), .int .i64 (0 : Int), .int .i64 (0 : Int)]⟩),
  (55, ⟨1, 8, (.int .u64), [.int .u64 (0 : Int)]⟩),
  (64, ⟨2, 16, (.array 2 3), [.int .i64 (0 : Int), .int .i64 (0 : Int)]⟩),
  (69, ⟨1, 1, (.int .u8), [.int .u8 (0 : Int)]⟩),
  (73, ⟨1, 8, .fl, [.fl 0]⟩),
  (88, ⟨3, 24, (.struct [(0, 4), (1, 3), (2, 38)]), [.bool false, .int .i64 (0 : Int), .int .u64 (0 : Int)]⟩)]
theorem ty3 : TyFact Try.prog 3 ⟨1, 8, (.int .i64), [.int .i64 (0 : Int)]⟩ := tyFact_mk (z := .int .i64 (0 : Int)) (by kernel_rfl) (fun c w => by simp [LRel, VRel, Value.cells]) rfl (by simp [Value.cells, Value.oneCell']) (by simp only [descOk]; exact Try.underlying3)
theorem ty4 : TyFact Try.prog 4 ⟨1, 1, .bool, [.bool false]⟩ := tyFact_mk (z := .bool false) (by kernel_rfl) (fun c w => by simp [LRel, VRel, Value.cells]) rfl (by simp [Value.cells, Value.oneCell']) (by simp only [descOk]; exact Try.underlying4)
theorem ty5 : TyFact Try.prog 5 ⟨1, 1, (.int .u8), [.int .u8 (0 : Int)]⟩ := tyFact_mk (z := .int .u8 (0 : Int)) (by kernel_rfl) (fun c w => by simp [LRel, VRel, Value.cells]) rfl (by simp [Value.cells, Value.oneCell']) (by simp only [descOk]; exact Try.underlying5)
theorem ty22 : TyFact Try.prog 22 ⟨1, 24, (.slice 39), [.nil]⟩ := tyFact_mk (z := .slice none 0 0) (by kernel_rfl) (fun c w => by simp [LRel, VRel, Value.cells]) rfl (by simp [Value.cells, Value.oneCell']) (by simp only [descOk]; exact Try.underlying22)
theorem ty24 : TyFact Try.prog 24 ⟨3, 40, (.struct [(0, 3), (1, 3), (2, 22)]), [.int .i64 (0 : Int), .int .i64 (0 : Int), .nil]⟩ := tyFact_mk (z := .agg #[.int .i64 (0 : Int), .int .i64 (0 : Int), .slice none 0 0]) (by kernel_rfl) (fun c w => by simp [LRel, VRel, Value.cells]) rfl (by simp [Value.cells, Value.oneCell']) (by simp only [descOk]; exact ⟨_, Try.underlying24, by kernel_rfl⟩)
theorem ty25 : TyFact Try.prog 25 ⟨1, 8, (.int .i64), [.int .i64 (0 : Int)]⟩ := tyFact_mk (z := .int .i64 (0 : Int)) (by kernel_rfl) (fun c w => by simp [LRel, VRel, Value.cells]) rfl (by simp [Value.cells, Value.oneCell']) (by simp only [descOk]; exact Try.underlying25)
theorem ty38 : TyFact Try.prog 38 ⟨1, 8, (.int .u64), [.int .u64 (0 : Int)]⟩ := tyFact_mk (z := .int .u64 (0 : Int)) (by kernel_rfl) (fun c w => by simp [LRel, VRel, Value.cells]) rfl (by simp [Value.cells, Value.oneCell']) (by simp only [descOk]; exact Try.underlying38)
theorem ty39 : TyFact Try.prog 39 ⟨1, 8, (.int .u64), [.int .u64 (0 : Int)]⟩ := tyFact_mk (z := .int .u64 (0 : Int)) (by kernel_rfl) (fun c w => by simp [LRel, VRel, Value.cells]) rfl (by simp [Value.cells, Value.oneCell']) (by simp only [descOk]; exact Try.underlying39)
theorem ty47 : TyFact Try.prog 47 ⟨4, 32, (.struct [(0, 3), (1, 3), (2, 3), (3, 3)]), [.int .i64 (0 : Int), .int .i64 (0 : Int), .int .i64 (0 : Int), .int .i64 (0 : Int)]⟩ := tyFact_mk (z := .agg #[.int .i64 (0 : Int), .int .i64 (0 : Int), .int .i64 (0 : Int), .int .i64 (0 : Int)]) (by kernel_rfl) (fun c w => by simp [LRel, VRel, Value.cells]) rfl (by simp [Value.cells, Value.oneCell']) (by simp only [descOk]; exact ⟨_, Try.underlying47, by kernel_rfl⟩)
theorem ty55 : TyFact Try.prog 55 ⟨1, 8, (.int .u64), [.int .u64 (0 : Int)]⟩ := tyFact_mk (z := .int .u64 (0 : Int)) (by kernel_rfl) (fun c w => by simp [LRel, VRel, Value.cells]) rfl (by simp [Value.cells, Value.oneCell']) (by simp only [descOk]; exact Try.underlying55)
theorem ty64 : TyFact Try.prog 64 ⟨2, 16, (.array 2 3), [.int .i64 (0 : Int), .int .i64 (0 : Int)]⟩ := tyFact_mk (z := .agg #[.int .i64 (0 : Int), .int .i64 (0 : Int)]) (by kernel_rfl) (fun c w => by simp [LRel, VRel, Value.cells]) rfl (by simp [Value.cells, Value.oneCell']) (by simp only [descOk]; exact Try.underlying64)
theorem ty69 : TyFact Try.prog 69 ⟨1, 1, (.int .u8), [.int .u8 (0 : Int)]⟩ := tyFact_mk (z := .int .u8 (0 : Int)) (by kernel_rfl) (fun c w => by simp [LRel, VRel, Value.cells]) rfl (by simp [Value.cells, Value.oneCell']) (by simp only [descOk]; exact Try.underlying69)
theorem ty73 : TyFact Try.prog 73 ⟨1, 8, .fl, [.fl 0]⟩ := tyFact_mk (z := .float .f64 0) (by kernel_rfl) (fun c w => by simp [LRel, VRel, Value.cells, FEq]) rfl (by simp [Value.cells, Value.oneCell']) (by simp only [descOk]; exact Try.underlying73)
theorem ty88 : TyFact Try.prog 88 ⟨3, 24, (.struct [(0, 4), (1, 3), (2, 38)]), [.bool false, .int .i64 (0 : Int), .int .u64 (0 : Int)]⟩ := tyFact_mk (z := .agg #[.bool false, .int .i64 (0 : Int), .int .u64 (0 : Int)]) (by kernel_rfl) (fun c w => by simp [LRel, VRel, Value.cells]) rfl (by simp [Value.cells, Value.oneCell']) (by simp only [descOk]; exact ⟨_, Try.underlying88, by kernel_rfl⟩)
theorem tys_ok : TyFacts Try.prog tys := .cons ty3 <| .cons ty4 <| .cons ty5 <| .cons ty22 <| .cons ty24 <| .cons ty25 <| .cons ty38 <| .cons ty39 <| .cons ty47 <| .cons ty55 <| .cons ty64 <| .cons ty69 <| .cons ty73 <| .cons ty88 <| .nil
def exts : List (Nat × Ext) := [(73, .bits), (74, .frombits)]
def extOf : List (Nat × Ext) → Nat → Option Ext
  | [], _ => none
  | (m, e) :: l, n => bif Nat.beq m n then some e else extOf l n
theorem ext73 (args : Array Value) (w : World) : (callFunc 73 args).run Try.prog w = ((extSem .bits args).run Try.prog w).andThen fun v w' => .ok (.value v) w' := run_callFunc_extern (e := Extern.MathFloatBits.float64bits) Try.func73 (by kernel_rfl) (by kernel_rfl) (by kernel_rfl) (by kernel_rfl) args w
theorem ext74 (args : Array Value) (w : World) : (callFunc 74 args).run Try.prog w = ((extSem .frombits args).run Try.prog w).andThen fun v w' => .ok (.value v) w' := run_callFunc_extern (e := Extern.MathFloatBits.float64frombits) Try.func74 (by kernel_rfl) (by kernel_rfl) (by kernel_rfl) (by kernel_rfl) args w
def eqts : List Nat := [88, 64]
theorem eq88 : EqFact Try.prog 88 ⟨3, 24, (.struct [(0, 4), (1, 3), (2, 38)]), [.bool false, .int .i64 (0 : Int), .int .u64 (0 : Int)]⟩ where
  guard := by kernel_rfl
  eq := by
    intro w c x y xs ys hx hy hlx hly
    obtain ⟨a0, x1, rfl, hx1⟩ := shape_bool hx
    obtain ⟨a1, x2, rfl, hx2⟩ := shape_int hx1
    obtain ⟨a2, x3, rfl, hx3⟩ := shape_int hx2
    obtain rfl := shape_nil hx3
    obtain ⟨b0, y1, rfl, hy1⟩ := shape_bool hy
    obtain ⟨b1, y2, rfl, hy2⟩ := shape_int hy1
    obtain ⟨b2, y3, rfl, hy3⟩ := shape_int hy2
    obtain rfl := shape_nil hy3
    obtain ⟨xs⟩ := xs
    obtain ⟨ys⟩ := ys
    simp only [LRel.cons_iff, LRel.nil_iff, VRel] at hlx hly
    obtain ⟨_, _, rfl, rfl, _, _, rfl, rfl, _, _, rfl, rfl, rfl⟩ := hlx
    obtain ⟨_, _, rfl, rfl, _, _, rfl, rfl, _, _, rfl, rfl, rfl⟩ := hly
    have hu : Try.prog.underlying 88 = some (.struct (Try.prog.fieldsOf 88)) := by kernel_rfl
    have hp : Try.prog.stoodInHeld 88 = false := by kernel_rfl
    unfold Op.equal Op.maxDepth
    rw [run_equalIn_struct w 9999 88 _ _ hu hp]
    have hfs : Try.prog.fieldsOf 88 = (match Try.prog.underlying 88 with | some (.struct fs) => fs | _ => #[]) := rfl
    rw [hfs, Try.underlying88]
    simp [Op.eqFields, run_part_one w ty3 rfl, run_part_one w ty4 rfl, run_part_one w ty38 rfl, run_equalIn_int w _ _ _ _ _ _ Try.underlying3, run_equalIn_bool w _ _ _ _ Try.underlying4, run_equalIn_int w _ _ _ _ _ _ Try.underlying38, eqAll, eqScalar]
    by_cases h0 : a0 = b0 <;> by_cases h1 : a1 = b1 <;> by_cases h2 : a2 = b2 <;> simp [h0, h1, h2]
theorem eq64 : EqFact Try.prog 64 ⟨2, 16, (.array 2 3), [.int .i64 (0 : Int), .int .i64 (0 : Int)]⟩ where
  guard := by kernel_rfl
  eq := by
    intro w c x y xs ys hx hy hlx hly
    obtain ⟨a0, x1, rfl, hx1⟩ := shape_int hx
    obtain ⟨a1, x2, rfl, hx2⟩ := shape_int hx1
    obtain rfl := shape_nil hx2
    obtain ⟨b0, y1, rfl, hy1⟩ := shape_int hy
    obtain ⟨b1, y2, rfl, hy2⟩ := shape_int hy1
    obtain rfl := shape_nil hy2
    obtain ⟨xs⟩ := xs
    obtain ⟨ys⟩ := ys
    simp only [LRel.cons_iff, LRel.nil_iff, VRel] at hlx hly
    obtain ⟨_, _, rfl, rfl, _, _, rfl, rfl, rfl⟩ := hlx
    obtain ⟨_, _, rfl, rfl, _, _, rfl, rfl, rfl⟩ := hly
    obtain ⟨i, _, hi, _⟩ := ty3.info
    have hc : Try.prog.cellsOf 3 = 1 := by kernel_rfl
    unfold Op.equal Op.maxDepth
    rw [run_equalIn_array w 9999 _ _ Try.underlying64 hi, hc]
    simp [Op.eqItems, List.range, List.range.loop, run_part_one w ty3 rfl, run_equalIn_int w _ _ _ _ _ _ Try.underlying3, eqAll, eqScalar]
    by_cases h0 : a0 = b0 <;> by_cases h1 : a1 = b1 <;> simp [h0, h1]
def envOf (tab : Nat → Option Entry) (adopt : Nat → Bool) (hint : Nat → Option LoopHint) (live : Nat → Option (List Nat)) : Env := { ty := tyOf tys, tab := tab, ext := extOf exts, eqs := fun t => memB t eqts, adopt := adopt, live := live, hint := hint }
theorem env_ok {l : List (Nat × Entry)} (h : Knowns Try.prog l) (adopt : Nat → Bool) (hint : Nat → Option LoopHint) (live : Nat → Option (List Nat)) : EnvOk Try.prog (envOf (tabOf l) adopt hint live) where
  ty := fun t ti ht => tys_ok.get ht
  tab := fun g e hg => (h.get hg).meets
  call := fun g e hg => (h.get hg).call
  ext := by
    intro g x hx args w
    simp only [envOf, exts, extOf] at hx
    cases hb : Nat.beq 73 g with
    | true =>
      rw [hb] at hx
      cases hx
      obtain rfl := Nat.eq_of_beq_eq_true hb
      exact ext73 args w
    | false =>
    rw [hb, cond_false] at hx
    clear hb
    cases hb : Nat.beq 74 g with
    | true =>
      rw [hb] at hx
      cases hx
      obtain rfl := Nat.eq_of_beq_eq_true hb
      exact ext74 args w
    | false =>
    rw [hb, cond_false] at hx
    clear hb
    cases hx
  eqs := by
    intro t ti ht hti
    simp only [envOf, eqts, memB] at ht hti
    cases hb : Nat.beq t 88 with
    | true =>
      obtain rfl := Nat.eq_of_beq_eq_true hb
      cases hti
      exact eq88
    | false =>
    rw [hb, cond_false] at ht
    clear hb
    cases hb : Nat.beq t 64 with
    | true =>
      obtain rfl := Nat.eq_of_beq_eq_true hb
      cases hti
      exact eq64
    | false =>
    rw [hb, cond_false] at ht
    clear hb
    cases ht
  mixed := by kernel_rfl
def spoilOf (a : Nat) (e : Nat) : Nat → Option Nat := fun g => bif Nat.beq g a then some e else none
theorem spoilOf_ok {P : Program} {a e : Nat} (h : SpoilFact P a e) : ∀ g e', spoilOf a e g = some e' → SpoilFact P g e' := by
  intro g e' hg
  unfold spoilOf at hg
  cases hb : Nat.beq g a with
  | true =>
    rw [hb] at hg
    cases hg
    obtain rfl := Nat.eq_of_beq_eq_true hb
    exact h
  | false => rw [hb] at hg; cases hg
def envOfS (tab : Nat → Option Entry) (adopt : Nat → Bool) (hint : Nat → Option LoopHint) (live : Nat → Option (List Nat)) (sp : Nat → Option Nat) : Env := { ty := tyOf tys, tab := tab, ext := extOf exts, eqs := fun t => memB t eqts, adopt := adopt, live := live, hint := hint, spoil := sp }
theorem env_okS {l : List (Nat × Entry)} (h : Knowns Try.prog l) {sp : Nat → Option Nat} (hs : ∀ g e, sp g = some e → SpoilFact Try.prog g e) (adopt : Nat → Bool) (hint : Nat → Option LoopHint) (live : Nat → Option (List Nat)) : EnvOk Try.prog (envOfS (tabOf l) adopt hint live sp) :=
  have k := env_ok h adopt hint live
  ⟨k.ty, k.tab, k.call, k.ext, k.eqs, k.mixed, hs⟩
end Go.Proofs.S1

/- What each function is shown to answer. -/
namespace Go.Proofs.S1
open Go Go.Den Go.Rnd
noncomputable def soft.Split.pre : List Atom → Bool
  | [.i x] => inU64 x
  | _ => false
def soft.Split.out : List Atom → DV
  | [.i x] => .agg [.bool (negI x), .int .i64 (powI x), .int .u64 (fracI x)]
  | _ => .undef
noncomputable def soft.Split.spec : Entry := entry [.i .u64] soft.Split.pre soft.Split.out

noncomputable def soft.Kind.pre : List Atom → Bool
  | [.i x] => inU64 x
  | _ => false
def soft.Kind.out : List Atom → DV
  | [.i x] => .int .i64 (kindI x)
  | _ => .undef
noncomputable def soft.Kind.spec : Entry := entry [.i .u64] soft.Kind.pre soft.Kind.out

noncomputable def soft.Sign.pre : List Atom → Bool
  | [.i x] => inU64 x
  | _ => false
def soft.Sign.out : List Atom → DV
  | [.i x] => .bool (negI x)
  | _ => .undef
noncomputable def soft.Sign.spec : Entry := entry [.i .u64] soft.Sign.pre soft.Sign.out

noncomputable def soft.Finite.pre : List Atom → Bool
  | [.i x] => inU64 x
  | _ => false
def soft.Finite.out : List Atom → DV
  | [.i x] => .bool (finI x)
  | _ => .undef
noncomputable def soft.Finite.spec : Entry := entry [.i .u64] soft.Finite.pre soft.Finite.out

noncomputable def soft.Minus.pre : List Atom → Bool
  | [.i x] => inU64 x
  | _ => false
def soft.Minus.out : List Atom → DV
  | [.i x] => .int .u64 (minusI x)
  | _ => .undef
noncomputable def soft.Minus.spec : Entry := entry [.i .u64] soft.Minus.pre soft.Minus.out

noncomputable def soft.Parts.pre : List Atom → Bool
  | [.i x] => inU64 x
  | _ => false
def soft.Parts.out : List Atom → DV
  | [.i x] => .tup [.int .u64 (partMI x), .int .i64 (partEI x)]
  | _ => .undef
noncomputable def soft.Parts.spec : Entry := entry [.i .u64] soft.Parts.pre soft.Parts.out

def soft.Pack.mu : List Atom → Nat
  | [.b _n, .i m, .i e] => packMu m e
  | _ => 0
noncomputable def soft.Pack.pre : List Atom → Bool
  | [.b _n, .i m, .i e] => packPre m e
  | _ => false
def soft.Pack.out : List Atom → DV
  | [.b n, .i m, .i e] => .int .u64 (packI n m e)
  | _ => .undef
noncomputable def soft.Pack.spec : Entry := entry [.b, .i .u64, .i .i64] soft.Pack.pre soft.Pack.out

noncomputable def soft.Near.pre : List Atom → Bool
  | [.b _n, .i m, .i e, .b r] => nearPre m e r
  | _ => false
def soft.Near.out : List Atom → DV
  | [.b n, .i m, .i e, .b r] => .tup [.int .u64 (nearBI n m e r), .int .u8 (nearFI n m e r)]
  | _ => .undef
noncomputable def soft.Near.spec : Entry := entry [.b, .i .u64, .i .i64, .b] soft.Near.pre soft.Near.out

noncomputable def sum.right.pre : List Atom → Bool
  | [.i m, .i d] => inU64 m && cdec (0 ≤ d ∧ d < 1000000)
  | _ => false
def sum.right.out : List Atom → DV
  | [.i m, .i d] => .int .u64 (rightI m d)
  | _ => .undef
noncomputable def sum.right.spec : Entry := entry [.i .u64, .i .i64] sum.right.pre sum.right.out

noncomputable def sum.special.pre : List Atom → Bool
  | [.i a, .i b] => (inU64 a && inU64 b) && (!(finI a) || !(finI b))
  | _ => false
def sum.special.out : List Atom → DV
  | [.i a, .i b] => .tup [.int .u64 (addBI a b), .int .u8 (addFI a b)]
  | _ => .undef
noncomputable def sum.special.spec : Entry := entry [.i .u64, .i .u64] sum.special.pre sum.special.out

noncomputable def sum.Add.pre : List Atom → Bool
  | [.i a, .i b] => inU64 a && inU64 b
  | _ => false
def sum.Add.out : List Atom → DV
  | [.i a, .i b] => .tup [.int .u64 (addBI a b), .int .u8 (addFI a b)]
  | _ => .undef
noncomputable def sum.Add.spec : Entry := entry [.i .u64, .i .u64] sum.Add.pre sum.Add.out

noncomputable def sum.Sub.pre : List Atom → Bool
  | [.i a, .i b] => inU64 a && inU64 b
  | _ => false
def sum.Sub.out : List Atom → DV
  | [.i a, .i b] => .tup [.int .u64 (subBI a b), .int .u8 (subFI a b)]
  | _ => .undef
noncomputable def sum.Sub.spec : Entry := entry [.i .u64, .i .u64] sum.Sub.pre sum.Sub.out

noncomputable def ref04.Power.pre : List Atom → Bool
  | [.i x] => natI x
  | _ => false
def ref04.Power.out : List Atom → DV
  | [.i x] => .int .i64 (powI x)
  | _ => .undef
noncomputable def ref04.Power.spec : Entry := entry [.i .u64] ref04.Power.pre ref04.Power.out

noncomputable def ref04.Frac.pre : List Atom → Bool
  | [.i x] => natI x
  | _ => false
def ref04.Frac.out : List Atom → DV
  | [.i x] => .int .u64 (fracI x)
  | _ => .undef
noncomputable def ref04.Frac.spec : Entry := entry [.i .u64] ref04.Frac.pre ref04.Frac.out

noncomputable def ref04.Kind.pre : List Atom → Bool
  | [.i x] => natI x
  | _ => false
def ref04.Kind.out : List Atom → DV
  | [.i x] => .int .i64 (kindI x)
  | _ => .undef
noncomputable def ref04.Kind.spec : Entry := entry [.i .u64] ref04.Kind.pre ref04.Kind.out

noncomputable def ref04.Finite.pre : List Atom → Bool
  | [.i x] => inU64 x
  | _ => false
def ref04.Finite.out : List Atom → DV
  | [.i x] => .bool (finI x)
  | _ => .undef
noncomputable def ref04.Finite.spec : Entry := entry [.i .u64] ref04.Finite.pre ref04.Finite.out

noncomputable def ref05.Canon.pre : List Atom → Bool
  | [.i x] => natI x
  | _ => false
def ref05.Canon.out : List Atom → DV
  | [.i x] => .int .u64 (canonI x)
  | _ => .undef
noncomputable def ref05.Canon.spec : Entry := entry [.i .u64] ref05.Canon.pre ref05.Canon.out

noncomputable def mbits.LeadingZeros64.pre : List Atom → Bool
  | [.i x] => inU64 x
  | _ => false
def mbits.LeadingZeros64.out : List Atom → DV
  | [.i x] => .int .i64 (64 - len64I x)
  | _ => .undef
noncomputable def mbits.LeadingZeros64.spec : Entry := entry [.i .u64] mbits.LeadingZeros64.pre mbits.LeadingZeros64.out

noncomputable def mbits.Mul64.pre : List Atom → Bool
  | [.i x, .i y] => inU64 x && inU64 y
  | _ => false
def mbits.Mul64.out : List Atom → DV
  | [.i x, .i y] => .tup [.int .u64 (mulHi x y), .int .u64 (mulLo x y)]
  | _ => .undef
noncomputable def mbits.Mul64.spec : Entry := entry [.i .u64, .i .u64] mbits.Mul64.pre mbits.Mul64.out

noncomputable def times.signed.pre : List Atom → Bool
  | [.i b, .b _n] => inU64 b
  | _ => false
def times.signed.out : List Atom → DV
  | [.i b, .b n] => .int .u64 (signI n b)
  | _ => .undef
noncomputable def times.signed.spec : Entry := entry [.i .u64, .b] times.signed.pre times.signed.out

noncomputable def times.nan.pre : List Atom → Bool
  | [.i a, .i b] => inU64 a && inU64 b
  | _ => false
def times.nan.out : List Atom → DV
  | [.i a, .i b] => .bool (nanI a b)
  | _ => .undef
noncomputable def times.nan.spec : Entry := entry [.i .u64, .i .u64] times.nan.pre times.nan.out

noncomputable def times.norm.pre : List Atom → Bool
  | [.i b] => inU64 b && normPre b
  | _ => false
def times.norm.out : List Atom → DV
  | [.i b] => .tup [.int .u64 (normM b), .int .i64 (normE b)]
  | _ => .undef
noncomputable def times.norm.spec : Entry := entry [.i .u64] times.norm.pre times.norm.out

noncomputable def times.wide.pre : List Atom → Bool
  | [.b _n, .i m, .i e, .b _r] => widePre m e
  | _ => false
def times.wide.out : List Atom → DV
  | [.b n, .i m, .i e, .b r] => .tup [.int .u64 (nearBI n m e r), .int .u8 (nearFI n m e r)]
  | _ => .undef
noncomputable def times.wide.spec : Entry := entry [.b, .i .u64, .i .i64, .b] times.wide.pre times.wide.out

noncomputable def times.Mul.pre : List Atom → Bool
  | [.i a, .i b] => inU64 a && inU64 b
  | _ => false
def times.Mul.out : List Atom → DV
  | [.i a, .i b] => .tup [.int .u64 (mulBI a b), .int .u8 (mulFI a b)]
  | _ => .undef
noncomputable def times.Mul.spec : Entry := entry [.i .u64, .i .u64] times.Mul.pre times.Mul.out

noncomputable def vector.Add.pre : List Atom → Bool
  | [.i a, .i b] => inU64 a && inU64 b
  | _ => false
def vector.Add.out : List Atom → DV
  | [.i a, .i b] => .int .u64 (addBI a b)
  | _ => .undef
noncomputable def vector.Add.spec : Entry := entry [.i .u64, .i .u64] vector.Add.pre vector.Add.out

noncomputable def vector.Sub.pre : List Atom → Bool
  | [.i a, .i b] => inU64 a && inU64 b
  | _ => false
def vector.Sub.out : List Atom → DV
  | [.i a, .i b] => .int .u64 (subBI a b)
  | _ => .undef
noncomputable def vector.Sub.spec : Entry := entry [.i .u64, .i .u64] vector.Sub.pre vector.Sub.out

noncomputable def vector.Mul.pre : List Atom → Bool
  | [.i a, .i b] => inU64 a && inU64 b
  | _ => false
def vector.Mul.out : List Atom → DV
  | [.i a, .i b] => .int .u64 (mulBI a b)
  | _ => .undef
noncomputable def vector.Mul.spec : Entry := entry [.i .u64, .i .u64] vector.Mul.pre vector.Mul.out

noncomputable def vector.fit.pre : List Atom → Bool
  | [.l _x, .l _y] => true
  | _ => false
def vector.fit.out : List Atom → DV
  | [.l x, .l y] => .bool (fitB x y)
  | _ => .undef
noncomputable def vector.fit.spec : Entry := entry [.s .u64, .s .u64] vector.fit.pre vector.fit.out

noncomputable def vector.Dot.pre : List Atom → Bool
  | [.l x, .l y] => (fitB x y && allU64 x) && allU64 y
  | _ => false
def vector.Dot.out : List Atom → DV
  | [.l x, .l y] => .tup [.int .u64 (dotI x y), .int .i64 (0 : Int)]
  | _ => .undef
noncomputable def vector.Dot.spec : Entry := entry [.s .u64, .s .u64] vector.Dot.pre vector.Dot.out

noncomputable def ref09.F.pre : List Atom → Bool
  | [.i x] => inU64 x
  | _ => false
def ref09.F.out : List Atom → DV
  | [.i x] => .fl (Int.toNat x)
  | _ => .undef
noncomputable def ref09.F.spec : Entry := entry [.i .u64] ref09.F.pre ref09.F.out

noncomputable def ref09.B.pre : List Atom → Bool
  | [.f _x] => true
  | _ => false
def ref09.B.out : List Atom → DV
  | [.f x] => .int .u64 (canonNI x)
  | _ => .undef
noncomputable def ref09.B.spec : Entry := entry [.fl] ref09.B.pre ref09.B.out

noncomputable def ref09.Add.pre : List Atom → Bool
  | [.i a, .i b] => inU64 a && inU64 b
  | _ => false
def ref09.Add.out : List Atom → DV
  | [.i a, .i b] => .int .u64 (addBI a b)
  | _ => .undef
noncomputable def ref09.Add.spec : Entry := entry [.i .u64, .i .u64] ref09.Add.pre ref09.Add.out

noncomputable def ref09.Sub.pre : List Atom → Bool
  | [.i a, .i b] => inU64 a && inU64 b
  | _ => false
def ref09.Sub.out : List Atom → DV
  | [.i a, .i b] => .int .u64 (subBI a b)
  | _ => .undef
noncomputable def ref09.Sub.spec : Entry := entry [.i .u64, .i .u64] ref09.Sub.pre ref09.Sub.out

noncomputable def ref09.Mul.pre : List Atom → Bool
  | [.i a, .i b] => inU64 a && inU64 b
  | _ => false
def ref09.Mul.out : List Atom → DV
  | [.i a, .i b] => .int .u64 (mulBI a b)
  | _ => .undef
noncomputable def ref09.Mul.spec : Entry := entry [.i .u64, .i .u64] ref09.Mul.pre ref09.Mul.out

noncomputable def ref09.Dot.pre : List Atom → Bool
  | [.l x, .l y] => (fitB x y && allU64 x) && allU64 y
  | _ => false
def ref09.Dot.out : List Atom → DV
  | [.l x, .l y] => .int .u64 (dotI x y)
  | _ => .undef
noncomputable def ref09.Dot.spec : Entry := entry [.s .u64, .s .u64] ref09.Dot.pre ref09.Dot.out

noncomputable def ref09.Same.pre : List Atom → Bool
  | [.l x, .l _y] => okLen x
  | _ => false
def ref09.Same.out : List Atom → DV
  | [.l x, .l y] => .bool (sameL x y)
  | _ => .undef
noncomputable def ref09.Same.spec : Entry := entry [.s .u64, .s .u64] ref09.Same.pre ref09.Same.out

noncomputable def matrix.size.pre : List Atom → Bool
  | [.i _n] => true
  | _ => false
def matrix.size.out : List Atom → DV
  | [.i n] => .bool (sizeB n)
  | _ => .undef
noncomputable def matrix.size.spec : Entry := entry [.i .i64] matrix.size.pre matrix.size.out

noncomputable def matrix.Check.pre : List Atom → Bool
  | [.i _r, .i _c, .l _l] => true
  | _ => false
def matrix.Check.out : List Atom → DV
  | [.i r, .i c, .l l] => .int .i64 (chkI r c l)
  | _ => .undef
noncomputable def matrix.Check.spec : Entry := entry [.st [.i .i64, .i .i64, .s .u64]] matrix.Check.pre matrix.Check.out

noncomputable def matrix.get.pre : List Atom → Bool
  | [.i r, .i c, .l l, .i i, .i k] => atPre r c l i k
  | _ => false
def matrix.get.out : List Atom → DV
  | [.i _r, .i c, .l l, .i i, .i k] => .int .u64 (atI c l i k)
  | _ => .undef
noncomputable def matrix.get.spec : Entry := entry [.st [.i .i64, .i .i64, .s .u64], .i .i64, .i .i64] matrix.get.pre matrix.get.out

noncomputable def matrix.two.pre : List Atom → Bool
  | [.i _r, .i _c, .l _l, .i _p, .i _q, .l _m] => true
  | _ => false
def matrix.two.out : List Atom → DV
  | [.i r, .i c, .l l, .i p, .i q, .l m] => .int .i64 (twoI r c l p q m)
  | _ => .undef
noncomputable def matrix.two.spec : Entry := entry [.st [.i .i64, .i .i64, .s .u64], .st [.i .i64, .i .i64, .s .u64]] matrix.two.pre matrix.two.out

noncomputable def matrix.Row.pre : List Atom → Bool
  | [.i r, .i c, .l l, .i i, .i f] => rowPre r c l i && decide (f = 0)
  | _ => false
def matrix.Row.out : List Atom → DV
  | [.i _r, .i c, .l l, .i i, .i _f] => .ints .fresh .u64 (rowI c l i)
  | _ => .undef
noncomputable def matrix.Row.spec : Entry := entry [.st [.i .i64, .i .i64, .s .u64], .i .i64, .i .i64] matrix.Row.pre matrix.Row.out

noncomputable def matrix.Column.pre : List Atom → Bool
  | [.i r, .i c, .l l, .i k, .i f] => colPre r c l k && decide (f = 0)
  | _ => false
def matrix.Column.out : List Atom → DV
  | [.i r, .i c, .l l, .i k, .i _f] => .ints .fresh .u64 (colI r c l k)
  | _ => .undef
noncomputable def matrix.Column.spec : Entry := entry [.st [.i .i64, .i .i64, .s .u64], .i .i64, .i .i64] matrix.Column.pre matrix.Column.out

noncomputable def matrix.At.pre : List Atom → Bool
  | [.i _r, .i _c, .l _l, .i _i, .i _k] => true
  | _ => false
def matrix.At.out : List Atom → DV
  | [.i r, .i c, .l l, .i i, .i k] => .tup [.int .u64 ((getX r c l i k).1), .int .i64 ((getX r c l i k).2)]
  | _ => .undef
noncomputable def matrix.At.spec : Entry := entry [.st [.i .i64, .i .i64, .s .u64], .i .i64, .i .i64] matrix.At.pre matrix.At.out

noncomputable def matrix.Zeros_1.pre : List Atom → Bool
  | [.i _i, .i _k] => true
  | _ => false
def matrix.Zeros_1.out : List Atom → DV
  | [.i _i, .i _k] => .int .u64 (0 : Int)
  | _ => .undef
noncomputable def matrix.Zeros_1.spec : Entry := entry [.i .i64, .i .i64] matrix.Zeros_1.pre matrix.Zeros_1.out

noncomputable def matrix.Eye_1.pre : List Atom → Bool
  | [.i _i, .i _k] => true
  | _ => false
def matrix.Eye_1.out : List Atom → DV
  | [.i i, .i k] => .int .u64 (eyeI i k)
  | _ => .undef
noncomputable def matrix.Eye_1.spec : Entry := entry [.i .i64, .i .i64] matrix.Eye_1.pre matrix.Eye_1.out

noncomputable def matrix.Turn_1.pre : List Atom → Bool
  | [.i i, .i k, .i r, .i c, .l l] => atPre r c l k i
  | _ => false
def matrix.Turn_1.out : List Atom → DV
  | [.i i, .i k, .i _r, .i c, .l l] => .int .u64 (atI c l k i)
  | _ => .undef
noncomputable def matrix.Turn_1.spec : Entry := entry [.i .i64, .i .i64, .cp [.i .i64, .i .i64, .s .u64]] matrix.Turn_1.pre matrix.Turn_1.out

noncomputable def matrix.Part_1.pre : List Atom → Bool
  | [.i i, .i k, .i r, .i c, .l l, .i x, .i y] => atPre r c l (x + i) (y + k) && smallI x y i k
  | _ => false
def matrix.Part_1.out : List Atom → DV
  | [.i i, .i k, .i _r, .i c, .l l, .i x, .i y] => .int .u64 (atI c l (x + i) (y + k))
  | _ => .undef
noncomputable def matrix.Part_1.spec : Entry := entry [.i .i64, .i .i64, .cp [.i .i64, .i .i64, .s .u64], .cp [.i .i64], .cp [.i .i64]] matrix.Part_1.pre matrix.Part_1.out

noncomputable def matrix.Stack_1.pre : List Atom → Bool
  | [.i i, .i k, .i r, .i c, .l l, .i p, .i q, .l m] => stackPre r c l p q m i k
  | _ => false
def matrix.Stack_1.out : List Atom → DV
  | [.i i, .i k, .i r, .i c, .l l, .i _p, .i q, .l m] => .int .u64 (stackI r c l q m i k)
  | _ => .undef
noncomputable def matrix.Stack_1.spec : Entry := entry [.i .i64, .i .i64, .cp [.i .i64, .i .i64, .s .u64], .cp [.i .i64, .i .i64, .s .u64]] matrix.Stack_1.pre matrix.Stack_1.out

noncomputable def matrix.Beside_1.pre : List Atom → Bool
  | [.i i, .i k, .i r, .i c, .l l, .i p, .i q, .l m] => besidePre r c l p q m i k
  | _ => false
def matrix.Beside_1.out : List Atom → DV
  | [.i i, .i k, .i _r, .i c, .l l, .i _p, .i q, .l m] => .int .u64 (besideI c l q m i k)
  | _ => .undef
noncomputable def matrix.Beside_1.spec : Entry := entry [.i .i64, .i .i64, .cp [.i .i64, .i .i64, .s .u64], .cp [.i .i64, .i .i64, .s .u64]] matrix.Beside_1.pre matrix.Beside_1.out

noncomputable def matrix.Mul_1.pre : List Atom → Bool
  | [.i i, .i k, .i r, .i c, .l l, .i p, .i q, .l m] => mulPre r c l p q m i k
  | _ => false
def matrix.Mul_1.out : List Atom → DV
  | [.i i, .i k, .i _r, .i c, .l l, .i p, .i q, .l m] => .int .u64 (dotI (rowI c l i) (colI p q m k))
  | _ => .undef
noncomputable def matrix.Mul_1.spec : Entry := entry [.i .i64, .i .i64, .cp [.i .i64, .i .i64, .s .u64], .cp [.i .i64, .i .i64, .s .u64]] matrix.Mul_1.pre matrix.Mul_1.out

noncomputable def matrix.of.Zeros.pre : List Atom → Bool
  | [.i a, .i b] => (sizeB a && sizeB b)
  | _ => false
def matrix.of.Zeros.out : List Atom → DV
  | [.i a, .i b] => .agg [.int .i64 a, .int .i64 b, .ints .fresh .u64 (grid (Int.toNat a) (Int.toNat b) (fun _ _ => 0))]
  | _ => .undef
noncomputable def matrix.of.Zeros.spec : Entry := entry [.i .i64, .i .i64, .fn 40 []] matrix.of.Zeros.pre matrix.of.Zeros.out

noncomputable def matrix.of.Eye.pre : List Atom → Bool
  | [.i a, .i b] => (sizeB a && sizeB b)
  | _ => false
def matrix.of.Eye.out : List Atom → DV
  | [.i a, .i b] => .agg [.int .i64 a, .int .i64 b, .ints .fresh .u64 (grid (Int.toNat a) (Int.toNat b) (fun j1 j2 => eyeI j1 j2))]
  | _ => .undef
noncomputable def matrix.of.Eye.spec : Entry := entry [.i .i64, .i .i64, .fn 41 []] matrix.of.Eye.pre matrix.of.Eye.out

noncomputable def matrix.of.Turn.pre : List Atom → Bool
  | [.i a, .i b, .i r, .i c, .l l] => (sizeB a && sizeB b) && rightB r c l && decide (a = c ∧ b = r)
  | _ => false
def matrix.of.Turn.out : List Atom → DV
  | [.i a, .i b, .i _r, .i c, .l l] => .agg [.int .i64 a, .int .i64 b, .ints .fresh .u64 (grid (Int.toNat a) (Int.toNat b) (fun j1 j2 => atI c l j2 j1))]
  | _ => .undef
noncomputable def matrix.of.Turn.spec : Entry := entry [.i .i64, .i .i64, .fn 43 [.cp [.i .i64, .i .i64, .s .u64]]] matrix.of.Turn.pre matrix.of.Turn.out

noncomputable def matrix.of.Part.pre : List Atom → Bool
  | [.i a, .i b, .i r, .i c, .l l, .i x, .i y] => (sizeB a && sizeB b) && rightB r c l && partB r c x y a b
  | _ => false
def matrix.of.Part.out : List Atom → DV
  | [.i a, .i b, .i _r, .i c, .l l, .i x, .i y] => .agg [.int .i64 a, .int .i64 b, .ints .fresh .u64 (grid (Int.toNat a) (Int.toNat b) (fun j1 j2 => atI c l (x + j1) (y + j2)))]
  | _ => .undef
noncomputable def matrix.of.Part.spec : Entry := entry [.i .i64, .i .i64, .fn 51 [.cp [.i .i64, .i .i64, .s .u64], .cp [.i .i64], .cp [.i .i64]]] matrix.of.Part.pre matrix.of.Part.out

noncomputable def matrix.of.Stack.pre : List Atom → Bool
  | [.i a, .i b, .i r, .i c, .l l, .i p, .i q, .l m] => (sizeB a && sizeB b) && (rightB r c l && rightB p q m) && decide (a = r + p ∧ b = c ∧ q = c)
  | _ => false
def matrix.of.Stack.out : List Atom → DV
  | [.i a, .i b, .i r, .i c, .l l, .i _p, .i q, .l m] => .agg [.int .i64 a, .int .i64 b, .ints .fresh .u64 (grid (Int.toNat a) (Int.toNat b) (fun j1 j2 => stackI r c l q m j1 j2))]
  | _ => .undef
noncomputable def matrix.of.Stack.spec : Entry := entry [.i .i64, .i .i64, .fn 58 [.cp [.i .i64, .i .i64, .s .u64], .cp [.i .i64, .i .i64, .s .u64]]] matrix.of.Stack.pre matrix.of.Stack.out

noncomputable def matrix.of.Beside.pre : List Atom → Bool
  | [.i a, .i b, .i r, .i c, .l l, .i p, .i q, .l m] => (sizeB a && sizeB b) && (rightB r c l && rightB p q m) && decide (a = r ∧ b = c + q ∧ p = r)
  | _ => false
def matrix.of.Beside.out : List Atom → DV
  | [.i a, .i b, .i _r, .i c, .l l, .i _p, .i q, .l m] => .agg [.int .i64 a, .int .i64 b, .ints .fresh .u64 (grid (Int.toNat a) (Int.toNat b) (fun j1 j2 => besideI c l q m j1 j2))]
  | _ => .undef
noncomputable def matrix.of.Beside.spec : Entry := entry [.i .i64, .i .i64, .fn 59 [.cp [.i .i64, .i .i64, .s .u64], .cp [.i .i64, .i .i64, .s .u64]]] matrix.of.Beside.pre matrix.of.Beside.out

noncomputable def matrix.of.Mul.pre : List Atom → Bool
  | [.i a, .i b, .i r, .i c, .l l, .i p, .i q, .l m] => (sizeB a && sizeB b) && ((rightB r c l && rightB p q m) && (allU64 l && allU64 m)) && decide (a = r ∧ b = q ∧ c = p)
  | _ => false
def matrix.of.Mul.out : List Atom → DV
  | [.i a, .i b, .i _r, .i c, .l l, .i p, .i q, .l m] => .agg [.int .i64 a, .int .i64 b, .ints .fresh .u64 (grid (Int.toNat a) (Int.toNat b) (fun j1 j2 => dotI (rowI c l j1) (colI p q m j2)))]
  | _ => .undef
noncomputable def matrix.of.Mul.spec : Entry := entry [.i .i64, .i .i64, .fn 47 [.cp [.i .i64, .i .i64, .s .u64], .cp [.i .i64, .i .i64, .s .u64]]] matrix.of.Mul.pre matrix.of.Mul.out

noncomputable def matrix.Zeros.pre : List Atom → Bool
  | [.i _a, .i _b] => true
  | _ => false
def matrix.Zeros.out : List Atom → DV
  | [.i a, .i b] => .tup [.agg [.int .i64 ((zerosX a b).1), .int .i64 ((zerosX a b).2.1), .ints .fresh .u64 ((zerosX a b).2.2.1)], .int .i64 ((zerosX a b).2.2.2)]
  | _ => .undef
noncomputable def matrix.Zeros.spec : Entry := entry [.i .i64, .i .i64] matrix.Zeros.pre matrix.Zeros.out

noncomputable def matrix.Eye.pre : List Atom → Bool
  | [.i _n] => true
  | _ => false
def matrix.Eye.out : List Atom → DV
  | [.i n] => .tup [.agg [.int .i64 ((eyeX n).1), .int .i64 ((eyeX n).2.1), .ints .fresh .u64 ((eyeX n).2.2.1)], .int .i64 ((eyeX n).2.2.2)]
  | _ => .undef
noncomputable def matrix.Eye.spec : Entry := entry [.i .i64] matrix.Eye.pre matrix.Eye.out

noncomputable def matrix.Turn.pre : List Atom → Bool
  | [.i _r, .i _c, .l _l] => true
  | _ => false
def matrix.Turn.out : List Atom → DV
  | [.i r, .i c, .l l] => .tup [.agg [.int .i64 ((turnX r c l).1), .int .i64 ((turnX r c l).2.1), .ints .fresh .u64 ((turnX r c l).2.2.1)], .int .i64 ((turnX r c l).2.2.2)]
  | _ => .undef
noncomputable def matrix.Turn.spec : Entry := entry [.st [.i .i64, .i .i64, .s .u64]] matrix.Turn.pre matrix.Turn.out

noncomputable def matrix.Part.pre : List Atom → Bool
  | [.i _r, .i _c, .l _l, .i _x, .i _y, .i _a, .i _b] => true
  | _ => false
def matrix.Part.out : List Atom → DV
  | [.i r, .i c, .l l, .i x, .i y, .i a, .i b] => .tup [.agg [.int .i64 ((partX r c l x y a b).1), .int .i64 ((partX r c l x y a b).2.1), .ints .fresh .u64 ((partX r c l x y a b).2.2.1)], .int .i64 ((partX r c l x y a b).2.2.2)]
  | _ => .undef
noncomputable def matrix.Part.spec : Entry := entry [.st [.i .i64, .i .i64, .s .u64], .i .i64, .i .i64, .i .i64, .i .i64] matrix.Part.pre matrix.Part.out

noncomputable def matrix.Stack.pre : List Atom → Bool
  | [.i _r, .i _c, .l _l, .i _p, .i _q, .l _m] => true
  | _ => false
def matrix.Stack.out : List Atom → DV
  | [.i r, .i c, .l l, .i p, .i q, .l m] => .tup [.agg [.int .i64 ((stackX r c l p q m).1), .int .i64 ((stackX r c l p q m).2.1), .ints .fresh .u64 ((stackX r c l p q m).2.2.1)], .int .i64 ((stackX r c l p q m).2.2.2)]
  | _ => .undef
noncomputable def matrix.Stack.spec : Entry := entry [.st [.i .i64, .i .i64, .s .u64], .st [.i .i64, .i .i64, .s .u64]] matrix.Stack.pre matrix.Stack.out

noncomputable def matrix.Beside.pre : List Atom → Bool
  | [.i _r, .i _c, .l _l, .i _p, .i _q, .l _m] => true
  | _ => false
def matrix.Beside.out : List Atom → DV
  | [.i r, .i c, .l l, .i p, .i q, .l m] => .tup [.agg [.int .i64 ((besideX r c l p q m).1), .int .i64 ((besideX r c l p q m).2.1), .ints .fresh .u64 ((besideX r c l p q m).2.2.1)], .int .i64 ((besideX r c l p q m).2.2.2)]
  | _ => .undef
noncomputable def matrix.Beside.spec : Entry := entry [.st [.i .i64, .i .i64, .s .u64], .st [.i .i64, .i .i64, .s .u64]] matrix.Beside.pre matrix.Beside.out

noncomputable def matrix.Mul.pre : List Atom → Bool
  | [.i _r, .i _c, .l l, .i _p, .i _q, .l m] => allU64 l && allU64 m
  | _ => false
def matrix.Mul.out : List Atom → DV
  | [.i r, .i c, .l l, .i p, .i q, .l m] => .tup [.agg [.int .i64 ((mulX r c l p q m).1), .int .i64 ((mulX r c l p q m).2.1), .ints .fresh .u64 ((mulX r c l p q m).2.2.1)], .int .i64 ((mulX r c l p q m).2.2.2)]
  | _ => .undef
noncomputable def matrix.Mul.spec : Entry := entry [.st [.i .i64, .i .i64, .s .u64], .st [.i .i64, .i .i64, .s .u64]] matrix.Mul.pre matrix.Mul.out

noncomputable def ref10.Right.pre : List Atom → Bool
  | [.i _r, .i _c, .l _l] => true
  | _ => false
def ref10.Right.out : List Atom → DV
  | [.i r, .i c, .l l] => .bool (rightB r c l)
  | _ => .undef
noncomputable def ref10.Right.spec : Entry := entry [.st [.i .i64, .i .i64, .s .u64]] ref10.Right.pre ref10.Right.out

noncomputable def ref10.At.pre : List Atom → Bool
  | [.i r, .i c, .l l, .i i, .i k] => atPre r c l i k
  | _ => false
def ref10.At.out : List Atom → DV
  | [.i _r, .i c, .l l, .i i, .i k] => .int .u64 (atI c l i k)
  | _ => .undef
noncomputable def ref10.At.spec : Entry := entry [.st [.i .i64, .i .i64, .s .u64], .i .i64, .i .i64] ref10.At.pre ref10.At.out

noncomputable def ref10.Zeros.pre : List Atom → Bool
  | [.i a, .i b] => sizeB a && sizeB b
  | _ => false
def ref10.Zeros.out : List Atom → DV
  | [.i a, .i b] => .agg [.int .i64 a, .int .i64 b, .ints .fresh .u64 (grid (Int.toNat a) (Int.toNat b) (fun _ _ => 0))]
  | _ => .undef
noncomputable def ref10.Zeros.spec : Entry := entry [.i .i64, .i .i64] ref10.Zeros.pre ref10.Zeros.out

noncomputable def ref10.With.pre : List Atom → Bool
  | [.i r, .i c, .l l, .i i, .i k, .i _b] => atPre r c l i k
  | _ => false
def ref10.With.out : List Atom → DV
  | [.i r, .i c, .l l, .i i, .i k, .i b] => .agg [.int .i64 r, .int .i64 c, .ints .fresh .u64 (List.set l (Int.toNat (i * c + k)) b)]
  | _ => .undef
noncomputable def ref10.With.spec : Entry := entry [.st [.i .i64, .i .i64, .s .u64], .i .i64, .i .i64, .i .u64] ref10.With.pre ref10.With.out

noncomputable def ref10.Eye.pre : List Atom → Bool
  | [.i n] => sizeB n
  | _ => false
def ref10.Eye.out : List Atom → DV
  | [.i n] => .agg [.int .i64 n, .int .i64 n, .ints .fresh .u64 (grid (Int.toNat n) (Int.toNat n) (fun j1 j2 => eyeI j1 j2))]
  | _ => .undef
noncomputable def ref10.Eye.spec : Entry := entry [.i .i64] ref10.Eye.pre ref10.Eye.out

noncomputable def ref10.Same.pre : List Atom → Bool
  | [.i _r, .i _c, .l l, .i _p, .i _q, .l _m] => okLen l
  | _ => false
def ref10.Same.out : List Atom → DV
  | [.i r, .i c, .l l, .i p, .i q, .l m] => .bool (sameM r c l p q m)
  | _ => .undef
noncomputable def ref10.Same.spec : Entry := entry [.st [.i .i64, .i .i64, .s .u64], .st [.i .i64, .i .i64, .s .u64]] ref10.Same.pre ref10.Same.out

noncomputable def ref10.Copy.pre : List Atom → Bool
  | [.i _r, .i _c, .l l] => okLen l
  | _ => false
def ref10.Copy.out : List Atom → DV
  | [.i r, .i c, .l l] => .agg [.int .i64 r, .int .i64 c, .ints .fresh .u64 l]
  | _ => .undef
noncomputable def ref10.Copy.spec : Entry := entry [.st [.i .i64, .i .i64, .s .u64]] ref10.Copy.pre ref10.Copy.out

noncomputable def ref10.Row.pre : List Atom → Bool
  | [.i r, .i c, .l l, .i i] => rowPre r c l i
  | _ => false
def ref10.Row.out : List Atom → DV
  | [.i _r, .i c, .l l, .i i] => .ints .arg .u64 (rowI c l i)
  | _ => .undef
noncomputable def ref10.Row.spec : Entry := entry [.st [.i .i64, .i .i64, .s .u64], .i .i64] ref10.Row.pre ref10.Row.out

noncomputable def ref10.Col.pre : List Atom → Bool
  | [.i r, .i c, .l l, .i k, .i f] => colPre r c l k && decide (f = 0)
  | _ => false
def ref10.Col.out : List Atom → DV
  | [.i r, .i c, .l l, .i k, .i _f] => .ints .fresh .u64 (colI r c l k)
  | _ => .undef
noncomputable def ref10.Col.spec : Entry := entry [.st [.i .i64, .i .i64, .s .u64], .i .i64, .i .i64] ref10.Col.pre ref10.Col.out

noncomputable def ref10.Mul.pre : List Atom → Bool
  | [.i r, .i c, .l l, .i p, .i q, .l m] => (rightB r c l && rightB p q m) && ((allU64 l && allU64 m) && decide (c = p))
  | _ => false
def ref10.Mul.out : List Atom → DV
  | [.i r, .i c, .l l, .i p, .i q, .l m] => .agg [.int .i64 r, .int .i64 q, .ints .fresh .u64 (grid (Int.toNat r) (Int.toNat q) (fun j1 j2 => dotI (rowI c l j1) (colI p q m j2)))]
  | _ => .undef
noncomputable def ref10.Mul.spec : Entry := entry [.st [.i .i64, .i .i64, .s .u64], .st [.i .i64, .i .i64, .s .u64]] ref10.Mul.pre ref10.Mul.out

noncomputable def ref10.Turn.pre : List Atom → Bool
  | [.i r, .i c, .l l] => rightB r c l
  | _ => false
def ref10.Turn.out : List Atom → DV
  | [.i r, .i c, .l l] => .agg [.int .i64 c, .int .i64 r, .ints .fresh .u64 (grid (Int.toNat c) (Int.toNat r) (fun j1 j2 => atI c l j2 j1))]
  | _ => .undef
noncomputable def ref10.Turn.spec : Entry := entry [.st [.i .i64, .i .i64, .s .u64]] ref10.Turn.pre ref10.Turn.out

noncomputable def ref10.Part.pre : List Atom → Bool
  | [.i r, .i c, .l l, .i x, .i y, .i a, .i b] => rightB r c l && partB r c x y a b
  | _ => false
def ref10.Part.out : List Atom → DV
  | [.i _r, .i c, .l l, .i x, .i y, .i a, .i b] => .agg [.int .i64 a, .int .i64 b, .ints .fresh .u64 (grid (Int.toNat a) (Int.toNat b) (fun j1 j2 => atI c l (x + j1) (y + j2)))]
  | _ => .undef
noncomputable def ref10.Part.spec : Entry := entry [.st [.i .i64, .i .i64, .s .u64], .i .i64, .i .i64, .i .i64, .i .i64] ref10.Part.pre ref10.Part.out

noncomputable def ref10.In.pre : List Atom → Bool
  | [.i r, .i c, .l l, .i _x, .i _y, .i _a, .i _b] => rightB r c l
  | _ => false
def ref10.In.out : List Atom → DV
  | [.i r, .i c, .l _l, .i x, .i y, .i a, .i b] => .bool (partB r c x y a b)
  | _ => .undef
noncomputable def ref10.In.spec : Entry := entry [.st [.i .i64, .i .i64, .s .u64], .i .i64, .i .i64, .i .i64, .i .i64] ref10.In.pre ref10.In.out

noncomputable def law10.told.pre : List Atom → Bool
  | [.i _r, .i _c, .l l, .i _e, .i _p, .i _q, .l _m, .i _f] => okLen l
  | _ => false
def law10.told.out : List Atom → DV
  | [.i r, .i c, .l l, .i e, .i p, .i q, .l m, .i f] => .bool (toldB r c l e p q m f)
  | _ => .undef
noncomputable def law10.told.spec : Entry := entry [.st [.i .i64, .i .i64, .s .u64], .i .i64, .st [.i .i64, .i .i64, .s .u64], .i .i64] law10.told.pre law10.told.out

noncomputable def law10.form.pre : List Atom → Bool
  | [.i _r, .i _c, .l _l, .i _p, .i _q, .l _m] => true
  | _ => false
def law10.form.out : List Atom → DV
  | [.i r, .i c, .l l, .i p, .i q, .l m] => .int .i64 (twoI r c l p q m)
  | _ => .undef
noncomputable def law10.form.spec : Entry := entry [.st [.i .i64, .i .i64, .s .u64], .st [.i .i64, .i .i64, .s .u64]] law10.form.pre law10.form.out

noncomputable def law10.awake.pre : List Atom → Bool
  | [] => true
  | _ => false
def law10.awake.out : List Atom → DV
  | [] => .bool true
  | _ => .undef
noncomputable def law10.awake.spec : Entry := entry [] law10.awake.pre law10.awake.out

noncomputable def law10.MatrixMakes.pre : List Atom → Bool
  | [.i a, .i b] => inI64 a && inI64 b
  | _ => false
def law10.MatrixMakes.out : List Atom → DV
  | [.i _a, .i _b] => .bool true
  | _ => .undef
noncomputable def law10.MatrixMakes.spec : Entry := entry [.i .i64, .i .i64] law10.MatrixMakes.pre law10.MatrixMakes.out

noncomputable def law10.MatrixChecks.pre : List Atom → Bool
  | [.i r, .i c, .l _l, .i i, .i k] => (inI64 r && inI64 c) && (inI64 i && inI64 k)
  | _ => false
def law10.MatrixChecks.out : List Atom → DV
  | [.i _r, .i _c, .l _l, .i _i, .i _k] => .bool true
  | _ => .undef
noncomputable def law10.MatrixChecks.spec : Entry := entry [.st [.i .i64, .i .i64, .s .u64], .i .i64, .i .i64] law10.MatrixChecks.pre law10.MatrixChecks.out

noncomputable def law10.MatrixTurns.pre : List Atom → Bool
  | [.i _r, .i _c, .l l, .i _p, .i _q, .l m] => allU64 l && allU64 m
  | _ => false
def law10.MatrixTurns.out : List Atom → DV
  | [.i _r, .i _c, .l _l, .i _p, .i _q, .l _m] => .bool true
  | _ => .undef
noncomputable def law10.MatrixTurns.spec : Entry := entry [.st [.i .i64, .i .i64, .s .u64], .st [.i .i64, .i .i64, .s .u64]] law10.MatrixTurns.pre law10.MatrixTurns.out

noncomputable def law10.MatrixTiles.pre : List Atom → Bool
  | [.i _r, .i _c, .l l, .i i, .i k] => allU64 l && (inI64 i && inI64 k)
  | _ => false
def law10.MatrixTiles.out : List Atom → DV
  | [.i _r, .i _c, .l _l, .i _i, .i _k] => .bool true
  | _ => .undef
noncomputable def law10.MatrixTiles.spec : Entry := entry [.st [.i .i64, .i .i64, .s .u64], .i .i64, .i .i64] law10.MatrixTiles.pre law10.MatrixTiles.out

noncomputable def law10.spoil.pre : List Atom → Bool
  | [.i _r, .i _c, .l _l] => true
  | _ => false
def law10.spoil.out : List Atom → DV
  | [.i _r, .i _c, .l _l] => .bool true
  | _ => .undef
noncomputable def law10.spoil.spec : Entry := entry [.st [.i .i64, .i .i64, .s .u64]] law10.spoil.pre law10.spoil.out

noncomputable def ref10.Copy.own.pre : List Atom → Bool
  | [.i _r, .i _c, .l l] => okLen l
  | _ => false
def ref10.Copy.own.out : List Atom → DV
  | [.i r, .i c, .l l] => .agg [.int .i64 r, .int .i64 c, .ints (.own 10 39) .u64 l]
  | _ => .undef
noncomputable def ref10.Copy.own.spec : Entry := entry [.st [.i .i64, .i .i64, .s .u64]] ref10.Copy.own.pre ref10.Copy.own.out

noncomputable def law10.MatrixParts.pre : List Atom → Bool
  | [.i _r, .i _c, .l l, .i x, .i y, .i a, .i b] => okLen l && ((inI64 x && inI64 y) && (inI64 a && inI64 b))
  | _ => false
def law10.MatrixParts.out : List Atom → DV
  | [.i _r, .i _c, .l _l, .i _x, .i _y, .i _a, .i _b] => .bool true
  | _ => .undef
noncomputable def law10.MatrixParts.spec : Entry := entry [.st [.i .i64, .i .i64, .s .u64], .st [.i .i64, .i .i64, .i .i64, .i .i64]] law10.MatrixParts.pre law10.MatrixParts.out

noncomputable def matrix.Sub_1.pre : List Atom → Bool
  | [.i i, .i k, .i r, .i c, .l l, .i p, .i q, .l m] => ((atPre r c l i k && atPre p q m i k) && allU64 l) && allU64 m
  | _ => false
def matrix.Sub_1.out : List Atom → DV
  | [.i i, .i k, .i _r, .i c, .l l, .i _p, .i q, .l m] => .int .u64 (subBI (atI c l i k) (atI q m i k))
  | _ => .undef
noncomputable def matrix.Sub_1.spec : Entry := entry [.i .i64, .i .i64, .cp [.i .i64, .i .i64, .s .u64], .cp [.i .i64, .i .i64, .s .u64]] matrix.Sub_1.pre matrix.Sub_1.out

noncomputable def matrix.of.Sub.pre : List Atom → Bool
  | [.i a, .i b, .i r, .i c, .l l, .i p, .i q, .l m] => (sizeB a && sizeB b) && ((rightB r c l && rightB p q m) && (allU64 l && allU64 m)) && decide (a = r ∧ b = c ∧ p = r ∧ q = c)
  | _ => false
def matrix.of.Sub.out : List Atom → DV
  | [.i a, .i b, .i _r, .i c, .l l, .i _p, .i q, .l m] => .agg [.int .i64 a, .int .i64 b, .ints .fresh .u64 (grid (Int.toNat a) (Int.toNat b) (fun j1 j2 => subBI (atI c l j1 j2) (atI q m j1 j2)))]
  | _ => .undef
noncomputable def matrix.of.Sub.spec : Entry := entry [.i .i64, .i .i64, .fn 52 [.cp [.i .i64, .i .i64, .s .u64], .cp [.i .i64, .i .i64, .s .u64]]] matrix.of.Sub.pre matrix.of.Sub.out

noncomputable def matrix.Sub.pre : List Atom → Bool
  | [.i _r, .i _c, .l l, .i _p, .i _q, .l m] => allU64 l && allU64 m
  | _ => false
def matrix.Sub.out : List Atom → DV
  | [.i r, .i c, .l l, .i p, .i q, .l m] => .tup [.agg [.int .i64 ((subX r c l p q m).1), .int .i64 ((subX r c l p q m).2.1), .ints .fresh .u64 ((subX r c l p q m).2.2.1)], .int .i64 ((subX r c l p q m).2.2.2)]
  | _ => .undef
noncomputable def matrix.Sub.spec : Entry := entry [.st [.i .i64, .i .i64, .s .u64], .st [.i .i64, .i .i64, .s .u64]] matrix.Sub.pre matrix.Sub.out

noncomputable def ref10.Zeros.own.pre : List Atom → Bool
  | [.i a, .i b] => sizeB a && sizeB b
  | _ => false
def ref10.Zeros.own.out : List Atom → DV
  | [.i a, .i b] => .agg [.int .i64 a, .int .i64 b, .ints (.own 10 39) .u64 (grid (Int.toNat a) (Int.toNat b) (fun _ _ => 0))]
  | _ => .undef
noncomputable def ref10.Zeros.own.spec : Entry := entry [.i .i64, .i .i64] ref10.Zeros.own.pre ref10.Zeros.own.out

noncomputable def ref10.Sub.pre : List Atom → Bool
  | [.i r, .i c, .l l, .i p, .i q, .l m] => (rightB r c l && rightB p q m) && ((allU64 l && allU64 m) && decide (p = r ∧ q = c))
  | _ => false
def ref10.Sub.out : List Atom → DV
  | [.i r, .i c, .l l, .i _p, .i q, .l m] => .agg [.int .i64 r, .int .i64 c, .ints .fresh .u64 (grid (Int.toNat r) (Int.toNat c) (fun j1 j2 => subBI (atI c l j1 j2) (atI q m j1 j2)))]
  | _ => .undef
noncomputable def ref10.Sub.spec : Entry := entry [.st [.i .i64, .i .i64, .s .u64], .st [.i .i64, .i .i64, .s .u64]] ref10.Sub.pre ref10.Sub.out

noncomputable def law10.MatrixMuls.pre : List Atom → Bool
  | [.i _r, .i _c, .l l, .i _p, .i _q, .l m] => allU64 l && allU64 m
  | _ => false
def law10.MatrixMuls.out : List Atom → DV
  | [.i _r, .i _c, .l _l, .i _p, .i _q, .l _m] => .bool true
  | _ => .undef
noncomputable def law10.MatrixMuls.spec : Entry := entry [.st [.i .i64, .i .i64, .s .u64], .st [.i .i64, .i .i64, .s .u64]] law10.MatrixMuls.pre law10.MatrixMuls.out

noncomputable def ref10.Stack.pre : List Atom → Bool
  | [.i r, .i c, .l l, .i p, .i q, .l m] => (rightB r c l && rightB p q m) && decide (q = c)
  | _ => false
def ref10.Stack.out : List Atom → DV
  | [.i r, .i c, .l l, .i p, .i _q, .l m] => .agg [.int .i64 (r + p), .int .i64 c, .ints .fresh .u64 (l ++ m)]
  | _ => .undef
noncomputable def ref10.Stack.spec : Entry := entry [.st [.i .i64, .i .i64, .s .u64], .st [.i .i64, .i .i64, .s .u64]] ref10.Stack.pre ref10.Stack.out

noncomputable def ref10.Beside.pre : List Atom → Bool
  | [.i r, .i c, .l l, .i p, .i q, .l m] => (rightB r c l && rightB p q m) && decide (p = r ∧ c + q ≤ 6)
  | _ => false
def ref10.Beside.out : List Atom → DV
  | [.i r, .i c, .l l, .i _p, .i q, .l m] => .agg [.int .i64 r, .int .i64 (c + q), .ints .fresh .u64 (grid (Int.toNat r) (Int.toNat (c + q)) (fun j1 j2 => besideI c l q m j1 j2))]
  | _ => .undef
noncomputable def ref10.Beside.spec : Entry := entry [.st [.i .i64, .i .i64, .s .u64], .st [.i .i64, .i .i64, .s .u64]] ref10.Beside.pre ref10.Beside.out

noncomputable def law10.MatrixStacks.pre : List Atom → Bool
  | [.i _r, .i _c, .l l, .i _p, .i _q, .l m] => okLen l && okLen m
  | _ => false
def law10.MatrixStacks.out : List Atom → DV
  | [.i _r, .i _c, .l _l, .i _p, .i _q, .l _m] => .bool true
  | _ => .undef
noncomputable def law10.MatrixStacks.spec : Entry := entry [.st [.i .i64, .i .i64, .s .u64], .st [.i .i64, .i .i64, .s .u64]] law10.MatrixStacks.pre law10.MatrixStacks.out

noncomputable def ref05.Canon.nb.pre : List Atom → Bool
  | [.f _x] => true
  | _ => false
def ref05.Canon.nb.out : List Atom → DV
  | [.f x] => .int .u64 (canonNI x)
  | _ => .undef
noncomputable def ref05.Canon.nb.spec : Entry := entry [.nb] ref05.Canon.nb.pre ref05.Canon.nb.out

noncomputable def mbits.Len64.pre : List Atom → Bool
  | [.i x] => inU64 x
  | _ => false
def mbits.Len64.out : List Atom → DV
  | [.i x] => .int .i64 (len64I x)
  | _ => .undef
noncomputable def mbits.Len64.spec : Entry := entry [.i .u64] mbits.Len64.pre mbits.Len64.out
end Go.Proofs.S1
