/-
  No cell of these rows narrows 'for every input' (looked for: loops, veiled, ifaces, maps, wideKeys, modest, calm, conditions, laid).
  DERIVED. THE GIVEN ROWS OF THIS SEAT. 6 by the template 'for every input the law returns true; each argument reads behind the call as it read before'; 0 by the template 'total and deterministic' (their statements: YthajngaadbanfaaGreatTotals.lean).
  GIVEN WITH THE SEED: the statements are not yours to turn. If you find one false, say at which input.
  Laid BY PROGRAM, IN A SANDBOX (cutbox-rows.mjs): the forced cells as the released guide's own fill.sh prints them over the translation 438eaed27949cec9… (all of the seat's roots in one cut). By AI agents, Wed Nov 11 2026. No macro, syntax, notation, axiom, sorry.
-/
import Derived.Test.YthajngaadbanfaaGreatChecked
import GoSem.Claim
import GoSem.ClaimJoined
import GoSem.ClaimMapViews
import Derived.JoinedTies
import Derived.KernelRfl
namespace Go.Proofs.YthajngaadbanfaaGreat
/- THE CELL 'sum', in the pinned program and in every row, IS THE sha256 OF THE DUMP (.gsa) THAT YthajngaadbanfaaGreatProg.lean LOADS. Nothing in Lean hashes anything: it is a label: what it is worth is what the hold of that sum in a sandbox is worth. -/
noncomputable def Tryz.pinned : Pinned := { name := "ythajngaadbanfaagreat", sum := "438eaed27949cec92cc8f45b3c44ee5520241d93eb292a731b9b7e4a2003c40f", checked := Tryz.checked }
namespace Rows
def none {H : Type} : Left H := { results := [], args := [] }

/-- 'dioptralaw23.GsvdRight': WHATEVER THE INPUT: true; the input reads as it did. -/
def gsvdRightSpec : ChangeSpec := { name := "gsvdRight", fn := fun _ => fun
  | [d1, d2] => { results := [.lit (.bool true)], args := [d1, d2] }
  | _ => none }
def gsvdRightRow : OpenClaim := { program := "ythajngaadbanfaagreat", sum := "438eaed27949cec92cc8f45b3c44ee5520241d93eb292a731b9b7e4a2003c40f", func := "dioptra/dioptralaw23.GsvdRight", spec := "gsvdRight", inPlace := ["math/bits.Sub64"], unfollowed := true, recurses := true, apart := false }
def GsvdRightSaid : Prop := gsvdRightRow.holds Tryz.pinned (OpenSpec.ofChange gsvdRightSpec)

/-- ITS FALSE NEIGHBOUR: 'it returns false'. Refute it at one input. -/
def gsvdRightWrong : ChangeSpec := { name := "gsvdRight", fn := fun _ => fun
  | [d1, d2] => { results := [.lit (.bool false)], args := [d1, d2] }
  | _ => none }
def GsvdRightWrongFalsely : Prop := gsvdRightRow.holds Tryz.pinned (OpenSpec.ofChange gsvdRightWrong)

/-- 'dioptralaw23.GsvdOnes': WHATEVER THE INPUT: true; the input reads as it did. -/
def gsvdOnesSpec : ChangeSpec := { name := "gsvdOnes", fn := fun _ => fun
  | [d1, d2] => { results := [.lit (.bool true)], args := [d1, d2] }
  | _ => none }
def gsvdOnesRow : OpenClaim := { program := "ythajngaadbanfaagreat", sum := "438eaed27949cec92cc8f45b3c44ee5520241d93eb292a731b9b7e4a2003c40f", func := "dioptra/dioptralaw23.GsvdOnes", spec := "gsvdOnes", inPlace := ["math/bits.Sub64"], unfollowed := true, recurses := true, apart := false }
def GsvdOnesSaid : Prop := gsvdOnesRow.holds Tryz.pinned (OpenSpec.ofChange gsvdOnesSpec)

/-- ITS FALSE NEIGHBOUR: 'it returns false'. Refute it at one input. -/
def gsvdOnesWrong : ChangeSpec := { name := "gsvdOnes", fn := fun _ => fun
  | [d1, d2] => { results := [.lit (.bool false)], args := [d1, d2] }
  | _ => none }
def GsvdOnesWrongFalsely : Prop := gsvdOnesRow.holds Tryz.pinned (OpenSpec.ofChange gsvdOnesWrong)

/-- 'dioptralaw23.GsvdUpright': WHATEVER THE INPUT: true; the input reads as it did. -/
def gsvdUprightSpec : ChangeSpec := { name := "gsvdUpright", fn := fun _ => fun
  | [d1, d2] => { results := [.lit (.bool true)], args := [d1, d2] }
  | _ => none }
def gsvdUprightRow : OpenClaim := { program := "ythajngaadbanfaagreat", sum := "438eaed27949cec92cc8f45b3c44ee5520241d93eb292a731b9b7e4a2003c40f", func := "dioptra/dioptralaw23.GsvdUpright", spec := "gsvdUpright", inPlace := ["math/bits.Sub64"], unfollowed := true, recurses := true, apart := false }
def GsvdUprightSaid : Prop := gsvdUprightRow.holds Tryz.pinned (OpenSpec.ofChange gsvdUprightSpec)

/-- ITS FALSE NEIGHBOUR: 'it returns false'. Refute it at one input. -/
def gsvdUprightWrong : ChangeSpec := { name := "gsvdUpright", fn := fun _ => fun
  | [d1, d2] => { results := [.lit (.bool false)], args := [d1, d2] }
  | _ => none }
def GsvdUprightWrongFalsely : Prop := gsvdUprightRow.holds Tryz.pinned (OpenSpec.ofChange gsvdUprightWrong)

/-- 'dioptralaw23.GsvdMakes': WHATEVER THE INPUT: true; the input reads as it did. -/
def gsvdMakesSpec : ChangeSpec := { name := "gsvdMakes", fn := fun _ => fun
  | [d1, d2] => { results := [.lit (.bool true)], args := [d1, d2] }
  | _ => none }
def gsvdMakesRow : OpenClaim := { program := "ythajngaadbanfaagreat", sum := "438eaed27949cec92cc8f45b3c44ee5520241d93eb292a731b9b7e4a2003c40f", func := "dioptra/dioptralaw23.GsvdMakes", spec := "gsvdMakes", inPlace := ["math/bits.Sub64", "math.Float64frombits", "math.Float64bits", "math.sqrt"], unfollowed := true, recurses := true, apart := false }
def GsvdMakesSaid : Prop := gsvdMakesRow.holds Tryz.pinned (OpenSpec.ofChange gsvdMakesSpec)

/-- ITS FALSE NEIGHBOUR: 'it returns false'. Refute it at one input. -/
def gsvdMakesWrong : ChangeSpec := { name := "gsvdMakes", fn := fun _ => fun
  | [d1, d2] => { results := [.lit (.bool false)], args := [d1, d2] }
  | _ => none }
def GsvdMakesWrongFalsely : Prop := gsvdMakesRow.holds Tryz.pinned (OpenSpec.ofChange gsvdMakesWrong)

/-- 'dioptralaw22.RidgeTotals': WHATEVER THE INPUT: true; the input reads as it did. -/
def ridgeTotalsSpec : ChangeSpec := { name := "ridgeTotals", fn := fun _ => fun
  | [d1, d2] => { results := [.lit (.bool true)], args := [d1, d2] }
  | _ => none }
def ridgeTotalsRow : OpenClaim := { program := "ythajngaadbanfaagreat", sum := "438eaed27949cec92cc8f45b3c44ee5520241d93eb292a731b9b7e4a2003c40f", func := "dioptra/dioptralaw22.RidgeTotals", spec := "ridgeTotals", inPlace := ["math/bits.Sub64", "math.Float64frombits", "math.Float64bits", "math.sqrt"], unfollowed := true, recurses := true, apart := false }
def RidgeTotalsSaid : Prop := ridgeTotalsRow.holds Tryz.pinned (OpenSpec.ofChange ridgeTotalsSpec)

/-- ITS FALSE NEIGHBOUR: 'it returns false'. Refute it at one input. -/
def ridgeTotalsWrong : ChangeSpec := { name := "ridgeTotals", fn := fun _ => fun
  | [d1, d2] => { results := [.lit (.bool false)], args := [d1, d2] }
  | _ => none }
def RidgeTotalsWrongFalsely : Prop := ridgeTotalsRow.holds Tryz.pinned (OpenSpec.ofChange ridgeTotalsWrong)

/-- 'dioptralaw22.RidgeSmall': WHATEVER THE INPUT: true; the input reads as it did. -/
def ridgeSmallSpec : ChangeSpec := { name := "ridgeSmall", fn := fun _ => fun
  | [d1, d2] => { results := [.lit (.bool true)], args := [d1, d2] }
  | _ => none }
def ridgeSmallRow : OpenClaim := { program := "ythajngaadbanfaagreat", sum := "438eaed27949cec92cc8f45b3c44ee5520241d93eb292a731b9b7e4a2003c40f", func := "dioptra/dioptralaw22.RidgeSmall", spec := "ridgeSmall", inPlace := ["math/bits.Sub64", "math.Float64frombits", "math.Float64bits", "math.sqrt"], unfollowed := true, recurses := true, apart := false }
def RidgeSmallSaid : Prop := ridgeSmallRow.holds Tryz.pinned (OpenSpec.ofChange ridgeSmallSpec)

/-- ITS FALSE NEIGHBOUR: 'it returns false'. Refute it at one input. -/
def ridgeSmallWrong : ChangeSpec := { name := "ridgeSmall", fn := fun _ => fun
  | [d1, d2] => { results := [.lit (.bool false)], args := [d1, d2] }
  | _ => none }
def RidgeSmallWrongFalsely : Prop := ridgeSmallRow.holds Tryz.pinned (OpenSpec.ofChange ridgeSmallWrong)

/- THE SECOND FORM. 'bulk': how many values and letters a reading holds, each counted each time it is reached (what is shared counts as often as it is met; a slice's spare places count too). A statement '..UptoSaid' is the law's where the arguments, and the package variables that the reading takes, are together of bulk at most 1048576: NARROWER than '..Said'. Prove '..Said' where nothing that the law and all that it calls make is longer than what came in: it says more and counts as full. Else prove '..UptoSaid'. A law counts once. -/
mutual
def uptoBulk {H : Type} : DataW H → Nat
  | .lit (.string bytes) => bytes.length + 1
  | .lit _ => 1
  | .nil => 1
  | .ptr d => uptoBulk d + 1
  | .slice elems spare => uptoBulkAll elems + uptoBulkAll spare + 1
  | .agg parts => uptoBulkAll parts + 1
  | .iface _ d => uptoBulk d + 1
  | .map entries => uptoBulkEntries entries + 1
  | .held _ => 1
def uptoBulkAll {H : Type} : List (DataW H) → Nat
  | [] => 0
  | d :: r => uptoBulk d + uptoBulkAll r
def uptoBulkEntries {H : Type} : List (Lit × DataW H) → Nat
  | [] => 0
  | x :: r => uptoBulkEntry x + uptoBulkEntries r
def uptoBulkEntry {H : Type} : Lit × DataW H → Nat
  | (.string bytes, d) => bytes.length + uptoBulk d + 1
  | (_, d) => uptoBulk d + 1
 end
def uptoSmall : (H : Type) → List (DataW H) → Bool := fun _ ds => decide (uptoBulkAll ds ≤ 1048576)
def OpenSpec.upto (s : _root_.Go.ChangeSpec) : _root_.Go.OpenSpec := { _root_.Go.OpenSpec.ofChange s with cond := some uptoSmall }

/-- 'dioptralaw23.GsvdRight', WHERE WHAT IT READS IS OF BULK AT MOST 1048576: true; the input reads as it did. -/
def gsvdRightUptoRow : OpenClaim := { program := "ythajngaadbanfaagreat", sum := "438eaed27949cec92cc8f45b3c44ee5520241d93eb292a731b9b7e4a2003c40f", func := "dioptra/dioptralaw23.GsvdRight", spec := "gsvdRight", inPlace := ["math/bits.Sub64"], unfollowed := true, recurses := true, apart := false, narrowed := true }
def GsvdRightUptoSaid : Prop := gsvdRightUptoRow.holds Tryz.pinned (OpenSpec.upto gsvdRightSpec)

/-- 'dioptralaw23.GsvdOnes', WHERE WHAT IT READS IS OF BULK AT MOST 1048576: true; the input reads as it did. -/
def gsvdOnesUptoRow : OpenClaim := { program := "ythajngaadbanfaagreat", sum := "438eaed27949cec92cc8f45b3c44ee5520241d93eb292a731b9b7e4a2003c40f", func := "dioptra/dioptralaw23.GsvdOnes", spec := "gsvdOnes", inPlace := ["math/bits.Sub64"], unfollowed := true, recurses := true, apart := false, narrowed := true }
def GsvdOnesUptoSaid : Prop := gsvdOnesUptoRow.holds Tryz.pinned (OpenSpec.upto gsvdOnesSpec)

/-- 'dioptralaw23.GsvdUpright', WHERE WHAT IT READS IS OF BULK AT MOST 1048576: true; the input reads as it did. -/
def gsvdUprightUptoRow : OpenClaim := { program := "ythajngaadbanfaagreat", sum := "438eaed27949cec92cc8f45b3c44ee5520241d93eb292a731b9b7e4a2003c40f", func := "dioptra/dioptralaw23.GsvdUpright", spec := "gsvdUpright", inPlace := ["math/bits.Sub64"], unfollowed := true, recurses := true, apart := false, narrowed := true }
def GsvdUprightUptoSaid : Prop := gsvdUprightUptoRow.holds Tryz.pinned (OpenSpec.upto gsvdUprightSpec)

/-- 'dioptralaw23.GsvdMakes', WHERE WHAT IT READS IS OF BULK AT MOST 1048576: true; the input reads as it did. -/
def gsvdMakesUptoRow : OpenClaim := { program := "ythajngaadbanfaagreat", sum := "438eaed27949cec92cc8f45b3c44ee5520241d93eb292a731b9b7e4a2003c40f", func := "dioptra/dioptralaw23.GsvdMakes", spec := "gsvdMakes", inPlace := ["math/bits.Sub64", "math.Float64frombits", "math.Float64bits", "math.sqrt"], unfollowed := true, recurses := true, apart := false, narrowed := true }
def GsvdMakesUptoSaid : Prop := gsvdMakesUptoRow.holds Tryz.pinned (OpenSpec.upto gsvdMakesSpec)

/-- 'dioptralaw22.RidgeTotals', WHERE WHAT IT READS IS OF BULK AT MOST 1048576: true; the input reads as it did. -/
def ridgeTotalsUptoRow : OpenClaim := { program := "ythajngaadbanfaagreat", sum := "438eaed27949cec92cc8f45b3c44ee5520241d93eb292a731b9b7e4a2003c40f", func := "dioptra/dioptralaw22.RidgeTotals", spec := "ridgeTotals", inPlace := ["math/bits.Sub64", "math.Float64frombits", "math.Float64bits", "math.sqrt"], unfollowed := true, recurses := true, apart := false, narrowed := true }
def RidgeTotalsUptoSaid : Prop := ridgeTotalsUptoRow.holds Tryz.pinned (OpenSpec.upto ridgeTotalsSpec)

/-- 'dioptralaw22.RidgeSmall', WHERE WHAT IT READS IS OF BULK AT MOST 1048576: true; the input reads as it did. -/
def ridgeSmallUptoRow : OpenClaim := { program := "ythajngaadbanfaagreat", sum := "438eaed27949cec92cc8f45b3c44ee5520241d93eb292a731b9b7e4a2003c40f", func := "dioptra/dioptralaw22.RidgeSmall", spec := "ridgeSmall", inPlace := ["math/bits.Sub64", "math.Float64frombits", "math.Float64bits", "math.sqrt"], unfollowed := true, recurses := true, apart := false, narrowed := true }
def RidgeSmallUptoSaid : Prop := ridgeSmallUptoRow.holds Tryz.pinned (OpenSpec.upto ridgeSmallSpec)

end Rows
end Go.Proofs.YthajngaadbanfaaGreat
