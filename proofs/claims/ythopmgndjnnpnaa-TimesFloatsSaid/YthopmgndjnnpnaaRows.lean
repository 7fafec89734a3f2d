/-
  No cell of these rows narrows 'for every input' (looked for: loops, veiled, ifaces, maps, wideKeys, modest, calm, conditions, laid).
  DERIVED. THE GIVEN ROWS OF THIS SEAT. 13 by the template 'for every input the law returns true; each argument reads behind the call as it read before'; 0 by the template 'total and deterministic' (their statements: YthopmgndjnnpnaaTotals.lean).
  GIVEN WITH THE SEED: the statements are not yours to turn. If you find one false, say at which input.
  Laid BY PROGRAM, IN A SANDBOX (cutbox-rows.mjs): the forced cells as the released guide's own fill.sh prints them over the translation 822e44f0ec63f7c2… (all of the seat's roots in one cut). By AI agents, Wed Nov 11 2026. No macro, syntax, notation, axiom, sorry.
-/
import Derived.Test.YthopmgndjnnpnaaChecked
import GoSem.Claim
import GoSem.ClaimJoined
import GoSem.ClaimMapViews
import Derived.JoinedTies
import Derived.KernelRfl
namespace Go.Proofs.Ythopmgndjnnpnaa
/- THE CELL 'sum', in the pinned program and in every row, IS THE sha256 OF THE DUMP (.gsa) THAT YthopmgndjnnpnaaProg.lean LOADS. Nothing in Lean hashes anything: it is a label: what it is worth is what the hold of that sum in a sandbox is worth. -/
noncomputable def Try.pinned : Pinned := { name := "ythopmgndjnnpnaa", sum := "822e44f0ec63f7c26f304b04d359b81597229baa2a68d9886f4a2414fff3e520", checked := Try.checked }
namespace Rows
def none {H : Type} : Left H := { results := [], args := [] }

/-- 'dioptralaw05.SumAdds': WHATEVER THE INPUT: true; the input reads as it did. -/
def sumAddsSpec : ChangeSpec := { name := "sumAdds", fn := fun _ => fun
  | [d1, d2] => { results := [.lit (.bool true)], args := [d1, d2] }
  | _ => none }
def sumAddsRow : OpenClaim := { program := "ythopmgndjnnpnaa", sum := "822e44f0ec63f7c26f304b04d359b81597229baa2a68d9886f4a2414fff3e520", func := "dioptra/dioptralaw05.SumAdds", spec := "sumAdds", recurses := true, apart := false }
def SumAddsSaid : Prop := sumAddsRow.holds Try.pinned (OpenSpec.ofChange sumAddsSpec)

/-- ITS FALSE NEIGHBOUR: 'it returns false'. Refute it at one input. -/
def sumAddsWrong : ChangeSpec := { name := "sumAdds", fn := fun _ => fun
  | [d1, d2] => { results := [.lit (.bool false)], args := [d1, d2] }
  | _ => none }
def SumAddsWrongFalsely : Prop := sumAddsRow.holds Try.pinned (OpenSpec.ofChange sumAddsWrong)

/-- 'dioptralaw05.SumSubs': WHATEVER THE INPUT: true; the input reads as it did. -/
def sumSubsSpec : ChangeSpec := { name := "sumSubs", fn := fun _ => fun
  | [d1, d2] => { results := [.lit (.bool true)], args := [d1, d2] }
  | _ => none }
def sumSubsRow : OpenClaim := { program := "ythopmgndjnnpnaa", sum := "822e44f0ec63f7c26f304b04d359b81597229baa2a68d9886f4a2414fff3e520", func := "dioptra/dioptralaw05.SumSubs", spec := "sumSubs", recurses := true, apart := false }
def SumSubsSaid : Prop := sumSubsRow.holds Try.pinned (OpenSpec.ofChange sumSubsSpec)

/-- ITS FALSE NEIGHBOUR: 'it returns false'. Refute it at one input. -/
def sumSubsWrong : ChangeSpec := { name := "sumSubs", fn := fun _ => fun
  | [d1, d2] => { results := [.lit (.bool false)], args := [d1, d2] }
  | _ => none }
def SumSubsWrongFalsely : Prop := sumSubsRow.holds Try.pinned (OpenSpec.ofChange sumSubsWrong)

/-- 'dioptralaw05.SumOrder': WHATEVER THE INPUT: true; the input reads as it did. -/
def sumOrderSpec : ChangeSpec := { name := "sumOrder", fn := fun _ => fun
  | [d1, d2] => { results := [.lit (.bool true)], args := [d1, d2] }
  | _ => none }
def sumOrderRow : OpenClaim := { program := "ythopmgndjnnpnaa", sum := "822e44f0ec63f7c26f304b04d359b81597229baa2a68d9886f4a2414fff3e520", func := "dioptra/dioptralaw05.SumOrder", spec := "sumOrder", recurses := true, apart := false }
def SumOrderSaid : Prop := sumOrderRow.holds Try.pinned (OpenSpec.ofChange sumOrderSpec)

/-- ITS FALSE NEIGHBOUR: 'it returns false'. Refute it at one input. -/
def sumOrderWrong : ChangeSpec := { name := "sumOrder", fn := fun _ => fun
  | [d1, d2] => { results := [.lit (.bool false)], args := [d1, d2] }
  | _ => none }
def SumOrderWrongFalsely : Prop := sumOrderRow.holds Try.pinned (OpenSpec.ofChange sumOrderWrong)

/-- 'dioptralaw05.SumExact': WHATEVER THE INPUT: true; the input reads as it did. -/
def sumExactSpec : ChangeSpec := { name := "sumExact", fn := fun _ => fun
  | [d1, d2] => { results := [.lit (.bool true)], args := [d1, d2] }
  | _ => none }
def sumExactRow : OpenClaim := { program := "ythopmgndjnnpnaa", sum := "822e44f0ec63f7c26f304b04d359b81597229baa2a68d9886f4a2414fff3e520", func := "dioptra/dioptralaw05.SumExact", spec := "sumExact", recurses := true, apart := false }
def SumExactSaid : Prop := sumExactRow.holds Try.pinned (OpenSpec.ofChange sumExactSpec)

/-- ITS FALSE NEIGHBOUR: 'it returns false'. Refute it at one input. -/
def sumExactWrong : ChangeSpec := { name := "sumExact", fn := fun _ => fun
  | [d1, d2] => { results := [.lit (.bool false)], args := [d1, d2] }
  | _ => none }
def SumExactWrongFalsely : Prop := sumExactRow.holds Try.pinned (OpenSpec.ofChange sumExactWrong)

/-- 'dioptralaw05.SumRises': WHATEVER THE INPUT: true; the input reads as it did. -/
def sumRisesSpec : ChangeSpec := { name := "sumRises", fn := fun _ => fun
  | [d1, d2, d3] => { results := [.lit (.bool true)], args := [d1, d2, d3] }
  | _ => none }
def sumRisesRow : OpenClaim := { program := "ythopmgndjnnpnaa", sum := "822e44f0ec63f7c26f304b04d359b81597229baa2a68d9886f4a2414fff3e520", func := "dioptra/dioptralaw05.SumRises", spec := "sumRises", inPlace := ["math.Float64frombits"], recurses := true, apart := false }
def SumRisesSaid : Prop := sumRisesRow.holds Try.pinned (OpenSpec.ofChange sumRisesSpec)

/-- ITS FALSE NEIGHBOUR: 'it returns false'. Refute it at one input. -/
def sumRisesWrong : ChangeSpec := { name := "sumRises", fn := fun _ => fun
  | [d1, d2, d3] => { results := [.lit (.bool false)], args := [d1, d2, d3] }
  | _ => none }
def SumRisesWrongFalsely : Prop := sumRisesRow.holds Try.pinned (OpenSpec.ofChange sumRisesWrong)

/-- 'dioptralaw05.SumFloats': WHATEVER THE INPUT: true; the input reads as it did. -/
def sumFloatsSpec : ChangeSpec := { name := "sumFloats", fn := fun _ => fun
  | [d1, d2] => { results := [.lit (.bool true)], args := [d1, d2] }
  | _ => none }
def sumFloatsRow : OpenClaim := { program := "ythopmgndjnnpnaa", sum := "822e44f0ec63f7c26f304b04d359b81597229baa2a68d9886f4a2414fff3e520", func := "dioptra/dioptralaw05.SumFloats", spec := "sumFloats", inPlace := ["math.Float64frombits", "math.Float64bits"], recurses := true, apart := false }
def SumFloatsSaid : Prop := sumFloatsRow.holds Try.pinned (OpenSpec.ofChange sumFloatsSpec)

/-- ITS FALSE NEIGHBOUR: 'it returns false'. Refute it at one input. -/
def sumFloatsWrong : ChangeSpec := { name := "sumFloats", fn := fun _ => fun
  | [d1, d2] => { results := [.lit (.bool false)], args := [d1, d2] }
  | _ => none }
def SumFloatsWrongFalsely : Prop := sumFloatsRow.holds Try.pinned (OpenSpec.ofChange sumFloatsWrong)

/-- 'dioptralaw05.SumAlls': WHATEVER THE INPUT: true; the input reads as it did. -/
def sumAllsSpec : ChangeSpec := { name := "sumAlls", fn := fun _ => fun
  | [d] => { results := [.lit (.bool true)], args := [d] }
  | _ => none }
def sumAllsRow : OpenClaim := { program := "ythopmgndjnnpnaa", sum := "822e44f0ec63f7c26f304b04d359b81597229baa2a68d9886f4a2414fff3e520", func := "dioptra/dioptralaw05.SumAlls", spec := "sumAlls", recurses := true, apart := false }
def SumAllsSaid : Prop := sumAllsRow.holds Try.pinned (OpenSpec.ofChange sumAllsSpec)

/-- ITS FALSE NEIGHBOUR: 'it returns false'. Refute it at one input. -/
def sumAllsWrong : ChangeSpec := { name := "sumAlls", fn := fun _ => fun
  | [d] => { results := [.lit (.bool false)], args := [d] }
  | _ => none }
def SumAllsWrongFalsely : Prop := sumAllsRow.holds Try.pinned (OpenSpec.ofChange sumAllsWrong)

/-- 'dioptralaw06.TimesDivs': WHATEVER THE INPUT: true; the input reads as it did. -/
def timesDivsSpec : ChangeSpec := { name := "timesDivs", fn := fun _ => fun
  | [d1, d2] => { results := [.lit (.bool true)], args := [d1, d2] }
  | _ => none }
def timesDivsRow : OpenClaim := { program := "ythopmgndjnnpnaa", sum := "822e44f0ec63f7c26f304b04d359b81597229baa2a68d9886f4a2414fff3e520", func := "dioptra/dioptralaw06.TimesDivs", spec := "timesDivs", recurses := true, apart := false }
def TimesDivsSaid : Prop := timesDivsRow.holds Try.pinned (OpenSpec.ofChange timesDivsSpec)

/-- ITS FALSE NEIGHBOUR: 'it returns false'. Refute it at one input. -/
def timesDivsWrong : ChangeSpec := { name := "timesDivs", fn := fun _ => fun
  | [d1, d2] => { results := [.lit (.bool false)], args := [d1, d2] }
  | _ => none }
def TimesDivsWrongFalsely : Prop := timesDivsRow.holds Try.pinned (OpenSpec.ofChange timesDivsWrong)

/-- 'dioptralaw06.TimesOrder': WHATEVER THE INPUT: true; the input reads as it did. -/
def timesOrderSpec : ChangeSpec := { name := "timesOrder", fn := fun _ => fun
  | [d1, d2] => { results := [.lit (.bool true)], args := [d1, d2] }
  | _ => none }
def timesOrderRow : OpenClaim := { program := "ythopmgndjnnpnaa", sum := "822e44f0ec63f7c26f304b04d359b81597229baa2a68d9886f4a2414fff3e520", func := "dioptra/dioptralaw06.TimesOrder", spec := "timesOrder", recurses := true, apart := false }
def TimesOrderSaid : Prop := timesOrderRow.holds Try.pinned (OpenSpec.ofChange timesOrderSpec)

/-- ITS FALSE NEIGHBOUR: 'it returns false'. Refute it at one input. -/
def timesOrderWrong : ChangeSpec := { name := "timesOrder", fn := fun _ => fun
  | [d1, d2] => { results := [.lit (.bool false)], args := [d1, d2] }
  | _ => none }
def TimesOrderWrongFalsely : Prop := timesOrderRow.holds Try.pinned (OpenSpec.ofChange timesOrderWrong)

/-- 'dioptralaw06.TimesPowers': WHATEVER THE INPUT: true; the input reads as it did. -/
def timesPowersSpec : ChangeSpec := { name := "timesPowers", fn := fun _ => fun
  | [d1, d2] => { results := [.lit (.bool true)], args := [d1, d2] }
  | _ => none }
def timesPowersRow : OpenClaim := { program := "ythopmgndjnnpnaa", sum := "822e44f0ec63f7c26f304b04d359b81597229baa2a68d9886f4a2414fff3e520", func := "dioptra/dioptralaw06.TimesPowers", spec := "timesPowers", recurses := true, apart := false }
def TimesPowersSaid : Prop := timesPowersRow.holds Try.pinned (OpenSpec.ofChange timesPowersSpec)

/-- ITS FALSE NEIGHBOUR: 'it returns false'. Refute it at one input. -/
def timesPowersWrong : ChangeSpec := { name := "timesPowers", fn := fun _ => fun
  | [d1, d2] => { results := [.lit (.bool false)], args := [d1, d2] }
  | _ => none }
def TimesPowersWrongFalsely : Prop := timesPowersRow.holds Try.pinned (OpenSpec.ofChange timesPowersWrong)

/-- 'dioptralaw06.TimesSelf': WHATEVER THE INPUT: true; the input reads as it did. -/
def timesSelfSpec : ChangeSpec := { name := "timesSelf", fn := fun _ => fun
  | [d] => { results := [.lit (.bool true)], args := [d] }
  | _ => none }
def timesSelfRow : OpenClaim := { program := "ythopmgndjnnpnaa", sum := "822e44f0ec63f7c26f304b04d359b81597229baa2a68d9886f4a2414fff3e520", func := "dioptra/dioptralaw06.TimesSelf", spec := "timesSelf", recurses := true, apart := false }
def TimesSelfSaid : Prop := timesSelfRow.holds Try.pinned (OpenSpec.ofChange timesSelfSpec)

/-- ITS FALSE NEIGHBOUR: 'it returns false'. Refute it at one input. -/
def timesSelfWrong : ChangeSpec := { name := "timesSelf", fn := fun _ => fun
  | [d] => { results := [.lit (.bool false)], args := [d] }
  | _ => none }
def TimesSelfWrongFalsely : Prop := timesSelfRow.holds Try.pinned (OpenSpec.ofChange timesSelfWrong)

/-- 'dioptralaw06.TimesMuls': WHATEVER THE INPUT: true; the input reads as it did. -/
def timesMulsSpec : ChangeSpec := { name := "timesMuls", fn := fun _ => fun
  | [d1, d2] => { results := [.lit (.bool true)], args := [d1, d2] }
  | _ => none }
def timesMulsRow : OpenClaim := { program := "ythopmgndjnnpnaa", sum := "822e44f0ec63f7c26f304b04d359b81597229baa2a68d9886f4a2414fff3e520", func := "dioptra/dioptralaw06.TimesMuls", spec := "timesMuls", recurses := true, apart := false }
def TimesMulsSaid : Prop := timesMulsRow.holds Try.pinned (OpenSpec.ofChange timesMulsSpec)

/-- ITS FALSE NEIGHBOUR: 'it returns false'. Refute it at one input. -/
def timesMulsWrong : ChangeSpec := { name := "timesMuls", fn := fun _ => fun
  | [d1, d2] => { results := [.lit (.bool false)], args := [d1, d2] }
  | _ => none }
def TimesMulsWrongFalsely : Prop := timesMulsRow.holds Try.pinned (OpenSpec.ofChange timesMulsWrong)

/-- 'dioptralaw06.TimesFloats': WHATEVER THE INPUT: true; the input reads as it did. -/
def timesFloatsSpec : ChangeSpec := { name := "timesFloats", fn := fun _ => fun
  | [d1, d2] => { results := [.lit (.bool true)], args := [d1, d2] }
  | _ => none }
def timesFloatsRow : OpenClaim := { program := "ythopmgndjnnpnaa", sum := "822e44f0ec63f7c26f304b04d359b81597229baa2a68d9886f4a2414fff3e520", func := "dioptra/dioptralaw06.TimesFloats", spec := "timesFloats", inPlace := ["math.Float64frombits", "math.Float64bits"], recurses := true, apart := false }
def TimesFloatsSaid : Prop := timesFloatsRow.holds Try.pinned (OpenSpec.ofChange timesFloatsSpec)

/-- ITS FALSE NEIGHBOUR: 'it returns false'. Refute it at one input. -/
def timesFloatsWrong : ChangeSpec := { name := "timesFloats", fn := fun _ => fun
  | [d1, d2] => { results := [.lit (.bool false)], args := [d1, d2] }
  | _ => none }
def TimesFloatsWrongFalsely : Prop := timesFloatsRow.holds Try.pinned (OpenSpec.ofChange timesFloatsWrong)

/- THE SECOND FORM. 'bulk': how many values and letters a reading holds, each counted each time it is reached (what is shared counts as often as it is met; a slice's spare places count too). A statement '..UptoSaid' is the law's where the arguments, and the package variables that the reading takes, are together of bulk at most 1048576: NARROWER than '..Said'. Prove '..Said' where nothing that the law and all that it calls make is longer than what came in: it says more and counts as full. Else prove '..UptoSaid'. A law counts once. -/
mutual
def uptoBulk {H : Type} : DataW H → Nat
  | .lit (.string bytes) => bytes.length + 1
  | .lit _ => 1
  | .nil => 1
  | .ptr d => uptoBulk d + 1
  | .slice elems spare => uptoBulkAll elems + uptoBulkAll spare + 1
  | .agg parts => uptoBulkAll parts + 1
  | .iface _ d => uptoBulk d + 1
  | .map entries => uptoBulkEntries entries + 1
  | .held _ => 1
def uptoBulkAll {H : Type} : List (DataW H) → Nat
  | [] => 0
  | d :: r => uptoBulk d + uptoBulkAll r
def uptoBulkEntries {H : Type} : List (Lit × DataW H) → Nat
  | [] => 0
  | x :: r => uptoBulkEntry x + uptoBulkEntries r
def uptoBulkEntry {H : Type} : Lit × DataW H → Nat
  | (.string bytes, d) => bytes.length + uptoBulk d + 1
  | (_, d) => uptoBulk d + 1
 end
def uptoSmall : (H : Type) → List (DataW H) → Bool := fun _ ds => decide (uptoBulkAll ds ≤ 1048576)
def OpenSpec.upto (s : _root_.Go.ChangeSpec) : _root_.Go.OpenSpec := { _root_.Go.OpenSpec.ofChange s with cond := some uptoSmall }

/-- 'dioptralaw05.SumAdds', WHERE WHAT IT READS IS OF BULK AT MOST 1048576: true; the input reads as it did. -/
def sumAddsUptoRow : OpenClaim := { program := "ythopmgndjnnpnaa", sum := "822e44f0ec63f7c26f304b04d359b81597229baa2a68d9886f4a2414fff3e520", func := "dioptra/dioptralaw05.SumAdds", spec := "sumAdds", recurses := true, apart := false, narrowed := true }
def SumAddsUptoSaid : Prop := sumAddsUptoRow.holds Try.pinned (OpenSpec.upto sumAddsSpec)

/-- 'dioptralaw05.SumSubs', WHERE WHAT IT READS IS OF BULK AT MOST 1048576: true; the input reads as it did. -/
def sumSubsUptoRow : OpenClaim := { program := "ythopmgndjnnpnaa", sum := "822e44f0ec63f7c26f304b04d359b81597229baa2a68d9886f4a2414fff3e520", func := "dioptra/dioptralaw05.SumSubs", spec := "sumSubs", recurses := true, apart := false, narrowed := true }
def SumSubsUptoSaid : Prop := sumSubsUptoRow.holds Try.pinned (OpenSpec.upto sumSubsSpec)

/-- 'dioptralaw05.SumOrder', WHERE WHAT IT READS IS OF BULK AT MOST 1048576: true; the input reads as it did. -/
def sumOrderUptoRow : OpenClaim := { program := "ythopmgndjnnpnaa", sum := "822e44f0ec63f7c26f304b04d359b81597229baa2a68d9886f4a2414fff3e520", func := "dioptra/dioptralaw05.SumOrder", spec := "sumOrder", recurses := true, apart := false, narrowed := true }
def SumOrderUptoSaid : Prop := sumOrderUptoRow.holds Try.pinned (OpenSpec.upto sumOrderSpec)

/-- 'dioptralaw05.SumExact', WHERE WHAT IT READS IS OF BULK AT MOST 1048576: true; the input reads as it did. -/
def sumExactUptoRow : OpenClaim := { program := "ythopmgndjnnpnaa", sum := "822e44f0ec63f7c26f304b04d359b81597229baa2a68d9886f4a2414fff3e520", func := "dioptra/dioptralaw05.SumExact", spec := "sumExact", recurses := true, apart := false, narrowed := true }
def SumExactUptoSaid : Prop := sumExactUptoRow.holds Try.pinned (OpenSpec.upto sumExactSpec)

/-- 'dioptralaw05.SumRises', WHERE WHAT IT READS IS OF BULK AT MOST 1048576: true; the input reads as it did. -/
def sumRisesUptoRow : OpenClaim := { program := "ythopmgndjnnpnaa", sum := "822e44f0ec63f7c26f304b04d359b81597229baa2a68d9886f4a2414fff3e520", func := "dioptra/dioptralaw05.SumRises", spec := "sumRises", inPlace := ["math.Float64frombits"], recurses := true, apart := false, narrowed := true }
def SumRisesUptoSaid : Prop := sumRisesUptoRow.holds Try.pinned (OpenSpec.upto sumRisesSpec)

/-- 'dioptralaw05.SumFloats', WHERE WHAT IT READS IS OF BULK AT MOST 1048576: true; the input reads as it did. -/
def sumFloatsUptoRow : OpenClaim := { program := "ythopmgndjnnpnaa", sum := "822e44f0ec63f7c26f304b04d359b81597229baa2a68d9886f4a2414fff3e520", func := "dioptra/dioptralaw05.SumFloats", spec := "sumFloats", inPlace := ["math.Float64frombits", "math.Float64bits"], recurses := true, apart := false, narrowed := true }
def SumFloatsUptoSaid : Prop := sumFloatsUptoRow.holds Try.pinned (OpenSpec.upto sumFloatsSpec)

/-- 'dioptralaw05.SumAlls', WHERE WHAT IT READS IS OF BULK AT MOST 1048576: true; the input reads as it did. -/
def sumAllsUptoRow : OpenClaim := { program := "ythopmgndjnnpnaa", sum := "822e44f0ec63f7c26f304b04d359b81597229baa2a68d9886f4a2414fff3e520", func := "dioptra/dioptralaw05.SumAlls", spec := "sumAlls", recurses := true, apart := false, narrowed := true }
def SumAllsUptoSaid : Prop := sumAllsUptoRow.holds Try.pinned (OpenSpec.upto sumAllsSpec)

/-- 'dioptralaw06.TimesDivs', WHERE WHAT IT READS IS OF BULK AT MOST 1048576: true; the input reads as it did. -/
def timesDivsUptoRow : OpenClaim := { program := "ythopmgndjnnpnaa", sum := "822e44f0ec63f7c26f304b04d359b81597229baa2a68d9886f4a2414fff3e520", func := "dioptra/dioptralaw06.TimesDivs", spec := "timesDivs", recurses := true, apart := false, narrowed := true }
def TimesDivsUptoSaid : Prop := timesDivsUptoRow.holds Try.pinned (OpenSpec.upto timesDivsSpec)

/-- 'dioptralaw06.TimesOrder', WHERE WHAT IT READS IS OF BULK AT MOST 1048576: true; the input reads as it did. -/
def timesOrderUptoRow : OpenClaim := { program := "ythopmgndjnnpnaa", sum := "822e44f0ec63f7c26f304b04d359b81597229baa2a68d9886f4a2414fff3e520", func := "dioptra/dioptralaw06.TimesOrder", spec := "timesOrder", recurses := true, apart := false, narrowed := true }
def TimesOrderUptoSaid : Prop := timesOrderUptoRow.holds Try.pinned (OpenSpec.upto timesOrderSpec)

/-- 'dioptralaw06.TimesPowers', WHERE WHAT IT READS IS OF BULK AT MOST 1048576: true; the input reads as it did. -/
def timesPowersUptoRow : OpenClaim := { program := "ythopmgndjnnpnaa", sum := "822e44f0ec63f7c26f304b04d359b81597229baa2a68d9886f4a2414fff3e520", func := "dioptra/dioptralaw06.TimesPowers", spec := "timesPowers", recurses := true, apart := false, narrowed := true }
def TimesPowersUptoSaid : Prop := timesPowersUptoRow.holds Try.pinned (OpenSpec.upto timesPowersSpec)

/-- 'dioptralaw06.TimesSelf', WHERE WHAT IT READS IS OF BULK AT MOST 1048576: true; the input reads as it did. -/
def timesSelfUptoRow : OpenClaim := { program := "ythopmgndjnnpnaa", sum := "822e44f0ec63f7c26f304b04d359b81597229baa2a68d9886f4a2414fff3e520", func := "dioptra/dioptralaw06.TimesSelf", spec := "timesSelf", recurses := true, apart := false, narrowed := true }
def TimesSelfUptoSaid : Prop := timesSelfUptoRow.holds Try.pinned (OpenSpec.upto timesSelfSpec)

/-- 'dioptralaw06.TimesMuls', WHERE WHAT IT READS IS OF BULK AT MOST 1048576: true; the input reads as it did. -/
def timesMulsUptoRow : OpenClaim := { program := "ythopmgndjnnpnaa", sum := "822e44f0ec63f7c26f304b04d359b81597229baa2a68d9886f4a2414fff3e520", func := "dioptra/dioptralaw06.TimesMuls", spec := "timesMuls", recurses := true, apart := false, narrowed := true }
def TimesMulsUptoSaid : Prop := timesMulsUptoRow.holds Try.pinned (OpenSpec.upto timesMulsSpec)

/-- 'dioptralaw06.TimesFloats', WHERE WHAT IT READS IS OF BULK AT MOST 1048576: true; the input reads as it did. -/
def timesFloatsUptoRow : OpenClaim := { program := "ythopmgndjnnpnaa", sum := "822e44f0ec63f7c26f304b04d359b81597229baa2a68d9886f4a2414fff3e520", func := "dioptra/dioptralaw06.TimesFloats", spec := "timesFloats", inPlace := ["math.Float64frombits", "math.Float64bits"], recurses := true, apart := false, narrowed := true }
def TimesFloatsUptoSaid : Prop := timesFloatsUptoRow.holds Try.pinned (OpenSpec.upto timesFloatsSpec)

end Rows
end Go.Proofs.Ythopmgndjnnpnaa
