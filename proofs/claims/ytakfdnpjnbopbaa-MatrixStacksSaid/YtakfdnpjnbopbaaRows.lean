/-
  No cell of these rows narrows 'for every input' (looked for: loops, veiled, ifaces, maps, wideKeys, modest, calm, conditions, laid).
  DERIVED. THE GIVEN ROWS OF THIS SEAT. 7 by the template 'for every input the law returns true; each argument reads behind the call as it read before'; 0 by the template 'total and deterministic' (their statements: YtakfdnpjnbopbaaTotals.lean).
  GIVEN WITH THE SEED: the statements are not yours to turn. If you find one false, say at which input.
  Laid BY PROGRAM, IN A SANDBOX (cutbox-rows.mjs): the forced cells as the released guide's own fill.sh prints them over the translation 8f8d8a3d10a7898d… (all of the seat's roots in one cut). By AI agents, Wed Nov 11 2026. No macro, syntax, notation, axiom, sorry.
-/
import Derived.Test.YtakfdnpjnbopbaaChecked
import GoSem.Claim
import GoSem.ClaimJoined
import GoSem.ClaimMapViews
import Derived.JoinedTies
import Derived.KernelRfl
namespace Go.Proofs.Ytakfdnpjnbopbaa
/- THE CELL 'sum', in the pinned program and in every row, IS THE sha256 OF THE DUMP (.gsa) THAT YtakfdnpjnbopbaaProg.lean LOADS. Nothing in Lean hashes anything: it is a label: what it is worth is what the hold of that sum in a sandbox is worth. -/
noncomputable def Try.pinned : Pinned := { name := "ytakfdnpjnbopbaa", sum := "8f8d8a3d10a7898db79595a45e1cf5304c61684ec436f843574684f8e41222ef", checked := Try.checked }
namespace Rows
def none {H : Type} : Left H := { results := [], args := [] }

/-- 'dioptralaw10.MatrixMakes': WHATEVER THE INPUT: true; the input reads as it did. -/
def matrixMakesSpec : ChangeSpec := { name := "matrixMakes", fn := fun _ => fun
  | [d1, d2] => { results := [.lit (.bool true)], args := [d1, d2] }
  | _ => none }
def matrixMakesRow : OpenClaim := { program := "ytakfdnpjnbopbaa", sum := "8f8d8a3d10a7898db79595a45e1cf5304c61684ec436f843574684f8e41222ef", func := "dioptra/dioptralaw10.MatrixMakes", spec := "matrixMakes", unfollowed := true, recurses := true, apart := false }
def MatrixMakesSaid : Prop := matrixMakesRow.holds Try.pinned (OpenSpec.ofChange matrixMakesSpec)

/-- ITS FALSE NEIGHBOUR: 'it returns false'. Refute it at one input. -/
def matrixMakesWrong : ChangeSpec := { name := "matrixMakes", fn := fun _ => fun
  | [d1, d2] => { results := [.lit (.bool false)], args := [d1, d2] }
  | _ => none }
def MatrixMakesWrongFalsely : Prop := matrixMakesRow.holds Try.pinned (OpenSpec.ofChange matrixMakesWrong)

/-- 'dioptralaw10.MatrixTurns': WHATEVER THE INPUT: true; the input reads as it did. -/
def matrixTurnsSpec : ChangeSpec := { name := "matrixTurns", fn := fun _ => fun
  | [d1, d2] => { results := [.lit (.bool true)], args := [d1, d2] }
  | _ => none }
def matrixTurnsRow : OpenClaim := { program := "ytakfdnpjnbopbaa", sum := "8f8d8a3d10a7898db79595a45e1cf5304c61684ec436f843574684f8e41222ef", func := "dioptra/dioptralaw10.MatrixTurns", spec := "matrixTurns", unfollowed := true, recurses := true, apart := false }
def MatrixTurnsSaid : Prop := matrixTurnsRow.holds Try.pinned (OpenSpec.ofChange matrixTurnsSpec)

/-- ITS FALSE NEIGHBOUR: 'it returns false'. Refute it at one input. -/
def matrixTurnsWrong : ChangeSpec := { name := "matrixTurns", fn := fun _ => fun
  | [d1, d2] => { results := [.lit (.bool false)], args := [d1, d2] }
  | _ => none }
def MatrixTurnsWrongFalsely : Prop := matrixTurnsRow.holds Try.pinned (OpenSpec.ofChange matrixTurnsWrong)

/-- 'dioptralaw10.MatrixChecks': WHATEVER THE INPUT: true; the input reads as it did. -/
def matrixChecksSpec : ChangeSpec := { name := "matrixChecks", fn := fun _ => fun
  | [d1, d2, d3] => { results := [.lit (.bool true)], args := [d1, d2, d3] }
  | _ => none }
def matrixChecksRow : OpenClaim := { program := "ytakfdnpjnbopbaa", sum := "8f8d8a3d10a7898db79595a45e1cf5304c61684ec436f843574684f8e41222ef", func := "dioptra/dioptralaw10.MatrixChecks", spec := "matrixChecks", unfollowed := true, recurses := true, apart := false }
def MatrixChecksSaid : Prop := matrixChecksRow.holds Try.pinned (OpenSpec.ofChange matrixChecksSpec)

/-- ITS FALSE NEIGHBOUR: 'it returns false'. Refute it at one input. -/
def matrixChecksWrong : ChangeSpec := { name := "matrixChecks", fn := fun _ => fun
  | [d1, d2, d3] => { results := [.lit (.bool false)], args := [d1, d2, d3] }
  | _ => none }
def MatrixChecksWrongFalsely : Prop := matrixChecksRow.holds Try.pinned (OpenSpec.ofChange matrixChecksWrong)

/-- 'dioptralaw10.MatrixParts': WHATEVER THE INPUT: true; the input reads as it did. -/
def matrixPartsSpec : ChangeSpec := { name := "matrixParts", fn := fun _ => fun
  | [d1, d2] => { results := [.lit (.bool true)], args := [d1, d2] }
  | _ => none }
def matrixPartsRow : OpenClaim := { program := "ytakfdnpjnbopbaa", sum := "8f8d8a3d10a7898db79595a45e1cf5304c61684ec436f843574684f8e41222ef", func := "dioptra/dioptralaw10.MatrixParts", spec := "matrixParts", unfollowed := true, recurses := true, apart := false }
def MatrixPartsSaid : Prop := matrixPartsRow.holds Try.pinned (OpenSpec.ofChange matrixPartsSpec)

/-- ITS FALSE NEIGHBOUR: 'it returns false'. Refute it at one input. -/
def matrixPartsWrong : ChangeSpec := { name := "matrixParts", fn := fun _ => fun
  | [d1, d2] => { results := [.lit (.bool false)], args := [d1, d2] }
  | _ => none }
def MatrixPartsWrongFalsely : Prop := matrixPartsRow.holds Try.pinned (OpenSpec.ofChange matrixPartsWrong)

/-- 'dioptralaw10.MatrixMuls': WHATEVER THE INPUT: true; the input reads as it did. -/
def matrixMulsSpec : ChangeSpec := { name := "matrixMuls", fn := fun _ => fun
  | [d1, d2] => { results := [.lit (.bool true)], args := [d1, d2] }
  | _ => none }
def matrixMulsRow : OpenClaim := { program := "ytakfdnpjnbopbaa", sum := "8f8d8a3d10a7898db79595a45e1cf5304c61684ec436f843574684f8e41222ef", func := "dioptra/dioptralaw10.MatrixMuls", spec := "matrixMuls", inPlace := ["math.Float64frombits", "math.Float64bits"], unfollowed := true, recurses := true, apart := false }
def MatrixMulsSaid : Prop := matrixMulsRow.holds Try.pinned (OpenSpec.ofChange matrixMulsSpec)

/-- ITS FALSE NEIGHBOUR: 'it returns false'. Refute it at one input. -/
def matrixMulsWrong : ChangeSpec := { name := "matrixMuls", fn := fun _ => fun
  | [d1, d2] => { results := [.lit (.bool false)], args := [d1, d2] }
  | _ => none }
def MatrixMulsWrongFalsely : Prop := matrixMulsRow.holds Try.pinned (OpenSpec.ofChange matrixMulsWrong)

/-- 'dioptralaw10.MatrixStacks': WHATEVER THE INPUT: true; the input reads as it did. -/
def matrixStacksSpec : ChangeSpec := { name := "matrixStacks", fn := fun _ => fun
  | [d1, d2] => { results := [.lit (.bool true)], args := [d1, d2] }
  | _ => none }
def matrixStacksRow : OpenClaim := { program := "ytakfdnpjnbopbaa", sum := "8f8d8a3d10a7898db79595a45e1cf5304c61684ec436f843574684f8e41222ef", func := "dioptra/dioptralaw10.MatrixStacks", spec := "matrixStacks", unfollowed := true, recurses := true, apart := false }
def MatrixStacksSaid : Prop := matrixStacksRow.holds Try.pinned (OpenSpec.ofChange matrixStacksSpec)

/-- ITS FALSE NEIGHBOUR: 'it returns false'. Refute it at one input. -/
def matrixStacksWrong : ChangeSpec := { name := "matrixStacks", fn := fun _ => fun
  | [d1, d2] => { results := [.lit (.bool false)], args := [d1, d2] }
  | _ => none }
def MatrixStacksWrongFalsely : Prop := matrixStacksRow.holds Try.pinned (OpenSpec.ofChange matrixStacksWrong)

/-- 'dioptralaw10.MatrixTiles': WHATEVER THE INPUT: true; the input reads as it did. -/
def matrixTilesSpec : ChangeSpec := { name := "matrixTiles", fn := fun _ => fun
  | [d1, d2, d3] => { results := [.lit (.bool true)], args := [d1, d2, d3] }
  | _ => none }
def matrixTilesRow : OpenClaim := { program := "ytakfdnpjnbopbaa", sum := "8f8d8a3d10a7898db79595a45e1cf5304c61684ec436f843574684f8e41222ef", func := "dioptra/dioptralaw10.MatrixTiles", spec := "matrixTiles", unfollowed := true, recurses := true, apart := false }
def MatrixTilesSaid : Prop := matrixTilesRow.holds Try.pinned (OpenSpec.ofChange matrixTilesSpec)

/-- ITS FALSE NEIGHBOUR: 'it returns false'. Refute it at one input. -/
def matrixTilesWrong : ChangeSpec := { name := "matrixTiles", fn := fun _ => fun
  | [d1, d2, d3] => { results := [.lit (.bool false)], args := [d1, d2, d3] }
  | _ => none }
def MatrixTilesWrongFalsely : Prop := matrixTilesRow.holds Try.pinned (OpenSpec.ofChange matrixTilesWrong)

/- THE SECOND FORM. 'bulk': how many values and letters a reading holds, each counted each time it is reached (what is shared counts as often as it is met; a slice's spare places count too). A statement '..UptoSaid' is the law's where the arguments, and the package variables that the reading takes, are together of bulk at most 1048576: NARROWER than '..Said'. Prove '..Said' where nothing that the law and all that it calls make is longer than what came in: it says more and counts as full. Else prove '..UptoSaid'. A law counts once. -/
mutual
def uptoBulk {H : Type} : DataW H → Nat
  | .lit (.string bytes) => bytes.length + 1
  | .lit _ => 1
  | .nil => 1
  | .ptr d => uptoBulk d + 1
  | .slice elems spare => uptoBulkAll elems + uptoBulkAll spare + 1
  | .agg parts => uptoBulkAll parts + 1
  | .iface _ d => uptoBulk d + 1
  | .map entries => uptoBulkEntries entries + 1
  | .held _ => 1
def uptoBulkAll {H : Type} : List (DataW H) → Nat
  | [] => 0
  | d :: r => uptoBulk d + uptoBulkAll r
def uptoBulkEntries {H : Type} : List (Lit × DataW H) → Nat
  | [] => 0
  | x :: r => uptoBulkEntry x + uptoBulkEntries r
def uptoBulkEntry {H : Type} : Lit × DataW H → Nat
  | (.string bytes, d) => bytes.length + uptoBulk d + 1
  | (_, d) => uptoBulk d + 1
 end
def uptoSmall : (H : Type) → List (DataW H) → Bool := fun _ ds => decide (uptoBulkAll ds ≤ 1048576)
def OpenSpec.upto (s : _root_.Go.ChangeSpec) : _root_.Go.OpenSpec := { _root_.Go.OpenSpec.ofChange s with cond := some uptoSmall }

/-- 'dioptralaw10.MatrixMakes', WHERE WHAT IT READS IS OF BULK AT MOST 1048576: true; the input reads as it did. -/
def matrixMakesUptoRow : OpenClaim := { program := "ytakfdnpjnbopbaa", sum := "8f8d8a3d10a7898db79595a45e1cf5304c61684ec436f843574684f8e41222ef", func := "dioptra/dioptralaw10.MatrixMakes", spec := "matrixMakes", unfollowed := true, recurses := true, apart := false, narrowed := true }
def MatrixMakesUptoSaid : Prop := matrixMakesUptoRow.holds Try.pinned (OpenSpec.upto matrixMakesSpec)

/-- 'dioptralaw10.MatrixTurns', WHERE WHAT IT READS IS OF BULK AT MOST 1048576: true; the input reads as it did. -/
def matrixTurnsUptoRow : OpenClaim := { program := "ytakfdnpjnbopbaa", sum := "8f8d8a3d10a7898db79595a45e1cf5304c61684ec436f843574684f8e41222ef", func := "dioptra/dioptralaw10.MatrixTurns", spec := "matrixTurns", unfollowed := true, recurses := true, apart := false, narrowed := true }
def MatrixTurnsUptoSaid : Prop := matrixTurnsUptoRow.holds Try.pinned (OpenSpec.upto matrixTurnsSpec)

/-- 'dioptralaw10.MatrixChecks', WHERE WHAT IT READS IS OF BULK AT MOST 1048576: true; the input reads as it did. -/
def matrixChecksUptoRow : OpenClaim := { program := "ytakfdnpjnbopbaa", sum := "8f8d8a3d10a7898db79595a45e1cf5304c61684ec436f843574684f8e41222ef", func := "dioptra/dioptralaw10.MatrixChecks", spec := "matrixChecks", unfollowed := true, recurses := true, apart := false, narrowed := true }
def MatrixChecksUptoSaid : Prop := matrixChecksUptoRow.holds Try.pinned (OpenSpec.upto matrixChecksSpec)

/-- 'dioptralaw10.MatrixParts', WHERE WHAT IT READS IS OF BULK AT MOST 1048576: true; the input reads as it did. -/
def matrixPartsUptoRow : OpenClaim := { program := "ytakfdnpjnbopbaa", sum := "8f8d8a3d10a7898db79595a45e1cf5304c61684ec436f843574684f8e41222ef", func := "dioptra/dioptralaw10.MatrixParts", spec := "matrixParts", unfollowed := true, recurses := true, apart := false, narrowed := true }
def MatrixPartsUptoSaid : Prop := matrixPartsUptoRow.holds Try.pinned (OpenSpec.upto matrixPartsSpec)

/-- 'dioptralaw10.MatrixMuls', WHERE WHAT IT READS IS OF BULK AT MOST 1048576: true; the input reads as it did. -/
def matrixMulsUptoRow : OpenClaim := { program := "ytakfdnpjnbopbaa", sum := "8f8d8a3d10a7898db79595a45e1cf5304c61684ec436f843574684f8e41222ef", func := "dioptra/dioptralaw10.MatrixMuls", spec := "matrixMuls", inPlace := ["math.Float64frombits", "math.Float64bits"], unfollowed := true, recurses := true, apart := false, narrowed := true }
def MatrixMulsUptoSaid : Prop := matrixMulsUptoRow.holds Try.pinned (OpenSpec.upto matrixMulsSpec)

/-- 'dioptralaw10.MatrixStacks', WHERE WHAT IT READS IS OF BULK AT MOST 1048576: true; the input reads as it did. -/
def matrixStacksUptoRow : OpenClaim := { program := "ytakfdnpjnbopbaa", sum := "8f8d8a3d10a7898db79595a45e1cf5304c61684ec436f843574684f8e41222ef", func := "dioptra/dioptralaw10.MatrixStacks", spec := "matrixStacks", unfollowed := true, recurses := true, apart := false, narrowed := true }
def MatrixStacksUptoSaid : Prop := matrixStacksUptoRow.holds Try.pinned (OpenSpec.upto matrixStacksSpec)

/-- 'dioptralaw10.MatrixTiles', WHERE WHAT IT READS IS OF BULK AT MOST 1048576: true; the input reads as it did. -/
def matrixTilesUptoRow : OpenClaim := { program := "ytakfdnpjnbopbaa", sum := "8f8d8a3d10a7898db79595a45e1cf5304c61684ec436f843574684f8e41222ef", func := "dioptra/dioptralaw10.MatrixTiles", spec := "matrixTiles", unfollowed := true, recurses := true, apart := false, narrowed := true }
def MatrixTilesUptoSaid : Prop := matrixTilesUptoRow.holds Try.pinned (OpenSpec.upto matrixTilesSpec)

end Rows
end Go.Proofs.Ytakfdnpjnbopbaa
