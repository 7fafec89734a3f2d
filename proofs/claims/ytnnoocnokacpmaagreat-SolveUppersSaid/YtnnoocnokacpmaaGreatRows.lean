/-
  No cell of these rows narrows 'for every input' (looked for: loops, veiled, ifaces, maps, wideKeys, modest, calm, conditions, laid).
  DERIVED. THE GIVEN ROWS OF THIS SEAT. 10 by the template 'for every input the law returns true; each argument reads behind the call as it read before'; 0 by the template 'total and deterministic' (their statements: YtnnoocnokacpmaaGreatTotals.lean).
  GIVEN WITH THE SEED: the statements are not yours to turn. If you find one false, say at which input.
  Laid BY PROGRAM, IN A SANDBOX (cutbox-rows.mjs): the forced cells as the released guide's own fill.sh prints them over the translation fc7f6f76dd90c6a3… (all of the seat's roots in one cut). By AI agents, Wed Nov 11 2026. No macro, syntax, notation, axiom, sorry.
-/
import Derived.Test.YtnnoocnokacpmaaGreatChecked
import GoSem.Claim
import GoSem.ClaimJoined
import GoSem.ClaimMapViews
import Derived.JoinedTies
import Derived.KernelRfl
namespace Go.Proofs.YtnnoocnokacpmaaGreat
/- THE CELL 'sum', in the pinned program and in every row, IS THE sha256 OF THE DUMP (.gsa) THAT YtnnoocnokacpmaaGreatProg.lean LOADS. Nothing in Lean hashes anything: it is a label: what it is worth is what the hold of that sum in a sandbox is worth. -/
noncomputable def Tryz.pinned : Pinned := { name := "ytnnoocnokacpmaagreat", sum := "fc7f6f76dd90c6a33ad7ff002b33ba5983f99cccd8625f712e7397b6fbb6a69f", checked := Tryz.checked }
namespace Rows
def none {H : Type} : Left H := { results := [], args := [] }

/-- 'dioptralaw17.SolveUppers': WHATEVER THE INPUT: true; the input reads as it did. -/
def solveUppersSpec : ChangeSpec := { name := "solveUppers", fn := fun _ => fun
  | [d1, d2] => { results := [.lit (.bool true)], args := [d1, d2] }
  | _ => none }
def solveUppersRow : OpenClaim := { program := "ytnnoocnokacpmaagreat", sum := "fc7f6f76dd90c6a33ad7ff002b33ba5983f99cccd8625f712e7397b6fbb6a69f", func := "dioptra/dioptralaw17.SolveUppers", spec := "solveUppers", inPlace := ["math.Float64frombits", "math.Float64bits", "math/bits.Sub64"], unfollowed := true, recurses := true, apart := false }
def SolveUppersSaid : Prop := solveUppersRow.holds Tryz.pinned (OpenSpec.ofChange solveUppersSpec)

/-- ITS FALSE NEIGHBOUR: 'it returns false'. Refute it at one input. -/
def solveUppersWrong : ChangeSpec := { name := "solveUppers", fn := fun _ => fun
  | [d1, d2] => { results := [.lit (.bool false)], args := [d1, d2] }
  | _ => none }
def SolveUppersWrongFalsely : Prop := solveUppersRow.holds Tryz.pinned (OpenSpec.ofChange solveUppersWrong)

/-- 'dioptralaw17.SolveLowers': WHATEVER THE INPUT: true; the input reads as it did. -/
def solveLowersSpec : ChangeSpec := { name := "solveLowers", fn := fun _ => fun
  | [d1, d2] => { results := [.lit (.bool true)], args := [d1, d2] }
  | _ => none }
def solveLowersRow : OpenClaim := { program := "ytnnoocnokacpmaagreat", sum := "fc7f6f76dd90c6a33ad7ff002b33ba5983f99cccd8625f712e7397b6fbb6a69f", func := "dioptra/dioptralaw17.SolveLowers", spec := "solveLowers", inPlace := ["math.Float64frombits", "math.Float64bits", "math/bits.Sub64"], unfollowed := true, recurses := true, apart := false }
def SolveLowersSaid : Prop := solveLowersRow.holds Tryz.pinned (OpenSpec.ofChange solveLowersSpec)

/-- ITS FALSE NEIGHBOUR: 'it returns false'. Refute it at one input. -/
def solveLowersWrong : ChangeSpec := { name := "solveLowers", fn := fun _ => fun
  | [d1, d2] => { results := [.lit (.bool false)], args := [d1, d2] }
  | _ => none }
def SolveLowersWrongFalsely : Prop := solveLowersRow.holds Tryz.pinned (OpenSpec.ofChange solveLowersWrong)

/-- 'dioptralaw17.SolveLeasts': WHATEVER THE INPUT: true; the input reads as it did. -/
def solveLeastsSpec : ChangeSpec := { name := "solveLeasts", fn := fun _ => fun
  | [d1, d2] => { results := [.lit (.bool true)], args := [d1, d2] }
  | _ => none }
def solveLeastsRow : OpenClaim := { program := "ytnnoocnokacpmaagreat", sum := "fc7f6f76dd90c6a33ad7ff002b33ba5983f99cccd8625f712e7397b6fbb6a69f", func := "dioptra/dioptralaw17.SolveLeasts", spec := "solveLeasts", inPlace := ["math/bits.Sub64", "math.Float64frombits", "math.Float64bits", "math.sqrt"], unfollowed := true, recurses := true, apart := false }
def SolveLeastsSaid : Prop := solveLeastsRow.holds Tryz.pinned (OpenSpec.ofChange solveLeastsSpec)

/-- ITS FALSE NEIGHBOUR: 'it returns false'. Refute it at one input. -/
def solveLeastsWrong : ChangeSpec := { name := "solveLeasts", fn := fun _ => fun
  | [d1, d2] => { results := [.lit (.bool false)], args := [d1, d2] }
  | _ => none }
def SolveLeastsWrongFalsely : Prop := solveLeastsRow.holds Tryz.pinned (OpenSpec.ofChange solveLeastsWrong)

/-- 'dioptralaw17.SolveExact': WHATEVER THE INPUT: true; the input reads as it did. -/
def solveExactSpec : ChangeSpec := { name := "solveExact", fn := fun _ => fun
  | [d1, d2, d3] => { results := [.lit (.bool true)], args := [d1, d2, d3] }
  | _ => none }
def solveExactRow : OpenClaim := { program := "ytnnoocnokacpmaagreat", sum := "fc7f6f76dd90c6a33ad7ff002b33ba5983f99cccd8625f712e7397b6fbb6a69f", func := "dioptra/dioptralaw17.SolveExact", spec := "solveExact", inPlace := ["math.Float64bits", "math/bits.Sub64"], unfollowed := true, recurses := true, apart := false }
def SolveExactSaid : Prop := solveExactRow.holds Tryz.pinned (OpenSpec.ofChange solveExactSpec)

/-- ITS FALSE NEIGHBOUR: 'it returns false'. Refute it at one input. -/
def solveExactWrong : ChangeSpec := { name := "solveExact", fn := fun _ => fun
  | [d1, d2, d3] => { results := [.lit (.bool false)], args := [d1, d2, d3] }
  | _ => none }
def SolveExactWrongFalsely : Prop := solveExactRow.holds Tryz.pinned (OpenSpec.ofChange solveExactWrong)

/-- 'dioptralaw20.LseSolves': WHATEVER THE INPUT: true; the input reads as it did. -/
def lseSolvesSpec : ChangeSpec := { name := "lseSolves", fn := fun _ => fun
  | [d] => { results := [.lit (.bool true)], args := [d] }
  | _ => none }
def lseSolvesRow : OpenClaim := { program := "ytnnoocnokacpmaagreat", sum := "fc7f6f76dd90c6a33ad7ff002b33ba5983f99cccd8625f712e7397b6fbb6a69f", func := "dioptra/dioptralaw20.LseSolves", spec := "lseSolves", inPlace := ["math/bits.Sub64", "math.Float64frombits", "math.Float64bits", "math.sqrt"], unfollowed := true, recurses := true, apart := false }
def LseSolvesSaid : Prop := lseSolvesRow.holds Tryz.pinned (OpenSpec.ofChange lseSolvesSpec)

/-- ITS FALSE NEIGHBOUR: 'it returns false'. Refute it at one input. -/
def lseSolvesWrong : ChangeSpec := { name := "lseSolves", fn := fun _ => fun
  | [d] => { results := [.lit (.bool false)], args := [d] }
  | _ => none }
def LseSolvesWrongFalsely : Prop := lseSolvesRow.holds Tryz.pinned (OpenSpec.ofChange lseSolvesWrong)

/-- 'dioptralaw21.GglmChecks': WHATEVER THE INPUT: true; the input reads as it did. -/
def gglmChecksSpec : ChangeSpec := { name := "gglmChecks", fn := fun _ => fun
  | [d] => { results := [.lit (.bool true)], args := [d] }
  | _ => none }
def gglmChecksRow : OpenClaim := { program := "ytnnoocnokacpmaagreat", sum := "fc7f6f76dd90c6a33ad7ff002b33ba5983f99cccd8625f712e7397b6fbb6a69f", func := "dioptra/dioptralaw21.GglmChecks", spec := "gglmChecks", inPlace := ["math/bits.Sub64"], unfollowed := true, recurses := true, apart := false }
def GglmChecksSaid : Prop := gglmChecksRow.holds Tryz.pinned (OpenSpec.ofChange gglmChecksSpec)

/-- ITS FALSE NEIGHBOUR: 'it returns false'. Refute it at one input. -/
def gglmChecksWrong : ChangeSpec := { name := "gglmChecks", fn := fun _ => fun
  | [d] => { results := [.lit (.bool false)], args := [d] }
  | _ => none }
def GglmChecksWrongFalsely : Prop := gglmChecksRow.holds Tryz.pinned (OpenSpec.ofChange gglmChecksWrong)

/-- 'dioptralaw21.GglmSolves': WHATEVER THE INPUT: true; the input reads as it did. -/
def gglmSolvesSpec : ChangeSpec := { name := "gglmSolves", fn := fun _ => fun
  | [d] => { results := [.lit (.bool true)], args := [d] }
  | _ => none }
def gglmSolvesRow : OpenClaim := { program := "ytnnoocnokacpmaagreat", sum := "fc7f6f76dd90c6a33ad7ff002b33ba5983f99cccd8625f712e7397b6fbb6a69f", func := "dioptra/dioptralaw21.GglmSolves", spec := "gglmSolves", inPlace := ["math/bits.Sub64", "math.Float64frombits", "math.Float64bits", "math.sqrt"], unfollowed := true, recurses := true, apart := false }
def GglmSolvesSaid : Prop := gglmSolvesRow.holds Tryz.pinned (OpenSpec.ofChange gglmSolvesSpec)

/-- ITS FALSE NEIGHBOUR: 'it returns false'. Refute it at one input. -/
def gglmSolvesWrong : ChangeSpec := { name := "gglmSolves", fn := fun _ => fun
  | [d] => { results := [.lit (.bool false)], args := [d] }
  | _ => none }
def GglmSolvesWrongFalsely : Prop := gglmSolvesRow.holds Tryz.pinned (OpenSpec.ofChange gglmSolvesWrong)

/-- 'dioptralaw21.GglmSquare': WHATEVER THE INPUT: true; the input reads as it did. -/
def gglmSquareSpec : ChangeSpec := { name := "gglmSquare", fn := fun _ => fun
  | [d] => { results := [.lit (.bool true)], args := [d] }
  | _ => none }
def gglmSquareRow : OpenClaim := { program := "ytnnoocnokacpmaagreat", sum := "fc7f6f76dd90c6a33ad7ff002b33ba5983f99cccd8625f712e7397b6fbb6a69f", func := "dioptra/dioptralaw21.GglmSquare", spec := "gglmSquare", inPlace := ["math/bits.Sub64"], unfollowed := true, recurses := true, apart := false }
def GglmSquareSaid : Prop := gglmSquareRow.holds Tryz.pinned (OpenSpec.ofChange gglmSquareSpec)

/-- ITS FALSE NEIGHBOUR: 'it returns false'. Refute it at one input. -/
def gglmSquareWrong : ChangeSpec := { name := "gglmSquare", fn := fun _ => fun
  | [d] => { results := [.lit (.bool false)], args := [d] }
  | _ => none }
def GglmSquareWrongFalsely : Prop := gglmSquareRow.holds Tryz.pinned (OpenSpec.ofChange gglmSquareWrong)

/-- 'dioptralaw22.RidgeHelds': WHATEVER THE INPUT: true; the input reads as it did. -/
def ridgeHeldsSpec : ChangeSpec := { name := "ridgeHelds", fn := fun _ => fun
  | [d1, d2] => { results := [.lit (.bool true)], args := [d1, d2] }
  | _ => none }
def ridgeHeldsRow : OpenClaim := { program := "ytnnoocnokacpmaagreat", sum := "fc7f6f76dd90c6a33ad7ff002b33ba5983f99cccd8625f712e7397b6fbb6a69f", func := "dioptra/dioptralaw22.RidgeHelds", spec := "ridgeHelds", inPlace := ["math/bits.Sub64", "math.Float64frombits", "math.Float64bits", "math.sqrt"], unfollowed := true, recurses := true, apart := false }
def RidgeHeldsSaid : Prop := ridgeHeldsRow.holds Tryz.pinned (OpenSpec.ofChange ridgeHeldsSpec)

/-- ITS FALSE NEIGHBOUR: 'it returns false'. Refute it at one input. -/
def ridgeHeldsWrong : ChangeSpec := { name := "ridgeHelds", fn := fun _ => fun
  | [d1, d2] => { results := [.lit (.bool false)], args := [d1, d2] }
  | _ => none }
def RidgeHeldsWrongFalsely : Prop := ridgeHeldsRow.holds Tryz.pinned (OpenSpec.ofChange ridgeHeldsWrong)

/-- 'dioptralaw22.RidgeEachs': WHATEVER THE INPUT: true; the input reads as it did. -/
def ridgeEachsSpec : ChangeSpec := { name := "ridgeEachs", fn := fun _ => fun
  | [d1, d2] => { results := [.lit (.bool true)], args := [d1, d2] }
  | _ => none }
def ridgeEachsRow : OpenClaim := { program := "ytnnoocnokacpmaagreat", sum := "fc7f6f76dd90c6a33ad7ff002b33ba5983f99cccd8625f712e7397b6fbb6a69f", func := "dioptra/dioptralaw22.RidgeEachs", spec := "ridgeEachs", inPlace := ["math/bits.Sub64", "math.Float64frombits", "math.Float64bits", "math.sqrt"], unfollowed := true, recurses := true, apart := false }
def RidgeEachsSaid : Prop := ridgeEachsRow.holds Tryz.pinned (OpenSpec.ofChange ridgeEachsSpec)

/-- ITS FALSE NEIGHBOUR: 'it returns false'. Refute it at one input. -/
def ridgeEachsWrong : ChangeSpec := { name := "ridgeEachs", fn := fun _ => fun
  | [d1, d2] => { results := [.lit (.bool false)], args := [d1, d2] }
  | _ => none }
def RidgeEachsWrongFalsely : Prop := ridgeEachsRow.holds Tryz.pinned (OpenSpec.ofChange ridgeEachsWrong)

/- THE SECOND FORM. 'bulk': how many values and letters a reading holds, each counted each time it is reached (what is shared counts as often as it is met; a slice's spare places count too). A statement '..UptoSaid' is the law's where the arguments, and the package variables that the reading takes, are together of bulk at most 1048576: NARROWER than '..Said'. Prove '..Said' where nothing that the law and all that it calls make is longer than what came in: it says more and counts as full. Else prove '..UptoSaid'. A law counts once. -/
mutual
def uptoBulk {H : Type} : DataW H → Nat
  | .lit (.string bytes) => bytes.length + 1
  | .lit _ => 1
  | .nil => 1
  | .ptr d => uptoBulk d + 1
  | .slice elems spare => uptoBulkAll elems + uptoBulkAll spare + 1
  | .agg parts => uptoBulkAll parts + 1
  | .iface _ d => uptoBulk d + 1
  | .map entries => uptoBulkEntries entries + 1
  | .held _ => 1
def uptoBulkAll {H : Type} : List (DataW H) → Nat
  | [] => 0
  | d :: r => uptoBulk d + uptoBulkAll r
def uptoBulkEntries {H : Type} : List (Lit × DataW H) → Nat
  | [] => 0
  | x :: r => uptoBulkEntry x + uptoBulkEntries r
def uptoBulkEntry {H : Type} : Lit × DataW H → Nat
  | (.string bytes, d) => bytes.length + uptoBulk d + 1
  | (_, d) => uptoBulk d + 1
 end
def uptoSmall : (H : Type) → List (DataW H) → Bool := fun _ ds => decide (uptoBulkAll ds ≤ 1048576)
def OpenSpec.upto (s : _root_.Go.ChangeSpec) : _root_.Go.OpenSpec := { _root_.Go.OpenSpec.ofChange s with cond := some uptoSmall }

/-- 'dioptralaw17.SolveUppers', WHERE WHAT IT READS IS OF BULK AT MOST 1048576: true; the input reads as it did. -/
def solveUppersUptoRow : OpenClaim := { program := "ytnnoocnokacpmaagreat", sum := "fc7f6f76dd90c6a33ad7ff002b33ba5983f99cccd8625f712e7397b6fbb6a69f", func := "dioptra/dioptralaw17.SolveUppers", spec := "solveUppers", inPlace := ["math.Float64frombits", "math.Float64bits", "math/bits.Sub64"], unfollowed := true, recurses := true, apart := false, narrowed := true }
def SolveUppersUptoSaid : Prop := solveUppersUptoRow.holds Tryz.pinned (OpenSpec.upto solveUppersSpec)

/-- 'dioptralaw17.SolveLowers', WHERE WHAT IT READS IS OF BULK AT MOST 1048576: true; the input reads as it did. -/
def solveLowersUptoRow : OpenClaim := { program := "ytnnoocnokacpmaagreat", sum := "fc7f6f76dd90c6a33ad7ff002b33ba5983f99cccd8625f712e7397b6fbb6a69f", func := "dioptra/dioptralaw17.SolveLowers", spec := "solveLowers", inPlace := ["math.Float64frombits", "math.Float64bits", "math/bits.Sub64"], unfollowed := true, recurses := true, apart := false, narrowed := true }
def SolveLowersUptoSaid : Prop := solveLowersUptoRow.holds Tryz.pinned (OpenSpec.upto solveLowersSpec)

/-- 'dioptralaw17.SolveLeasts', WHERE WHAT IT READS IS OF BULK AT MOST 1048576: true; the input reads as it did. -/
def solveLeastsUptoRow : OpenClaim := { program := "ytnnoocnokacpmaagreat", sum := "fc7f6f76dd90c6a33ad7ff002b33ba5983f99cccd8625f712e7397b6fbb6a69f", func := "dioptra/dioptralaw17.SolveLeasts", spec := "solveLeasts", inPlace := ["math/bits.Sub64", "math.Float64frombits", "math.Float64bits", "math.sqrt"], unfollowed := true, recurses := true, apart := false, narrowed := true }
def SolveLeastsUptoSaid : Prop := solveLeastsUptoRow.holds Tryz.pinned (OpenSpec.upto solveLeastsSpec)

/-- 'dioptralaw17.SolveExact', WHERE WHAT IT READS IS OF BULK AT MOST 1048576: true; the input reads as it did. -/
def solveExactUptoRow : OpenClaim := { program := "ytnnoocnokacpmaagreat", sum := "fc7f6f76dd90c6a33ad7ff002b33ba5983f99cccd8625f712e7397b6fbb6a69f", func := "dioptra/dioptralaw17.SolveExact", spec := "solveExact", inPlace := ["math.Float64bits", "math/bits.Sub64"], unfollowed := true, recurses := true, apart := false, narrowed := true }
def SolveExactUptoSaid : Prop := solveExactUptoRow.holds Tryz.pinned (OpenSpec.upto solveExactSpec)

/-- 'dioptralaw20.LseSolves', WHERE WHAT IT READS IS OF BULK AT MOST 1048576: true; the input reads as it did. -/
def lseSolvesUptoRow : OpenClaim := { program := "ytnnoocnokacpmaagreat", sum := "fc7f6f76dd90c6a33ad7ff002b33ba5983f99cccd8625f712e7397b6fbb6a69f", func := "dioptra/dioptralaw20.LseSolves", spec := "lseSolves", inPlace := ["math/bits.Sub64", "math.Float64frombits", "math.Float64bits", "math.sqrt"], unfollowed := true, recurses := true, apart := false, narrowed := true }
def LseSolvesUptoSaid : Prop := lseSolvesUptoRow.holds Tryz.pinned (OpenSpec.upto lseSolvesSpec)

/-- 'dioptralaw21.GglmChecks', WHERE WHAT IT READS IS OF BULK AT MOST 1048576: true; the input reads as it did. -/
def gglmChecksUptoRow : OpenClaim := { program := "ytnnoocnokacpmaagreat", sum := "fc7f6f76dd90c6a33ad7ff002b33ba5983f99cccd8625f712e7397b6fbb6a69f", func := "dioptra/dioptralaw21.GglmChecks", spec := "gglmChecks", inPlace := ["math/bits.Sub64"], unfollowed := true, recurses := true, apart := false, narrowed := true }
def GglmChecksUptoSaid : Prop := gglmChecksUptoRow.holds Tryz.pinned (OpenSpec.upto gglmChecksSpec)

/-- 'dioptralaw21.GglmSolves', WHERE WHAT IT READS IS OF BULK AT MOST 1048576: true; the input reads as it did. -/
def gglmSolvesUptoRow : OpenClaim := { program := "ytnnoocnokacpmaagreat", sum := "fc7f6f76dd90c6a33ad7ff002b33ba5983f99cccd8625f712e7397b6fbb6a69f", func := "dioptra/dioptralaw21.GglmSolves", spec := "gglmSolves", inPlace := ["math/bits.Sub64", "math.Float64frombits", "math.Float64bits", "math.sqrt"], unfollowed := true, recurses := true, apart := false, narrowed := true }
def GglmSolvesUptoSaid : Prop := gglmSolvesUptoRow.holds Tryz.pinned (OpenSpec.upto gglmSolvesSpec)

/-- 'dioptralaw21.GglmSquare', WHERE WHAT IT READS IS OF BULK AT MOST 1048576: true; the input reads as it did. -/
def gglmSquareUptoRow : OpenClaim := { program := "ytnnoocnokacpmaagreat", sum := "fc7f6f76dd90c6a33ad7ff002b33ba5983f99cccd8625f712e7397b6fbb6a69f", func := "dioptra/dioptralaw21.GglmSquare", spec := "gglmSquare", inPlace := ["math/bits.Sub64"], unfollowed := true, recurses := true, apart := false, narrowed := true }
def GglmSquareUptoSaid : Prop := gglmSquareUptoRow.holds Tryz.pinned (OpenSpec.upto gglmSquareSpec)

/-- 'dioptralaw22.RidgeHelds', WHERE WHAT IT READS IS OF BULK AT MOST 1048576: true; the input reads as it did. -/
def ridgeHeldsUptoRow : OpenClaim := { program := "ytnnoocnokacpmaagreat", sum := "fc7f6f76dd90c6a33ad7ff002b33ba5983f99cccd8625f712e7397b6fbb6a69f", func := "dioptra/dioptralaw22.RidgeHelds", spec := "ridgeHelds", inPlace := ["math/bits.Sub64", "math.Float64frombits", "math.Float64bits", "math.sqrt"], unfollowed := true, recurses := true, apart := false, narrowed := true }
def RidgeHeldsUptoSaid : Prop := ridgeHeldsUptoRow.holds Tryz.pinned (OpenSpec.upto ridgeHeldsSpec)

/-- 'dioptralaw22.RidgeEachs', WHERE WHAT IT READS IS OF BULK AT MOST 1048576: true; the input reads as it did. -/
def ridgeEachsUptoRow : OpenClaim := { program := "ytnnoocnokacpmaagreat", sum := "fc7f6f76dd90c6a33ad7ff002b33ba5983f99cccd8625f712e7397b6fbb6a69f", func := "dioptra/dioptralaw22.RidgeEachs", spec := "ridgeEachs", inPlace := ["math/bits.Sub64", "math.Float64frombits", "math.Float64bits", "math.sqrt"], unfollowed := true, recurses := true, apart := false, narrowed := true }
def RidgeEachsUptoSaid : Prop := ridgeEachsUptoRow.holds Tryz.pinned (OpenSpec.upto ridgeEachsSpec)

end Rows
end Go.Proofs.YtnnoocnokacpmaaGreat
