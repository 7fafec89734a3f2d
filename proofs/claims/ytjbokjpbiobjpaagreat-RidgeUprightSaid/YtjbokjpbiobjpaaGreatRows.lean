/-
  No cell of these rows narrows 'for every input' (looked for: loops, veiled, ifaces, maps, wideKeys, modest, calm, conditions, laid).
  DERIVED. THE GIVEN ROWS OF THIS SEAT. 19 by the template 'for every input the law returns true; each argument reads behind the call as it read before'; 0 by the template 'total and deterministic' (their statements: YtjbokjpbiobjpaaGreatTotals.lean).
  GIVEN WITH THE SEED: the statements are not yours to turn. If you find one false, say at which input.
  Laid BY PROGRAM, IN A SANDBOX (cutbox-rows.mjs): the forced cells as the released guide's own fill.sh prints them over the translation a84bab09eb22b2d7… (all of the seat's roots in one cut). By AI agents, Wed Nov 11 2026. No macro, syntax, notation, axiom, sorry.
-/
import Derived.Test.YtjbokjpbiobjpaaGreatChecked
import GoSem.Claim
import GoSem.ClaimJoined
import GoSem.ClaimMapViews
import Derived.JoinedTies
import Derived.KernelRfl
namespace Go.Proofs.YtjbokjpbiobjpaaGreat
/- THE CELL 'sum', in the pinned program and in every row, IS THE sha256 OF THE DUMP (.gsa) THAT YtjbokjpbiobjpaaGreatProg.lean LOADS. Nothing in Lean hashes anything: it is a label: what it is worth is what the hold of that sum in a sandbox is worth. -/
noncomputable def Tryz.pinned : Pinned := { name := "ytjbokjpbiobjpaagreat", sum := "a84bab09eb22b2d7c644609906e72244d5697e1b40e5ae6f4dce5e6b3fa5d772", checked := Tryz.checked }
namespace Rows
def none {H : Type} : Left H := { results := [], args := [] }

/-- 'dioptralaw17.SolveLowers': WHATEVER THE INPUT: true; the input reads as it did. -/
def solveLowersSpec : ChangeSpec := { name := "solveLowers", fn := fun _ => fun
  | [d1, d2] => { results := [.lit (.bool true)], args := [d1, d2] }
  | _ => none }
def solveLowersRow : OpenClaim := { program := "ytjbokjpbiobjpaagreat", sum := "a84bab09eb22b2d7c644609906e72244d5697e1b40e5ae6f4dce5e6b3fa5d772", func := "dioptra/dioptralaw17.SolveLowers", spec := "solveLowers", inPlace := ["math.Float64frombits", "math.Float64bits", "math/bits.Sub64"], unfollowed := true, recurses := true, apart := false }
def SolveLowersSaid : Prop := solveLowersRow.holds Tryz.pinned (OpenSpec.ofChange solveLowersSpec)

/-- ITS FALSE NEIGHBOUR: 'it returns false'. Refute it at one input. -/
def solveLowersWrong : ChangeSpec := { name := "solveLowers", fn := fun _ => fun
  | [d1, d2] => { results := [.lit (.bool false)], args := [d1, d2] }
  | _ => none }
def SolveLowersWrongFalsely : Prop := solveLowersRow.holds Tryz.pinned (OpenSpec.ofChange solveLowersWrong)

/-- 'dioptralaw17.SolveLeasts': WHATEVER THE INPUT: true; the input reads as it did. -/
def solveLeastsSpec : ChangeSpec := { name := "solveLeasts", fn := fun _ => fun
  | [d1, d2] => { results := [.lit (.bool true)], args := [d1, d2] }
  | _ => none }
def solveLeastsRow : OpenClaim := { program := "ytjbokjpbiobjpaagreat", sum := "a84bab09eb22b2d7c644609906e72244d5697e1b40e5ae6f4dce5e6b3fa5d772", func := "dioptra/dioptralaw17.SolveLeasts", spec := "solveLeasts", inPlace := ["math/bits.Sub64", "math.Float64frombits", "math.Float64bits", "math.sqrt"], unfollowed := true, recurses := true, apart := false }
def SolveLeastsSaid : Prop := solveLeastsRow.holds Tryz.pinned (OpenSpec.ofChange solveLeastsSpec)

/-- ITS FALSE NEIGHBOUR: 'it returns false'. Refute it at one input. -/
def solveLeastsWrong : ChangeSpec := { name := "solveLeasts", fn := fun _ => fun
  | [d1, d2] => { results := [.lit (.bool false)], args := [d1, d2] }
  | _ => none }
def SolveLeastsWrongFalsely : Prop := solveLeastsRow.holds Tryz.pinned (OpenSpec.ofChange solveLeastsWrong)

/-- 'dioptralaw17.SolveExact': WHATEVER THE INPUT: true; the input reads as it did. -/
def solveExactSpec : ChangeSpec := { name := "solveExact", fn := fun _ => fun
  | [d1, d2, d3] => { results := [.lit (.bool true)], args := [d1, d2, d3] }
  | _ => none }
def solveExactRow : OpenClaim := { program := "ytjbokjpbiobjpaagreat", sum := "a84bab09eb22b2d7c644609906e72244d5697e1b40e5ae6f4dce5e6b3fa5d772", func := "dioptra/dioptralaw17.SolveExact", spec := "solveExact", inPlace := ["math.Float64bits", "math/bits.Sub64"], unfollowed := true, recurses := true, apart := false }
def SolveExactSaid : Prop := solveExactRow.holds Tryz.pinned (OpenSpec.ofChange solveExactSpec)

/-- ITS FALSE NEIGHBOUR: 'it returns false'. Refute it at one input. -/
def solveExactWrong : ChangeSpec := { name := "solveExact", fn := fun _ => fun
  | [d1, d2, d3] => { results := [.lit (.bool false)], args := [d1, d2, d3] }
  | _ => none }
def SolveExactWrongFalsely : Prop := solveExactRow.holds Tryz.pinned (OpenSpec.ofChange solveExactWrong)

/-- 'dioptralaw17.SolveUpright': WHATEVER THE INPUT: true; the input reads as it did. -/
def solveUprightSpec : ChangeSpec := { name := "solveUpright", fn := fun _ => fun
  | [d1, d2] => { results := [.lit (.bool true)], args := [d1, d2] }
  | _ => none }
def solveUprightRow : OpenClaim := { program := "ytjbokjpbiobjpaagreat", sum := "a84bab09eb22b2d7c644609906e72244d5697e1b40e5ae6f4dce5e6b3fa5d772", func := "dioptra/dioptralaw17.SolveUpright", spec := "solveUpright", inPlace := ["math/bits.Sub64"], unfollowed := true, recurses := true, apart := false }
def SolveUprightSaid : Prop := solveUprightRow.holds Tryz.pinned (OpenSpec.ofChange solveUprightSpec)

/-- ITS FALSE NEIGHBOUR: 'it returns false'. Refute it at one input. -/
def solveUprightWrong : ChangeSpec := { name := "solveUpright", fn := fun _ => fun
  | [d1, d2] => { results := [.lit (.bool false)], args := [d1, d2] }
  | _ => none }
def SolveUprightWrongFalsely : Prop := solveUprightRow.holds Tryz.pinned (OpenSpec.ofChange solveUprightWrong)

/-- 'dioptralaw17.SolveBack': WHATEVER THE INPUT: true; the input reads as it did. -/
def solveBackSpec : ChangeSpec := { name := "solveBack", fn := fun _ => fun
  | [d1, d2, d3] => { results := [.lit (.bool true)], args := [d1, d2, d3] }
  | _ => none }
def solveBackRow : OpenClaim := { program := "ytjbokjpbiobjpaagreat", sum := "a84bab09eb22b2d7c644609906e72244d5697e1b40e5ae6f4dce5e6b3fa5d772", func := "dioptra/dioptralaw17.SolveBack", spec := "solveBack", inPlace := ["math.Float64bits", "math.Float64frombits", "math/bits.Sub64"], unfollowed := true, recurses := true, apart := false }
def SolveBackSaid : Prop := solveBackRow.holds Tryz.pinned (OpenSpec.ofChange solveBackSpec)

/-- ITS FALSE NEIGHBOUR: 'it returns false'. Refute it at one input. -/
def solveBackWrong : ChangeSpec := { name := "solveBack", fn := fun _ => fun
  | [d1, d2, d3] => { results := [.lit (.bool false)], args := [d1, d2, d3] }
  | _ => none }
def SolveBackWrongFalsely : Prop := solveBackRow.holds Tryz.pinned (OpenSpec.ofChange solveBackWrong)

/-- 'dioptralaw20.LseSolves': WHATEVER THE INPUT: true; the input reads as it did. -/
def lseSolvesSpec : ChangeSpec := { name := "lseSolves", fn := fun _ => fun
  | [d] => { results := [.lit (.bool true)], args := [d] }
  | _ => none }
def lseSolvesRow : OpenClaim := { program := "ytjbokjpbiobjpaagreat", sum := "a84bab09eb22b2d7c644609906e72244d5697e1b40e5ae6f4dce5e6b3fa5d772", func := "dioptra/dioptralaw20.LseSolves", spec := "lseSolves", inPlace := ["math/bits.Sub64", "math.Float64frombits", "math.Float64bits", "math.sqrt"], unfollowed := true, recurses := true, apart := false }
def LseSolvesSaid : Prop := lseSolvesRow.holds Tryz.pinned (OpenSpec.ofChange lseSolvesSpec)

/-- ITS FALSE NEIGHBOUR: 'it returns false'. Refute it at one input. -/
def lseSolvesWrong : ChangeSpec := { name := "lseSolves", fn := fun _ => fun
  | [d] => { results := [.lit (.bool false)], args := [d] }
  | _ => none }
def LseSolvesWrongFalsely : Prop := lseSolvesRow.holds Tryz.pinned (OpenSpec.ofChange lseSolvesWrong)

/-- 'dioptralaw20.LseHolds': WHATEVER THE INPUT: true; the input reads as it did. -/
def lseHoldsSpec : ChangeSpec := { name := "lseHolds", fn := fun _ => fun
  | [d] => { results := [.lit (.bool true)], args := [d] }
  | _ => none }
def lseHoldsRow : OpenClaim := { program := "ytjbokjpbiobjpaagreat", sum := "a84bab09eb22b2d7c644609906e72244d5697e1b40e5ae6f4dce5e6b3fa5d772", func := "dioptra/dioptralaw20.LseHolds", spec := "lseHolds", inPlace := ["math/bits.Sub64"], unfollowed := true, recurses := true, apart := false }
def LseHoldsSaid : Prop := lseHoldsRow.holds Tryz.pinned (OpenSpec.ofChange lseHoldsSpec)

/-- ITS FALSE NEIGHBOUR: 'it returns false'. Refute it at one input. -/
def lseHoldsWrong : ChangeSpec := { name := "lseHolds", fn := fun _ => fun
  | [d] => { results := [.lit (.bool false)], args := [d] }
  | _ => none }
def LseHoldsWrongFalsely : Prop := lseHoldsRow.holds Tryz.pinned (OpenSpec.ofChange lseHoldsWrong)

/-- 'dioptralaw20.LseBound': WHATEVER THE INPUT: true; the input reads as it did. -/
def lseBoundSpec : ChangeSpec := { name := "lseBound", fn := fun _ => fun
  | [d1, d2, d3] => { results := [.lit (.bool true)], args := [d1, d2, d3] }
  | _ => none }
def lseBoundRow : OpenClaim := { program := "ytjbokjpbiobjpaagreat", sum := "a84bab09eb22b2d7c644609906e72244d5697e1b40e5ae6f4dce5e6b3fa5d772", func := "dioptra/dioptralaw20.LseBound", spec := "lseBound", inPlace := ["math/bits.Sub64"], unfollowed := true, recurses := true, apart := false }
def LseBoundSaid : Prop := lseBoundRow.holds Tryz.pinned (OpenSpec.ofChange lseBoundSpec)

/-- ITS FALSE NEIGHBOUR: 'it returns false'. Refute it at one input. -/
def lseBoundWrong : ChangeSpec := { name := "lseBound", fn := fun _ => fun
  | [d1, d2, d3] => { results := [.lit (.bool false)], args := [d1, d2, d3] }
  | _ => none }
def LseBoundWrongFalsely : Prop := lseBoundRow.holds Tryz.pinned (OpenSpec.ofChange lseBoundWrong)

/-- 'dioptralaw20.LseExact': WHATEVER THE INPUT: true; the input reads as it did. -/
def lseExactSpec : ChangeSpec := { name := "lseExact", fn := fun _ => fun
  | [d1, d2, d3] => { results := [.lit (.bool true)], args := [d1, d2, d3] }
  | _ => none }
def lseExactRow : OpenClaim := { program := "ytjbokjpbiobjpaagreat", sum := "a84bab09eb22b2d7c644609906e72244d5697e1b40e5ae6f4dce5e6b3fa5d772", func := "dioptra/dioptralaw20.LseExact", spec := "lseExact", inPlace := ["math/bits.Sub64"], unfollowed := true, recurses := true, apart := false }
def LseExactSaid : Prop := lseExactRow.holds Tryz.pinned (OpenSpec.ofChange lseExactSpec)

/-- ITS FALSE NEIGHBOUR: 'it returns false'. Refute it at one input. -/
def lseExactWrong : ChangeSpec := { name := "lseExact", fn := fun _ => fun
  | [d1, d2, d3] => { results := [.lit (.bool false)], args := [d1, d2, d3] }
  | _ => none }
def LseExactWrongFalsely : Prop := lseExactRow.holds Tryz.pinned (OpenSpec.ofChange lseExactWrong)

/-- 'dioptralaw20.LseFree': WHATEVER THE INPUT: true; the input reads as it did. -/
def lseFreeSpec : ChangeSpec := { name := "lseFree", fn := fun _ => fun
  | [d1, d2] => { results := [.lit (.bool true)], args := [d1, d2] }
  | _ => none }
def lseFreeRow : OpenClaim := { program := "ytjbokjpbiobjpaagreat", sum := "a84bab09eb22b2d7c644609906e72244d5697e1b40e5ae6f4dce5e6b3fa5d772", func := "dioptra/dioptralaw20.LseFree", spec := "lseFree", inPlace := ["math/bits.Sub64", "math.Float64frombits", "math.Float64bits", "math.sqrt"], unfollowed := true, recurses := true, apart := false }
def LseFreeSaid : Prop := lseFreeRow.holds Tryz.pinned (OpenSpec.ofChange lseFreeSpec)

/-- ITS FALSE NEIGHBOUR: 'it returns false'. Refute it at one input. -/
def lseFreeWrong : ChangeSpec := { name := "lseFree", fn := fun _ => fun
  | [d1, d2] => { results := [.lit (.bool false)], args := [d1, d2] }
  | _ => none }
def LseFreeWrongFalsely : Prop := lseFreeRow.holds Tryz.pinned (OpenSpec.ofChange lseFreeWrong)

/-- 'dioptralaw21.GglmChecks': WHATEVER THE INPUT: true; the input reads as it did. -/
def gglmChecksSpec : ChangeSpec := { name := "gglmChecks", fn := fun _ => fun
  | [d] => { results := [.lit (.bool true)], args := [d] }
  | _ => none }
def gglmChecksRow : OpenClaim := { program := "ytjbokjpbiobjpaagreat", sum := "a84bab09eb22b2d7c644609906e72244d5697e1b40e5ae6f4dce5e6b3fa5d772", func := "dioptra/dioptralaw21.GglmChecks", spec := "gglmChecks", inPlace := ["math/bits.Sub64"], unfollowed := true, recurses := true, apart := false }
def GglmChecksSaid : Prop := gglmChecksRow.holds Tryz.pinned (OpenSpec.ofChange gglmChecksSpec)

/-- ITS FALSE NEIGHBOUR: 'it returns false'. Refute it at one input. -/
def gglmChecksWrong : ChangeSpec := { name := "gglmChecks", fn := fun _ => fun
  | [d] => { results := [.lit (.bool false)], args := [d] }
  | _ => none }
def GglmChecksWrongFalsely : Prop := gglmChecksRow.holds Tryz.pinned (OpenSpec.ofChange gglmChecksWrong)

/-- 'dioptralaw21.GglmSolves': WHATEVER THE INPUT: true; the input reads as it did. -/
def gglmSolvesSpec : ChangeSpec := { name := "gglmSolves", fn := fun _ => fun
  | [d] => { results := [.lit (.bool true)], args := [d] }
  | _ => none }
def gglmSolvesRow : OpenClaim := { program := "ytjbokjpbiobjpaagreat", sum := "a84bab09eb22b2d7c644609906e72244d5697e1b40e5ae6f4dce5e6b3fa5d772", func := "dioptra/dioptralaw21.GglmSolves", spec := "gglmSolves", inPlace := ["math/bits.Sub64", "math.Float64frombits", "math.Float64bits", "math.sqrt"], unfollowed := true, recurses := true, apart := false }
def GglmSolvesSaid : Prop := gglmSolvesRow.holds Tryz.pinned (OpenSpec.ofChange gglmSolvesSpec)

/-- ITS FALSE NEIGHBOUR: 'it returns false'. Refute it at one input. -/
def gglmSolvesWrong : ChangeSpec := { name := "gglmSolves", fn := fun _ => fun
  | [d] => { results := [.lit (.bool false)], args := [d] }
  | _ => none }
def GglmSolvesWrongFalsely : Prop := gglmSolvesRow.holds Tryz.pinned (OpenSpec.ofChange gglmSolvesWrong)

/-- 'dioptralaw21.GglmSquare': WHATEVER THE INPUT: true; the input reads as it did. -/
def gglmSquareSpec : ChangeSpec := { name := "gglmSquare", fn := fun _ => fun
  | [d] => { results := [.lit (.bool true)], args := [d] }
  | _ => none }
def gglmSquareRow : OpenClaim := { program := "ytjbokjpbiobjpaagreat", sum := "a84bab09eb22b2d7c644609906e72244d5697e1b40e5ae6f4dce5e6b3fa5d772", func := "dioptra/dioptralaw21.GglmSquare", spec := "gglmSquare", inPlace := ["math/bits.Sub64"], unfollowed := true, recurses := true, apart := false }
def GglmSquareSaid : Prop := gglmSquareRow.holds Tryz.pinned (OpenSpec.ofChange gglmSquareSpec)

/-- ITS FALSE NEIGHBOUR: 'it returns false'. Refute it at one input. -/
def gglmSquareWrong : ChangeSpec := { name := "gglmSquare", fn := fun _ => fun
  | [d] => { results := [.lit (.bool false)], args := [d] }
  | _ => none }
def GglmSquareWrongFalsely : Prop := gglmSquareRow.holds Tryz.pinned (OpenSpec.ofChange gglmSquareWrong)

/-- 'dioptralaw21.GglmPlain': WHATEVER THE INPUT: true; the input reads as it did. -/
def gglmPlainSpec : ChangeSpec := { name := "gglmPlain", fn := fun _ => fun
  | [d] => { results := [.lit (.bool true)], args := [d] }
  | _ => none }
def gglmPlainRow : OpenClaim := { program := "ytjbokjpbiobjpaagreat", sum := "a84bab09eb22b2d7c644609906e72244d5697e1b40e5ae6f4dce5e6b3fa5d772", func := "dioptra/dioptralaw21.GglmPlain", spec := "gglmPlain", inPlace := ["math/bits.Sub64"], unfollowed := true, recurses := true, apart := false }
def GglmPlainSaid : Prop := gglmPlainRow.holds Tryz.pinned (OpenSpec.ofChange gglmPlainSpec)

/-- ITS FALSE NEIGHBOUR: 'it returns false'. Refute it at one input. -/
def gglmPlainWrong : ChangeSpec := { name := "gglmPlain", fn := fun _ => fun
  | [d] => { results := [.lit (.bool false)], args := [d] }
  | _ => none }
def GglmPlainWrongFalsely : Prop := gglmPlainRow.holds Tryz.pinned (OpenSpec.ofChange gglmPlainWrong)

/-- 'dioptralaw21.GglmHolds': WHATEVER THE INPUT: true; the input reads as it did. -/
def gglmHoldsSpec : ChangeSpec := { name := "gglmHolds", fn := fun _ => fun
  | [d] => { results := [.lit (.bool true)], args := [d] }
  | _ => none }
def gglmHoldsRow : OpenClaim := { program := "ytjbokjpbiobjpaagreat", sum := "a84bab09eb22b2d7c644609906e72244d5697e1b40e5ae6f4dce5e6b3fa5d772", func := "dioptra/dioptralaw21.GglmHolds", spec := "gglmHolds", inPlace := ["math/bits.Sub64"], unfollowed := true, recurses := true, apart := false }
def GglmHoldsSaid : Prop := gglmHoldsRow.holds Tryz.pinned (OpenSpec.ofChange gglmHoldsSpec)

/-- ITS FALSE NEIGHBOUR: 'it returns false'. Refute it at one input. -/
def gglmHoldsWrong : ChangeSpec := { name := "gglmHolds", fn := fun _ => fun
  | [d] => { results := [.lit (.bool false)], args := [d] }
  | _ => none }
def GglmHoldsWrongFalsely : Prop := gglmHoldsRow.holds Tryz.pinned (OpenSpec.ofChange gglmHoldsWrong)

/-- 'dioptralaw22.RidgeHelds': WHATEVER THE INPUT: true; the input reads as it did. -/
def ridgeHeldsSpec : ChangeSpec := { name := "ridgeHelds", fn := fun _ => fun
  | [d1, d2] => { results := [.lit (.bool true)], args := [d1, d2] }
  | _ => none }
def ridgeHeldsRow : OpenClaim := { program := "ytjbokjpbiobjpaagreat", sum := "a84bab09eb22b2d7c644609906e72244d5697e1b40e5ae6f4dce5e6b3fa5d772", func := "dioptra/dioptralaw22.RidgeHelds", spec := "ridgeHelds", inPlace := ["math/bits.Sub64", "math.Float64frombits", "math.Float64bits", "math.sqrt"], unfollowed := true, recurses := true, apart := false }
def RidgeHeldsSaid : Prop := ridgeHeldsRow.holds Tryz.pinned (OpenSpec.ofChange ridgeHeldsSpec)

/-- ITS FALSE NEIGHBOUR: 'it returns false'. Refute it at one input. -/
def ridgeHeldsWrong : ChangeSpec := { name := "ridgeHelds", fn := fun _ => fun
  | [d1, d2] => { results := [.lit (.bool false)], args := [d1, d2] }
  | _ => none }
def RidgeHeldsWrongFalsely : Prop := ridgeHeldsRow.holds Tryz.pinned (OpenSpec.ofChange ridgeHeldsWrong)

/-- 'dioptralaw22.RidgeEachs': WHATEVER THE INPUT: true; the input reads as it did. -/
def ridgeEachsSpec : ChangeSpec := { name := "ridgeEachs", fn := fun _ => fun
  | [d1, d2] => { results := [.lit (.bool true)], args := [d1, d2] }
  | _ => none }
def ridgeEachsRow : OpenClaim := { program := "ytjbokjpbiobjpaagreat", sum := "a84bab09eb22b2d7c644609906e72244d5697e1b40e5ae6f4dce5e6b3fa5d772", func := "dioptra/dioptralaw22.RidgeEachs", spec := "ridgeEachs", inPlace := ["math/bits.Sub64", "math.Float64frombits", "math.Float64bits", "math.sqrt"], unfollowed := true, recurses := true, apart := false }
def RidgeEachsSaid : Prop := ridgeEachsRow.holds Tryz.pinned (OpenSpec.ofChange ridgeEachsSpec)

/-- ITS FALSE NEIGHBOUR: 'it returns false'. Refute it at one input. -/
def ridgeEachsWrong : ChangeSpec := { name := "ridgeEachs", fn := fun _ => fun
  | [d1, d2] => { results := [.lit (.bool false)], args := [d1, d2] }
  | _ => none }
def RidgeEachsWrongFalsely : Prop := ridgeEachsRow.holds Tryz.pinned (OpenSpec.ofChange ridgeEachsWrong)

/-- 'dioptralaw22.RidgeFree': WHATEVER THE INPUT: true; the input reads as it did. -/
def ridgeFreeSpec : ChangeSpec := { name := "ridgeFree", fn := fun _ => fun
  | [d] => { results := [.lit (.bool true)], args := [d] }
  | _ => none }
def ridgeFreeRow : OpenClaim := { program := "ytjbokjpbiobjpaagreat", sum := "a84bab09eb22b2d7c644609906e72244d5697e1b40e5ae6f4dce5e6b3fa5d772", func := "dioptra/dioptralaw22.RidgeFree", spec := "ridgeFree", inPlace := ["math/bits.Sub64", "math.Float64frombits", "math.Float64bits", "math.sqrt"], unfollowed := true, recurses := true, apart := false }
def RidgeFreeSaid : Prop := ridgeFreeRow.holds Tryz.pinned (OpenSpec.ofChange ridgeFreeSpec)

/-- ITS FALSE NEIGHBOUR: 'it returns false'. Refute it at one input. -/
def ridgeFreeWrong : ChangeSpec := { name := "ridgeFree", fn := fun _ => fun
  | [d] => { results := [.lit (.bool false)], args := [d] }
  | _ => none }
def RidgeFreeWrongFalsely : Prop := ridgeFreeRow.holds Tryz.pinned (OpenSpec.ofChange ridgeFreeWrong)

/-- 'dioptralaw22.RidgeUpright': WHATEVER THE INPUT: true; the input reads as it did. -/
def ridgeUprightSpec : ChangeSpec := { name := "ridgeUpright", fn := fun _ => fun
  | [d1, d2] => { results := [.lit (.bool true)], args := [d1, d2] }
  | _ => none }
def ridgeUprightRow : OpenClaim := { program := "ytjbokjpbiobjpaagreat", sum := "a84bab09eb22b2d7c644609906e72244d5697e1b40e5ae6f4dce5e6b3fa5d772", func := "dioptra/dioptralaw22.RidgeUpright", spec := "ridgeUpright", inPlace := ["math/bits.Sub64", "math.Float64frombits", "math.Float64bits"], unfollowed := true, recurses := true, apart := false }
def RidgeUprightSaid : Prop := ridgeUprightRow.holds Tryz.pinned (OpenSpec.ofChange ridgeUprightSpec)

/-- ITS FALSE NEIGHBOUR: 'it returns false'. Refute it at one input. -/
def ridgeUprightWrong : ChangeSpec := { name := "ridgeUpright", fn := fun _ => fun
  | [d1, d2] => { results := [.lit (.bool false)], args := [d1, d2] }
  | _ => none }
def RidgeUprightWrongFalsely : Prop := ridgeUprightRow.holds Tryz.pinned (OpenSpec.ofChange ridgeUprightWrong)

/- THE SECOND FORM. 'bulk': how many values and letters a reading holds, each counted each time it is reached (what is shared counts as often as it is met; a slice's spare places count too). A statement '..UptoSaid' is the law's where the arguments, and the package variables that the reading takes, are together of bulk at most 1048576: NARROWER than '..Said'. Prove '..Said' where nothing that the law and all that it calls make is longer than what came in: it says more and counts as full. Else prove '..UptoSaid'. A law counts once. -/
mutual
def uptoBulk {H : Type} : DataW H → Nat
  | .lit (.string bytes) => bytes.length + 1
  | .lit _ => 1
  | .nil => 1
  | .ptr d => uptoBulk d + 1
  | .slice elems spare => uptoBulkAll elems + uptoBulkAll spare + 1
  | .agg parts => uptoBulkAll parts + 1
  | .iface _ d => uptoBulk d + 1
  | .map entries => uptoBulkEntries entries + 1
  | .held _ => 1
def uptoBulkAll {H : Type} : List (DataW H) → Nat
  | [] => 0
  | d :: r => uptoBulk d + uptoBulkAll r
def uptoBulkEntries {H : Type} : List (Lit × DataW H) → Nat
  | [] => 0
  | x :: r => uptoBulkEntry x + uptoBulkEntries r
def uptoBulkEntry {H : Type} : Lit × DataW H → Nat
  | (.string bytes, d) => bytes.length + uptoBulk d + 1
  | (_, d) => uptoBulk d + 1
 end
def uptoSmall : (H : Type) → List (DataW H) → Bool := fun _ ds => decide (uptoBulkAll ds ≤ 1048576)
def OpenSpec.upto (s : _root_.Go.ChangeSpec) : _root_.Go.OpenSpec := { _root_.Go.OpenSpec.ofChange s with cond := some uptoSmall }

/-- 'dioptralaw17.SolveLowers', WHERE WHAT IT READS IS OF BULK AT MOST 1048576: true; the input reads as it did. -/
def solveLowersUptoRow : OpenClaim := { program := "ytjbokjpbiobjpaagreat", sum := "a84bab09eb22b2d7c644609906e72244d5697e1b40e5ae6f4dce5e6b3fa5d772", func := "dioptra/dioptralaw17.SolveLowers", spec := "solveLowers", inPlace := ["math.Float64frombits", "math.Float64bits", "math/bits.Sub64"], unfollowed := true, recurses := true, apart := false, narrowed := true }
def SolveLowersUptoSaid : Prop := solveLowersUptoRow.holds Tryz.pinned (OpenSpec.upto solveLowersSpec)

/-- 'dioptralaw17.SolveLeasts', WHERE WHAT IT READS IS OF BULK AT MOST 1048576: true; the input reads as it did. -/
def solveLeastsUptoRow : OpenClaim := { program := "ytjbokjpbiobjpaagreat", sum := "a84bab09eb22b2d7c644609906e72244d5697e1b40e5ae6f4dce5e6b3fa5d772", func := "dioptra/dioptralaw17.SolveLeasts", spec := "solveLeasts", inPlace := ["math/bits.Sub64", "math.Float64frombits", "math.Float64bits", "math.sqrt"], unfollowed := true, recurses := true, apart := false, narrowed := true }
def SolveLeastsUptoSaid : Prop := solveLeastsUptoRow.holds Tryz.pinned (OpenSpec.upto solveLeastsSpec)

/-- 'dioptralaw17.SolveExact', WHERE WHAT IT READS IS OF BULK AT MOST 1048576: true; the input reads as it did. -/
def solveExactUptoRow : OpenClaim := { program := "ytjbokjpbiobjpaagreat", sum := "a84bab09eb22b2d7c644609906e72244d5697e1b40e5ae6f4dce5e6b3fa5d772", func := "dioptra/dioptralaw17.SolveExact", spec := "solveExact", inPlace := ["math.Float64bits", "math/bits.Sub64"], unfollowed := true, recurses := true, apart := false, narrowed := true }
def SolveExactUptoSaid : Prop := solveExactUptoRow.holds Tryz.pinned (OpenSpec.upto solveExactSpec)

/-- 'dioptralaw17.SolveUpright', WHERE WHAT IT READS IS OF BULK AT MOST 1048576: true; the input reads as it did. -/
def solveUprightUptoRow : OpenClaim := { program := "ytjbokjpbiobjpaagreat", sum := "a84bab09eb22b2d7c644609906e72244d5697e1b40e5ae6f4dce5e6b3fa5d772", func := "dioptra/dioptralaw17.SolveUpright", spec := "solveUpright", inPlace := ["math/bits.Sub64"], unfollowed := true, recurses := true, apart := false, narrowed := true }
def SolveUprightUptoSaid : Prop := solveUprightUptoRow.holds Tryz.pinned (OpenSpec.upto solveUprightSpec)

/-- 'dioptralaw17.SolveBack', WHERE WHAT IT READS IS OF BULK AT MOST 1048576: true; the input reads as it did. -/
def solveBackUptoRow : OpenClaim := { program := "ytjbokjpbiobjpaagreat", sum := "a84bab09eb22b2d7c644609906e72244d5697e1b40e5ae6f4dce5e6b3fa5d772", func := "dioptra/dioptralaw17.SolveBack", spec := "solveBack", inPlace := ["math.Float64bits", "math.Float64frombits", "math/bits.Sub64"], unfollowed := true, recurses := true, apart := false, narrowed := true }
def SolveBackUptoSaid : Prop := solveBackUptoRow.holds Tryz.pinned (OpenSpec.upto solveBackSpec)

/-- 'dioptralaw20.LseSolves', WHERE WHAT IT READS IS OF BULK AT MOST 1048576: true; the input reads as it did. -/
def lseSolvesUptoRow : OpenClaim := { program := "ytjbokjpbiobjpaagreat", sum := "a84bab09eb22b2d7c644609906e72244d5697e1b40e5ae6f4dce5e6b3fa5d772", func := "dioptra/dioptralaw20.LseSolves", spec := "lseSolves", inPlace := ["math/bits.Sub64", "math.Float64frombits", "math.Float64bits", "math.sqrt"], unfollowed := true, recurses := true, apart := false, narrowed := true }
def LseSolvesUptoSaid : Prop := lseSolvesUptoRow.holds Tryz.pinned (OpenSpec.upto lseSolvesSpec)

/-- 'dioptralaw20.LseHolds', WHERE WHAT IT READS IS OF BULK AT MOST 1048576: true; the input reads as it did. -/
def lseHoldsUptoRow : OpenClaim := { program := "ytjbokjpbiobjpaagreat", sum := "a84bab09eb22b2d7c644609906e72244d5697e1b40e5ae6f4dce5e6b3fa5d772", func := "dioptra/dioptralaw20.LseHolds", spec := "lseHolds", inPlace := ["math/bits.Sub64"], unfollowed := true, recurses := true, apart := false, narrowed := true }
def LseHoldsUptoSaid : Prop := lseHoldsUptoRow.holds Tryz.pinned (OpenSpec.upto lseHoldsSpec)

/-- 'dioptralaw20.LseBound', WHERE WHAT IT READS IS OF BULK AT MOST 1048576: true; the input reads as it did. -/
def lseBoundUptoRow : OpenClaim := { program := "ytjbokjpbiobjpaagreat", sum := "a84bab09eb22b2d7c644609906e72244d5697e1b40e5ae6f4dce5e6b3fa5d772", func := "dioptra/dioptralaw20.LseBound", spec := "lseBound", inPlace := ["math/bits.Sub64"], unfollowed := true, recurses := true, apart := false, narrowed := true }
def LseBoundUptoSaid : Prop := lseBoundUptoRow.holds Tryz.pinned (OpenSpec.upto lseBoundSpec)

/-- 'dioptralaw20.LseExact', WHERE WHAT IT READS IS OF BULK AT MOST 1048576: true; the input reads as it did. -/
def lseExactUptoRow : OpenClaim := { program := "ytjbokjpbiobjpaagreat", sum := "a84bab09eb22b2d7c644609906e72244d5697e1b40e5ae6f4dce5e6b3fa5d772", func := "dioptra/dioptralaw20.LseExact", spec := "lseExact", inPlace := ["math/bits.Sub64"], unfollowed := true, recurses := true, apart := false, narrowed := true }
def LseExactUptoSaid : Prop := lseExactUptoRow.holds Tryz.pinned (OpenSpec.upto lseExactSpec)

/-- 'dioptralaw20.LseFree', WHERE WHAT IT READS IS OF BULK AT MOST 1048576: true; the input reads as it did. -/
def lseFreeUptoRow : OpenClaim := { program := "ytjbokjpbiobjpaagreat", sum := "a84bab09eb22b2d7c644609906e72244d5697e1b40e5ae6f4dce5e6b3fa5d772", func := "dioptra/dioptralaw20.LseFree", spec := "lseFree", inPlace := ["math/bits.Sub64", "math.Float64frombits", "math.Float64bits", "math.sqrt"], unfollowed := true, recurses := true, apart := false, narrowed := true }
def LseFreeUptoSaid : Prop := lseFreeUptoRow.holds Tryz.pinned (OpenSpec.upto lseFreeSpec)

/-- 'dioptralaw21.GglmChecks', WHERE WHAT IT READS IS OF BULK AT MOST 1048576: true; the input reads as it did. -/
def gglmChecksUptoRow : OpenClaim := { program := "ytjbokjpbiobjpaagreat", sum := "a84bab09eb22b2d7c644609906e72244d5697e1b40e5ae6f4dce5e6b3fa5d772", func := "dioptra/dioptralaw21.GglmChecks", spec := "gglmChecks", inPlace := ["math/bits.Sub64"], unfollowed := true, recurses := true, apart := false, narrowed := true }
def GglmChecksUptoSaid : Prop := gglmChecksUptoRow.holds Tryz.pinned (OpenSpec.upto gglmChecksSpec)

/-- 'dioptralaw21.GglmSolves', WHERE WHAT IT READS IS OF BULK AT MOST 1048576: true; the input reads as it did. -/
def gglmSolvesUptoRow : OpenClaim := { program := "ytjbokjpbiobjpaagreat", sum := "a84bab09eb22b2d7c644609906e72244d5697e1b40e5ae6f4dce5e6b3fa5d772", func := "dioptra/dioptralaw21.GglmSolves", spec := "gglmSolves", inPlace := ["math/bits.Sub64", "math.Float64frombits", "math.Float64bits", "math.sqrt"], unfollowed := true, recurses := true, apart := false, narrowed := true }
def GglmSolvesUptoSaid : Prop := gglmSolvesUptoRow.holds Tryz.pinned (OpenSpec.upto gglmSolvesSpec)

/-- 'dioptralaw21.GglmSquare', WHERE WHAT IT READS IS OF BULK AT MOST 1048576: true; the input reads as it did. -/
def gglmSquareUptoRow : OpenClaim := { program := "ytjbokjpbiobjpaagreat", sum := "a84bab09eb22b2d7c644609906e72244d5697e1b40e5ae6f4dce5e6b3fa5d772", func := "dioptra/dioptralaw21.GglmSquare", spec := "gglmSquare", inPlace := ["math/bits.Sub64"], unfollowed := true, recurses := true, apart := false, narrowed := true }
def GglmSquareUptoSaid : Prop := gglmSquareUptoRow.holds Tryz.pinned (OpenSpec.upto gglmSquareSpec)

/-- 'dioptralaw21.GglmPlain', WHERE WHAT IT READS IS OF BULK AT MOST 1048576: true; the input reads as it did. -/
def gglmPlainUptoRow : OpenClaim := { program := "ytjbokjpbiobjpaagreat", sum := "a84bab09eb22b2d7c644609906e72244d5697e1b40e5ae6f4dce5e6b3fa5d772", func := "dioptra/dioptralaw21.GglmPlain", spec := "gglmPlain", inPlace := ["math/bits.Sub64"], unfollowed := true, recurses := true, apart := false, narrowed := true }
def GglmPlainUptoSaid : Prop := gglmPlainUptoRow.holds Tryz.pinned (OpenSpec.upto gglmPlainSpec)

/-- 'dioptralaw21.GglmHolds', WHERE WHAT IT READS IS OF BULK AT MOST 1048576: true; the input reads as it did. -/
def gglmHoldsUptoRow : OpenClaim := { program := "ytjbokjpbiobjpaagreat", sum := "a84bab09eb22b2d7c644609906e72244d5697e1b40e5ae6f4dce5e6b3fa5d772", func := "dioptra/dioptralaw21.GglmHolds", spec := "gglmHolds", inPlace := ["math/bits.Sub64"], unfollowed := true, recurses := true, apart := false, narrowed := true }
def GglmHoldsUptoSaid : Prop := gglmHoldsUptoRow.holds Tryz.pinned (OpenSpec.upto gglmHoldsSpec)

/-- 'dioptralaw22.RidgeHelds', WHERE WHAT IT READS IS OF BULK AT MOST 1048576: true; the input reads as it did. -/
def ridgeHeldsUptoRow : OpenClaim := { program := "ytjbokjpbiobjpaagreat", sum := "a84bab09eb22b2d7c644609906e72244d5697e1b40e5ae6f4dce5e6b3fa5d772", func := "dioptra/dioptralaw22.RidgeHelds", spec := "ridgeHelds", inPlace := ["math/bits.Sub64", "math.Float64frombits", "math.Float64bits", "math.sqrt"], unfollowed := true, recurses := true, apart := false, narrowed := true }
def RidgeHeldsUptoSaid : Prop := ridgeHeldsUptoRow.holds Tryz.pinned (OpenSpec.upto ridgeHeldsSpec)

/-- 'dioptralaw22.RidgeEachs', WHERE WHAT IT READS IS OF BULK AT MOST 1048576: true; the input reads as it did. -/
def ridgeEachsUptoRow : OpenClaim := { program := "ytjbokjpbiobjpaagreat", sum := "a84bab09eb22b2d7c644609906e72244d5697e1b40e5ae6f4dce5e6b3fa5d772", func := "dioptra/dioptralaw22.RidgeEachs", spec := "ridgeEachs", inPlace := ["math/bits.Sub64", "math.Float64frombits", "math.Float64bits", "math.sqrt"], unfollowed := true, recurses := true, apart := false, narrowed := true }
def RidgeEachsUptoSaid : Prop := ridgeEachsUptoRow.holds Tryz.pinned (OpenSpec.upto ridgeEachsSpec)

/-- 'dioptralaw22.RidgeFree', WHERE WHAT IT READS IS OF BULK AT MOST 1048576: true; the input reads as it did. -/
def ridgeFreeUptoRow : OpenClaim := { program := "ytjbokjpbiobjpaagreat", sum := "a84bab09eb22b2d7c644609906e72244d5697e1b40e5ae6f4dce5e6b3fa5d772", func := "dioptra/dioptralaw22.RidgeFree", spec := "ridgeFree", inPlace := ["math/bits.Sub64", "math.Float64frombits", "math.Float64bits", "math.sqrt"], unfollowed := true, recurses := true, apart := false, narrowed := true }
def RidgeFreeUptoSaid : Prop := ridgeFreeUptoRow.holds Tryz.pinned (OpenSpec.upto ridgeFreeSpec)

/-- 'dioptralaw22.RidgeUpright', WHERE WHAT IT READS IS OF BULK AT MOST 1048576: true; the input reads as it did. -/
def ridgeUprightUptoRow : OpenClaim := { program := "ytjbokjpbiobjpaagreat", sum := "a84bab09eb22b2d7c644609906e72244d5697e1b40e5ae6f4dce5e6b3fa5d772", func := "dioptra/dioptralaw22.RidgeUpright", spec := "ridgeUpright", inPlace := ["math/bits.Sub64", "math.Float64frombits", "math.Float64bits"], unfollowed := true, recurses := true, apart := false, narrowed := true }
def RidgeUprightUptoSaid : Prop := ridgeUprightUptoRow.holds Tryz.pinned (OpenSpec.upto ridgeUprightSpec)

end Rows
end Go.Proofs.YtjbokjpbiobjpaaGreat
