/- LawP of the verified evaluator and its use for this seat (of my texts S1PLaw06D). -/
import Derived.Test.YthopmgndjnnpnaaLawN
import Derived.Test.YthopmgndjnnpnaaRef7

/- TimesDivs: the program's quotients are the document's. -/
namespace Go.Proofs.S1
open Go Go.Den Go.Rnd Go.Proofs
open EqLaw06M

theorem law06.TimesDivs.known : Known Try.prog 10 law06.TimesDivs.spec := law06.TimesDivs.known_of (.cons times.Div.known (.cons ref06.Div.known (.cons law06.awake.known .nil))) fun a b hp => by
  have hp : (inU64 a && inU64 b) = true := hp
  refine ⟨0, law06.TimesDivs.out [.i a, .i b], [], ?_, .bool⟩
  rw [law06.TimesDivs.ev, hp]
  simp only [BEq.rfl, cond_true]
  rfl

end Go.Proofs.S1
