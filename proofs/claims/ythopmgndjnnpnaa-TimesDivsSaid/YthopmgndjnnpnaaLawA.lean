/- LawA of the verified evaluator and its use for this seat (of my texts S1PLaw05A). -/
import Derived.Test.YthopmgndjnnpnaaLawE
import Derived.Test.YthopmgndjnnpnaaRefF

/- SumAdds, SumSubs: the program's sums are the document's. -/
namespace Go.Proofs.S1
open Go Go.Den Go.Rnd Go.Proofs
open EqLaw05

theorem law05.SumAdds.known : Known Try.prog 3 law05.SumAdds.spec := law05.SumAdds.known_of (.cons sum.Add.known (.cons ref05.Add.known (.cons law05.awake.known .nil))) fun a b hp => by
  have hp : (inU64 a && inU64 b) = true := hp
  refine ⟨0, law05.SumAdds.out [.i a, .i b], [], ?_, .bool⟩
  rw [law05.SumAdds.ev, hp]
  simp only [BEq.rfl, cond_true]
  rfl

theorem law05.SumSubs.known : Known Try.prog 4 law05.SumSubs.spec := law05.SumSubs.known_of (.cons law05.awake.known (.cons sum.Sub.known (.cons ref05.Sub.known .nil))) fun a b hp => by
  have hp : (inU64 a && inU64 b) = true := hp
  refine ⟨0, law05.SumSubs.out [.i a, .i b], [], ?_, .bool⟩
  rw [law05.SumSubs.ev, hp]
  simp only [BEq.rfl, cond_true]
  rfl

theorem law05.SumAlls.known : Known Try.prog 9 law05.SumAlls.spec := law05.SumAlls.known_of (.cons law05.awake.known (.cons sum.All.known (.cons ref05.All.known .nil))) fun l hp => by
  have hp := cdec_eq.1 hp
  refine ⟨0, law05.SumAlls.out [.l l], [], ?_, .bool⟩
  rw [law05.SumAlls.ev, ltI_eq]
  by_cases h : 60 < (l.length : Int)
  · rw [decide_eq_true h]; rfl
  · have o : okU64 l = true := cdec_eq.2 ⟨by omega, hp⟩
    rw [decide_eq_false h, o]
    simp only [BEq.rfl, cond_true, cond_false]
    rfl

end Go.Proofs.S1
