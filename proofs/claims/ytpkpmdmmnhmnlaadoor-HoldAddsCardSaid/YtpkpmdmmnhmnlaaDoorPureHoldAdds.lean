/- The pure statement of the law HoldAdds, proved. No conditions. -/
import Derived.Test.YtpkpmdmmnhmnlaaDoorLHoldAddsNet
namespace Go.Proofs.YtpkpmdmmnhmnlaaDoor.Pure
open Go.RowKit Go.Proofs.YtpkpmdmmnhmnlaaDoorW.PrintWords Go.Proofs.YtpkpmdmmnhmnlaaDoor.Opn Go.Proofs.YtpkpmdmmnhmnlaaDoor.PT Go.Proofs.YtpkpmdmmnhmnlaaDoor.SHoldAdds Go.Proofs.YtpkpmdmmnhmnlaaDoor.Aid Go.Proofs.YtpkpmdmmnhmnlaaDoor.LHoldAdds
set_option linter.unusedVariables false

theorem HoldAdds : SHoldAdds.Pure := by
  intro i o f g s lb a2 a3 a4 g0 g1 g2 g3 g4 g5 _ _ _
  have b2 := g2.1
  have b3 := g3.1
  have b4 := g4.1
  obtain ⟨e, h1, h2, q⟩ := chips_same i o f g s lb (by omega) (by omega) (by omega)
  refine Ev.rounds (g := fun k => masklaw4_HoldAdds.f k i o f g s lb a2 a3 a4) ?_
  unfold masklaw4_HoldAdds.f
  refine Ev.bind h1 ?_
  refine Ev.bind h2 ?_
  refine Ev.pos ⟨rfl, fun h => ?_⟩ (Ev.now _)
  obtain ⟨_, n, c, _⟩ := q h
  obtain ⟨n0, n1, n2, n3, n4⟩ := n
  refine ⟨c.2.2, ?_⟩
  unfold okV
  simp only [Bool.and_eq_true, decide_eq_true_eq, List.all_eq_true]
  refine ⟨⟨⟨⟨⟨by omega, by omega⟩, by omega⟩, by omega⟩, by omega⟩, fun x hx => ?_⟩
  have := (g3.2.2 x hx).2.2.1
  omega
end Go.Proofs.YtpkpmdmmnhmnlaaDoor.Pure
