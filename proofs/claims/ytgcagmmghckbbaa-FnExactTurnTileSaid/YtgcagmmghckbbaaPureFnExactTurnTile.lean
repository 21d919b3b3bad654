/- TurnTile: the program's turning by steps is the reference's turning by places. -/
import Derived.Test.YtgcagmmghckbbaaStmFnExactTurnTile
import Derived.Test.YtgcagmmghckbbaaPlA
namespace Go.Proofs.Ytgcagmmghckbbaa.Pure
open Go.RowKit Go.Proofs.YtgcagmmghckbbaaW.PrintWords Go.Proofs.YtgcagmmghckbbaaW.PrintLast Go.Proofs.YtgcagmmghckbbaaW.PrintMore Go.Proofs.Ytgcagmmghckbbaa.A
theorem FnExactTurnTile : Go.Proofs.Ytgcagmmghckbbaa.A.FnExactTurnTile.Pure := by
  intro t n ht hn
  apply Ev.rounds
  unfold laws_FnExactTurnTile.f laws_toTile.f
  refine Ev.bindc rfl (Ev.bind (specTurnTile_ev ⟨t.f0, t.f1, t.f2, t.f3⟩ n) (Ev.bindc rfl (Ev.bind (implTurnTile_ev ⟨t.f0, t.f1, t.f2, t.f3⟩ n) ?_)))
  refine Ev.bindc (by unfold laws_eqTile.f; simp; rfl) ?_
  exact Ev.val (fun k => by simp)
end Go.Proofs.Ytgcagmmghckbbaa.Pure
