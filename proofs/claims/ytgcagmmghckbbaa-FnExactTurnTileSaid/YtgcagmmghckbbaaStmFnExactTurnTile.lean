/- The plain statement of the law FnExactTurnTile, over numbers and lists alone, and how its arguments are opened. -/
import Derived.Test.YtgcagmmghckbbaaF3
import Derived.Test.YtgcagmmghckbbaaOpn
import Derived.ProofKit
namespace Go.Proofs.Ytgcagmmghckbbaa.A
open Go.RowKit Go.Proofs.YtgcagmmghckbbaaW.PrintWords Go.Proofs.YtgcagmmghckbbaaW.PrintLast Go.Proofs.YtgcagmmghckbbaaW.PrintMore
def ok23 (x : S23) : Prop := (Go.Proofs.Ytgcagmmghckbbaa.Opn.okTwo (Go.Proofs.Ytgcagmmghckbbaa.Opn.okInt .i64) (Go.Proofs.Ytgcagmmghckbbaa.Opn.okTwo (Go.Proofs.Ytgcagmmghckbbaa.Opn.okInt .i64) (Go.Proofs.Ytgcagmmghckbbaa.Opn.okTwo (Go.Proofs.Ytgcagmmghckbbaa.Opn.okInt .i64) (Go.Proofs.Ytgcagmmghckbbaa.Opn.okInt .i64)))) (x.f0, x.f1, x.f2, x.f3)
theorem op2 : Go.Proofs.Ytgcagmmghckbbaa.Opn.Op Try.prog 2 (Kd.int .i64) (Go.Proofs.Ytgcagmmghckbbaa.Opn.okInt .i64) := Go.Proofs.Ytgcagmmghckbbaa.Opn.Op.int Try.underlying2
theorem op23 : Go.Proofs.Ytgcagmmghckbbaa.Opn.Op Try.prog 23 k23 ok23 := Go.Proofs.Ytgcagmmghckbbaa.Opn.Op.iso (Go.Proofs.Ytgcagmmghckbbaa.Opn.Op.struct Try.underlying23 (by kernel_rfl) (Go.Proofs.Ytgcagmmghckbbaa.Opn.OpF.cons rfl (by kernel_rfl) op2 (Go.Proofs.Ytgcagmmghckbbaa.Opn.OpF.cons rfl (by kernel_rfl) op2 (Go.Proofs.Ytgcagmmghckbbaa.Opn.OpF.cons rfl (by kernel_rfl) op2 (Go.Proofs.Ytgcagmmghckbbaa.Opn.OpF.one rfl (by kernel_rfl) op2))))) (fun x : S23 => (x.f0, x.f1, x.f2, x.f3)) (fun p => ⟨p.1, p.2.1, p.2.2.1, p.2.2.2⟩) (fun _ => rfl)
def FnExactTurnTile.Pure : Prop := ∀ (a0 : S23) (a1 : Int), ok23 a0 → (Go.Proofs.Ytgcagmmghckbbaa.Opn.okInt .i64) a1 → ∃ k, laws_FnExactTurnTile.f k (a0.f0) (a0.f1) (a0.f2) (a0.f3) a1 = some true
end Go.Proofs.Ytgcagmmghckbbaa.A
