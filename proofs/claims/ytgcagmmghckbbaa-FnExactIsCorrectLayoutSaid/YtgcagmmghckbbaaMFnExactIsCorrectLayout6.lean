/- What the row of the law FnExactIsCorrectLayout stands on, part 6. -/
import Derived.Test.YtgcagmmghckbbaaMFnExactIsCorrectLayout5
/- Plain laws of what the laws do with lists of sets. -/
namespace Go.Proofs.Ytgcagmmghckbbaa.A
set_option linter.unusedSimpArgs false
set_option linter.unusedVariables false
open Go.RowKit Go.Proofs.YtgcagmmghckbbaaW.PrintWords Go.Proofs.YtgcagmmghckbbaaW.PrintLast Go.Proofs.YtgcagmmghckbbaaW.PrintMore
def toSt (x : S78) : St := ⟨x.f0, x.f1⟩
theorem toSetS_ev (l : List S78) (h : l.length ≤ 1048576) : Ev (fun k => laws_toSetS.f k l) (l.map toSt) := by
  unfold laws_toSetS.f
  simp only [Int.toNat_natCast, show (0 : Int) ≤ l.length from by omega, show l.length ≤ 17592186044416 from by omega, if_true]
  refine ev_at l.length (fun s j => s = (l.take j).map toSt ++ List.replicate (l.length - j) z74) (l.map toSt) (fun s i k => laws_toSetS.l0 k l s i) (fun s hi => ?_) (fun s j hj hi => ?_) _ (by simp)
  · refine Ev.step (f := fun _ => some s) (fun k => by simp only [laws_toSetS.l0]; rw [if_neg (by omega)]) ?_
    rw [hi]
    simpa using Ev.now _
  · have hl : s.length = l.length := by rw [hi]; simp; omega
    refine ⟨s.set j (toSt l[j]), by rw [hi]; exact set_fill toSt _ l j hj, fun h2 => Ev.step (fun k => ?_) h2⟩
    simp only [laws_toSetS.l0, laws_toSet.f, Option.bind_some]
    rw [if_pos (by omega), if_pos (by omega), if_pos (by omega), wrap_succ j (by omega)]
    simp only [rd_T78, getD_at l _ j hj, Int.toNat_natCast]
    rfl
theorem szSetS_in (l : List S78) (c : Int) (h0 : 0 ≤ c) (h1 : c ≤ 1048576) (h : l.length ≤ c) : laws_szSetS.f l c = some (c - (l.length : Int)) := by
  unfold laws_szSetS.f
  rw [show wrap64 (c - (l.length : Int)) = c - (l.length : Int) from by unfold wrap64; omega, if_neg (by omega)]
theorem szSetS_out (l : List S78) (c : Int) (h0 : 0 ≤ c) (h1 : c ≤ 1048576) (hm : l.length ≤ maxLen) (h : ¬ l.length ≤ c) : laws_szSetS.f l c = some (-1) := by
  unfold maxLen at hm
  unfold laws_szSetS.f
  rw [if_pos (by unfold wrap64; omega)]
theorem eqSetS_ev (l : List St) (h : l.length ≤ 1048576) : Ev (fun k => laws_eqSetS.f k l l) true := by
  unfold laws_eqSetS.f
  simp only [if_true]
  refine ev_at l.length (fun (_ : Unit) _ => True) true (fun _ i k => laws_eqSetS.l0 k l l i) (fun s hi => ?_) (fun s j hj hi => ?_) () trivial
  · exact Ev.step (f := fun _ => some true) (fun k => by simp only [laws_eqSetS.l0]; rw [if_neg (by omega)]) (Ev.now _)
  · refine ⟨(), trivial, fun h2 => Ev.step (fun k => ?_) h2⟩
    simp only [laws_eqSetS.l0, laws_eqSet.f, if_true, Option.bind_some]
    rw [if_pos (by omega), if_pos (by omega), if_pos (by omega), wrap_succ j (by omega)]
end Go.Proofs.Ytgcagmmghckbbaa.A

/- IsCorrectLayout: the program asks of a layout what the reference asks. -/
namespace Go.Proofs.Ytgcagmmghckbbaa.Pure
open Go.RowKit Go.Proofs.YtgcagmmghckbbaaW.PrintWords Go.Proofs.YtgcagmmghckbbaaW.PrintLast Go.Proofs.YtgcagmmghckbbaaW.PrintMore Go.Proofs.Ytgcagmmghckbbaa.A
theorem FnExactIsCorrectLayout : Go.Proofs.Ytgcagmmghckbbaa.A.FnExactIsCorrectLayout.Pure := by
  intro l w h s hl hw hh hs
  apply Ev.rounds
  unfold laws_FnExactIsCorrectLayout.f
  by_cases c : l.length ≤ 1048576
  · refine Ev.bindc (szTileS_in l c) ?_
    simp only [show ¬ ((1048576 - (l.length : Int)) < 0) from by omega, if_false]
    by_cases d : s.length ≤ 1048576 - (l.length : Int)
    · refine Ev.bindc (szSetS_in s _ (by omega) (by omega) d) ?_
      simp only [show ¬ ((1048576 - (l.length : Int) - (s.length : Int)) < 0) from by omega, if_false]
      have hc : (l.map toTl).length ≤ 1048576 := by simpa using c
      have hd : s.length ≤ 1048576 := by omega
      have hd' : (s.map toSt).length ≤ 1048576 := by simpa using hd
      refine Ev.bind (toTileS_ev l c) (Ev.bind (toSetS_ev s hd) (Ev.bind (specIsCorrect_ev _ w h _ hc hd') (Ev.bind (toTileS_ev l c) (Ev.bind (toSetS_ev s hd) (Ev.bind (implIsCorrect_ev _ w h _ hd') ?_)))))
      simp only [bne_self_eq_false, Bool.false_eq_true, if_false]
      refine Ev.bind (toTileS_ev l c) (Ev.bind (eqTileS_ev _ hc) ?_)
      simp only [if_true]
      exact Ev.bind (toSetS_ev s hd) (Ev.bind (eqSetS_ev _ hd') (Ev.val fun k => by simp))
    · exact Ev.bindc (szSetS_out s _ (by omega) (by omega) hs.1 d) (Ev.val fun k => by simp)
  · exact Ev.bindc (szTileS_out l hl.1 c) (Ev.val fun k => by simp)
end Go.Proofs.Ytgcagmmghckbbaa.Pure

