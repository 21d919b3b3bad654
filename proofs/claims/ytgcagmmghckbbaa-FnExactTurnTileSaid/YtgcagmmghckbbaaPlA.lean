/- Plain laws of the jigsaw's small functions: ranges, tiles, turns. No memory in sight. -/
import Derived.Test.YtgcagmmghckbbaaF49
import Derived.Test.YtgcagmmghckbbaaF13
import Derived.Test.YtgcagmmghckbbaaF15
import Derived.Test.YtgcagmmghckbbaaF75
import Derived.Test.YtgcagmmghckbbaaEv
namespace Go.Proofs.Ytgcagmmghckbbaa.A
open Go.RowKit Go.Proofs.YtgcagmmghckbbaaW.PrintWords Go.Proofs.YtgcagmmghckbbaaW.PrintLast Go.Proofs.YtgcagmmghckbbaaW.PrintMore

abbrev Tl := S24
def inB (x lo hi : Int) : Bool := decide (lo ≤ x) && decide (x ≤ hi)
theorem l01In_eq (a b c : Int) : spec_l01In.f a b c = some (inB a b c) := by
  unfold spec_l01In.f inB
  by_cases h : a ≥ b
  · rw [if_pos h]; simp; omega
  · rw [if_neg h]; simp; omega
theorem within_eq (a b c : Int) : impl_within.f a b c = some (inB a b c) := by
  unfold impl_within.f inB
  by_cases h : a ≥ b
  · rw [if_pos h]; simp; omega
  · rw [if_neg h]; simp; omega
def okE (x : Int) : Bool := inB x (-9) 9
def okT (t : Tl) : Bool := okE t.f0 && (okE t.f1 && (okE t.f2 && okE t.f3))
theorem isTile_eq (t : Tl) : impl_isTile.f t.f0 t.f1 t.f2 t.f3 = some (okT t) := by
  unfold impl_isTile.f okT okE
  simp only [within_eq, Option.bind_some]
  cases inB t.f0 (-9) 9 <;> cases inB t.f1 (-9) 9 <;> cases inB t.f2 (-9) 9 <;> simp
theorem notTile_eq : impl_areTiles.p = fun t => !okT t := by
  funext t
  unfold impl_areTiles.p
  rw [isTile_eq]
  rfl
theorem areTiles_eq (k : Nat) (l : List Tl) : impl_areTiles.f k l = some (l.all okT) := by
  unfold impl_areTiles.f
  rw [notTile_eq]
  simp [List.all_eq_not_any_not]
theorem l30Codes_eq (a b c d : Int) : spec_l30Codes.f a b c d = some [a, b, c, d] := rfl
theorem l30Valid_round (k : Nat) (x0 : List Tl) (x3 a b c d : Int) :
    spec_l30Valid.l1 (k + 5) x0 x3 [a, b, c, d] 0 = if okE a && (okE b && (okE c && okE d)) then spec_l30Valid.l0 k x0 (wrap64 (x3 + 1)) else some false := by
  simp only [spec_l30Valid.l1, l01In_eq, Option.bind_some, rd]
  cases ha : okE a <;> cases hb : okE b <;> cases hc : okE c <;> cases hd : okE d <;> simp_all [okE, wrap64]
theorem l30Valid_ev (xs : List Tl) (h : xs.length ≤ maxLen) : Ev (fun k => spec_l30Valid.f k xs) (xs.all okT) := by
  unfold spec_l30Valid.f
  unfold maxLen at h
  refine ev_list0 xs (fun (_ : Unit) i k => spec_l30Valid.l0 k xs i) (fun _ l => l.all okT) (fun _ => ?_) (fun _ j hj ih => ?_) ()
  · exact Ev.step (f := fun _ => some true) (fun k => by simp only [spec_l30Valid.l0]; rw [if_neg (by omega)]) (Ev.now _)
  · refine Ev.step (f := fun k => spec_l30Valid.l1 k xs j [xs[j].f0, xs[j].f1, xs[j].f2, xs[j].f3] 0) (fun k => by
      simp only [spec_l30Valid.l0]
      rw [if_pos (by omega), if_pos (by omega)]
      simp only [l30Codes_eq, Option.bind_some, rd_T24, getD_nat xs _ j hj]) ?_
    obtain ⟨K, hK⟩ := ih ()
    refine ⟨K + 5, fun k hk => ?_⟩
    obtain ⟨m, rfl⟩ : ∃ m, k = m + 5 := ⟨k - 5, by omega⟩
    show spec_l30Valid.l1 (m + 5) _ _ _ _ = _
    rw [l30Valid_round, wrap_succ j (by omega), List.all_cons]
    show (if okT xs[j] = true then _ else _) = _
    cases okT xs[j]
    · rfl
    · simp only [if_true, Bool.true_and]
      exact hK m (by omega)
def turnT (t : Tl) (n : Int) : Tl := if n = 0 then t else if n = 1 then ⟨t.f3, t.f0, t.f1, t.f2⟩ else if n = 2 then ⟨t.f2, t.f3, t.f0, t.f1⟩ else ⟨t.f1, t.f2, t.f3, t.f0⟩
def tup (t : Tl) : Int × Int × Int × Int := (t.f0, t.f1, t.f2, t.f3)
theorem l30Turn_eq (t : Tl) (n : Int) (h0 : 0 ≤ n) (h1 : n ≤ 3) : spec_l30Turn.f t.f0 t.f1 t.f2 t.f3 n = some (tup (turnT t n)) := by
  unfold spec_l30Turn.f
  rw [l30Codes_eq, Option.bind_some]
  have : n = 0 ∨ n = 1 ∨ n = 2 ∨ n = 3 := by omega
  rcases this with rfl | rfl | rfl | rfl <;> simp [wrap64, rd, turnT, tup]
theorem turnTile_at (t : Tl) (n : Int) (h0 : 0 ≤ n) (h1 : n ≤ 3) (k : Nat) : impl_turnTile.f (k + 4) t.f0 t.f1 t.f2 t.f3 n = some (tup (turnT t n)) := by
  unfold impl_turnTile.f
  have : n = 0 ∨ n = 1 ∨ n = 2 ∨ n = 3 := by omega
  rcases this with rfl | rfl | rfl | rfl <;> simp [impl_turnTile.l0, wrap64, turnT, tup]
theorem turnTile_ev (t : Tl) (n : Int) (h0 : 0 ≤ n) (h1 : n ≤ 3) : Ev (fun k => impl_turnTile.f k t.f0 t.f1 t.f2 t.f3 n) (tup (turnT t n)) :=
  ⟨4, fun k hk => by
    obtain ⟨m, rfl⟩ : ∃ m, k = m + 4 := ⟨k - 4, by omega⟩
    exact turnTile_at t n h0 h1 m⟩
def tileOut (t : Tl) (n : Int) : Int × Int × Int × Int × Int :=
  if okT t then if inB n 0 3 then ((turnT t n).f0, (turnT t n).f1, (turnT t n).f2, (turnT t n).f3, 0) else (0, 0, 0, 0, 2) else (0, 0, 0, 0, 1)
theorem inB_iff (x a b : Int) : inB x a b = true ↔ a ≤ x ∧ x ≤ b := by unfold inB; simp
theorem specTurnTile_ev (t : Tl) (n : Int) : Ev (fun k => spec_TurnTile.f k t.f0 t.f1 t.f2 t.f3 n) (tileOut t n) := by
  unfold spec_TurnTile.f tileOut
  refine Ev.bind (l30Valid_ev [t] (by simp [maxLen])) ?_
  cases ho : okT t
  · simp only [List.all_cons, ho]; exact Ev.now _
  · simp only [List.all_cons, ho, List.all_nil, Bool.and_self, if_true]
    refine Ev.bindc (l01In_eq n 0 3) ?_
    cases hb : inB n 0 3
    · exact Ev.now _
    · simp only [if_true]
      obtain ⟨h0, h1⟩ := (inB_iff _ _ _).1 hb
      exact Ev.bindc (l30Turn_eq t n h0 h1) (Ev.now _)
theorem implTurnTile_ev (t : Tl) (n : Int) : Ev (fun k => impl_TurnTile.f k t.f0 t.f1 t.f2 t.f3 n) (tileOut t n) := by
  unfold impl_TurnTile.f tileOut
  refine Ev.bindc (isTile_eq t) ?_
  cases ho : okT t
  · exact Ev.now _
  · simp only [if_true]
    refine Ev.bindc (within_eq n 0 3) ?_
    cases hb : inB n 0 3
    · exact Ev.now _
    · simp only [if_true]
      obtain ⟨h0, h1⟩ := (inB_iff _ _ _).1 hb
      exact Ev.bind (turnTile_ev t n h0 h1) (Ev.now _)
end Go.Proofs.Ytgcagmmghckbbaa.A
