/- HAND impl_areTiles (impl.areTiles): whether all tiles are tiles, as the program asks it: slices.ContainsFunc over a function literal. -/
import Derived.Test.YtgcagmmghckbbaaX0
import Derived.Test.YtgcagmmghckbbaaF52
namespace Go.Proofs.Ytgcagmmghckbbaa.A
open Go.RowKit Go.Proofs.YtgcagmmghckbbaaW.PrintWords Go.Proofs.YtgcagmmghckbbaaW.PrintLast Go.Proofs.YtgcagmmghckbbaaW.PrintMore
attribute [local go_sem] max2_int min2_int max_two min_two max_three min_three max_four min_four
set_option linter.unusedVariables false
set_option linter.unusedSimpArgs false

/-- Is a tile none? -/
def impl_areTiles.p (t : S24) : Bool := !((impl_isTile.f t.f0 t.f1 t.f2 t.f3).getD false)
theorem impl_areTiles.tile (a b c d : Int) : ∃ r, impl_isTile.f a b c d = some r := by
  have hw : ∀ x y z, ∃ r, impl_within.f x y z = some r := fun x y z => by unfold impl_within.f; split <;> exact ⟨_, rfl⟩
  unfold impl_isTile.f
  obtain ⟨r1, h1⟩ := hw a (-9) 9
  obtain ⟨r2, h2⟩ := hw b (-9) 9
  obtain ⟨r3, h3⟩ := hw c (-9) 9
  obtain ⟨r4, h4⟩ := hw d (-9) 9
  rw [h1, h2, h3, h4]
  simp only [Option.bind_some]
  repeat' split
  all_goals exact ⟨_, rfl⟩
set_option maxHeartbeats 400000 in
set_option maxRecDepth 100000 in
theorem impl_areTiles.lit (t : S24) (w : World) :
    Calls Try.prog 81 #[.agg #[.int .i64 t.f0, .int .i64 t.f1, .int .i64 t.f2, .int .i64 t.f3]] w fun e w' => e = .returned (.bool (impl_areTiles.p t)) ∧ Below w.heap.size w w' := by
  have hu24 := Try.underlying24
  obtain ⟨r, h⟩ := impl_areTiles.tile t.f0 t.f1 t.f2 t.f3
  have hq : impl_areTiles.p t = !r := by unfold impl_areTiles.p; rw [h]; rfl
  have h := Aside0.mk h
  have hq := Aside0.mk hq
  go_enter Try.func81, Try.ntmps81
  go_wp2_with (go_at_call 52; refine (impl_isTile.calls _ _ _ _ r _ h.out).mono ?_; rintro e w' ⟨rfl, hb⟩)
  go_ret
  exact ⟨by rw [hq.out]; rfl, below_step (below_alloc (Below.refl _ _) _) hb⟩
set_option maxHeartbeats 1000000 in
set_option maxRecDepth 100000 in
theorem impl_areTiles.index (A0 : Option Addr) (c0 : Nat) (l0 : List S24) (w : World) (hr0 : Kd.C k24 w A0 l0.length l0) :
    Calls Try.prog 84 #[.slice A0 l0.length c0, .func (.func 81) #[] #[]] w fun e w' => ∃ r : Int, e = .returned (.int .i64 r) ∧ decide (0 ≤ r) = l0.any impl_areTiles.p ∧ Below w.heap.size w w' := by
  have hu24 := Try.underlying24
  have HR0 := Aside0.mk hr0
  have HL := Aside0.mk hr0.2.1
  clear hr0
  go_enter Try.func84, Try.ntmps84
  go_wp2
  go_loopg [8] (l0.length + 1) (fun kq v8 w' => ∃ x : Int, v8 = .int .i64 x ∧ Aside0 (0 ≤ x ∧ x ≤ l0.length ∧ kq + x.toNat = l0.length + 1 ∧ (l0.take x.toNat).any impl_areTiles.p = false) ∧ Aside0 (Below w.heap.size w w'))
  case atStart => exact ⟨0, rfl, ⟨by omega, by omega, by simp, by simp⟩, ⟨Below.refl _ _⟩⟩
  case round =>
    obtain ⟨x, rfl, HX, HB⟩ := hrel
    obtain ⟨h0, h1, h2, h3⟩ := HX.out
    by_cases c : x < (l0.length : Int)
    · have c0 : decide (x < (l0.length : Int)) = true := decide_eq_true c
      have c1 : (0 ≤ x) = True := eq_true h0
      have hlt : x.toNat < l0.length := by omega
      obtain ⟨ad, e, hx0, hx1, hx2, hx3⟩ := at_T24 HR0.out x h0 c
      cases e
      replace hx0 := pw_cell_below HB.out hx0
      replace hx1 := pw_cell_below HB.out hx1
      replace hx2 := pw_cell_below HB.out hx2
      replace hx3 := pw_cell_below HB.out hx3
      obtain ⟨k1, rfl⟩ : ∃ k1, gk = k1 + 1 := ⟨gk - 1, by omega⟩
      have hw : wrap64 (x + 1) = x + 1 := by have := HL.out; unfold wrap64; omega
      have HW := Aside0.mk hw
      clear hw
      have HN := Aside0.mk h3
      have HT := Aside0.mk h2
      have c2 := eq_true c
      clear h3 h2 HX c
      go_wp2_with (go_at_call 81; refine (impl_areTiles.lit (rd_T24 l0 x) _).mono ?_; rintro e w' ⟨rfl, hb⟩)
      · go_ret
        refine ⟨x, rfl, ?_, below_step HB.out hb⟩
        rw [decide_eq_true h0]
        refine (List.any_eq_true.2 ⟨l0[x.toNat], List.getElem_mem hlt, ?_⟩).symm
        have e : rd_T24 l0 x = l0[x.toNat] := by unfold rd_T24; simp [hlt]
        rw [← e]
        assumption
      · go_roundg k1
        case measure => omega
        case rel =>
          refine ⟨_, rfl, ⟨?_⟩, ⟨below_step HB.out hb⟩⟩
          rw [HW.out]
          have e : rd_T24 l0 x = l0[x.toNat] := by unfold rd_T24; simp [hlt]
          have e2 : (x + 1).toNat = x.toNat + 1 := by omega
          have hp : impl_areTiles.p (rd_T24 l0 x) = false := by assumption
          refine ⟨by omega, by omega, by have := HT.out; omega, ?_⟩
          rw [e2, List.take_succ_eq_append_getElem hlt, List.any_append, HN.out, ← e, List.any_cons, hp]
          rfl
    · have c0 : decide (x < (l0.length : Int)) = false := decide_eq_false c
      have hx := Aside0.mk (show x = (l0.length : Int) by omega)
      have HN := Aside0.mk h3
      clear h3 h2 HX c
      go_wp2
      go_ret
      refine ⟨-1, rfl, ?_, HB.out⟩
      have := HN.out
      rw [hx.out, Int.toNat_natCast, List.take_length] at this
      rw [this]
      rfl
set_option maxHeartbeats 400000 in
theorem impl_areTiles.contains (A0 : Option Addr) (c0 : Nat) (l0 : List S24) (w : World) (hr0 : Kd.C k24 w A0 l0.length l0) :
    Calls Try.prog 80 #[.slice A0 l0.length c0, .func (.func 81) #[] #[]] w fun e w' => e = .returned (.bool (l0.any impl_areTiles.p)) ∧ Below w.heap.size w w' := by
  have HR0 := Aside0.mk hr0
  clear hr0
  go_enter Try.func80, Try.ntmps80
  go_wp2_with (go_at_call 84; refine (impl_areTiles.index _ _ l0 _ HR0.out).mono ?_; rintro e w' ⟨r, rfl, hr, hb⟩; have HR := Aside0.mk hr; clear hr)
  go_ret
  exact ⟨by rw [← HR.out]; rfl, hb⟩
def impl_areTiles.f (k : Nat) (l0 : List S24) : Option Bool := some (!(l0.any impl_areTiles.p))
set_option maxHeartbeats 400000 in
theorem impl_areTiles.calls (k : Nat) (A0 : Option Addr) (c0 : Nat) (l0 : List (S24)) (r : Bool) (w : World) (hr0 : Kd.C k24 w A0 l0.length l0) (hc0 : l0.length ≤ c0) (h : impl_areTiles.f k l0 = some r) :
    Calls Try.prog 75 #[.slice A0 l0.length c0] w fun e w' => e = .returned (.bool r) ∧ Below w.heap.size w w' := by
  have HR0 := Aside0.mk hr0
  clear hr0
  obtain rfl := Option.some.inj h
  clear h
  go_enter Try.func75, Try.ntmps75
  go_wp2_with (go_at_call 80; refine (impl_areTiles.contains _ _ l0 _ HR0.out).mono ?_; rintro e w' ⟨rfl, hb⟩)
  go_ret
  exact ⟨rfl, hb⟩
end Go.Proofs.Ytgcagmmghckbbaa.A
