/- What the row of the law FnExactTurnLayout stands on, part 2. -/
import Derived.Test.YtgcagmmghckbbaaMFnExactTurnLayout1
namespace Go.Proofs.Ytgcagmmghckbbaa.A
open Go.RowKit Go.Proofs.YtgcagmmghckbbaaW.PrintWords Go.Proofs.YtgcagmmghckbbaaW.PrintLast Go.Proofs.YtgcagmmghckbbaaW.PrintMore
attribute [local go_sem] max2_int min2_int max_two min_two max_three min_three max_four min_four   -- for this text's walks alone
set_option linter.unusedVariables false
set_option linter.unusedSimpArgs false

def spec_l30Fits.j0 : Nat → List (S24) → Int → Int → Int → Int → Bool → Int → Int → Int → Int → Option (Bool)
  | 0, _, _, _, _, _, _, _, _, _, _ => none
  | k + 1, x0, x2, x9, x10, x11, x37, x423000, x423001, x423002, x423003 => if x37 = true then (some false) else (if x10 = 0 then (if x423003 = 0 then (if x10 > 0 then (if 0 ≤ (wrap64 (x9 - 1)) then (if (wrap64 (x9 - 1)) < (x0.length : Int) then ((spec_l30Match.f x423003 ((rd_T24 x0 (wrap64 (x9 - 1))).f1)).bind fun t424 => (if t424 = true then (if x11 = 0 then (if x423000 = 0 then (some true) else (if x11 > 0 then (if 0 ≤ (wrap64 (x9 - x2)) then (if (wrap64 (x9 - x2)) < (x0.length : Int) then ((spec_l30Match.f x423000 ((rd_T24 x0 (wrap64 (x9 - x2))).f2)).bind fun t426 => (some t426)) else (none)) else (none)) else (some false))) else (if x11 > 0 then (if 0 ≤ (wrap64 (x9 - x2)) then (if (wrap64 (x9 - x2)) < (x0.length : Int) then ((spec_l30Match.f x423000 ((rd_T24 x0 (wrap64 (x9 - x2))).f2)).bind fun t428 => (some t428)) else (none)) else (none)) else (some false))) else (some false))) else (none)) else (none)) else (if x11 = 0 then (if x423000 = 0 then (some true) else (if x11 > 0 then (if 0 ≤ (wrap64 (x9 - x2)) then (if (wrap64 (x9 - x2)) < (x0.length : Int) then ((spec_l30Match.f x423000 ((rd_T24 x0 (wrap64 (x9 - x2))).f2)).bind fun t430 => (some t430)) else (none)) else (none)) else (some false))) else (if x11 > 0 then (if 0 ≤ (wrap64 (x9 - x2)) then (if (wrap64 (x9 - x2)) < (x0.length : Int) then ((spec_l30Match.f x423000 ((rd_T24 x0 (wrap64 (x9 - x2))).f2)).bind fun t432 => (some t432)) else (none)) else (none)) else (some false)))) else (some false)) else (if x10 > 0 then (if 0 ≤ (wrap64 (x9 - 1)) then (if (wrap64 (x9 - 1)) < (x0.length : Int) then ((spec_l30Match.f x423003 ((rd_T24 x0 (wrap64 (x9 - 1))).f1)).bind fun t434 => (if t434 = true then (if x11 = 0 then (if x423000 = 0 then (some true) else (if x11 > 0 then (if 0 ≤ (wrap64 (x9 - x2)) then (if (wrap64 (x9 - x2)) < (x0.length : Int) then ((spec_l30Match.f x423000 ((rd_T24 x0 (wrap64 (x9 - x2))).f2)).bind fun t436 => (some t436)) else (none)) else (none)) else (some false))) else (if x11 > 0 then (if 0 ≤ (wrap64 (x9 - x2)) then (if (wrap64 (x9 - x2)) < (x0.length : Int) then ((spec_l30Match.f x423000 ((rd_T24 x0 (wrap64 (x9 - x2))).f2)).bind fun t438 => (some t438)) else (none)) else (none)) else (some false))) else (some false))) else (none)) else (none)) else (if x11 = 0 then (if x423000 = 0 then (some true) else (if x11 > 0 then (if 0 ≤ (wrap64 (x9 - x2)) then (if (wrap64 (x9 - x2)) < (x0.length : Int) then ((spec_l30Match.f x423000 ((rd_T24 x0 (wrap64 (x9 - x2))).f2)).bind fun t440 => (some t440)) else (none)) else (none)) else (some false))) else (if x11 > 0 then (if 0 ≤ (wrap64 (x9 - x2)) then (if (wrap64 (x9 - x2)) < (x0.length : Int) then ((spec_l30Match.f x423000 ((rd_T24 x0 (wrap64 (x9 - x2))).f2)).bind fun t442 => (some t442)) else (none)) else (none)) else (some false)))))
def spec_l30Fits.f (k : Nat) (l0 : List (S24)) (a1_0 : Int) (a1_1 : Int) (a1_2 : Int) (a1_3 : Int) (a2 : Int) (a3 : Int) : Option (Bool) := if a2 = 0 then (none) else (if ((a1_1 == 0) != (((l0.length : Int) % a2) == (wrap64 (a2 - 1)))) = true then (spec_l30Fits.j0 k l0 a2 (l0.length : Int) ((l0.length : Int) % a2) (wrap64 ((l0.length : Int) / a2)) true a1_0 a1_1 a1_2 a1_3) else (spec_l30Fits.j0 k l0 a2 (l0.length : Int) ((l0.length : Int) % a2) (wrap64 ((l0.length : Int) / a2)) ((a1_2 == 0) != ((wrap64 ((l0.length : Int) / a2)) == (wrap64 (a3 - 1)))) a1_0 a1_1 a1_2 a1_3))
set_option maxHeartbeats 8000000 in
set_option maxRecDepth 100000 in
theorem spec_l30Fits.calls (k : Nat) (A0 : Option Addr) (c0 : Nat) (l0 : List (S24)) (a1_0 : Int) (a1_1 : Int) (a1_2 : Int) (a1_3 : Int) (a2 : Int) (a3 : Int) (r : Bool) (w : World) (hr0 : Kd.C k24 w A0 l0.length l0) (hc0 : l0.length ≤ c0) (h : spec_l30Fits.f k l0 a1_0 a1_1 a1_2 a1_3 a2 a3 = some r) :
    Calls Try.prog 61 #[.slice A0 l0.length c0, .agg #[.int .i64 a1_0, .int .i64 a1_1, .int .i64 a1_2, .int .i64 a1_3], .int .i64 a2, .int .i64 a3] w fun e w' => e = .returned (.bool r) ∧ Below w.heap.size w w' := by
  have hu24 := Try.underlying24
  have HR0 := Aside0.mk hr0
  have HC0 := Aside0.mk hc0
  clear hr0 hc0
  have HB := Aside0.mk (Below.refl w.heap.size w)
  have H : (if a2 = 0 then (none) else (if ((a1_1 == 0) != (((l0.length : Int) % a2) == (wrap64 (a2 - 1)))) = true then (spec_l30Fits.j0 k l0 a2 (l0.length : Int) ((l0.length : Int) % a2) (wrap64 ((l0.length : Int) / a2)) true a1_0 a1_1 a1_2 a1_3) else (spec_l30Fits.j0 k l0 a2 (l0.length : Int) ((l0.length : Int) % a2) (wrap64 ((l0.length : Int) / a2)) ((a1_2 == 0) != ((wrap64 ((l0.length : Int) / a2)) == (wrap64 (a3 - 1)))) a1_0 a1_1 a1_2 a1_3))) = some r := h
  clear h
  by_cases c5 : a2 = 0
  · rw [if_pos c5] at H
    exact absurd H (by simp)
  · rw [if_neg c5] at H
    have c5b0 : (a2 == 0) = false := beq_eq_false_iff_ne.mpr c5
    have c5b1 : (a2 != 0) = true := bne_iff_ne.mpr c5
    have HC6 := Aside0.mk H
    clear H
    go_enter Try.func61, Try.ntmps61
    go_upto_region 3 with (first | ((with_reducible refine gate_dst (N := 5) rfl ?_); refine box_event ?hg (N := 5) ?hd (cs := #[.int .i64 a1_0, .int .i64 a1_1, .int .i64 a1_2, .int .i64 a1_3]) (t := 24) ?hr ?_; (case hd => rfl); (case hg => rfl); (case hr => first | (go_simp; done) | (go_simp; rfl)); intro gb422 hg w7 hbox hb; have n0_ := Aside0.mk (below_step (by repeat (first | (with_reducible first | exact HB.out | apply below_alloc | apply pw_below_drewN | apply below_drew1) | exact HB.out)) hb); have n1_ := Aside0.mk (hbox); have n2_ := Aside0.mk ((by rw [hg]; exact (below_size (by repeat (first | (with_reducible first | exact HB.out | apply below_alloc | apply pw_below_drewN | apply below_drew1) | exact HB.out))) : w.heap.size ≤ gb422)); have n3_ := Aside0.mk ((by rw [hg]; exact (below_size (by repeat (first | (with_reducible first | exact HB.out | apply below_alloc | apply pw_below_drewN | apply below_drew1) | exact HB.out))) : w.heap.size ≤ gb422)); clear HB; have HB := n0_; have BK422 := n1_; have GW422 := n2_; have GE422 := n3_; clear n0_ n1_ n2_ n3_; clear hb hbox hg))
    repeat (go_quiet (first | ((with_reducible refine gate_dst (N := 5) rfl ?_); refine box_event ?hg (N := 5) ?hd (cs := #[.int .i64 a1_0, .int .i64 a1_1, .int .i64 a1_2, .int .i64 a1_3]) (t := 24) ?hr ?_; (case hd => rfl); (case hg => rfl); (case hr => first | (go_simp; done) | (go_simp; rfl)); intro gb422 hg w7 hbox hb; have n0_ := Aside0.mk (below_step (by repeat (first | (with_reducible first | exact HB.out | apply below_alloc | apply pw_below_drewN | apply below_drew1) | exact HB.out)) hb); have n1_ := Aside0.mk (hbox); have n2_ := Aside0.mk ((by rw [hg]; exact (below_size (by repeat (first | (with_reducible first | exact HB.out | apply below_alloc | apply pw_below_drewN | apply below_drew1) | exact HB.out))) : w.heap.size ≤ gb422)); have n3_ := Aside0.mk ((by rw [hg]; exact (below_size (by repeat (first | (with_reducible first | exact HB.out | apply below_alloc | apply pw_below_drewN | apply below_drew1) | exact HB.out))) : w.heap.size ≤ gb422)); clear HB; have HB := n0_; have BK422 := n1_; have GW422 := n2_; have GE422 := n3_; clear n0_ n1_ n2_ n3_; clear hb hbox hg)); go_upto_region 3 with (first | ((with_reducible refine gate_dst (N := 5) rfl ?_); refine box_event ?hg (N := 5) ?hd (cs := #[.int .i64 a1_0, .int .i64 a1_1, .int .i64 a1_2, .int .i64 a1_3]) (t := 24) ?hr ?_; (case hd => rfl); (case hg => rfl); (case hr => first | (go_simp; done) | (go_simp; rfl)); intro gb422 hg w7 hbox hb; have n0_ := Aside0.mk (below_step (by repeat (first | (with_reducible first | exact HB.out | apply below_alloc | apply pw_below_drewN | apply below_drew1) | exact HB.out)) hb); have n1_ := Aside0.mk (hbox); have n2_ := Aside0.mk ((by rw [hg]; exact (below_size (by repeat (first | (with_reducible first | exact HB.out | apply below_alloc | apply pw_below_drewN | apply below_drew1) | exact HB.out))) : w.heap.size ≤ gb422)); have n3_ := Aside0.mk ((by rw [hg]; exact (below_size (by repeat (first | (with_reducible first | exact HB.out | apply below_alloc | apply pw_below_drewN | apply below_drew1) | exact HB.out))) : w.heap.size ≤ gb422)); clear HB; have HB := n0_; have BK422 := n1_; have GW422 := n2_; have GE422 := n3_; clear n0_ n1_ n2_ n3_; clear hb hbox hg)))
    (try simp only [Act.put, List.setIfInBounds_toArray, List.set_cons_zero, List.set_cons_succ])
    go_cut [37] (fun v37 wc => ∃ (kq : Nat) (x37_5 : Bool), v37 = .bool x37_5 ∧ Aside0 (spec_l30Fits.j0 kq l0 a2 (l0.length : Int) ((l0.length : Int) % a2) (wrap64 ((l0.length : Int) / a2)) x37_5 a1_0 a1_1 a1_2 a1_3 = some r) ∧ Aside0 (kq ≤ k) ∧ Aside0 (wc.heap[gb422]? = some (.cells #[.int .i64 a1_0, .int .i64 a1_1, .int .i64 a1_2, .int .i64 a1_3] 24 (0, 0))) ∧ Aside0 (Below w.heap.size w wc))
    case first =>
      have H := HC6.out
      clear HC6
      by_cases c8 : ((a1_1 == 0) != (((l0.length : Int) % a2) == (wrap64 (a2 - 1)))) = true
      · rw [if_pos c8] at H
        have c8b0 : ((a1_1 == 0) != (((l0.length : Int) % a2) == (wrap64 (a2 - 1)))) = true := c8
        (try (have c8b1 : decide ((a1_1 == 0) = (((l0.length : Int) % a2) == (wrap64 (a2 - 1)))) = false := by simpa using c8))
        (try (have c8b2 : ((a1_1 == 0) == (((l0.length : Int) % a2) == (wrap64 (a2 - 1)))) = false := by simpa using c8))
        (try (have c8b3 : ¬ ((a1_1 == 0) = (((l0.length : Int) % a2) == (wrap64 (a2 - 1)))) := by simpa using c8))
        clear c8
        (first | rw [c8b0] | (simp only [i64_w, i32_w]; rw [c8b0]) | skip)
        have H' := Aside0.mk H
        clear H
        have hcz9_0 : w7.cell? ⟨gb422, 0, none⟩ = some (.int .i64 a1_0) := (blk_cell BK422.out 0).trans rfl
        have hcz9_1 : w7.cell? ⟨gb422, 1, none⟩ = some (.int .i64 a1_1) := (blk_cell BK422.out 1).trans rfl
        have hcz9_2 : w7.cell? ⟨gb422, 2, none⟩ = some (.int .i64 a1_2) := (blk_cell BK422.out 2).trans rfl
        have hcz9_3 : w7.cell? ⟨gb422, 3, none⟩ = some (.int .i64 a1_3) := (blk_cell BK422.out 3).trans rfl
        have hfz9_0 := blk_frozen BK422.out 0
        have hfz9_1 := blk_frozen BK422.out 1
        have hfz9_2 := blk_frozen BK422.out 2
        have hfz9_3 := blk_frozen BK422.out 3
        go_wp2
        repeat (go_quiet (fail); try go_wp2)
        go_meet
        case rel => exact ⟨_, (true), (by first | rfl | (simp; done) | (simp [*]; done)), H', ⟨by first | omega | exact Nat.le_refl _⟩, ⟨by (with_reducible repeat (first | refine blk_drewN ?_ _ | refine blk_drew ?_ | refine blk_alloc ?_ _)); exact BK422.out⟩, ⟨by repeat (first | (with_reducible first | exact HB.out | apply below_alloc | apply pw_below_drewN | apply below_drew1 | refine below_set ?_ GE422.out) | exact HB.out)⟩⟩
      · rw [if_neg c8] at H
        have c8b0 : ((a1_1 == 0) != (((l0.length : Int) % a2) == (wrap64 (a2 - 1)))) = false := by simpa using c8
        (try (have c8b1 : decide ((a1_1 == 0) = (((l0.length : Int) % a2) == (wrap64 (a2 - 1)))) = true := by simpa using c8))
        (try (have c8b2 : ((a1_1 == 0) == (((l0.length : Int) % a2) == (wrap64 (a2 - 1)))) = true := by simpa using c8))
        clear c8
        (first | rw [c8b0] | (simp only [i64_w, i32_w]; rw [c8b0]) | skip)
        have H' := Aside0.mk H
        clear H
        have hcz10_0 : w7.cell? ⟨gb422, 0, none⟩ = some (.int .i64 a1_0) := (blk_cell BK422.out 0).trans rfl
        have hcz10_1 : w7.cell? ⟨gb422, 1, none⟩ = some (.int .i64 a1_1) := (blk_cell BK422.out 1).trans rfl
        have hcz10_2 : w7.cell? ⟨gb422, 2, none⟩ = some (.int .i64 a1_2) := (blk_cell BK422.out 2).trans rfl
        have hcz10_3 : w7.cell? ⟨gb422, 3, none⟩ = some (.int .i64 a1_3) := (blk_cell BK422.out 3).trans rfl
        have hfz10_0 := blk_frozen BK422.out 0
        have hfz10_1 := blk_frozen BK422.out 1
        have hfz10_2 := blk_frozen BK422.out 2
        have hfz10_3 := blk_frozen BK422.out 3
        go_wp2
        repeat (go_quiet (fail); try go_wp2)
        go_meet
        case rel => exact ⟨_, (((a1_2 == 0) != ((wrap64 ((l0.length : Int) / a2)) == (wrap64 (a3 - 1))))), (by first | rfl | (simp; done) | (simp [*]; done)), H', ⟨by first | omega | exact Nat.le_refl _⟩, ⟨by (with_reducible repeat (first | refine blk_drewN ?_ _ | refine blk_drew ?_ | refine blk_alloc ?_ _)); exact BK422.out⟩, ⟨by repeat (first | (with_reducible first | exact HB.out | apply below_alloc | apply pw_below_drewN | apply below_drew1 | refine below_set ?_ GE422.out) | exact HB.out)⟩⟩
    case rest =>
      clear HC6
      try clear p2
      try clear c5
      try clear c5b0
      try clear c5b1
      try clear c6
      try clear p6
      try clear c8
      try clear c8b0
      try clear c8b1
      try clear c8b2
      try clear hcz10_0
      try clear hcz10_1
      try clear hcz10_2
      try clear hcz10_3
      try clear hcz9_0
      try clear hcz9_1
      try clear hcz9_2
      try clear hcz9_3
      try clear hfz10_0
      try clear hfz10_1
      try clear hfz10_2
      try clear hfz10_3
      try clear hfz9_0
      try clear hfz9_1
      try clear hfz9_2
      try clear hfz9_3
      obtain ⟨kq, x37_5, rfl, HA, HJ5, BK422, HB⟩ := hcut
      cases kq with
      | zero => exact absurd HA.out (by simp [spec_l30Fits.j0])
      | succ kj5 =>
        have H := HA.out
        clear HA
        simp only [spec_l30Fits.j0] at H
        by_cases c11 : x37_5 = true
        · subst c11
          have H1 : (some false) = some r := by rw [if_pos rfl] at H; exact H
          clear H
          have H := H1
          clear H1
          obtain rfl := Option.some.inj H
          go_wp2
          repeat (go_quiet (fail); try go_wp2)
          go_ret
          exact ⟨by first | rfl | (simp [errW_none, errW_some] <;> rfl) | (simp [*, errW_none, errW_some] <;> rfl), by repeat (first | (with_reducible first | exact HB.out | apply below_alloc | apply pw_below_drewN | apply below_drew1 | refine below_set ?_ GE422.out) | exact HB.out)⟩
        · replace c11 := Bool.eq_false_iff.mpr c11
          subst c11
          have H1 : (if ((l0.length : Int) % a2) = 0 then (if a1_3 = 0 then (if ((l0.length : Int) % a2) > 0 then (if 0 ≤ (wrap64 ((l0.length : Int) - 1)) then (if (wrap64 ((l0.length : Int) - 1)) < (l0.length : Int) then ((spec_l30Match.f a1_3 ((rd_T24 l0 (wrap64 ((l0.length : Int) - 1))).f1)).bind fun t424 => (if t424 = true then (if (wrap64 ((l0.length : Int) / a2)) = 0 then (if a1_0 = 0 then (some true) else (if (wrap64 ((l0.length : Int) / a2)) > 0 then (if 0 ≤ (wrap64 ((l0.length : Int) - a2)) then (if (wrap64 ((l0.length : Int) - a2)) < (l0.length : Int) then ((spec_l30Match.f a1_0 ((rd_T24 l0 (wrap64 ((l0.length : Int) - a2))).f2)).bind fun t426 => (some t426)) else (none)) else (none)) else (some false))) else (if (wrap64 ((l0.length : Int) / a2)) > 0 then (if 0 ≤ (wrap64 ((l0.length : Int) - a2)) then (if (wrap64 ((l0.length : Int) - a2)) < (l0.length : Int) then ((spec_l30Match.f a1_0 ((rd_T24 l0 (wrap64 ((l0.length : Int) - a2))).f2)).bind fun t428 => (some t428)) else (none)) else (none)) else (some false))) else (some false))) else (none)) else (none)) else (if (wrap64 ((l0.length : Int) / a2)) = 0 then (if a1_0 = 0 then (some true) else (if (wrap64 ((l0.length : Int) / a2)) > 0 then (if 0 ≤ (wrap64 ((l0.length : Int) - a2)) then (if (wrap64 ((l0.length : Int) - a2)) < (l0.length : Int) then ((spec_l30Match.f a1_0 ((rd_T24 l0 (wrap64 ((l0.length : Int) - a2))).f2)).bind fun t430 => (some t430)) else (none)) else (none)) else (some false))) else (if (wrap64 ((l0.length : Int) / a2)) > 0 then (if 0 ≤ (wrap64 ((l0.length : Int) - a2)) then (if (wrap64 ((l0.length : Int) - a2)) < (l0.length : Int) then ((spec_l30Match.f a1_0 ((rd_T24 l0 (wrap64 ((l0.length : Int) - a2))).f2)).bind fun t432 => (some t432)) else (none)) else (none)) else (some false)))) else (some false)) else (if ((l0.length : Int) % a2) > 0 then (if 0 ≤ (wrap64 ((l0.length : Int) - 1)) then (if (wrap64 ((l0.length : Int) - 1)) < (l0.length : Int) then ((spec_l30Match.f a1_3 ((rd_T24 l0 (wrap64 ((l0.length : Int) - 1))).f1)).bind fun t434 => (if t434 = true then (if (wrap64 ((l0.length : Int) / a2)) = 0 then (if a1_0 = 0 then (some true) else (if (wrap64 ((l0.length : Int) / a2)) > 0 then (if 0 ≤ (wrap64 ((l0.length : Int) - a2)) then (if (wrap64 ((l0.length : Int) - a2)) < (l0.length : Int) then ((spec_l30Match.f a1_0 ((rd_T24 l0 (wrap64 ((l0.length : Int) - a2))).f2)).bind fun t436 => (some t436)) else (none)) else (none)) else (some false))) else (if (wrap64 ((l0.length : Int) / a2)) > 0 then (if 0 ≤ (wrap64 ((l0.length : Int) - a2)) then (if (wrap64 ((l0.length : Int) - a2)) < (l0.length : Int) then ((spec_l30Match.f a1_0 ((rd_T24 l0 (wrap64 ((l0.length : Int) - a2))).f2)).bind fun t438 => (some t438)) else (none)) else (none)) else (some false))) else (some false))) else (none)) else (none)) else (if (wrap64 ((l0.length : Int) / a2)) = 0 then (if a1_0 = 0 then (some true) else (if (wrap64 ((l0.length : Int) / a2)) > 0 then (if 0 ≤ (wrap64 ((l0.length : Int) - a2)) then (if (wrap64 ((l0.length : Int) - a2)) < (l0.length : Int) then ((spec_l30Match.f a1_0 ((rd_T24 l0 (wrap64 ((l0.length : Int) - a2))).f2)).bind fun t440 => (some t440)) else (none)) else (none)) else (some false))) else (if (wrap64 ((l0.length : Int) / a2)) > 0 then (if 0 ≤ (wrap64 ((l0.length : Int) - a2)) then (if (wrap64 ((l0.length : Int) - a2)) < (l0.length : Int) then ((spec_l30Match.f a1_0 ((rd_T24 l0 (wrap64 ((l0.length : Int) - a2))).f2)).bind fun t442 => (some t442)) else (none)) else (none)) else (some false))))) = some r := by rw [if_neg (show ¬ (false = true) by decide)] at H; exact H
          clear H
          have H := H1
          clear H1
          by_cases c12 : ((l0.length : Int) % a2) = 0
          · rw [if_pos c12] at H
            have c12b0 : (((l0.length : Int) % a2) == 0) = true := beq_iff_eq.mpr c12
            have c12b1 : (((l0.length : Int) % a2) != 0) = false := bne_eq_false_iff_eq.mpr c12
            clear c12
            by_cases c13 : a1_3 = 0
            · rw [if_pos c13] at H
              have c13b0 : (a1_3 == 0) = true := beq_iff_eq.mpr c13
              have c13b1 : (a1_3 != 0) = false := bne_eq_false_iff_eq.mpr c13
              clear c13
              by_cases c14 : ((l0.length : Int) % a2) > 0
              · rw [if_pos c14] at H
                have c14b0 : decide (0 < ((l0.length : Int) % a2)) = true := decide_eq_true c14
                clear c14
                obtain ⟨ji15, hji15⟩ : ∃ j_ : Int, (wrap64 ((l0.length : Int) - 1)) = j_ := ⟨_, rfl⟩
                replace H : (if 0 ≤ (ji15) then (if (ji15) < (l0.length : Int) then ((spec_l30Match.f a1_3 ((rd_T24 l0 (ji15)).f1)).bind fun t424 => (if t424 = true then (if (wrap64 ((l0.length : Int) / a2)) = 0 then (if a1_0 = 0 then (some true) else (if (wrap64 ((l0.length : Int) / a2)) > 0 then (if 0 ≤ (wrap64 ((l0.length : Int) - a2)) then (if (wrap64 ((l0.length : Int) - a2)) < (l0.length : Int) then ((spec_l30Match.f a1_0 ((rd_T24 l0 (wrap64 ((l0.length : Int) - a2))).f2)).bind fun t426 => (some t426)) else (none)) else (none)) else (some false))) else (if (wrap64 ((l0.length : Int) / a2)) > 0 then (if 0 ≤ (wrap64 ((l0.length : Int) - a2)) then (if (wrap64 ((l0.length : Int) - a2)) < (l0.length : Int) then ((spec_l30Match.f a1_0 ((rd_T24 l0 (wrap64 ((l0.length : Int) - a2))).f2)).bind fun t428 => (some t428)) else (none)) else (none)) else (some false))) else (some false))) else (none)) else (none)) = some r := by first | (rw [hji15] at H; exact H) | (simp only [hji15] at H ⊢; exact H)
                have hji15w : (IntKind.i64.wrap ((l0.length : Int) - 1)) = ji15 := (i64_w _).trans hji15
                by_cases c16 : 0 ≤ (ji15)
                · rw [if_pos c16] at H
                  have c16b0 : decide (0 ≤ (ji15)) = true := decide_eq_true c16
                  clear c16
                  by_cases c17 : (ji15) < (l0.length : Int)
                  · rw [if_pos c17] at H
                    have c17b0 : decide ((ji15) < (l0.length : Int)) = true := decide_eq_true c17
                    clear c17
                    replace H := Option.bind_eq_some_iff.mp H
                    obtain ⟨t424, A180, H⟩ := H
                    replace H : (if t424 = true then (if (wrap64 ((l0.length : Int) / a2)) = 0 then (if a1_0 = 0 then (some true) else (if (wrap64 ((l0.length : Int) / a2)) > 0 then (if 0 ≤ (wrap64 ((l0.length : Int) - a2)) then (if (wrap64 ((l0.length : Int) - a2)) < (l0.length : Int) then ((spec_l30Match.f a1_0 ((rd_T24 l0 (wrap64 ((l0.length : Int) - a2))).f2)).bind fun t426 => (some t426)) else (none)) else (none)) else (some false))) else (if (wrap64 ((l0.length : Int) / a2)) > 0 then (if 0 ≤ (wrap64 ((l0.length : Int) - a2)) then (if (wrap64 ((l0.length : Int) - a2)) < (l0.length : Int) then ((spec_l30Match.f a1_0 ((rd_T24 l0 (wrap64 ((l0.length : Int) - a2))).f2)).bind fun t428 => (some t428)) else (none)) else (none)) else (some false))) else (some false)) = some r := H
                    have A18 := Aside0.mk A180
                    clear A180
                    by_cases c19 : t424 = true
                    · subst c19
                      have H1 : (if (wrap64 ((l0.length : Int) / a2)) = 0 then (if a1_0 = 0 then (some true) else (if (wrap64 ((l0.length : Int) / a2)) > 0 then (if 0 ≤ (wrap64 ((l0.length : Int) - a2)) then (if (wrap64 ((l0.length : Int) - a2)) < (l0.length : Int) then ((spec_l30Match.f a1_0 ((rd_T24 l0 (wrap64 ((l0.length : Int) - a2))).f2)).bind fun t426 => (some t426)) else (none)) else (none)) else (some false))) else (if (wrap64 ((l0.length : Int) / a2)) > 0 then (if 0 ≤ (wrap64 ((l0.length : Int) - a2)) then (if (wrap64 ((l0.length : Int) - a2)) < (l0.length : Int) then ((spec_l30Match.f a1_0 ((rd_T24 l0 (wrap64 ((l0.length : Int) - a2))).f2)).bind fun t428 => (some t428)) else (none)) else (none)) else (some false))) = some r := by rw [if_pos rfl] at H; exact H
                      clear H
                      have H := H1
                      clear H1
                      by_cases c20 : (wrap64 ((l0.length : Int) / a2)) = 0
                      · rw [if_pos c20] at H
                        have c20b0 : ((wrap64 ((l0.length : Int) / a2)) == 0) = true := beq_iff_eq.mpr c20
                        have c20b1 : ((wrap64 ((l0.length : Int) / a2)) != 0) = false := bne_eq_false_iff_eq.mpr c20
                        clear c20
                        by_cases c21 : a1_0 = 0
                        · rw [if_pos c21] at H
                          have c21b0 : (a1_0 == 0) = true := beq_iff_eq.mpr c21
                          have c21b1 : (a1_0 != 0) = false := bne_eq_false_iff_eq.mpr c21
                          clear c21
                          obtain rfl := Option.some.inj H
                          have hcz22_0 : wc.cell? ⟨gb422, 0, none⟩ = some (.int .i64 a1_0) := (blk_cell BK422.out 0).trans rfl
                          have hcz22_1 : wc.cell? ⟨gb422, 1, none⟩ = some (.int .i64 a1_1) := (blk_cell BK422.out 1).trans rfl
                          have hcz22_2 : wc.cell? ⟨gb422, 2, none⟩ = some (.int .i64 a1_2) := (blk_cell BK422.out 2).trans rfl
                          have hcz22_3 : wc.cell? ⟨gb422, 3, none⟩ = some (.int .i64 a1_3) := (blk_cell BK422.out 3).trans rfl
                          have hfz22_0 := blk_frozen BK422.out 0
                          have hfz22_1 := blk_frozen BK422.out 1
                          have hfz22_2 := blk_frozen BK422.out 2
                          have hfz22_3 := blk_frozen BK422.out 3
                          have p423 : 0 ≤ ((ji15) : Int) := of_decide_eq_true (by first | (with_reducible assumption) | assumption)
                          have q423 : (ji15) < (l0.length : Int) := of_decide_eq_true (by first | (with_reducible assumption) | assumption)
                          obtain ⟨ad423, e423, hx423_0, hx423_1, hx423_2, hx423_3⟩ := at_T24 HR0.out (ji15) p423 q423
                          cases e423
                          replace hx423_0 := (HB.out.cell (World.block_lt_of_cell? w _ hx423_0)).trans hx423_0
                          replace hx423_1 := (HB.out.cell (World.block_lt_of_cell? w _ hx423_1)).trans hx423_1
                          replace hx423_2 := (HB.out.cell (World.block_lt_of_cell? w _ hx423_2)).trans hx423_2
                          replace hx423_3 := (HB.out.cell (World.block_lt_of_cell? w _ hx423_3)).trans hx423_3
                          replace p423 := eq_true p423
                          replace q423 := eq_true q423
                          go_wp2_with (first | (go_at_call 76; (with_reducible refine (spec_l30Match.calls a1_3 ((rd_T24 l0 (ji15)).f1) true _ A18.out).mono ?_); rintro e w' ⟨rfl, ⟨nd, rfl⟩⟩; (try first | exact ⟨rfl, _, World.drewN_drewN _ _ _⟩ | exact ⟨rfl, _, Eq.trans (World.drewN_drewN _ _ _) (congrArg (World.drewN _) (Nat.add_assoc _ _ _))⟩)))
                          repeat (go_quiet (first | (go_at_call 76; (with_reducible refine (spec_l30Match.calls a1_3 ((rd_T24 l0 (ji15)).f1) true _ A18.out).mono ?_); rintro e w' ⟨rfl, ⟨nd, rfl⟩⟩; (try first | exact ⟨rfl, _, World.drewN_drewN _ _ _⟩ | exact ⟨rfl, _, Eq.trans (World.drewN_drewN _ _ _) (congrArg (World.drewN _) (Nat.add_assoc _ _ _))⟩))); try go_wp2_with (first | (go_at_call 76; (with_reducible refine (spec_l30Match.calls a1_3 ((rd_T24 l0 (ji15)).f1) true _ A18.out).mono ?_); rintro e w' ⟨rfl, ⟨nd, rfl⟩⟩; (try first | exact ⟨rfl, _, World.drewN_drewN _ _ _⟩ | exact ⟨rfl, _, Eq.trans (World.drewN_drewN _ _ _) (congrArg (World.drewN _) (Nat.add_assoc _ _ _))⟩))))
                          go_ret
                          exact ⟨by first | rfl | (simp [errW_none, errW_some] <;> rfl) | (simp only [← hji15]; first | rfl | (simp [errW_none, errW_some] <;> rfl)) | (simp [*, errW_none, errW_some] <;> rfl), by repeat (first | (with_reducible first | exact HB.out | apply below_alloc | apply pw_below_drewN | apply below_drew1 | refine below_set ?_ GE422.out) | exact HB.out)⟩
                        · rw [if_neg c21] at H
                          have c21b0 : (a1_0 == 0) = false := beq_eq_false_iff_ne.mpr c21
                          have c21b1 : (a1_0 != 0) = true := bne_iff_ne.mpr c21
                          by_cases c23 : (wrap64 ((l0.length : Int) / a2)) > 0
                          · rw [if_pos c23] at H
                            have c23b0 : decide (0 < (wrap64 ((l0.length : Int) / a2))) = true := decide_eq_true c23
                            clear c23
                            obtain ⟨ji24, hji24⟩ : ∃ j_ : Int, (wrap64 ((l0.length : Int) - a2)) = j_ := ⟨_, rfl⟩
                            replace H : (if 0 ≤ (ji24) then (if (ji24) < (l0.length : Int) then ((spec_l30Match.f a1_0 ((rd_T24 l0 (ji24)).f2)).bind fun t426 => (some t426)) else (none)) else (none)) = some r := by first | (rw [hji24] at H; exact H) | (simp only [hji24] at H ⊢; exact H)
                            (try rw [hji24] at A18)
                            have hji24w : (IntKind.i64.wrap ((l0.length : Int) - a2)) = ji24 := (i64_w _).trans hji24
                            by_cases c25 : 0 ≤ (ji24)
                            · rw [if_pos c25] at H
                              have c25b0 : decide (0 ≤ (ji24)) = true := decide_eq_true c25
                              clear c25
                              by_cases c26 : (ji24) < (l0.length : Int)
                              · rw [if_pos c26] at H
                                have c26b0 : decide ((ji24) < (l0.length : Int)) = true := decide_eq_true c26
                                clear c26
                                replace H := Option.bind_eq_some_iff.mp H
                                obtain ⟨t426, A270, H⟩ := H
                                replace H : (some t426) = some r := H
                                have A27 := Aside0.mk A270
                                clear A270
                                obtain rfl := Option.some.inj H
                                have hcz28_0 : wc.cell? ⟨gb422, 0, none⟩ = some (.int .i64 a1_0) := (blk_cell BK422.out 0).trans rfl
                                have hcz28_1 : wc.cell? ⟨gb422, 1, none⟩ = some (.int .i64 a1_1) := (blk_cell BK422.out 1).trans rfl
                                have hcz28_2 : wc.cell? ⟨gb422, 2, none⟩ = some (.int .i64 a1_2) := (blk_cell BK422.out 2).trans rfl
                                have hcz28_3 : wc.cell? ⟨gb422, 3, none⟩ = some (.int .i64 a1_3) := (blk_cell BK422.out 3).trans rfl
                                have hfz28_0 := blk_frozen BK422.out 0
                                have hfz28_1 := blk_frozen BK422.out 1
                                have hfz28_2 := blk_frozen BK422.out 2
                                have hfz28_3 := blk_frozen BK422.out 3
                                have p423 : 0 ≤ ((ji15) : Int) := of_decide_eq_true (by first | (with_reducible assumption) | assumption)
                                have q423 : (ji15) < (l0.length : Int) := of_decide_eq_true (by first | (with_reducible assumption) | assumption)
                                obtain ⟨ad423, e423, hx423_0, hx423_1, hx423_2, hx423_3⟩ := at_T24 HR0.out (ji15) p423 q423
                                cases e423
                                replace hx423_0 := (HB.out.cell (World.block_lt_of_cell? w _ hx423_0)).trans hx423_0
                                replace hx423_1 := (HB.out.cell (World.block_lt_of_cell? w _ hx423_1)).trans hx423_1
                                replace hx423_2 := (HB.out.cell (World.block_lt_of_cell? w _ hx423_2)).trans hx423_2
                                replace hx423_3 := (HB.out.cell (World.block_lt_of_cell? w _ hx423_3)).trans hx423_3
                                replace p423 := eq_true p423
                                replace q423 := eq_true q423
                                go_wp2_with (first | (go_at_call 76; (with_reducible refine (spec_l30Match.calls a1_3 ((rd_T24 l0 (ji15)).f1) true _ A18.out).mono ?_); rintro e w' ⟨rfl, ⟨nd, rfl⟩⟩; (try first | exact ⟨rfl, _, World.drewN_drewN _ _ _⟩ | exact ⟨rfl, _, Eq.trans (World.drewN_drewN _ _ _) (congrArg (World.drewN _) (Nat.add_assoc _ _ _))⟩); have p425 : 0 ≤ ((ji24) : Int) := of_decide_eq_true (by first | (with_reducible assumption) | assumption); have q425 : (ji24) < (l0.length : Int) := of_decide_eq_true (by first | (with_reducible assumption) | assumption); obtain ⟨ad425, e425, hx425_0, hx425_1, hx425_2, hx425_3⟩ := at_T24 HR0.out (ji24) p425 q425; obtain rfl : ad423 = ad425 := (by injection e425); replace hx425_0 := (HB.out.cell (World.block_lt_of_cell? w _ hx425_0)).trans hx425_0; replace hx425_1 := (HB.out.cell (World.block_lt_of_cell? w _ hx425_1)).trans hx425_1; replace hx425_2 := (HB.out.cell (World.block_lt_of_cell? w _ hx425_2)).trans hx425_2; replace hx425_3 := (HB.out.cell (World.block_lt_of_cell? w _ hx425_3)).trans hx425_3; replace p425 := eq_true p425; replace q425 := eq_true q425) | (go_at_call 76; (with_reducible refine (spec_l30Match.calls a1_0 ((rd_T24 l0 (ji24)).f2) t426 _ A27.out).mono ?_); rintro e w' ⟨rfl, ⟨nd, rfl⟩⟩; (try first | exact ⟨rfl, _, World.drewN_drewN _ _ _⟩ | exact ⟨rfl, _, Eq.trans (World.drewN_drewN _ _ _) (congrArg (World.drewN _) (Nat.add_assoc _ _ _))⟩)))
                                repeat (go_quiet (first | (go_at_call 76; (with_reducible refine (spec_l30Match.calls a1_3 ((rd_T24 l0 (ji15)).f1) true _ A18.out).mono ?_); rintro e w' ⟨rfl, ⟨nd, rfl⟩⟩; (try first | exact ⟨rfl, _, World.drewN_drewN _ _ _⟩ | exact ⟨rfl, _, Eq.trans (World.drewN_drewN _ _ _) (congrArg (World.drewN _) (Nat.add_assoc _ _ _))⟩); have p425 : 0 ≤ ((ji24) : Int) := of_decide_eq_true (by first | (with_reducible assumption) | assumption); have q425 : (ji24) < (l0.length : Int) := of_decide_eq_true (by first | (with_reducible assumption) | assumption); obtain ⟨ad425, e425, hx425_0, hx425_1, hx425_2, hx425_3⟩ := at_T24 HR0.out (ji24) p425 q425; obtain rfl : ad423 = ad425 := (by injection e425); replace hx425_0 := (HB.out.cell (World.block_lt_of_cell? w _ hx425_0)).trans hx425_0; replace hx425_1 := (HB.out.cell (World.block_lt_of_cell? w _ hx425_1)).trans hx425_1; replace hx425_2 := (HB.out.cell (World.block_lt_of_cell? w _ hx425_2)).trans hx425_2; replace hx425_3 := (HB.out.cell (World.block_lt_of_cell? w _ hx425_3)).trans hx425_3; replace p425 := eq_true p425; replace q425 := eq_true q425) | (go_at_call 76; (with_reducible refine (spec_l30Match.calls a1_0 ((rd_T24 l0 (ji24)).f2) t426 _ A27.out).mono ?_); rintro e w' ⟨rfl, ⟨nd, rfl⟩⟩; (try first | exact ⟨rfl, _, World.drewN_drewN _ _ _⟩ | exact ⟨rfl, _, Eq.trans (World.drewN_drewN _ _ _) (congrArg (World.drewN _) (Nat.add_assoc _ _ _))⟩))); try go_wp2_with (first | (go_at_call 76; (with_reducible refine (spec_l30Match.calls a1_3 ((rd_T24 l0 (ji15)).f1) true _ A18.out).mono ?_); rintro e w' ⟨rfl, ⟨nd, rfl⟩⟩; (try first | exact ⟨rfl, _, World.drewN_drewN _ _ _⟩ | exact ⟨rfl, _, Eq.trans (World.drewN_drewN _ _ _) (congrArg (World.drewN _) (Nat.add_assoc _ _ _))⟩); have p425 : 0 ≤ ((ji24) : Int) := of_decide_eq_true (by first | (with_reducible assumption) | assumption); have q425 : (ji24) < (l0.length : Int) := of_decide_eq_true (by first | (with_reducible assumption) | assumption); obtain ⟨ad425, e425, hx425_0, hx425_1, hx425_2, hx425_3⟩ := at_T24 HR0.out (ji24) p425 q425; obtain rfl : ad423 = ad425 := (by injection e425); replace hx425_0 := (HB.out.cell (World.block_lt_of_cell? w _ hx425_0)).trans hx425_0; replace hx425_1 := (HB.out.cell (World.block_lt_of_cell? w _ hx425_1)).trans hx425_1; replace hx425_2 := (HB.out.cell (World.block_lt_of_cell? w _ hx425_2)).trans hx425_2; replace hx425_3 := (HB.out.cell (World.block_lt_of_cell? w _ hx425_3)).trans hx425_3; replace p425 := eq_true p425; replace q425 := eq_true q425) | (go_at_call 76; (with_reducible refine (spec_l30Match.calls a1_0 ((rd_T24 l0 (ji24)).f2) t426 _ A27.out).mono ?_); rintro e w' ⟨rfl, ⟨nd, rfl⟩⟩; (try first | exact ⟨rfl, _, World.drewN_drewN _ _ _⟩ | exact ⟨rfl, _, Eq.trans (World.drewN_drewN _ _ _) (congrArg (World.drewN _) (Nat.add_assoc _ _ _))⟩))))
                                go_ret
                                exact ⟨by first | rfl | (simp [errW_none, errW_some] <;> rfl) | (simp only [← hji15, ← hji24]; first | rfl | (simp [errW_none, errW_some] <;> rfl)) | (simp [*, errW_none, errW_some] <;> rfl), by repeat (first | (with_reducible first | exact HB.out | apply below_alloc | apply pw_below_drewN | apply below_drew1 | refine below_set ?_ GE422.out) | exact HB.out)⟩
                              · rw [if_neg c26] at H
                                exact absurd H (by simp)
                            · rw [if_neg c25] at H
                              exact absurd H (by simp)
                          · rw [if_neg c23] at H
                            have c23b0 : decide (0 < (wrap64 ((l0.length : Int) / a2))) = false := decide_eq_false c23
                            clear c23
                            obtain rfl := Option.some.inj H
                            have hcz29_0 : wc.cell? ⟨gb422, 0, none⟩ = some (.int .i64 a1_0) := (blk_cell BK422.out 0).trans rfl
                            have hcz29_1 : wc.cell? ⟨gb422, 1, none⟩ = some (.int .i64 a1_1) := (blk_cell BK422.out 1).trans rfl
                            have hcz29_2 : wc.cell? ⟨gb422, 2, none⟩ = some (.int .i64 a1_2) := (blk_cell BK422.out 2).trans rfl
                            have hcz29_3 : wc.cell? ⟨gb422, 3, none⟩ = some (.int .i64 a1_3) := (blk_cell BK422.out 3).trans rfl
                            have hfz29_0 := blk_frozen BK422.out 0
                            have hfz29_1 := blk_frozen BK422.out 1
                            have hfz29_2 := blk_frozen BK422.out 2
                            have hfz29_3 := blk_frozen BK422.out 3
                            have p423 : 0 ≤ ((ji15) : Int) := of_decide_eq_true (by first | (with_reducible assumption) | assumption)
                            have q423 : (ji15) < (l0.length : Int) := of_decide_eq_true (by first | (with_reducible assumption) | assumption)
                            obtain ⟨ad423, e423, hx423_0, hx423_1, hx423_2, hx423_3⟩ := at_T24 HR0.out (ji15) p423 q423
                            cases e423
                            replace hx423_0 := (HB.out.cell (World.block_lt_of_cell? w _ hx423_0)).trans hx423_0
                            replace hx423_1 := (HB.out.cell (World.block_lt_of_cell? w _ hx423_1)).trans hx423_1
                            replace hx423_2 := (HB.out.cell (World.block_lt_of_cell? w _ hx423_2)).trans hx423_2
                            replace hx423_3 := (HB.out.cell (World.block_lt_of_cell? w _ hx423_3)).trans hx423_3
                            replace p423 := eq_true p423
                            replace q423 := eq_true q423
                            go_wp2_with (first | (go_at_call 76; (with_reducible refine (spec_l30Match.calls a1_3 ((rd_T24 l0 (ji15)).f1) true _ A18.out).mono ?_); rintro e w' ⟨rfl, ⟨nd, rfl⟩⟩; (try first | exact ⟨rfl, _, World.drewN_drewN _ _ _⟩ | exact ⟨rfl, _, Eq.trans (World.drewN_drewN _ _ _) (congrArg (World.drewN _) (Nat.add_assoc _ _ _))⟩)))
                            repeat (go_quiet (first | (go_at_call 76; (with_reducible refine (spec_l30Match.calls a1_3 ((rd_T24 l0 (ji15)).f1) true _ A18.out).mono ?_); rintro e w' ⟨rfl, ⟨nd, rfl⟩⟩; (try first | exact ⟨rfl, _, World.drewN_drewN _ _ _⟩ | exact ⟨rfl, _, Eq.trans (World.drewN_drewN _ _ _) (congrArg (World.drewN _) (Nat.add_assoc _ _ _))⟩))); try go_wp2_with (first | (go_at_call 76; (with_reducible refine (spec_l30Match.calls a1_3 ((rd_T24 l0 (ji15)).f1) true _ A18.out).mono ?_); rintro e w' ⟨rfl, ⟨nd, rfl⟩⟩; (try first | exact ⟨rfl, _, World.drewN_drewN _ _ _⟩ | exact ⟨rfl, _, Eq.trans (World.drewN_drewN _ _ _) (congrArg (World.drewN _) (Nat.add_assoc _ _ _))⟩))))
                            go_ret
                            exact ⟨by first | rfl | (simp [errW_none, errW_some] <;> rfl) | (simp only [← hji15]; first | rfl | (simp [errW_none, errW_some] <;> rfl)) | (simp [*, errW_none, errW_some] <;> rfl), by repeat (first | (with_reducible first | exact HB.out | apply below_alloc | apply pw_below_drewN | apply below_drew1 | refine below_set ?_ GE422.out) | exact HB.out)⟩
                      · rw [if_neg c20] at H
                        have c20b0 : ((wrap64 ((l0.length : Int) / a2)) == 0) = false := beq_eq_false_iff_ne.mpr c20
                        have c20b1 : ((wrap64 ((l0.length : Int) / a2)) != 0) = true := bne_iff_ne.mpr c20
                        by_cases c30 : (wrap64 ((l0.length : Int) / a2)) > 0
                        · rw [if_pos c30] at H
                          have c30b0 : decide (0 < (wrap64 ((l0.length : Int) / a2))) = true := decide_eq_true c30
                          clear c30
                          obtain ⟨ji31, hji31⟩ : ∃ j_ : Int, (wrap64 ((l0.length : Int) - a2)) = j_ := ⟨_, rfl⟩
                          replace H : (if 0 ≤ (ji31) then (if (ji31) < (l0.length : Int) then ((spec_l30Match.f a1_0 ((rd_T24 l0 (ji31)).f2)).bind fun t428 => (some t428)) else (none)) else (none)) = some r := by first | (rw [hji31] at H; exact H) | (simp only [hji31] at H ⊢; exact H)
                          (try rw [hji31] at A18)
                          have hji31w : (IntKind.i64.wrap ((l0.length : Int) - a2)) = ji31 := (i64_w _).trans hji31
                          by_cases c32 : 0 ≤ (ji31)
                          · rw [if_pos c32] at H
                            have c32b0 : decide (0 ≤ (ji31)) = true := decide_eq_true c32
                            clear c32
                            by_cases c33 : (ji31) < (l0.length : Int)
                            · rw [if_pos c33] at H
                              have c33b0 : decide ((ji31) < (l0.length : Int)) = true := decide_eq_true c33
                              clear c33
                              replace H := Option.bind_eq_some_iff.mp H
                              obtain ⟨t428, A340, H⟩ := H
                              replace H : (some t428) = some r := H
                              have A34 := Aside0.mk A340
                              clear A340
                              obtain rfl := Option.some.inj H
                              have hcz35_0 : wc.cell? ⟨gb422, 0, none⟩ = some (.int .i64 a1_0) := (blk_cell BK422.out 0).trans rfl
                              have hcz35_1 : wc.cell? ⟨gb422, 1, none⟩ = some (.int .i64 a1_1) := (blk_cell BK422.out 1).trans rfl
                              have hcz35_2 : wc.cell? ⟨gb422, 2, none⟩ = some (.int .i64 a1_2) := (blk_cell BK422.out 2).trans rfl
                              have hcz35_3 : wc.cell? ⟨gb422, 3, none⟩ = some (.int .i64 a1_3) := (blk_cell BK422.out 3).trans rfl
                              have hfz35_0 := blk_frozen BK422.out 0
                              have hfz35_1 := blk_frozen BK422.out 1
                              have hfz35_2 := blk_frozen BK422.out 2
                              have hfz35_3 := blk_frozen BK422.out 3
                              have p423 : 0 ≤ ((ji15) : Int) := of_decide_eq_true (by first | (with_reducible assumption) | assumption)
                              have q423 : (ji15) < (l0.length : Int) := of_decide_eq_true (by first | (with_reducible assumption) | assumption)
                              obtain ⟨ad423, e423, hx423_0, hx423_1, hx423_2, hx423_3⟩ := at_T24 HR0.out (ji15) p423 q423
                              cases e423
                              replace hx423_0 := (HB.out.cell (World.block_lt_of_cell? w _ hx423_0)).trans hx423_0
                              replace hx423_1 := (HB.out.cell (World.block_lt_of_cell? w _ hx423_1)).trans hx423_1
                              replace hx423_2 := (HB.out.cell (World.block_lt_of_cell? w _ hx423_2)).trans hx423_2
                              replace hx423_3 := (HB.out.cell (World.block_lt_of_cell? w _ hx423_3)).trans hx423_3
                              replace p423 := eq_true p423
                              replace q423 := eq_true q423
                              go_wp2_with (first | (go_at_call 76; (with_reducible refine (spec_l30Match.calls a1_3 ((rd_T24 l0 (ji15)).f1) true _ A18.out).mono ?_); rintro e w' ⟨rfl, ⟨nd, rfl⟩⟩; (try first | exact ⟨rfl, _, World.drewN_drewN _ _ _⟩ | exact ⟨rfl, _, Eq.trans (World.drewN_drewN _ _ _) (congrArg (World.drewN _) (Nat.add_assoc _ _ _))⟩); have p427 : 0 ≤ ((ji31) : Int) := of_decide_eq_true (by first | (with_reducible assumption) | assumption); have q427 : (ji31) < (l0.length : Int) := of_decide_eq_true (by first | (with_reducible assumption) | assumption); obtain ⟨ad427, e427, hx427_0, hx427_1, hx427_2, hx427_3⟩ := at_T24 HR0.out (ji31) p427 q427; obtain rfl : ad423 = ad427 := (by injection e427); replace hx427_0 := (HB.out.cell (World.block_lt_of_cell? w _ hx427_0)).trans hx427_0; replace hx427_1 := (HB.out.cell (World.block_lt_of_cell? w _ hx427_1)).trans hx427_1; replace hx427_2 := (HB.out.cell (World.block_lt_of_cell? w _ hx427_2)).trans hx427_2; replace hx427_3 := (HB.out.cell (World.block_lt_of_cell? w _ hx427_3)).trans hx427_3; replace p427 := eq_true p427; replace q427 := eq_true q427) | (go_at_call 76; (with_reducible refine (spec_l30Match.calls a1_0 ((rd_T24 l0 (ji31)).f2) t428 _ A34.out).mono ?_); rintro e w' ⟨rfl, ⟨nd, rfl⟩⟩; (try first | exact ⟨rfl, _, World.drewN_drewN _ _ _⟩ | exact ⟨rfl, _, Eq.trans (World.drewN_drewN _ _ _) (congrArg (World.drewN _) (Nat.add_assoc _ _ _))⟩)))
                              repeat (go_quiet (first | (go_at_call 76; (with_reducible refine (spec_l30Match.calls a1_3 ((rd_T24 l0 (ji15)).f1) true _ A18.out).mono ?_); rintro e w' ⟨rfl, ⟨nd, rfl⟩⟩; (try first | exact ⟨rfl, _, World.drewN_drewN _ _ _⟩ | exact ⟨rfl, _, Eq.trans (World.drewN_drewN _ _ _) (congrArg (World.drewN _) (Nat.add_assoc _ _ _))⟩); have p427 : 0 ≤ ((ji31) : Int) := of_decide_eq_true (by first | (with_reducible assumption) | assumption); have q427 : (ji31) < (l0.length : Int) := of_decide_eq_true (by first | (with_reducible assumption) | assumption); obtain ⟨ad427, e427, hx427_0, hx427_1, hx427_2, hx427_3⟩ := at_T24 HR0.out (ji31) p427 q427; obtain rfl : ad423 = ad427 := (by injection e427); replace hx427_0 := (HB.out.cell (World.block_lt_of_cell? w _ hx427_0)).trans hx427_0; replace hx427_1 := (HB.out.cell (World.block_lt_of_cell? w _ hx427_1)).trans hx427_1; replace hx427_2 := (HB.out.cell (World.block_lt_of_cell? w _ hx427_2)).trans hx427_2; replace hx427_3 := (HB.out.cell (World.block_lt_of_cell? w _ hx427_3)).trans hx427_3; replace p427 := eq_true p427; replace q427 := eq_true q427) | (go_at_call 76; (with_reducible refine (spec_l30Match.calls a1_0 ((rd_T24 l0 (ji31)).f2) t428 _ A34.out).mono ?_); rintro e w' ⟨rfl, ⟨nd, rfl⟩⟩; (try first | exact ⟨rfl, _, World.drewN_drewN _ _ _⟩ | exact ⟨rfl, _, Eq.trans (World.drewN_drewN _ _ _) (congrArg (World.drewN _) (Nat.add_assoc _ _ _))⟩))); try go_wp2_with (first | (go_at_call 76; (with_reducible refine (spec_l30Match.calls a1_3 ((rd_T24 l0 (ji15)).f1) true _ A18.out).mono ?_); rintro e w' ⟨rfl, ⟨nd, rfl⟩⟩; (try first | exact ⟨rfl, _, World.drewN_drewN _ _ _⟩ | exact ⟨rfl, _, Eq.trans (World.drewN_drewN _ _ _) (congrArg (World.drewN _) (Nat.add_assoc _ _ _))⟩); have p427 : 0 ≤ ((ji31) : Int) := of_decide_eq_true (by first | (with_reducible assumption) | assumption); have q427 : (ji31) < (l0.length : Int) := of_decide_eq_true (by first | (with_reducible assumption) | assumption); obtain ⟨ad427, e427, hx427_0, hx427_1, hx427_2, hx427_3⟩ := at_T24 HR0.out (ji31) p427 q427; obtain rfl : ad423 = ad427 := (by injection e427); replace hx427_0 := (HB.out.cell (World.block_lt_of_cell? w _ hx427_0)).trans hx427_0; replace hx427_1 := (HB.out.cell (World.block_lt_of_cell? w _ hx427_1)).trans hx427_1; replace hx427_2 := (HB.out.cell (World.block_lt_of_cell? w _ hx427_2)).trans hx427_2; replace hx427_3 := (HB.out.cell (World.block_lt_of_cell? w _ hx427_3)).trans hx427_3; replace p427 := eq_true p427; replace q427 := eq_true q427) | (go_at_call 76; (with_reducible refine (spec_l30Match.calls a1_0 ((rd_T24 l0 (ji31)).f2) t428 _ A34.out).mono ?_); rintro e w' ⟨rfl, ⟨nd, rfl⟩⟩; (try first | exact ⟨rfl, _, World.drewN_drewN _ _ _⟩ | exact ⟨rfl, _, Eq.trans (World.drewN_drewN _ _ _) (congrArg (World.drewN _) (Nat.add_assoc _ _ _))⟩))))
                              go_ret
                              exact ⟨by first | rfl | (simp [errW_none, errW_some] <;> rfl) | (simp only [← hji15, ← hji31]; first | rfl | (simp [errW_none, errW_some] <;> rfl)) | (simp [*, errW_none, errW_some] <;> rfl), by repeat (first | (with_reducible first | exact HB.out | apply below_alloc | apply pw_below_drewN | apply below_drew1 | refine below_set ?_ GE422.out) | exact HB.out)⟩
                            · rw [if_neg c33] at H
                              exact absurd H (by simp)
                          · rw [if_neg c32] at H
                            exact absurd H (by simp)
                        · rw [if_neg c30] at H
                          have c30b0 : decide (0 < (wrap64 ((l0.length : Int) / a2))) = false := decide_eq_false c30
                          clear c30
                          obtain rfl := Option.some.inj H
                          have hcz36_0 : wc.cell? ⟨gb422, 0, none⟩ = some (.int .i64 a1_0) := (blk_cell BK422.out 0).trans rfl
                          have hcz36_1 : wc.cell? ⟨gb422, 1, none⟩ = some (.int .i64 a1_1) := (blk_cell BK422.out 1).trans rfl
                          have hcz36_2 : wc.cell? ⟨gb422, 2, none⟩ = some (.int .i64 a1_2) := (blk_cell BK422.out 2).trans rfl
                          have hcz36_3 : wc.cell? ⟨gb422, 3, none⟩ = some (.int .i64 a1_3) := (blk_cell BK422.out 3).trans rfl
                          have hfz36_0 := blk_frozen BK422.out 0
                          have hfz36_1 := blk_frozen BK422.out 1
                          have hfz36_2 := blk_frozen BK422.out 2
                          have hfz36_3 := blk_frozen BK422.out 3
                          have p423 : 0 ≤ ((ji15) : Int) := of_decide_eq_true (by first | (with_reducible assumption) | assumption)
                          have q423 : (ji15) < (l0.length : Int) := of_decide_eq_true (by first | (with_reducible assumption) | assumption)
                          obtain ⟨ad423, e423, hx423_0, hx423_1, hx423_2, hx423_3⟩ := at_T24 HR0.out (ji15) p423 q423
                          cases e423
                          replace hx423_0 := (HB.out.cell (World.block_lt_of_cell? w _ hx423_0)).trans hx423_0
                          replace hx423_1 := (HB.out.cell (World.block_lt_of_cell? w _ hx423_1)).trans hx423_1
                          replace hx423_2 := (HB.out.cell (World.block_lt_of_cell? w _ hx423_2)).trans hx423_2
                          replace hx423_3 := (HB.out.cell (World.block_lt_of_cell? w _ hx423_3)).trans hx423_3
                          replace p423 := eq_true p423
                          replace q423 := eq_true q423
                          go_wp2_with (first | (go_at_call 76; (with_reducible refine (spec_l30Match.calls a1_3 ((rd_T24 l0 (ji15)).f1) true _ A18.out).mono ?_); rintro e w' ⟨rfl, ⟨nd, rfl⟩⟩; (try first | exact ⟨rfl, _, World.drewN_drewN _ _ _⟩ | exact ⟨rfl, _, Eq.trans (World.drewN_drewN _ _ _) (congrArg (World.drewN _) (Nat.add_assoc _ _ _))⟩)))
                          repeat (go_quiet (first | (go_at_call 76; (with_reducible refine (spec_l30Match.calls a1_3 ((rd_T24 l0 (ji15)).f1) true _ A18.out).mono ?_); rintro e w' ⟨rfl, ⟨nd, rfl⟩⟩; (try first | exact ⟨rfl, _, World.drewN_drewN _ _ _⟩ | exact ⟨rfl, _, Eq.trans (World.drewN_drewN _ _ _) (congrArg (World.drewN _) (Nat.add_assoc _ _ _))⟩))); try go_wp2_with (first | (go_at_call 76; (with_reducible refine (spec_l30Match.calls a1_3 ((rd_T24 l0 (ji15)).f1) true _ A18.out).mono ?_); rintro e w' ⟨rfl, ⟨nd, rfl⟩⟩; (try first | exact ⟨rfl, _, World.drewN_drewN _ _ _⟩ | exact ⟨rfl, _, Eq.trans (World.drewN_drewN _ _ _) (congrArg (World.drewN _) (Nat.add_assoc _ _ _))⟩))))
                          go_ret
                          exact ⟨by first | rfl | (simp [errW_none, errW_some] <;> rfl) | (simp only [← hji15]; first | rfl | (simp [errW_none, errW_some] <;> rfl)) | (simp [*, errW_none, errW_some] <;> rfl), by repeat (first | (with_reducible first | exact HB.out | apply below_alloc | apply pw_below_drewN | apply below_drew1 | refine below_set ?_ GE422.out) | exact HB.out)⟩
                    · replace c19 := Bool.eq_false_iff.mpr c19
                      subst c19
                      have H1 : (some false) = some r := by rw [if_neg (show ¬ (false = true) by decide)] at H; exact H
                      clear H
                      have H := H1
                      clear H1
                      obtain rfl := Option.some.inj H
                      have hcz37_0 : wc.cell? ⟨gb422, 0, none⟩ = some (.int .i64 a1_0) := (blk_cell BK422.out 0).trans rfl
                      have hcz37_1 : wc.cell? ⟨gb422, 1, none⟩ = some (.int .i64 a1_1) := (blk_cell BK422.out 1).trans rfl
                      have hcz37_2 : wc.cell? ⟨gb422, 2, none⟩ = some (.int .i64 a1_2) := (blk_cell BK422.out 2).trans rfl
                      have hcz37_3 : wc.cell? ⟨gb422, 3, none⟩ = some (.int .i64 a1_3) := (blk_cell BK422.out 3).trans rfl
                      have hfz37_0 := blk_frozen BK422.out 0
                      have hfz37_1 := blk_frozen BK422.out 1
                      have hfz37_2 := blk_frozen BK422.out 2
                      have hfz37_3 := blk_frozen BK422.out 3
                      have p423 : 0 ≤ ((ji15) : Int) := of_decide_eq_true (by first | (with_reducible assumption) | assumption)
                      have q423 : (ji15) < (l0.length : Int) := of_decide_eq_true (by first | (with_reducible assumption) | assumption)
                      obtain ⟨ad423, e423, hx423_0, hx423_1, hx423_2, hx423_3⟩ := at_T24 HR0.out (ji15) p423 q423
                      cases e423
                      replace hx423_0 := (HB.out.cell (World.block_lt_of_cell? w _ hx423_0)).trans hx423_0
                      replace hx423_1 := (HB.out.cell (World.block_lt_of_cell? w _ hx423_1)).trans hx423_1
                      replace hx423_2 := (HB.out.cell (World.block_lt_of_cell? w _ hx423_2)).trans hx423_2
                      replace hx423_3 := (HB.out.cell (World.block_lt_of_cell? w _ hx423_3)).trans hx423_3
                      replace p423 := eq_true p423
                      replace q423 := eq_true q423
                      go_wp2_with (first | (go_at_call 76; (with_reducible refine (spec_l30Match.calls a1_3 ((rd_T24 l0 (ji15)).f1) false _ A18.out).mono ?_); rintro e w' ⟨rfl, ⟨nd, rfl⟩⟩; (try first | exact ⟨rfl, _, World.drewN_drewN _ _ _⟩ | exact ⟨rfl, _, Eq.trans (World.drewN_drewN _ _ _) (congrArg (World.drewN _) (Nat.add_assoc _ _ _))⟩)))
                      repeat (go_quiet (first | (go_at_call 76; (with_reducible refine (spec_l30Match.calls a1_3 ((rd_T24 l0 (ji15)).f1) false _ A18.out).mono ?_); rintro e w' ⟨rfl, ⟨nd, rfl⟩⟩; (try first | exact ⟨rfl, _, World.drewN_drewN _ _ _⟩ | exact ⟨rfl, _, Eq.trans (World.drewN_drewN _ _ _) (congrArg (World.drewN _) (Nat.add_assoc _ _ _))⟩))); try go_wp2_with (first | (go_at_call 76; (with_reducible refine (spec_l30Match.calls a1_3 ((rd_T24 l0 (ji15)).f1) false _ A18.out).mono ?_); rintro e w' ⟨rfl, ⟨nd, rfl⟩⟩; (try first | exact ⟨rfl, _, World.drewN_drewN _ _ _⟩ | exact ⟨rfl, _, Eq.trans (World.drewN_drewN _ _ _) (congrArg (World.drewN _) (Nat.add_assoc _ _ _))⟩))))
                      go_ret
                      exact ⟨by first | rfl | (simp [errW_none, errW_some] <;> rfl) | (simp only [← hji15]; first | rfl | (simp [errW_none, errW_some] <;> rfl)) | (simp [*, errW_none, errW_some] <;> rfl), by repeat (first | (with_reducible first | exact HB.out | apply below_alloc | apply pw_below_drewN | apply below_drew1 | refine below_set ?_ GE422.out) | exact HB.out)⟩
                  · rw [if_neg c17] at H
                    exact absurd H (by simp)
                · rw [if_neg c16] at H
                  exact absurd H (by simp)
              · rw [if_neg c14] at H
                have c14b0 : decide (0 < ((l0.length : Int) % a2)) = false := decide_eq_false c14
                clear c14
                by_cases c38 : (wrap64 ((l0.length : Int) / a2)) = 0
                · rw [if_pos c38] at H
                  have c38b0 : ((wrap64 ((l0.length : Int) / a2)) == 0) = true := beq_iff_eq.mpr c38
                  have c38b1 : ((wrap64 ((l0.length : Int) / a2)) != 0) = false := bne_eq_false_iff_eq.mpr c38
                  clear c38
                  by_cases c39 : a1_0 = 0
                  · rw [if_pos c39] at H
                    have c39b0 : (a1_0 == 0) = true := beq_iff_eq.mpr c39
                    have c39b1 : (a1_0 != 0) = false := bne_eq_false_iff_eq.mpr c39
                    clear c39
                    obtain rfl := Option.some.inj H
                    have hcz40_0 : wc.cell? ⟨gb422, 0, none⟩ = some (.int .i64 a1_0) := (blk_cell BK422.out 0).trans rfl
                    have hcz40_1 : wc.cell? ⟨gb422, 1, none⟩ = some (.int .i64 a1_1) := (blk_cell BK422.out 1).trans rfl
                    have hcz40_2 : wc.cell? ⟨gb422, 2, none⟩ = some (.int .i64 a1_2) := (blk_cell BK422.out 2).trans rfl
                    have hcz40_3 : wc.cell? ⟨gb422, 3, none⟩ = some (.int .i64 a1_3) := (blk_cell BK422.out 3).trans rfl
                    have hfz40_0 := blk_frozen BK422.out 0
                    have hfz40_1 := blk_frozen BK422.out 1
                    have hfz40_2 := blk_frozen BK422.out 2
                    have hfz40_3 := blk_frozen BK422.out 3
                    go_wp2
                    repeat (go_quiet (fail); try go_wp2)
                    go_ret
                    exact ⟨by first | rfl | (simp [errW_none, errW_some] <;> rfl) | (simp [*, errW_none, errW_some] <;> rfl), by repeat (first | (with_reducible first | exact HB.out | apply below_alloc | apply pw_below_drewN | apply below_drew1 | refine below_set ?_ GE422.out) | exact HB.out)⟩
                  · rw [if_neg c39] at H
                    have c39b0 : (a1_0 == 0) = false := beq_eq_false_iff_ne.mpr c39
                    have c39b1 : (a1_0 != 0) = true := bne_iff_ne.mpr c39
                    by_cases c41 : (wrap64 ((l0.length : Int) / a2)) > 0
                    · rw [if_pos c41] at H
                      have c41b0 : decide (0 < (wrap64 ((l0.length : Int) / a2))) = true := decide_eq_true c41
                      clear c41
                      obtain ⟨ji42, hji42⟩ : ∃ j_ : Int, (wrap64 ((l0.length : Int) - a2)) = j_ := ⟨_, rfl⟩
                      replace H : (if 0 ≤ (ji42) then (if (ji42) < (l0.length : Int) then ((spec_l30Match.f a1_0 ((rd_T24 l0 (ji42)).f2)).bind fun t430 => (some t430)) else (none)) else (none)) = some r := by first | (rw [hji42] at H; exact H) | (simp only [hji42] at H ⊢; exact H)
                      have hji42w : (IntKind.i64.wrap ((l0.length : Int) - a2)) = ji42 := (i64_w _).trans hji42
                      by_cases c43 : 0 ≤ (ji42)
                      · rw [if_pos c43] at H
                        have c43b0 : decide (0 ≤ (ji42)) = true := decide_eq_true c43
                        clear c43
                        by_cases c44 : (ji42) < (l0.length : Int)
                        · rw [if_pos c44] at H
                          have c44b0 : decide ((ji42) < (l0.length : Int)) = true := decide_eq_true c44
                          clear c44
                          replace H := Option.bind_eq_some_iff.mp H
                          obtain ⟨t430, A450, H⟩ := H
                          replace H : (some t430) = some r := H
                          have A45 := Aside0.mk A450
                          clear A450
                          obtain rfl := Option.some.inj H
                          have hcz46_0 : wc.cell? ⟨gb422, 0, none⟩ = some (.int .i64 a1_0) := (blk_cell BK422.out 0).trans rfl
                          have hcz46_1 : wc.cell? ⟨gb422, 1, none⟩ = some (.int .i64 a1_1) := (blk_cell BK422.out 1).trans rfl
                          have hcz46_2 : wc.cell? ⟨gb422, 2, none⟩ = some (.int .i64 a1_2) := (blk_cell BK422.out 2).trans rfl
                          have hcz46_3 : wc.cell? ⟨gb422, 3, none⟩ = some (.int .i64 a1_3) := (blk_cell BK422.out 3).trans rfl
                          have hfz46_0 := blk_frozen BK422.out 0
                          have hfz46_1 := blk_frozen BK422.out 1
                          have hfz46_2 := blk_frozen BK422.out 2
                          have hfz46_3 := blk_frozen BK422.out 3
                          have p429 : 0 ≤ ((ji42) : Int) := of_decide_eq_true (by first | (with_reducible assumption) | assumption)
                          have q429 : (ji42) < (l0.length : Int) := of_decide_eq_true (by first | (with_reducible assumption) | assumption)
                          obtain ⟨ad429, e429, hx429_0, hx429_1, hx429_2, hx429_3⟩ := at_T24 HR0.out (ji42) p429 q429
                          cases e429
                          replace hx429_0 := (HB.out.cell (World.block_lt_of_cell? w _ hx429_0)).trans hx429_0
                          replace hx429_1 := (HB.out.cell (World.block_lt_of_cell? w _ hx429_1)).trans hx429_1
                          replace hx429_2 := (HB.out.cell (World.block_lt_of_cell? w _ hx429_2)).trans hx429_2
                          replace hx429_3 := (HB.out.cell (World.block_lt_of_cell? w _ hx429_3)).trans hx429_3
                          replace p429 := eq_true p429
                          replace q429 := eq_true q429
                          go_wp2_with (first | (go_at_call 76; (with_reducible refine (spec_l30Match.calls a1_0 ((rd_T24 l0 (ji42)).f2) t430 _ A45.out).mono ?_); rintro e w' ⟨rfl, ⟨nd, rfl⟩⟩; (try first | exact ⟨rfl, _, World.drewN_drewN _ _ _⟩ | exact ⟨rfl, _, Eq.trans (World.drewN_drewN _ _ _) (congrArg (World.drewN _) (Nat.add_assoc _ _ _))⟩)))
                          repeat (go_quiet (first | (go_at_call 76; (with_reducible refine (spec_l30Match.calls a1_0 ((rd_T24 l0 (ji42)).f2) t430 _ A45.out).mono ?_); rintro e w' ⟨rfl, ⟨nd, rfl⟩⟩; (try first | exact ⟨rfl, _, World.drewN_drewN _ _ _⟩ | exact ⟨rfl, _, Eq.trans (World.drewN_drewN _ _ _) (congrArg (World.drewN _) (Nat.add_assoc _ _ _))⟩))); try go_wp2_with (first | (go_at_call 76; (with_reducible refine (spec_l30Match.calls a1_0 ((rd_T24 l0 (ji42)).f2) t430 _ A45.out).mono ?_); rintro e w' ⟨rfl, ⟨nd, rfl⟩⟩; (try first | exact ⟨rfl, _, World.drewN_drewN _ _ _⟩ | exact ⟨rfl, _, Eq.trans (World.drewN_drewN _ _ _) (congrArg (World.drewN _) (Nat.add_assoc _ _ _))⟩))))
                          go_ret
                          exact ⟨by first | rfl | (simp [errW_none, errW_some] <;> rfl) | (simp only [← hji42]; first | rfl | (simp [errW_none, errW_some] <;> rfl)) | (simp [*, errW_none, errW_some] <;> rfl), by repeat (first | (with_reducible first | exact HB.out | apply below_alloc | apply pw_below_drewN | apply below_drew1 | refine below_set ?_ GE422.out) | exact HB.out)⟩
                        · rw [if_neg c44] at H
                          exact absurd H (by simp)
                      · rw [if_neg c43] at H
                        exact absurd H (by simp)
                    · rw [if_neg c41] at H
                      have c41b0 : decide (0 < (wrap64 ((l0.length : Int) / a2))) = false := decide_eq_false c41
                      clear c41
                      obtain rfl := Option.some.inj H
                      have hcz47_0 : wc.cell? ⟨gb422, 0, none⟩ = some (.int .i64 a1_0) := (blk_cell BK422.out 0).trans rfl
                      have hcz47_1 : wc.cell? ⟨gb422, 1, none⟩ = some (.int .i64 a1_1) := (blk_cell BK422.out 1).trans rfl
                      have hcz47_2 : wc.cell? ⟨gb422, 2, none⟩ = some (.int .i64 a1_2) := (blk_cell BK422.out 2).trans rfl
                      have hcz47_3 : wc.cell? ⟨gb422, 3, none⟩ = some (.int .i64 a1_3) := (blk_cell BK422.out 3).trans rfl
                      have hfz47_0 := blk_frozen BK422.out 0
                      have hfz47_1 := blk_frozen BK422.out 1
                      have hfz47_2 := blk_frozen BK422.out 2
                      have hfz47_3 := blk_frozen BK422.out 3
                      go_wp2
                      repeat (go_quiet (fail); try go_wp2)
                      go_ret
                      exact ⟨by first | rfl | (simp [errW_none, errW_some] <;> rfl) | (simp [*, errW_none, errW_some] <;> rfl), by repeat (first | (with_reducible first | exact HB.out | apply below_alloc | apply pw_below_drewN | apply below_drew1 | refine below_set ?_ GE422.out) | exact HB.out)⟩
                · rw [if_neg c38] at H
                  have c38b0 : ((wrap64 ((l0.length : Int) / a2)) == 0) = false := beq_eq_false_iff_ne.mpr c38
                  have c38b1 : ((wrap64 ((l0.length : Int) / a2)) != 0) = true := bne_iff_ne.mpr c38
                  by_cases c48 : (wrap64 ((l0.length : Int) / a2)) > 0
                  · rw [if_pos c48] at H
                    have c48b0 : decide (0 < (wrap64 ((l0.length : Int) / a2))) = true := decide_eq_true c48
                    clear c48
                    obtain ⟨ji49, hji49⟩ : ∃ j_ : Int, (wrap64 ((l0.length : Int) - a2)) = j_ := ⟨_, rfl⟩
                    replace H : (if 0 ≤ (ji49) then (if (ji49) < (l0.length : Int) then ((spec_l30Match.f a1_0 ((rd_T24 l0 (ji49)).f2)).bind fun t432 => (some t432)) else (none)) else (none)) = some r := by first | (rw [hji49] at H; exact H) | (simp only [hji49] at H ⊢; exact H)
                    have hji49w : (IntKind.i64.wrap ((l0.length : Int) - a2)) = ji49 := (i64_w _).trans hji49
                    by_cases c50 : 0 ≤ (ji49)
                    · rw [if_pos c50] at H
                      have c50b0 : decide (0 ≤ (ji49)) = true := decide_eq_true c50
                      clear c50
                      by_cases c51 : (ji49) < (l0.length : Int)
                      · rw [if_pos c51] at H
                        have c51b0 : decide ((ji49) < (l0.length : Int)) = true := decide_eq_true c51
                        clear c51
                        replace H := Option.bind_eq_some_iff.mp H
                        obtain ⟨t432, A520, H⟩ := H
                        replace H : (some t432) = some r := H
                        have A52 := Aside0.mk A520
                        clear A520
                        obtain rfl := Option.some.inj H
                        have hcz53_0 : wc.cell? ⟨gb422, 0, none⟩ = some (.int .i64 a1_0) := (blk_cell BK422.out 0).trans rfl
                        have hcz53_1 : wc.cell? ⟨gb422, 1, none⟩ = some (.int .i64 a1_1) := (blk_cell BK422.out 1).trans rfl
                        have hcz53_2 : wc.cell? ⟨gb422, 2, none⟩ = some (.int .i64 a1_2) := (blk_cell BK422.out 2).trans rfl
                        have hcz53_3 : wc.cell? ⟨gb422, 3, none⟩ = some (.int .i64 a1_3) := (blk_cell BK422.out 3).trans rfl
                        have hfz53_0 := blk_frozen BK422.out 0
                        have hfz53_1 := blk_frozen BK422.out 1
                        have hfz53_2 := blk_frozen BK422.out 2
                        have hfz53_3 := blk_frozen BK422.out 3
                        have p431 : 0 ≤ ((ji49) : Int) := of_decide_eq_true (by first | (with_reducible assumption) | assumption)
                        have q431 : (ji49) < (l0.length : Int) := of_decide_eq_true (by first | (with_reducible assumption) | assumption)
                        obtain ⟨ad431, e431, hx431_0, hx431_1, hx431_2, hx431_3⟩ := at_T24 HR0.out (ji49) p431 q431
                        cases e431
                        replace hx431_0 := (HB.out.cell (World.block_lt_of_cell? w _ hx431_0)).trans hx431_0
                        replace hx431_1 := (HB.out.cell (World.block_lt_of_cell? w _ hx431_1)).trans hx431_1
                        replace hx431_2 := (HB.out.cell (World.block_lt_of_cell? w _ hx431_2)).trans hx431_2
                        replace hx431_3 := (HB.out.cell (World.block_lt_of_cell? w _ hx431_3)).trans hx431_3
                        replace p431 := eq_true p431
                        replace q431 := eq_true q431
                        go_wp2_with (first | (go_at_call 76; (with_reducible refine (spec_l30Match.calls a1_0 ((rd_T24 l0 (ji49)).f2) t432 _ A52.out).mono ?_); rintro e w' ⟨rfl, ⟨nd, rfl⟩⟩; (try first | exact ⟨rfl, _, World.drewN_drewN _ _ _⟩ | exact ⟨rfl, _, Eq.trans (World.drewN_drewN _ _ _) (congrArg (World.drewN _) (Nat.add_assoc _ _ _))⟩)))
                        repeat (go_quiet (first | (go_at_call 76; (with_reducible refine (spec_l30Match.calls a1_0 ((rd_T24 l0 (ji49)).f2) t432 _ A52.out).mono ?_); rintro e w' ⟨rfl, ⟨nd, rfl⟩⟩; (try first | exact ⟨rfl, _, World.drewN_drewN _ _ _⟩ | exact ⟨rfl, _, Eq.trans (World.drewN_drewN _ _ _) (congrArg (World.drewN _) (Nat.add_assoc _ _ _))⟩))); try go_wp2_with (first | (go_at_call 76; (with_reducible refine (spec_l30Match.calls a1_0 ((rd_T24 l0 (ji49)).f2) t432 _ A52.out).mono ?_); rintro e w' ⟨rfl, ⟨nd, rfl⟩⟩; (try first | exact ⟨rfl, _, World.drewN_drewN _ _ _⟩ | exact ⟨rfl, _, Eq.trans (World.drewN_drewN _ _ _) (congrArg (World.drewN _) (Nat.add_assoc _ _ _))⟩))))
                        go_ret
                        exact ⟨by first | rfl | (simp [errW_none, errW_some] <;> rfl) | (simp only [← hji49]; first | rfl | (simp [errW_none, errW_some] <;> rfl)) | (simp [*, errW_none, errW_some] <;> rfl), by repeat (first | (with_reducible first | exact HB.out | apply below_alloc | apply pw_below_drewN | apply below_drew1 | refine below_set ?_ GE422.out) | exact HB.out)⟩
                      · rw [if_neg c51] at H
                        exact absurd H (by simp)
                    · rw [if_neg c50] at H
                      exact absurd H (by simp)
                  · rw [if_neg c48] at H
                    have c48b0 : decide (0 < (wrap64 ((l0.length : Int) / a2))) = false := decide_eq_false c48
                    clear c48
                    obtain rfl := Option.some.inj H
                    have hcz54_0 : wc.cell? ⟨gb422, 0, none⟩ = some (.int .i64 a1_0) := (blk_cell BK422.out 0).trans rfl
                    have hcz54_1 : wc.cell? ⟨gb422, 1, none⟩ = some (.int .i64 a1_1) := (blk_cell BK422.out 1).trans rfl
                    have hcz54_2 : wc.cell? ⟨gb422, 2, none⟩ = some (.int .i64 a1_2) := (blk_cell BK422.out 2).trans rfl
                    have hcz54_3 : wc.cell? ⟨gb422, 3, none⟩ = some (.int .i64 a1_3) := (blk_cell BK422.out 3).trans rfl
                    have hfz54_0 := blk_frozen BK422.out 0
                    have hfz54_1 := blk_frozen BK422.out 1
                    have hfz54_2 := blk_frozen BK422.out 2
                    have hfz54_3 := blk_frozen BK422.out 3
                    go_wp2
                    repeat (go_quiet (fail); try go_wp2)
                    go_ret
                    exact ⟨by first | rfl | (simp [errW_none, errW_some] <;> rfl) | (simp [*, errW_none, errW_some] <;> rfl), by repeat (first | (with_reducible first | exact HB.out | apply below_alloc | apply pw_below_drewN | apply below_drew1 | refine below_set ?_ GE422.out) | exact HB.out)⟩
            · rw [if_neg c13] at H
              have c13b0 : (a1_3 == 0) = false := beq_eq_false_iff_ne.mpr c13
              have c13b1 : (a1_3 != 0) = true := bne_iff_ne.mpr c13
              obtain rfl := Option.some.inj H
              have hcz55_0 : wc.cell? ⟨gb422, 0, none⟩ = some (.int .i64 a1_0) := (blk_cell BK422.out 0).trans rfl
              have hcz55_1 : wc.cell? ⟨gb422, 1, none⟩ = some (.int .i64 a1_1) := (blk_cell BK422.out 1).trans rfl
              have hcz55_2 : wc.cell? ⟨gb422, 2, none⟩ = some (.int .i64 a1_2) := (blk_cell BK422.out 2).trans rfl
              have hcz55_3 : wc.cell? ⟨gb422, 3, none⟩ = some (.int .i64 a1_3) := (blk_cell BK422.out 3).trans rfl
              have hfz55_0 := blk_frozen BK422.out 0
              have hfz55_1 := blk_frozen BK422.out 1
              have hfz55_2 := blk_frozen BK422.out 2
              have hfz55_3 := blk_frozen BK422.out 3
              go_wp2
              repeat (go_quiet (fail); try go_wp2)
              go_ret
              exact ⟨by first | rfl | (simp [errW_none, errW_some] <;> rfl) | (simp [*, errW_none, errW_some] <;> rfl), by repeat (first | (with_reducible first | exact HB.out | apply below_alloc | apply pw_below_drewN | apply below_drew1 | refine below_set ?_ GE422.out) | exact HB.out)⟩
          · rw [if_neg c12] at H
            have c12b0 : (((l0.length : Int) % a2) == 0) = false := beq_eq_false_iff_ne.mpr c12
            have c12b1 : (((l0.length : Int) % a2) != 0) = true := bne_iff_ne.mpr c12
            by_cases c56 : ((l0.length : Int) % a2) > 0
            · rw [if_pos c56] at H
              have c56b0 : decide (0 < ((l0.length : Int) % a2)) = true := decide_eq_true c56
              clear c56
              obtain ⟨ji57, hji57⟩ : ∃ j_ : Int, (wrap64 ((l0.length : Int) - 1)) = j_ := ⟨_, rfl⟩
              replace H : (if 0 ≤ (ji57) then (if (ji57) < (l0.length : Int) then ((spec_l30Match.f a1_3 ((rd_T24 l0 (ji57)).f1)).bind fun t434 => (if t434 = true then (if (wrap64 ((l0.length : Int) / a2)) = 0 then (if a1_0 = 0 then (some true) else (if (wrap64 ((l0.length : Int) / a2)) > 0 then (if 0 ≤ (wrap64 ((l0.length : Int) - a2)) then (if (wrap64 ((l0.length : Int) - a2)) < (l0.length : Int) then ((spec_l30Match.f a1_0 ((rd_T24 l0 (wrap64 ((l0.length : Int) - a2))).f2)).bind fun t436 => (some t436)) else (none)) else (none)) else (some false))) else (if (wrap64 ((l0.length : Int) / a2)) > 0 then (if 0 ≤ (wrap64 ((l0.length : Int) - a2)) then (if (wrap64 ((l0.length : Int) - a2)) < (l0.length : Int) then ((spec_l30Match.f a1_0 ((rd_T24 l0 (wrap64 ((l0.length : Int) - a2))).f2)).bind fun t438 => (some t438)) else (none)) else (none)) else (some false))) else (some false))) else (none)) else (none)) = some r := by first | (rw [hji57] at H; exact H) | (simp only [hji57] at H ⊢; exact H)
              have hji57w : (IntKind.i64.wrap ((l0.length : Int) - 1)) = ji57 := (i64_w _).trans hji57
              by_cases c58 : 0 ≤ (ji57)
              · rw [if_pos c58] at H
                have c58b0 : decide (0 ≤ (ji57)) = true := decide_eq_true c58
                clear c58
                by_cases c59 : (ji57) < (l0.length : Int)
                · rw [if_pos c59] at H
                  have c59b0 : decide ((ji57) < (l0.length : Int)) = true := decide_eq_true c59
                  clear c59
                  replace H := Option.bind_eq_some_iff.mp H
                  obtain ⟨t434, A600, H⟩ := H
                  replace H : (if t434 = true then (if (wrap64 ((l0.length : Int) / a2)) = 0 then (if a1_0 = 0 then (some true) else (if (wrap64 ((l0.length : Int) / a2)) > 0 then (if 0 ≤ (wrap64 ((l0.length : Int) - a2)) then (if (wrap64 ((l0.length : Int) - a2)) < (l0.length : Int) then ((spec_l30Match.f a1_0 ((rd_T24 l0 (wrap64 ((l0.length : Int) - a2))).f2)).bind fun t436 => (some t436)) else (none)) else (none)) else (some false))) else (if (wrap64 ((l0.length : Int) / a2)) > 0 then (if 0 ≤ (wrap64 ((l0.length : Int) - a2)) then (if (wrap64 ((l0.length : Int) - a2)) < (l0.length : Int) then ((spec_l30Match.f a1_0 ((rd_T24 l0 (wrap64 ((l0.length : Int) - a2))).f2)).bind fun t438 => (some t438)) else (none)) else (none)) else (some false))) else (some false)) = some r := H
                  have A60 := Aside0.mk A600
                  clear A600
                  by_cases c61 : t434 = true
                  · subst c61
                    have H1 : (if (wrap64 ((l0.length : Int) / a2)) = 0 then (if a1_0 = 0 then (some true) else (if (wrap64 ((l0.length : Int) / a2)) > 0 then (if 0 ≤ (wrap64 ((l0.length : Int) - a2)) then (if (wrap64 ((l0.length : Int) - a2)) < (l0.length : Int) then ((spec_l30Match.f a1_0 ((rd_T24 l0 (wrap64 ((l0.length : Int) - a2))).f2)).bind fun t436 => (some t436)) else (none)) else (none)) else (some false))) else (if (wrap64 ((l0.length : Int) / a2)) > 0 then (if 0 ≤ (wrap64 ((l0.length : Int) - a2)) then (if (wrap64 ((l0.length : Int) - a2)) < (l0.length : Int) then ((spec_l30Match.f a1_0 ((rd_T24 l0 (wrap64 ((l0.length : Int) - a2))).f2)).bind fun t438 => (some t438)) else (none)) else (none)) else (some false))) = some r := by rw [if_pos rfl] at H; exact H
                    clear H
                    have H := H1
                    clear H1
                    by_cases c62 : (wrap64 ((l0.length : Int) / a2)) = 0
                    · rw [if_pos c62] at H
                      have c62b0 : ((wrap64 ((l0.length : Int) / a2)) == 0) = true := beq_iff_eq.mpr c62
                      have c62b1 : ((wrap64 ((l0.length : Int) / a2)) != 0) = false := bne_eq_false_iff_eq.mpr c62
                      clear c62
                      by_cases c63 : a1_0 = 0
                      · rw [if_pos c63] at H
                        have c63b0 : (a1_0 == 0) = true := beq_iff_eq.mpr c63
                        have c63b1 : (a1_0 != 0) = false := bne_eq_false_iff_eq.mpr c63
                        clear c63
                        obtain rfl := Option.some.inj H
                        have hcz64_0 : wc.cell? ⟨gb422, 0, none⟩ = some (.int .i64 a1_0) := (blk_cell BK422.out 0).trans rfl
                        have hcz64_1 : wc.cell? ⟨gb422, 1, none⟩ = some (.int .i64 a1_1) := (blk_cell BK422.out 1).trans rfl
                        have hcz64_2 : wc.cell? ⟨gb422, 2, none⟩ = some (.int .i64 a1_2) := (blk_cell BK422.out 2).trans rfl
                        have hcz64_3 : wc.cell? ⟨gb422, 3, none⟩ = some (.int .i64 a1_3) := (blk_cell BK422.out 3).trans rfl
                        have hfz64_0 := blk_frozen BK422.out 0
                        have hfz64_1 := blk_frozen BK422.out 1
                        have hfz64_2 := blk_frozen BK422.out 2
                        have hfz64_3 := blk_frozen BK422.out 3
                        have p433 : 0 ≤ ((ji57) : Int) := of_decide_eq_true (by first | (with_reducible assumption) | assumption)
                        have q433 : (ji57) < (l0.length : Int) := of_decide_eq_true (by first | (with_reducible assumption) | assumption)
                        obtain ⟨ad433, e433, hx433_0, hx433_1, hx433_2, hx433_3⟩ := at_T24 HR0.out (ji57) p433 q433
                        cases e433
                        replace hx433_0 := (HB.out.cell (World.block_lt_of_cell? w _ hx433_0)).trans hx433_0
                        replace hx433_1 := (HB.out.cell (World.block_lt_of_cell? w _ hx433_1)).trans hx433_1
                        replace hx433_2 := (HB.out.cell (World.block_lt_of_cell? w _ hx433_2)).trans hx433_2
                        replace hx433_3 := (HB.out.cell (World.block_lt_of_cell? w _ hx433_3)).trans hx433_3
                        replace p433 := eq_true p433
                        replace q433 := eq_true q433
                        go_wp2_with (first | (go_at_call 76; (with_reducible refine (spec_l30Match.calls a1_3 ((rd_T24 l0 (ji57)).f1) true _ A60.out).mono ?_); rintro e w' ⟨rfl, ⟨nd, rfl⟩⟩; (try first | exact ⟨rfl, _, World.drewN_drewN _ _ _⟩ | exact ⟨rfl, _, Eq.trans (World.drewN_drewN _ _ _) (congrArg (World.drewN _) (Nat.add_assoc _ _ _))⟩)))
                        repeat (go_quiet (first | (go_at_call 76; (with_reducible refine (spec_l30Match.calls a1_3 ((rd_T24 l0 (ji57)).f1) true _ A60.out).mono ?_); rintro e w' ⟨rfl, ⟨nd, rfl⟩⟩; (try first | exact ⟨rfl, _, World.drewN_drewN _ _ _⟩ | exact ⟨rfl, _, Eq.trans (World.drewN_drewN _ _ _) (congrArg (World.drewN _) (Nat.add_assoc _ _ _))⟩))); try go_wp2_with (first | (go_at_call 76; (with_reducible refine (spec_l30Match.calls a1_3 ((rd_T24 l0 (ji57)).f1) true _ A60.out).mono ?_); rintro e w' ⟨rfl, ⟨nd, rfl⟩⟩; (try first | exact ⟨rfl, _, World.drewN_drewN _ _ _⟩ | exact ⟨rfl, _, Eq.trans (World.drewN_drewN _ _ _) (congrArg (World.drewN _) (Nat.add_assoc _ _ _))⟩))))
                        go_ret
                        exact ⟨by first | rfl | (simp [errW_none, errW_some] <;> rfl) | (simp only [← hji57]; first | rfl | (simp [errW_none, errW_some] <;> rfl)) | (simp [*, errW_none, errW_some] <;> rfl), by repeat (first | (with_reducible first | exact HB.out | apply below_alloc | apply pw_below_drewN | apply below_drew1 | refine below_set ?_ GE422.out) | exact HB.out)⟩
                      · rw [if_neg c63] at H
                        have c63b0 : (a1_0 == 0) = false := beq_eq_false_iff_ne.mpr c63
                        have c63b1 : (a1_0 != 0) = true := bne_iff_ne.mpr c63
                        by_cases c65 : (wrap64 ((l0.length : Int) / a2)) > 0
                        · rw [if_pos c65] at H
                          have c65b0 : decide (0 < (wrap64 ((l0.length : Int) / a2))) = true := decide_eq_true c65
                          clear c65
                          obtain ⟨ji66, hji66⟩ : ∃ j_ : Int, (wrap64 ((l0.length : Int) - a2)) = j_ := ⟨_, rfl⟩
                          replace H : (if 0 ≤ (ji66) then (if (ji66) < (l0.length : Int) then ((spec_l30Match.f a1_0 ((rd_T24 l0 (ji66)).f2)).bind fun t436 => (some t436)) else (none)) else (none)) = some r := by first | (rw [hji66] at H; exact H) | (simp only [hji66] at H ⊢; exact H)
                          (try rw [hji66] at A60)
                          have hji66w : (IntKind.i64.wrap ((l0.length : Int) - a2)) = ji66 := (i64_w _).trans hji66
                          by_cases c67 : 0 ≤ (ji66)
                          · rw [if_pos c67] at H
                            have c67b0 : decide (0 ≤ (ji66)) = true := decide_eq_true c67
                            clear c67
                            by_cases c68 : (ji66) < (l0.length : Int)
                            · rw [if_pos c68] at H
                              have c68b0 : decide ((ji66) < (l0.length : Int)) = true := decide_eq_true c68
                              clear c68
                              replace H := Option.bind_eq_some_iff.mp H
                              obtain ⟨t436, A690, H⟩ := H
                              replace H : (some t436) = some r := H
                              have A69 := Aside0.mk A690
                              clear A690
                              obtain rfl := Option.some.inj H
                              have hcz70_0 : wc.cell? ⟨gb422, 0, none⟩ = some (.int .i64 a1_0) := (blk_cell BK422.out 0).trans rfl
                              have hcz70_1 : wc.cell? ⟨gb422, 1, none⟩ = some (.int .i64 a1_1) := (blk_cell BK422.out 1).trans rfl
                              have hcz70_2 : wc.cell? ⟨gb422, 2, none⟩ = some (.int .i64 a1_2) := (blk_cell BK422.out 2).trans rfl
                              have hcz70_3 : wc.cell? ⟨gb422, 3, none⟩ = some (.int .i64 a1_3) := (blk_cell BK422.out 3).trans rfl
                              have hfz70_0 := blk_frozen BK422.out 0
                              have hfz70_1 := blk_frozen BK422.out 1
                              have hfz70_2 := blk_frozen BK422.out 2
                              have hfz70_3 := blk_frozen BK422.out 3
                              have p433 : 0 ≤ ((ji57) : Int) := of_decide_eq_true (by first | (with_reducible assumption) | assumption)
                              have q433 : (ji57) < (l0.length : Int) := of_decide_eq_true (by first | (with_reducible assumption) | assumption)
                              obtain ⟨ad433, e433, hx433_0, hx433_1, hx433_2, hx433_3⟩ := at_T24 HR0.out (ji57) p433 q433
                              cases e433
                              replace hx433_0 := (HB.out.cell (World.block_lt_of_cell? w _ hx433_0)).trans hx433_0
                              replace hx433_1 := (HB.out.cell (World.block_lt_of_cell? w _ hx433_1)).trans hx433_1
                              replace hx433_2 := (HB.out.cell (World.block_lt_of_cell? w _ hx433_2)).trans hx433_2
                              replace hx433_3 := (HB.out.cell (World.block_lt_of_cell? w _ hx433_3)).trans hx433_3
                              replace p433 := eq_true p433
                              replace q433 := eq_true q433
                              go_wp2_with (first | (go_at_call 76; (with_reducible refine (spec_l30Match.calls a1_3 ((rd_T24 l0 (ji57)).f1) true _ A60.out).mono ?_); rintro e w' ⟨rfl, ⟨nd, rfl⟩⟩; (try first | exact ⟨rfl, _, World.drewN_drewN _ _ _⟩ | exact ⟨rfl, _, Eq.trans (World.drewN_drewN _ _ _) (congrArg (World.drewN _) (Nat.add_assoc _ _ _))⟩); have p435 : 0 ≤ ((ji66) : Int) := of_decide_eq_true (by first | (with_reducible assumption) | assumption); have q435 : (ji66) < (l0.length : Int) := of_decide_eq_true (by first | (with_reducible assumption) | assumption); obtain ⟨ad435, e435, hx435_0, hx435_1, hx435_2, hx435_3⟩ := at_T24 HR0.out (ji66) p435 q435; obtain rfl : ad433 = ad435 := (by injection e435); replace hx435_0 := (HB.out.cell (World.block_lt_of_cell? w _ hx435_0)).trans hx435_0; replace hx435_1 := (HB.out.cell (World.block_lt_of_cell? w _ hx435_1)).trans hx435_1; replace hx435_2 := (HB.out.cell (World.block_lt_of_cell? w _ hx435_2)).trans hx435_2; replace hx435_3 := (HB.out.cell (World.block_lt_of_cell? w _ hx435_3)).trans hx435_3; replace p435 := eq_true p435; replace q435 := eq_true q435) | (go_at_call 76; (with_reducible refine (spec_l30Match.calls a1_0 ((rd_T24 l0 (ji66)).f2) t436 _ A69.out).mono ?_); rintro e w' ⟨rfl, ⟨nd, rfl⟩⟩; (try first | exact ⟨rfl, _, World.drewN_drewN _ _ _⟩ | exact ⟨rfl, _, Eq.trans (World.drewN_drewN _ _ _) (congrArg (World.drewN _) (Nat.add_assoc _ _ _))⟩)))
                              repeat (go_quiet (first | (go_at_call 76; (with_reducible refine (spec_l30Match.calls a1_3 ((rd_T24 l0 (ji57)).f1) true _ A60.out).mono ?_); rintro e w' ⟨rfl, ⟨nd, rfl⟩⟩; (try first | exact ⟨rfl, _, World.drewN_drewN _ _ _⟩ | exact ⟨rfl, _, Eq.trans (World.drewN_drewN _ _ _) (congrArg (World.drewN _) (Nat.add_assoc _ _ _))⟩); have p435 : 0 ≤ ((ji66) : Int) := of_decide_eq_true (by first | (with_reducible assumption) | assumption); have q435 : (ji66) < (l0.length : Int) := of_decide_eq_true (by first | (with_reducible assumption) | assumption); obtain ⟨ad435, e435, hx435_0, hx435_1, hx435_2, hx435_3⟩ := at_T24 HR0.out (ji66) p435 q435; obtain rfl : ad433 = ad435 := (by injection e435); replace hx435_0 := (HB.out.cell (World.block_lt_of_cell? w _ hx435_0)).trans hx435_0; replace hx435_1 := (HB.out.cell (World.block_lt_of_cell? w _ hx435_1)).trans hx435_1; replace hx435_2 := (HB.out.cell (World.block_lt_of_cell? w _ hx435_2)).trans hx435_2; replace hx435_3 := (HB.out.cell (World.block_lt_of_cell? w _ hx435_3)).trans hx435_3; replace p435 := eq_true p435; replace q435 := eq_true q435) | (go_at_call 76; (with_reducible refine (spec_l30Match.calls a1_0 ((rd_T24 l0 (ji66)).f2) t436 _ A69.out).mono ?_); rintro e w' ⟨rfl, ⟨nd, rfl⟩⟩; (try first | exact ⟨rfl, _, World.drewN_drewN _ _ _⟩ | exact ⟨rfl, _, Eq.trans (World.drewN_drewN _ _ _) (congrArg (World.drewN _) (Nat.add_assoc _ _ _))⟩))); try go_wp2_with (first | (go_at_call 76; (with_reducible refine (spec_l30Match.calls a1_3 ((rd_T24 l0 (ji57)).f1) true _ A60.out).mono ?_); rintro e w' ⟨rfl, ⟨nd, rfl⟩⟩; (try first | exact ⟨rfl, _, World.drewN_drewN _ _ _⟩ | exact ⟨rfl, _, Eq.trans (World.drewN_drewN _ _ _) (congrArg (World.drewN _) (Nat.add_assoc _ _ _))⟩); have p435 : 0 ≤ ((ji66) : Int) := of_decide_eq_true (by first | (with_reducible assumption) | assumption); have q435 : (ji66) < (l0.length : Int) := of_decide_eq_true (by first | (with_reducible assumption) | assumption); obtain ⟨ad435, e435, hx435_0, hx435_1, hx435_2, hx435_3⟩ := at_T24 HR0.out (ji66) p435 q435; obtain rfl : ad433 = ad435 := (by injection e435); replace hx435_0 := (HB.out.cell (World.block_lt_of_cell? w _ hx435_0)).trans hx435_0; replace hx435_1 := (HB.out.cell (World.block_lt_of_cell? w _ hx435_1)).trans hx435_1; replace hx435_2 := (HB.out.cell (World.block_lt_of_cell? w _ hx435_2)).trans hx435_2; replace hx435_3 := (HB.out.cell (World.block_lt_of_cell? w _ hx435_3)).trans hx435_3; replace p435 := eq_true p435; replace q435 := eq_true q435) | (go_at_call 76; (with_reducible refine (spec_l30Match.calls a1_0 ((rd_T24 l0 (ji66)).f2) t436 _ A69.out).mono ?_); rintro e w' ⟨rfl, ⟨nd, rfl⟩⟩; (try first | exact ⟨rfl, _, World.drewN_drewN _ _ _⟩ | exact ⟨rfl, _, Eq.trans (World.drewN_drewN _ _ _) (congrArg (World.drewN _) (Nat.add_assoc _ _ _))⟩))))
                              go_ret
                              exact ⟨by first | rfl | (simp [errW_none, errW_some] <;> rfl) | (simp only [← hji57, ← hji66]; first | rfl | (simp [errW_none, errW_some] <;> rfl)) | (simp [*, errW_none, errW_some] <;> rfl), by repeat (first | (with_reducible first | exact HB.out | apply below_alloc | apply pw_below_drewN | apply below_drew1 | refine below_set ?_ GE422.out) | exact HB.out)⟩
                            · rw [if_neg c68] at H
                              exact absurd H (by simp)
                          · rw [if_neg c67] at H
                            exact absurd H (by simp)
                        · rw [if_neg c65] at H
                          have c65b0 : decide (0 < (wrap64 ((l0.length : Int) / a2))) = false := decide_eq_false c65
                          clear c65
                          obtain rfl := Option.some.inj H
                          have hcz71_0 : wc.cell? ⟨gb422, 0, none⟩ = some (.int .i64 a1_0) := (blk_cell BK422.out 0).trans rfl
                          have hcz71_1 : wc.cell? ⟨gb422, 1, none⟩ = some (.int .i64 a1_1) := (blk_cell BK422.out 1).trans rfl
                          have hcz71_2 : wc.cell? ⟨gb422, 2, none⟩ = some (.int .i64 a1_2) := (blk_cell BK422.out 2).trans rfl
                          have hcz71_3 : wc.cell? ⟨gb422, 3, none⟩ = some (.int .i64 a1_3) := (blk_cell BK422.out 3).trans rfl
                          have hfz71_0 := blk_frozen BK422.out 0
                          have hfz71_1 := blk_frozen BK422.out 1
                          have hfz71_2 := blk_frozen BK422.out 2
                          have hfz71_3 := blk_frozen BK422.out 3
                          have p433 : 0 ≤ ((ji57) : Int) := of_decide_eq_true (by first | (with_reducible assumption) | assumption)
                          have q433 : (ji57) < (l0.length : Int) := of_decide_eq_true (by first | (with_reducible assumption) | assumption)
                          obtain ⟨ad433, e433, hx433_0, hx433_1, hx433_2, hx433_3⟩ := at_T24 HR0.out (ji57) p433 q433
                          cases e433
                          replace hx433_0 := (HB.out.cell (World.block_lt_of_cell? w _ hx433_0)).trans hx433_0
                          replace hx433_1 := (HB.out.cell (World.block_lt_of_cell? w _ hx433_1)).trans hx433_1
                          replace hx433_2 := (HB.out.cell (World.block_lt_of_cell? w _ hx433_2)).trans hx433_2
                          replace hx433_3 := (HB.out.cell (World.block_lt_of_cell? w _ hx433_3)).trans hx433_3
                          replace p433 := eq_true p433
                          replace q433 := eq_true q433
                          go_wp2_with (first | (go_at_call 76; (with_reducible refine (spec_l30Match.calls a1_3 ((rd_T24 l0 (ji57)).f1) true _ A60.out).mono ?_); rintro e w' ⟨rfl, ⟨nd, rfl⟩⟩; (try first | exact ⟨rfl, _, World.drewN_drewN _ _ _⟩ | exact ⟨rfl, _, Eq.trans (World.drewN_drewN _ _ _) (congrArg (World.drewN _) (Nat.add_assoc _ _ _))⟩)))
                          repeat (go_quiet (first | (go_at_call 76; (with_reducible refine (spec_l30Match.calls a1_3 ((rd_T24 l0 (ji57)).f1) true _ A60.out).mono ?_); rintro e w' ⟨rfl, ⟨nd, rfl⟩⟩; (try first | exact ⟨rfl, _, World.drewN_drewN _ _ _⟩ | exact ⟨rfl, _, Eq.trans (World.drewN_drewN _ _ _) (congrArg (World.drewN _) (Nat.add_assoc _ _ _))⟩))); try go_wp2_with (first | (go_at_call 76; (with_reducible refine (spec_l30Match.calls a1_3 ((rd_T24 l0 (ji57)).f1) true _ A60.out).mono ?_); rintro e w' ⟨rfl, ⟨nd, rfl⟩⟩; (try first | exact ⟨rfl, _, World.drewN_drewN _ _ _⟩ | exact ⟨rfl, _, Eq.trans (World.drewN_drewN _ _ _) (congrArg (World.drewN _) (Nat.add_assoc _ _ _))⟩))))
                          go_ret
                          exact ⟨by first | rfl | (simp [errW_none, errW_some] <;> rfl) | (simp only [← hji57]; first | rfl | (simp [errW_none, errW_some] <;> rfl)) | (simp [*, errW_none, errW_some] <;> rfl), by repeat (first | (with_reducible first | exact HB.out | apply below_alloc | apply pw_below_drewN | apply below_drew1 | refine below_set ?_ GE422.out) | exact HB.out)⟩
                    · rw [if_neg c62] at H
                      have c62b0 : ((wrap64 ((l0.length : Int) / a2)) == 0) = false := beq_eq_false_iff_ne.mpr c62
                      have c62b1 : ((wrap64 ((l0.length : Int) / a2)) != 0) = true := bne_iff_ne.mpr c62
                      by_cases c72 : (wrap64 ((l0.length : Int) / a2)) > 0
                      · rw [if_pos c72] at H
                        have c72b0 : decide (0 < (wrap64 ((l0.length : Int) / a2))) = true := decide_eq_true c72
                        clear c72
                        obtain ⟨ji73, hji73⟩ : ∃ j_ : Int, (wrap64 ((l0.length : Int) - a2)) = j_ := ⟨_, rfl⟩
                        replace H : (if 0 ≤ (ji73) then (if (ji73) < (l0.length : Int) then ((spec_l30Match.f a1_0 ((rd_T24 l0 (ji73)).f2)).bind fun t438 => (some t438)) else (none)) else (none)) = some r := by first | (rw [hji73] at H; exact H) | (simp only [hji73] at H ⊢; exact H)
                        (try rw [hji73] at A60)
                        have hji73w : (IntKind.i64.wrap ((l0.length : Int) - a2)) = ji73 := (i64_w _).trans hji73
                        by_cases c74 : 0 ≤ (ji73)
                        · rw [if_pos c74] at H
                          have c74b0 : decide (0 ≤ (ji73)) = true := decide_eq_true c74
                          clear c74
                          by_cases c75 : (ji73) < (l0.length : Int)
                          · rw [if_pos c75] at H
                            have c75b0 : decide ((ji73) < (l0.length : Int)) = true := decide_eq_true c75
                            clear c75
                            replace H := Option.bind_eq_some_iff.mp H
                            obtain ⟨t438, A760, H⟩ := H
                            replace H : (some t438) = some r := H
                            have A76 := Aside0.mk A760
                            clear A760
                            obtain rfl := Option.some.inj H
                            have hcz77_0 : wc.cell? ⟨gb422, 0, none⟩ = some (.int .i64 a1_0) := (blk_cell BK422.out 0).trans rfl
                            have hcz77_1 : wc.cell? ⟨gb422, 1, none⟩ = some (.int .i64 a1_1) := (blk_cell BK422.out 1).trans rfl
                            have hcz77_2 : wc.cell? ⟨gb422, 2, none⟩ = some (.int .i64 a1_2) := (blk_cell BK422.out 2).trans rfl
                            have hcz77_3 : wc.cell? ⟨gb422, 3, none⟩ = some (.int .i64 a1_3) := (blk_cell BK422.out 3).trans rfl
                            have hfz77_0 := blk_frozen BK422.out 0
                            have hfz77_1 := blk_frozen BK422.out 1
                            have hfz77_2 := blk_frozen BK422.out 2
                            have hfz77_3 := blk_frozen BK422.out 3
                            have p433 : 0 ≤ ((ji57) : Int) := of_decide_eq_true (by first | (with_reducible assumption) | assumption)
                            have q433 : (ji57) < (l0.length : Int) := of_decide_eq_true (by first | (with_reducible assumption) | assumption)
                            obtain ⟨ad433, e433, hx433_0, hx433_1, hx433_2, hx433_3⟩ := at_T24 HR0.out (ji57) p433 q433
                            cases e433
                            replace hx433_0 := (HB.out.cell (World.block_lt_of_cell? w _ hx433_0)).trans hx433_0
                            replace hx433_1 := (HB.out.cell (World.block_lt_of_cell? w _ hx433_1)).trans hx433_1
                            replace hx433_2 := (HB.out.cell (World.block_lt_of_cell? w _ hx433_2)).trans hx433_2
                            replace hx433_3 := (HB.out.cell (World.block_lt_of_cell? w _ hx433_3)).trans hx433_3
                            replace p433 := eq_true p433
                            replace q433 := eq_true q433
                            go_wp2_with (first | (go_at_call 76; (with_reducible refine (spec_l30Match.calls a1_3 ((rd_T24 l0 (ji57)).f1) true _ A60.out).mono ?_); rintro e w' ⟨rfl, ⟨nd, rfl⟩⟩; (try first | exact ⟨rfl, _, World.drewN_drewN _ _ _⟩ | exact ⟨rfl, _, Eq.trans (World.drewN_drewN _ _ _) (congrArg (World.drewN _) (Nat.add_assoc _ _ _))⟩); have p437 : 0 ≤ ((ji73) : Int) := of_decide_eq_true (by first | (with_reducible assumption) | assumption); have q437 : (ji73) < (l0.length : Int) := of_decide_eq_true (by first | (with_reducible assumption) | assumption); obtain ⟨ad437, e437, hx437_0, hx437_1, hx437_2, hx437_3⟩ := at_T24 HR0.out (ji73) p437 q437; obtain rfl : ad433 = ad437 := (by injection e437); replace hx437_0 := (HB.out.cell (World.block_lt_of_cell? w _ hx437_0)).trans hx437_0; replace hx437_1 := (HB.out.cell (World.block_lt_of_cell? w _ hx437_1)).trans hx437_1; replace hx437_2 := (HB.out.cell (World.block_lt_of_cell? w _ hx437_2)).trans hx437_2; replace hx437_3 := (HB.out.cell (World.block_lt_of_cell? w _ hx437_3)).trans hx437_3; replace p437 := eq_true p437; replace q437 := eq_true q437) | (go_at_call 76; (with_reducible refine (spec_l30Match.calls a1_0 ((rd_T24 l0 (ji73)).f2) t438 _ A76.out).mono ?_); rintro e w' ⟨rfl, ⟨nd, rfl⟩⟩; (try first | exact ⟨rfl, _, World.drewN_drewN _ _ _⟩ | exact ⟨rfl, _, Eq.trans (World.drewN_drewN _ _ _) (congrArg (World.drewN _) (Nat.add_assoc _ _ _))⟩)))
                            repeat (go_quiet (first | (go_at_call 76; (with_reducible refine (spec_l30Match.calls a1_3 ((rd_T24 l0 (ji57)).f1) true _ A60.out).mono ?_); rintro e w' ⟨rfl, ⟨nd, rfl⟩⟩; (try first | exact ⟨rfl, _, World.drewN_drewN _ _ _⟩ | exact ⟨rfl, _, Eq.trans (World.drewN_drewN _ _ _) (congrArg (World.drewN _) (Nat.add_assoc _ _ _))⟩); have p437 : 0 ≤ ((ji73) : Int) := of_decide_eq_true (by first | (with_reducible assumption) | assumption); have q437 : (ji73) < (l0.length : Int) := of_decide_eq_true (by first | (with_reducible assumption) | assumption); obtain ⟨ad437, e437, hx437_0, hx437_1, hx437_2, hx437_3⟩ := at_T24 HR0.out (ji73) p437 q437; obtain rfl : ad433 = ad437 := (by injection e437); replace hx437_0 := (HB.out.cell (World.block_lt_of_cell? w _ hx437_0)).trans hx437_0; replace hx437_1 := (HB.out.cell (World.block_lt_of_cell? w _ hx437_1)).trans hx437_1; replace hx437_2 := (HB.out.cell (World.block_lt_of_cell? w _ hx437_2)).trans hx437_2; replace hx437_3 := (HB.out.cell (World.block_lt_of_cell? w _ hx437_3)).trans hx437_3; replace p437 := eq_true p437; replace q437 := eq_true q437) | (go_at_call 76; (with_reducible refine (spec_l30Match.calls a1_0 ((rd_T24 l0 (ji73)).f2) t438 _ A76.out).mono ?_); rintro e w' ⟨rfl, ⟨nd, rfl⟩⟩; (try first | exact ⟨rfl, _, World.drewN_drewN _ _ _⟩ | exact ⟨rfl, _, Eq.trans (World.drewN_drewN _ _ _) (congrArg (World.drewN _) (Nat.add_assoc _ _ _))⟩))); try go_wp2_with (first | (go_at_call 76; (with_reducible refine (spec_l30Match.calls a1_3 ((rd_T24 l0 (ji57)).f1) true _ A60.out).mono ?_); rintro e w' ⟨rfl, ⟨nd, rfl⟩⟩; (try first | exact ⟨rfl, _, World.drewN_drewN _ _ _⟩ | exact ⟨rfl, _, Eq.trans (World.drewN_drewN _ _ _) (congrArg (World.drewN _) (Nat.add_assoc _ _ _))⟩); have p437 : 0 ≤ ((ji73) : Int) := of_decide_eq_true (by first | (with_reducible assumption) | assumption); have q437 : (ji73) < (l0.length : Int) := of_decide_eq_true (by first | (with_reducible assumption) | assumption); obtain ⟨ad437, e437, hx437_0, hx437_1, hx437_2, hx437_3⟩ := at_T24 HR0.out (ji73) p437 q437; obtain rfl : ad433 = ad437 := (by injection e437); replace hx437_0 := (HB.out.cell (World.block_lt_of_cell? w _ hx437_0)).trans hx437_0; replace hx437_1 := (HB.out.cell (World.block_lt_of_cell? w _ hx437_1)).trans hx437_1; replace hx437_2 := (HB.out.cell (World.block_lt_of_cell? w _ hx437_2)).trans hx437_2; replace hx437_3 := (HB.out.cell (World.block_lt_of_cell? w _ hx437_3)).trans hx437_3; replace p437 := eq_true p437; replace q437 := eq_true q437) | (go_at_call 76; (with_reducible refine (spec_l30Match.calls a1_0 ((rd_T24 l0 (ji73)).f2) t438 _ A76.out).mono ?_); rintro e w' ⟨rfl, ⟨nd, rfl⟩⟩; (try first | exact ⟨rfl, _, World.drewN_drewN _ _ _⟩ | exact ⟨rfl, _, Eq.trans (World.drewN_drewN _ _ _) (congrArg (World.drewN _) (Nat.add_assoc _ _ _))⟩))))
                            go_ret
                            exact ⟨by first | rfl | (simp [errW_none, errW_some] <;> rfl) | (simp only [← hji57, ← hji73]; first | rfl | (simp [errW_none, errW_some] <;> rfl)) | (simp [*, errW_none, errW_some] <;> rfl), by repeat (first | (with_reducible first | exact HB.out | apply below_alloc | apply pw_below_drewN | apply below_drew1 | refine below_set ?_ GE422.out) | exact HB.out)⟩
                          · rw [if_neg c75] at H
                            exact absurd H (by simp)
                        · rw [if_neg c74] at H
                          exact absurd H (by simp)
                      · rw [if_neg c72] at H
                        have c72b0 : decide (0 < (wrap64 ((l0.length : Int) / a2))) = false := decide_eq_false c72
                        clear c72
                        obtain rfl := Option.some.inj H
                        have hcz78_0 : wc.cell? ⟨gb422, 0, none⟩ = some (.int .i64 a1_0) := (blk_cell BK422.out 0).trans rfl
                        have hcz78_1 : wc.cell? ⟨gb422, 1, none⟩ = some (.int .i64 a1_1) := (blk_cell BK422.out 1).trans rfl
                        have hcz78_2 : wc.cell? ⟨gb422, 2, none⟩ = some (.int .i64 a1_2) := (blk_cell BK422.out 2).trans rfl
                        have hcz78_3 : wc.cell? ⟨gb422, 3, none⟩ = some (.int .i64 a1_3) := (blk_cell BK422.out 3).trans rfl
                        have hfz78_0 := blk_frozen BK422.out 0
                        have hfz78_1 := blk_frozen BK422.out 1
                        have hfz78_2 := blk_frozen BK422.out 2
                        have hfz78_3 := blk_frozen BK422.out 3
                        have p433 : 0 ≤ ((ji57) : Int) := of_decide_eq_true (by first | (with_reducible assumption) | assumption)
                        have q433 : (ji57) < (l0.length : Int) := of_decide_eq_true (by first | (with_reducible assumption) | assumption)
                        obtain ⟨ad433, e433, hx433_0, hx433_1, hx433_2, hx433_3⟩ := at_T24 HR0.out (ji57) p433 q433
                        cases e433
                        replace hx433_0 := (HB.out.cell (World.block_lt_of_cell? w _ hx433_0)).trans hx433_0
                        replace hx433_1 := (HB.out.cell (World.block_lt_of_cell? w _ hx433_1)).trans hx433_1
                        replace hx433_2 := (HB.out.cell (World.block_lt_of_cell? w _ hx433_2)).trans hx433_2
                        replace hx433_3 := (HB.out.cell (World.block_lt_of_cell? w _ hx433_3)).trans hx433_3
                        replace p433 := eq_true p433
                        replace q433 := eq_true q433
                        go_wp2_with (first | (go_at_call 76; (with_reducible refine (spec_l30Match.calls a1_3 ((rd_T24 l0 (ji57)).f1) true _ A60.out).mono ?_); rintro e w' ⟨rfl, ⟨nd, rfl⟩⟩; (try first | exact ⟨rfl, _, World.drewN_drewN _ _ _⟩ | exact ⟨rfl, _, Eq.trans (World.drewN_drewN _ _ _) (congrArg (World.drewN _) (Nat.add_assoc _ _ _))⟩)))
                        repeat (go_quiet (first | (go_at_call 76; (with_reducible refine (spec_l30Match.calls a1_3 ((rd_T24 l0 (ji57)).f1) true _ A60.out).mono ?_); rintro e w' ⟨rfl, ⟨nd, rfl⟩⟩; (try first | exact ⟨rfl, _, World.drewN_drewN _ _ _⟩ | exact ⟨rfl, _, Eq.trans (World.drewN_drewN _ _ _) (congrArg (World.drewN _) (Nat.add_assoc _ _ _))⟩))); try go_wp2_with (first | (go_at_call 76; (with_reducible refine (spec_l30Match.calls a1_3 ((rd_T24 l0 (ji57)).f1) true _ A60.out).mono ?_); rintro e w' ⟨rfl, ⟨nd, rfl⟩⟩; (try first | exact ⟨rfl, _, World.drewN_drewN _ _ _⟩ | exact ⟨rfl, _, Eq.trans (World.drewN_drewN _ _ _) (congrArg (World.drewN _) (Nat.add_assoc _ _ _))⟩))))
                        go_ret
                        exact ⟨by first | rfl | (simp [errW_none, errW_some] <;> rfl) | (simp only [← hji57]; first | rfl | (simp [errW_none, errW_some] <;> rfl)) | (simp [*, errW_none, errW_some] <;> rfl), by repeat (first | (with_reducible first | exact HB.out | apply below_alloc | apply pw_below_drewN | apply below_drew1 | refine below_set ?_ GE422.out) | exact HB.out)⟩
                  · replace c61 := Bool.eq_false_iff.mpr c61
                    subst c61
                    have H1 : (some false) = some r := by rw [if_neg (show ¬ (false = true) by decide)] at H; exact H
                    clear H
                    have H := H1
                    clear H1
                    obtain rfl := Option.some.inj H
                    have hcz79_0 : wc.cell? ⟨gb422, 0, none⟩ = some (.int .i64 a1_0) := (blk_cell BK422.out 0).trans rfl
                    have hcz79_1 : wc.cell? ⟨gb422, 1, none⟩ = some (.int .i64 a1_1) := (blk_cell BK422.out 1).trans rfl
                    have hcz79_2 : wc.cell? ⟨gb422, 2, none⟩ = some (.int .i64 a1_2) := (blk_cell BK422.out 2).trans rfl
                    have hcz79_3 : wc.cell? ⟨gb422, 3, none⟩ = some (.int .i64 a1_3) := (blk_cell BK422.out 3).trans rfl
                    have hfz79_0 := blk_frozen BK422.out 0
                    have hfz79_1 := blk_frozen BK422.out 1
                    have hfz79_2 := blk_frozen BK422.out 2
                    have hfz79_3 := blk_frozen BK422.out 3
                    have p433 : 0 ≤ ((ji57) : Int) := of_decide_eq_true (by first | (with_reducible assumption) | assumption)
                    have q433 : (ji57) < (l0.length : Int) := of_decide_eq_true (by first | (with_reducible assumption) | assumption)
                    obtain ⟨ad433, e433, hx433_0, hx433_1, hx433_2, hx433_3⟩ := at_T24 HR0.out (ji57) p433 q433
                    cases e433
                    replace hx433_0 := (HB.out.cell (World.block_lt_of_cell? w _ hx433_0)).trans hx433_0
                    replace hx433_1 := (HB.out.cell (World.block_lt_of_cell? w _ hx433_1)).trans hx433_1
                    replace hx433_2 := (HB.out.cell (World.block_lt_of_cell? w _ hx433_2)).trans hx433_2
                    replace hx433_3 := (HB.out.cell (World.block_lt_of_cell? w _ hx433_3)).trans hx433_3
                    replace p433 := eq_true p433
                    replace q433 := eq_true q433
                    go_wp2_with (first | (go_at_call 76; (with_reducible refine (spec_l30Match.calls a1_3 ((rd_T24 l0 (ji57)).f1) false _ A60.out).mono ?_); rintro e w' ⟨rfl, ⟨nd, rfl⟩⟩; (try first | exact ⟨rfl, _, World.drewN_drewN _ _ _⟩ | exact ⟨rfl, _, Eq.trans (World.drewN_drewN _ _ _) (congrArg (World.drewN _) (Nat.add_assoc _ _ _))⟩)))
                    repeat (go_quiet (first | (go_at_call 76; (with_reducible refine (spec_l30Match.calls a1_3 ((rd_T24 l0 (ji57)).f1) false _ A60.out).mono ?_); rintro e w' ⟨rfl, ⟨nd, rfl⟩⟩; (try first | exact ⟨rfl, _, World.drewN_drewN _ _ _⟩ | exact ⟨rfl, _, Eq.trans (World.drewN_drewN _ _ _) (congrArg (World.drewN _) (Nat.add_assoc _ _ _))⟩))); try go_wp2_with (first | (go_at_call 76; (with_reducible refine (spec_l30Match.calls a1_3 ((rd_T24 l0 (ji57)).f1) false _ A60.out).mono ?_); rintro e w' ⟨rfl, ⟨nd, rfl⟩⟩; (try first | exact ⟨rfl, _, World.drewN_drewN _ _ _⟩ | exact ⟨rfl, _, Eq.trans (World.drewN_drewN _ _ _) (congrArg (World.drewN _) (Nat.add_assoc _ _ _))⟩))))
                    go_ret
                    exact ⟨by first | rfl | (simp [errW_none, errW_some] <;> rfl) | (simp only [← hji57]; first | rfl | (simp [errW_none, errW_some] <;> rfl)) | (simp [*, errW_none, errW_some] <;> rfl), by repeat (first | (with_reducible first | exact HB.out | apply below_alloc | apply pw_below_drewN | apply below_drew1 | refine below_set ?_ GE422.out) | exact HB.out)⟩
                · rw [if_neg c59] at H
                  exact absurd H (by simp)
              · rw [if_neg c58] at H
                exact absurd H (by simp)
            · rw [if_neg c56] at H
              have c56b0 : decide (0 < ((l0.length : Int) % a2)) = false := decide_eq_false c56
              clear c56
              by_cases c80 : (wrap64 ((l0.length : Int) / a2)) = 0
              · rw [if_pos c80] at H
                have c80b0 : ((wrap64 ((l0.length : Int) / a2)) == 0) = true := beq_iff_eq.mpr c80
                have c80b1 : ((wrap64 ((l0.length : Int) / a2)) != 0) = false := bne_eq_false_iff_eq.mpr c80
                clear c80
                by_cases c81 : a1_0 = 0
                · rw [if_pos c81] at H
                  have c81b0 : (a1_0 == 0) = true := beq_iff_eq.mpr c81
                  have c81b1 : (a1_0 != 0) = false := bne_eq_false_iff_eq.mpr c81
                  clear c81
                  obtain rfl := Option.some.inj H
                  have hcz82_0 : wc.cell? ⟨gb422, 0, none⟩ = some (.int .i64 a1_0) := (blk_cell BK422.out 0).trans rfl
                  have hcz82_1 : wc.cell? ⟨gb422, 1, none⟩ = some (.int .i64 a1_1) := (blk_cell BK422.out 1).trans rfl
                  have hcz82_2 : wc.cell? ⟨gb422, 2, none⟩ = some (.int .i64 a1_2) := (blk_cell BK422.out 2).trans rfl
                  have hcz82_3 : wc.cell? ⟨gb422, 3, none⟩ = some (.int .i64 a1_3) := (blk_cell BK422.out 3).trans rfl
                  have hfz82_0 := blk_frozen BK422.out 0
                  have hfz82_1 := blk_frozen BK422.out 1
                  have hfz82_2 := blk_frozen BK422.out 2
                  have hfz82_3 := blk_frozen BK422.out 3
                  go_wp2
                  repeat (go_quiet (fail); try go_wp2)
                  go_ret
                  exact ⟨by first | rfl | (simp [errW_none, errW_some] <;> rfl) | (simp [*, errW_none, errW_some] <;> rfl), by repeat (first | (with_reducible first | exact HB.out | apply below_alloc | apply pw_below_drewN | apply below_drew1 | refine below_set ?_ GE422.out) | exact HB.out)⟩
                · rw [if_neg c81] at H
                  have c81b0 : (a1_0 == 0) = false := beq_eq_false_iff_ne.mpr c81
                  have c81b1 : (a1_0 != 0) = true := bne_iff_ne.mpr c81
                  by_cases c83 : (wrap64 ((l0.length : Int) / a2)) > 0
                  · rw [if_pos c83] at H
                    have c83b0 : decide (0 < (wrap64 ((l0.length : Int) / a2))) = true := decide_eq_true c83
                    clear c83
                    obtain ⟨ji84, hji84⟩ : ∃ j_ : Int, (wrap64 ((l0.length : Int) - a2)) = j_ := ⟨_, rfl⟩
                    replace H : (if 0 ≤ (ji84) then (if (ji84) < (l0.length : Int) then ((spec_l30Match.f a1_0 ((rd_T24 l0 (ji84)).f2)).bind fun t440 => (some t440)) else (none)) else (none)) = some r := by first | (rw [hji84] at H; exact H) | (simp only [hji84] at H ⊢; exact H)
                    have hji84w : (IntKind.i64.wrap ((l0.length : Int) - a2)) = ji84 := (i64_w _).trans hji84
                    by_cases c85 : 0 ≤ (ji84)
                    · rw [if_pos c85] at H
                      have c85b0 : decide (0 ≤ (ji84)) = true := decide_eq_true c85
                      clear c85
                      by_cases c86 : (ji84) < (l0.length : Int)
                      · rw [if_pos c86] at H
                        have c86b0 : decide ((ji84) < (l0.length : Int)) = true := decide_eq_true c86
                        clear c86
                        replace H := Option.bind_eq_some_iff.mp H
                        obtain ⟨t440, A870, H⟩ := H
                        replace H : (some t440) = some r := H
                        have A87 := Aside0.mk A870
                        clear A870
                        obtain rfl := Option.some.inj H
                        have hcz88_0 : wc.cell? ⟨gb422, 0, none⟩ = some (.int .i64 a1_0) := (blk_cell BK422.out 0).trans rfl
                        have hcz88_1 : wc.cell? ⟨gb422, 1, none⟩ = some (.int .i64 a1_1) := (blk_cell BK422.out 1).trans rfl
                        have hcz88_2 : wc.cell? ⟨gb422, 2, none⟩ = some (.int .i64 a1_2) := (blk_cell BK422.out 2).trans rfl
                        have hcz88_3 : wc.cell? ⟨gb422, 3, none⟩ = some (.int .i64 a1_3) := (blk_cell BK422.out 3).trans rfl
                        have hfz88_0 := blk_frozen BK422.out 0
                        have hfz88_1 := blk_frozen BK422.out 1
                        have hfz88_2 := blk_frozen BK422.out 2
                        have hfz88_3 := blk_frozen BK422.out 3
                        have p439 : 0 ≤ ((ji84) : Int) := of_decide_eq_true (by first | (with_reducible assumption) | assumption)
                        have q439 : (ji84) < (l0.length : Int) := of_decide_eq_true (by first | (with_reducible assumption) | assumption)
                        obtain ⟨ad439, e439, hx439_0, hx439_1, hx439_2, hx439_3⟩ := at_T24 HR0.out (ji84) p439 q439
                        cases e439
                        replace hx439_0 := (HB.out.cell (World.block_lt_of_cell? w _ hx439_0)).trans hx439_0
                        replace hx439_1 := (HB.out.cell (World.block_lt_of_cell? w _ hx439_1)).trans hx439_1
                        replace hx439_2 := (HB.out.cell (World.block_lt_of_cell? w _ hx439_2)).trans hx439_2
                        replace hx439_3 := (HB.out.cell (World.block_lt_of_cell? w _ hx439_3)).trans hx439_3
                        replace p439 := eq_true p439
                        replace q439 := eq_true q439
                        go_wp2_with (first | (go_at_call 76; (with_reducible refine (spec_l30Match.calls a1_0 ((rd_T24 l0 (ji84)).f2) t440 _ A87.out).mono ?_); rintro e w' ⟨rfl, ⟨nd, rfl⟩⟩; (try first | exact ⟨rfl, _, World.drewN_drewN _ _ _⟩ | exact ⟨rfl, _, Eq.trans (World.drewN_drewN _ _ _) (congrArg (World.drewN _) (Nat.add_assoc _ _ _))⟩)))
                        repeat (go_quiet (first | (go_at_call 76; (with_reducible refine (spec_l30Match.calls a1_0 ((rd_T24 l0 (ji84)).f2) t440 _ A87.out).mono ?_); rintro e w' ⟨rfl, ⟨nd, rfl⟩⟩; (try first | exact ⟨rfl, _, World.drewN_drewN _ _ _⟩ | exact ⟨rfl, _, Eq.trans (World.drewN_drewN _ _ _) (congrArg (World.drewN _) (Nat.add_assoc _ _ _))⟩))); try go_wp2_with (first | (go_at_call 76; (with_reducible refine (spec_l30Match.calls a1_0 ((rd_T24 l0 (ji84)).f2) t440 _ A87.out).mono ?_); rintro e w' ⟨rfl, ⟨nd, rfl⟩⟩; (try first | exact ⟨rfl, _, World.drewN_drewN _ _ _⟩ | exact ⟨rfl, _, Eq.trans (World.drewN_drewN _ _ _) (congrArg (World.drewN _) (Nat.add_assoc _ _ _))⟩))))
                        go_ret
                        exact ⟨by first | rfl | (simp [errW_none, errW_some] <;> rfl) | (simp only [← hji84]; first | rfl | (simp [errW_none, errW_some] <;> rfl)) | (simp [*, errW_none, errW_some] <;> rfl), by repeat (first | (with_reducible first | exact HB.out | apply below_alloc | apply pw_below_drewN | apply below_drew1 | refine below_set ?_ GE422.out) | exact HB.out)⟩
                      · rw [if_neg c86] at H
                        exact absurd H (by simp)
                    · rw [if_neg c85] at H
                      exact absurd H (by simp)
                  · rw [if_neg c83] at H
                    have c83b0 : decide (0 < (wrap64 ((l0.length : Int) / a2))) = false := decide_eq_false c83
                    clear c83
                    obtain rfl := Option.some.inj H
                    have hcz89_0 : wc.cell? ⟨gb422, 0, none⟩ = some (.int .i64 a1_0) := (blk_cell BK422.out 0).trans rfl
                    have hcz89_1 : wc.cell? ⟨gb422, 1, none⟩ = some (.int .i64 a1_1) := (blk_cell BK422.out 1).trans rfl
                    have hcz89_2 : wc.cell? ⟨gb422, 2, none⟩ = some (.int .i64 a1_2) := (blk_cell BK422.out 2).trans rfl
                    have hcz89_3 : wc.cell? ⟨gb422, 3, none⟩ = some (.int .i64 a1_3) := (blk_cell BK422.out 3).trans rfl
                    have hfz89_0 := blk_frozen BK422.out 0
                    have hfz89_1 := blk_frozen BK422.out 1
                    have hfz89_2 := blk_frozen BK422.out 2
                    have hfz89_3 := blk_frozen BK422.out 3
                    go_wp2
                    repeat (go_quiet (fail); try go_wp2)
                    go_ret
                    exact ⟨by first | rfl | (simp [errW_none, errW_some] <;> rfl) | (simp [*, errW_none, errW_some] <;> rfl), by repeat (first | (with_reducible first | exact HB.out | apply below_alloc | apply pw_below_drewN | apply below_drew1 | refine below_set ?_ GE422.out) | exact HB.out)⟩
              · rw [if_neg c80] at H
                have c80b0 : ((wrap64 ((l0.length : Int) / a2)) == 0) = false := beq_eq_false_iff_ne.mpr c80
                have c80b1 : ((wrap64 ((l0.length : Int) / a2)) != 0) = true := bne_iff_ne.mpr c80
                by_cases c90 : (wrap64 ((l0.length : Int) / a2)) > 0
                · rw [if_pos c90] at H
                  have c90b0 : decide (0 < (wrap64 ((l0.length : Int) / a2))) = true := decide_eq_true c90
                  clear c90
                  obtain ⟨ji91, hji91⟩ : ∃ j_ : Int, (wrap64 ((l0.length : Int) - a2)) = j_ := ⟨_, rfl⟩
                  replace H : (if 0 ≤ (ji91) then (if (ji91) < (l0.length : Int) then ((spec_l30Match.f a1_0 ((rd_T24 l0 (ji91)).f2)).bind fun t442 => (some t442)) else (none)) else (none)) = some r := by first | (rw [hji91] at H; exact H) | (simp only [hji91] at H ⊢; exact H)
                  have hji91w : (IntKind.i64.wrap ((l0.length : Int) - a2)) = ji91 := (i64_w _).trans hji91
                  by_cases c92 : 0 ≤ (ji91)
                  · rw [if_pos c92] at H
                    have c92b0 : decide (0 ≤ (ji91)) = true := decide_eq_true c92
                    clear c92
                    by_cases c93 : (ji91) < (l0.length : Int)
                    · rw [if_pos c93] at H
                      have c93b0 : decide ((ji91) < (l0.length : Int)) = true := decide_eq_true c93
                      clear c93
                      replace H := Option.bind_eq_some_iff.mp H
                      obtain ⟨t442, A940, H⟩ := H
                      replace H : (some t442) = some r := H
                      have A94 := Aside0.mk A940
                      clear A940
                      obtain rfl := Option.some.inj H
                      have hcz95_0 : wc.cell? ⟨gb422, 0, none⟩ = some (.int .i64 a1_0) := (blk_cell BK422.out 0).trans rfl
                      have hcz95_1 : wc.cell? ⟨gb422, 1, none⟩ = some (.int .i64 a1_1) := (blk_cell BK422.out 1).trans rfl
                      have hcz95_2 : wc.cell? ⟨gb422, 2, none⟩ = some (.int .i64 a1_2) := (blk_cell BK422.out 2).trans rfl
                      have hcz95_3 : wc.cell? ⟨gb422, 3, none⟩ = some (.int .i64 a1_3) := (blk_cell BK422.out 3).trans rfl
                      have hfz95_0 := blk_frozen BK422.out 0
                      have hfz95_1 := blk_frozen BK422.out 1
                      have hfz95_2 := blk_frozen BK422.out 2
                      have hfz95_3 := blk_frozen BK422.out 3
                      have p441 : 0 ≤ ((ji91) : Int) := of_decide_eq_true (by first | (with_reducible assumption) | assumption)
                      have q441 : (ji91) < (l0.length : Int) := of_decide_eq_true (by first | (with_reducible assumption) | assumption)
                      obtain ⟨ad441, e441, hx441_0, hx441_1, hx441_2, hx441_3⟩ := at_T24 HR0.out (ji91) p441 q441
                      cases e441
                      replace hx441_0 := (HB.out.cell (World.block_lt_of_cell? w _ hx441_0)).trans hx441_0
                      replace hx441_1 := (HB.out.cell (World.block_lt_of_cell? w _ hx441_1)).trans hx441_1
                      replace hx441_2 := (HB.out.cell (World.block_lt_of_cell? w _ hx441_2)).trans hx441_2
                      replace hx441_3 := (HB.out.cell (World.block_lt_of_cell? w _ hx441_3)).trans hx441_3
                      replace p441 := eq_true p441
                      replace q441 := eq_true q441
                      go_wp2_with (first | (go_at_call 76; (with_reducible refine (spec_l30Match.calls a1_0 ((rd_T24 l0 (ji91)).f2) t442 _ A94.out).mono ?_); rintro e w' ⟨rfl, ⟨nd, rfl⟩⟩; (try first | exact ⟨rfl, _, World.drewN_drewN _ _ _⟩ | exact ⟨rfl, _, Eq.trans (World.drewN_drewN _ _ _) (congrArg (World.drewN _) (Nat.add_assoc _ _ _))⟩)))
                      repeat (go_quiet (first | (go_at_call 76; (with_reducible refine (spec_l30Match.calls a1_0 ((rd_T24 l0 (ji91)).f2) t442 _ A94.out).mono ?_); rintro e w' ⟨rfl, ⟨nd, rfl⟩⟩; (try first | exact ⟨rfl, _, World.drewN_drewN _ _ _⟩ | exact ⟨rfl, _, Eq.trans (World.drewN_drewN _ _ _) (congrArg (World.drewN _) (Nat.add_assoc _ _ _))⟩))); try go_wp2_with (first | (go_at_call 76; (with_reducible refine (spec_l30Match.calls a1_0 ((rd_T24 l0 (ji91)).f2) t442 _ A94.out).mono ?_); rintro e w' ⟨rfl, ⟨nd, rfl⟩⟩; (try first | exact ⟨rfl, _, World.drewN_drewN _ _ _⟩ | exact ⟨rfl, _, Eq.trans (World.drewN_drewN _ _ _) (congrArg (World.drewN _) (Nat.add_assoc _ _ _))⟩))))
                      go_ret
                      exact ⟨by first | rfl | (simp [errW_none, errW_some] <;> rfl) | (simp only [← hji91]; first | rfl | (simp [errW_none, errW_some] <;> rfl)) | (simp [*, errW_none, errW_some] <;> rfl), by repeat (first | (with_reducible first | exact HB.out | apply below_alloc | apply pw_below_drewN | apply below_drew1 | refine below_set ?_ GE422.out) | exact HB.out)⟩
                    · rw [if_neg c93] at H
                      exact absurd H (by simp)
                  · rw [if_neg c92] at H
                    exact absurd H (by simp)
                · rw [if_neg c90] at H
                  have c90b0 : decide (0 < (wrap64 ((l0.length : Int) / a2))) = false := decide_eq_false c90
                  clear c90
                  obtain rfl := Option.some.inj H
                  go_wp2
                  repeat (go_quiet (fail); try go_wp2)
                  go_ret
                  exact ⟨by first | rfl | (simp [errW_none, errW_some] <;> rfl) | (simp [*, errW_none, errW_some] <;> rfl), by repeat (first | (with_reducible first | exact HB.out | apply below_alloc | apply pw_below_drewN | apply below_drew1 | refine below_set ?_ GE422.out) | exact HB.out)⟩

end Go.Proofs.Ytgcagmmghckbbaa.A

