/- What the row of the law FnExactCountLayouts stands on, part 2. -/
import Derived.Test.YtgcagmmghckbbaaMFnExactCountLayouts1
namespace Go.Proofs.Ytgcagmmghckbbaa.A
open Go.RowKit Go.Proofs.YtgcagmmghckbbaaW.PrintWords Go.Proofs.YtgcagmmghckbbaaW.PrintLast Go.Proofs.YtgcagmmghckbbaaW.PrintMore
attribute [local go_sem] max2_int min2_int max_two min_two max_three min_three max_four min_four   -- for this text's walks alone
set_option linter.unusedVariables false
set_option linter.unusedSimpArgs false

def spec_l30Fits.j0 : Nat → List (S24) → Int → Int → Int → Int → Bool → Int → Int → Int → Int → Option (Bool)
  | 0, _, _, _, _, _, _, _, _, _, _ => none
  | k + 1, x0, x2, x9, x10, x11, x37, x462000, x462001, x462002, x462003 => if x37 = true then (some false) else (if x10 = 0 then (if x462003 = 0 then (if x10 > 0 then (if 0 ≤ (wrap64 (x9 - 1)) then (if (wrap64 (x9 - 1)) < (x0.length : Int) then ((spec_l30Match.f x462003 ((rd_T24 x0 (wrap64 (x9 - 1))).f1)).bind fun t463 => (if t463 = true then (if x11 = 0 then (if x462000 = 0 then (some true) else (if x11 > 0 then (if 0 ≤ (wrap64 (x9 - x2)) then (if (wrap64 (x9 - x2)) < (x0.length : Int) then ((spec_l30Match.f x462000 ((rd_T24 x0 (wrap64 (x9 - x2))).f2)).bind fun t465 => (some t465)) else (none)) else (none)) else (some false))) else (if x11 > 0 then (if 0 ≤ (wrap64 (x9 - x2)) then (if (wrap64 (x9 - x2)) < (x0.length : Int) then ((spec_l30Match.f x462000 ((rd_T24 x0 (wrap64 (x9 - x2))).f2)).bind fun t467 => (some t467)) else (none)) else (none)) else (some false))) else (some false))) else (none)) else (none)) else (if x11 = 0 then (if x462000 = 0 then (some true) else (if x11 > 0 then (if 0 ≤ (wrap64 (x9 - x2)) then (if (wrap64 (x9 - x2)) < (x0.length : Int) then ((spec_l30Match.f x462000 ((rd_T24 x0 (wrap64 (x9 - x2))).f2)).bind fun t469 => (some t469)) else (none)) else (none)) else (some false))) else (if x11 > 0 then (if 0 ≤ (wrap64 (x9 - x2)) then (if (wrap64 (x9 - x2)) < (x0.length : Int) then ((spec_l30Match.f x462000 ((rd_T24 x0 (wrap64 (x9 - x2))).f2)).bind fun t471 => (some t471)) else (none)) else (none)) else (some false)))) else (some false)) else (if x10 > 0 then (if 0 ≤ (wrap64 (x9 - 1)) then (if (wrap64 (x9 - 1)) < (x0.length : Int) then ((spec_l30Match.f x462003 ((rd_T24 x0 (wrap64 (x9 - 1))).f1)).bind fun t473 => (if t473 = true then (if x11 = 0 then (if x462000 = 0 then (some true) else (if x11 > 0 then (if 0 ≤ (wrap64 (x9 - x2)) then (if (wrap64 (x9 - x2)) < (x0.length : Int) then ((spec_l30Match.f x462000 ((rd_T24 x0 (wrap64 (x9 - x2))).f2)).bind fun t475 => (some t475)) else (none)) else (none)) else (some false))) else (if x11 > 0 then (if 0 ≤ (wrap64 (x9 - x2)) then (if (wrap64 (x9 - x2)) < (x0.length : Int) then ((spec_l30Match.f x462000 ((rd_T24 x0 (wrap64 (x9 - x2))).f2)).bind fun t477 => (some t477)) else (none)) else (none)) else (some false))) else (some false))) else (none)) else (none)) else (if x11 = 0 then (if x462000 = 0 then (some true) else (if x11 > 0 then (if 0 ≤ (wrap64 (x9 - x2)) then (if (wrap64 (x9 - x2)) < (x0.length : Int) then ((spec_l30Match.f x462000 ((rd_T24 x0 (wrap64 (x9 - x2))).f2)).bind fun t479 => (some t479)) else (none)) else (none)) else (some false))) else (if x11 > 0 then (if 0 ≤ (wrap64 (x9 - x2)) then (if (wrap64 (x9 - x2)) < (x0.length : Int) then ((spec_l30Match.f x462000 ((rd_T24 x0 (wrap64 (x9 - x2))).f2)).bind fun t481 => (some t481)) else (none)) else (none)) else (some false)))))
def spec_l30Fits.f (k : Nat) (l0 : List (S24)) (a1_0 : Int) (a1_1 : Int) (a1_2 : Int) (a1_3 : Int) (a2 : Int) (a3 : Int) : Option (Bool) := if a2 = 0 then (none) else (if ((a1_1 == 0) != (((l0.length : Int) % a2) == (wrap64 (a2 - 1)))) = true then (spec_l30Fits.j0 k l0 a2 (l0.length : Int) ((l0.length : Int) % a2) (wrap64 ((l0.length : Int) / a2)) true a1_0 a1_1 a1_2 a1_3) else (spec_l30Fits.j0 k l0 a2 (l0.length : Int) ((l0.length : Int) % a2) (wrap64 ((l0.length : Int) / a2)) ((a1_2 == 0) != ((wrap64 ((l0.length : Int) / a2)) == (wrap64 (a3 - 1)))) a1_0 a1_1 a1_2 a1_3))
set_option maxHeartbeats 8000000 in
set_option maxRecDepth 100000 in
theorem spec_l30Fits.calls (k : Nat) (A0 : Option Addr) (c0 : Nat) (l0 : List (S24)) (a1_0 : Int) (a1_1 : Int) (a1_2 : Int) (a1_3 : Int) (a2 : Int) (a3 : Int) (r : Bool) (w : World) (hr0 : Kd.C k24 w A0 l0.length l0) (hc0 : l0.length ≤ c0) (h : spec_l30Fits.f k l0 a1_0 a1_1 a1_2 a1_3 a2 a3 = some r) :
    Calls Try.prog 61 #[.slice A0 l0.length c0, .agg #[.int .i64 a1_0, .int .i64 a1_1, .int .i64 a1_2, .int .i64 a1_3], .int .i64 a2, .int .i64 a3] w fun e w' => e = .returned (.bool r) ∧ Below w.heap.size w w' := by
  have hu24 := Try.underlying24
  have HR0 := Aside0.mk hr0
  have HC0 := Aside0.mk hc0
  clear hr0 hc0
  have HB := Aside0.mk (Below.refl w.heap.size w)
  have H : (if a2 = 0 then (none) else (if ((a1_1 == 0) != (((l0.length : Int) % a2) == (wrap64 (a2 - 1)))) = true then (spec_l30Fits.j0 k l0 a2 (l0.length : Int) ((l0.length : Int) % a2) (wrap64 ((l0.length : Int) / a2)) true a1_0 a1_1 a1_2 a1_3) else (spec_l30Fits.j0 k l0 a2 (l0.length : Int) ((l0.length : Int) % a2) (wrap64 ((l0.length : Int) / a2)) ((a1_2 == 0) != ((wrap64 ((l0.length : Int) / a2)) == (wrap64 (a3 - 1)))) a1_0 a1_1 a1_2 a1_3))) = some r := h
  clear h
  by_cases c5 : a2 = 0
  · rw [if_pos c5] at H
    exact absurd H (by simp)
  · rw [if_neg c5] at H
    have c5b0 : (a2 == 0) = false := beq_eq_false_iff_ne.mpr c5
    have c5b1 : (a2 != 0) = true := bne_iff_ne.mpr c5
    have HC6 := Aside0.mk H
    clear H
    go_enter Try.func61, Try.ntmps61
    go_upto_region 3 with (first | ((with_reducible refine gate_dst (N := 5) rfl ?_); refine box_event ?hg (N := 5) ?hd (cs := #[.int .i64 a1_0, .int .i64 a1_1, .int .i64 a1_2, .int .i64 a1_3]) (t := 24) ?hr ?_; (case hd => rfl); (case hg => rfl); (case hr => first | (go_simp; done) | (go_simp; rfl)); intro gb461 hg w7 hbox hb; have n0_ := Aside0.mk (below_step (by repeat (first | (with_reducible first | exact HB.out | apply below_alloc | apply pw_below_drewN | apply below_drew1) | exact HB.out)) hb); have n1_ := Aside0.mk (hbox); have n2_ := Aside0.mk ((by rw [hg]; exact (below_size (by repeat (first | (with_reducible first | exact HB.out | apply below_alloc | apply pw_below_drewN | apply below_drew1) | exact HB.out))) : w.heap.size ≤ gb461)); have n3_ := Aside0.mk ((by rw [hg]; exact (below_size (by repeat (first | (with_reducible first | exact HB.out | apply below_alloc | apply pw_below_drewN | apply below_drew1) | exact HB.out))) : w.heap.size ≤ gb461)); clear HB; have HB := n0_; have BK461 := n1_; have GW461 := n2_; have GE461 := n3_; clear n0_ n1_ n2_ n3_; clear hb hbox hg))
    repeat (go_quiet (first | ((with_reducible refine gate_dst (N := 5) rfl ?_); refine box_event ?hg (N := 5) ?hd (cs := #[.int .i64 a1_0, .int .i64 a1_1, .int .i64 a1_2, .int .i64 a1_3]) (t := 24) ?hr ?_; (case hd => rfl); (case hg => rfl); (case hr => first | (go_simp; done) | (go_simp; rfl)); intro gb461 hg w7 hbox hb; have n0_ := Aside0.mk (below_step (by repeat (first | (with_reducible first | exact HB.out | apply below_alloc | apply pw_below_drewN | apply below_drew1) | exact HB.out)) hb); have n1_ := Aside0.mk (hbox); have n2_ := Aside0.mk ((by rw [hg]; exact (below_size (by repeat (first | (with_reducible first | exact HB.out | apply below_alloc | apply pw_below_drewN | apply below_drew1) | exact HB.out))) : w.heap.size ≤ gb461)); have n3_ := Aside0.mk ((by rw [hg]; exact (below_size (by repeat (first | (with_reducible first | exact HB.out | apply below_alloc | apply pw_below_drewN | apply below_drew1) | exact HB.out))) : w.heap.size ≤ gb461)); clear HB; have HB := n0_; have BK461 := n1_; have GW461 := n2_; have GE461 := n3_; clear n0_ n1_ n2_ n3_; clear hb hbox hg)); go_upto_region 3 with (first | ((with_reducible refine gate_dst (N := 5) rfl ?_); refine box_event ?hg (N := 5) ?hd (cs := #[.int .i64 a1_0, .int .i64 a1_1, .int .i64 a1_2, .int .i64 a1_3]) (t := 24) ?hr ?_; (case hd => rfl); (case hg => rfl); (case hr => first | (go_simp; done) | (go_simp; rfl)); intro gb461 hg w7 hbox hb; have n0_ := Aside0.mk (below_step (by repeat (first | (with_reducible first | exact HB.out | apply below_alloc | apply pw_below_drewN | apply below_drew1) | exact HB.out)) hb); have n1_ := Aside0.mk (hbox); have n2_ := Aside0.mk ((by rw [hg]; exact (below_size (by repeat (first | (with_reducible first | exact HB.out | apply below_alloc | apply pw_below_drewN | apply below_drew1) | exact HB.out))) : w.heap.size ≤ gb461)); have n3_ := Aside0.mk ((by rw [hg]; exact (below_size (by repeat (first | (with_reducible first | exact HB.out | apply below_alloc | apply pw_below_drewN | apply below_drew1) | exact HB.out))) : w.heap.size ≤ gb461)); clear HB; have HB := n0_; have BK461 := n1_; have GW461 := n2_; have GE461 := n3_; clear n0_ n1_ n2_ n3_; clear hb hbox hg)))
    (try simp only [Act.put, List.setIfInBounds_toArray, List.set_cons_zero, List.set_cons_succ])
    go_cut [37] (fun v37 wc => ∃ (kq : Nat) (x37_5 : Bool), v37 = .bool x37_5 ∧ Aside0 (spec_l30Fits.j0 kq l0 a2 (l0.length : Int) ((l0.length : Int) % a2) (wrap64 ((l0.length : Int) / a2)) x37_5 a1_0 a1_1 a1_2 a1_3 = some r) ∧ Aside0 (kq ≤ k) ∧ Aside0 (wc.heap[gb461]? = some (.cells #[.int .i64 a1_0, .int .i64 a1_1, .int .i64 a1_2, .int .i64 a1_3] 24 (0, 0))) ∧ Aside0 (Below w.heap.size w wc))
    case first =>
      have H := HC6.out
      clear HC6
      by_cases c8 : ((a1_1 == 0) != (((l0.length : Int) % a2) == (wrap64 (a2 - 1)))) = true
      · rw [if_pos c8] at H
        have c8b0 : ((a1_1 == 0) != (((l0.length : Int) % a2) == (wrap64 (a2 - 1)))) = true := c8
        (try (have c8b1 : decide ((a1_1 == 0) = (((l0.length : Int) % a2) == (wrap64 (a2 - 1)))) = false := by simpa using c8))
        (try (have c8b2 : ((a1_1 == 0) == (((l0.length : Int) % a2) == (wrap64 (a2 - 1)))) = false := by simpa using c8))
        (try (have c8b3 : ¬ ((a1_1 == 0) = (((l0.length : Int) % a2) == (wrap64 (a2 - 1)))) := by simpa using c8))
        clear c8
        (first | rw [c8b0] | (simp only [i64_w, i32_w]; rw [c8b0]) | skip)
        have H' := Aside0.mk H
        clear H
        have hcz9_0 : w7.cell? ⟨gb461, 0, none⟩ = some (.int .i64 a1_0) := (blk_cell BK461.out 0).trans rfl
        have hcz9_1 : w7.cell? ⟨gb461, 1, none⟩ = some (.int .i64 a1_1) := (blk_cell BK461.out 1).trans rfl
        have hcz9_2 : w7.cell? ⟨gb461, 2, none⟩ = some (.int .i64 a1_2) := (blk_cell BK461.out 2).trans rfl
        have hcz9_3 : w7.cell? ⟨gb461, 3, none⟩ = some (.int .i64 a1_3) := (blk_cell BK461.out 3).trans rfl
        have hfz9_0 := blk_frozen BK461.out 0
        have hfz9_1 := blk_frozen BK461.out 1
        have hfz9_2 := blk_frozen BK461.out 2
        have hfz9_3 := blk_frozen BK461.out 3
        go_wp2
        repeat (go_quiet (fail); try go_wp2)
        go_meet
        case rel => exact ⟨_, (true), (by first | rfl | (simp; done) | (simp [*]; done)), H', ⟨by first | omega | exact Nat.le_refl _⟩, ⟨by (with_reducible repeat (first | refine blk_drewN ?_ _ | refine blk_drew ?_ | refine blk_alloc ?_ _)); exact BK461.out⟩, ⟨by repeat (first | (with_reducible first | exact HB.out | apply below_alloc | apply pw_below_drewN | apply below_drew1 | refine below_set ?_ GE461.out) | exact HB.out)⟩⟩
      · rw [if_neg c8] at H
        have c8b0 : ((a1_1 == 0) != (((l0.length : Int) % a2) == (wrap64 (a2 - 1)))) = false := by simpa using c8
        (try (have c8b1 : decide ((a1_1 == 0) = (((l0.length : Int) % a2) == (wrap64 (a2 - 1)))) = true := by simpa using c8))
        (try (have c8b2 : ((a1_1 == 0) == (((l0.length : Int) % a2) == (wrap64 (a2 - 1)))) = true := by simpa using c8))
        clear c8
        (first | rw [c8b0] | (simp only [i64_w, i32_w]; rw [c8b0]) | skip)
        have H' := Aside0.mk H
        clear H
        have hcz10_0 : w7.cell? ⟨gb461, 0, none⟩ = some (.int .i64 a1_0) := (blk_cell BK461.out 0).trans rfl
        have hcz10_1 : w7.cell? ⟨gb461, 1, none⟩ = some (.int .i64 a1_1) := (blk_cell BK461.out 1).trans rfl
        have hcz10_2 : w7.cell? ⟨gb461, 2, none⟩ = some (.int .i64 a1_2) := (blk_cell BK461.out 2).trans rfl
        have hcz10_3 : w7.cell? ⟨gb461, 3, none⟩ = some (.int .i64 a1_3) := (blk_cell BK461.out 3).trans rfl
        have hfz10_0 := blk_frozen BK461.out 0
        have hfz10_1 := blk_frozen BK461.out 1
        have hfz10_2 := blk_frozen BK461.out 2
        have hfz10_3 := blk_frozen BK461.out 3
        go_wp2
        repeat (go_quiet (fail); try go_wp2)
        go_meet
        case rel => exact ⟨_, (((a1_2 == 0) != ((wrap64 ((l0.length : Int) / a2)) == (wrap64 (a3 - 1))))), (by first | rfl | (simp; done) | (simp [*]; done)), H', ⟨by first | omega | exact Nat.le_refl _⟩, ⟨by (with_reducible repeat (first | refine blk_drewN ?_ _ | refine blk_drew ?_ | refine blk_alloc ?_ _)); exact BK461.out⟩, ⟨by repeat (first | (with_reducible first | exact HB.out | apply below_alloc | apply pw_below_drewN | apply below_drew1 | refine below_set ?_ GE461.out) | exact HB.out)⟩⟩
    case rest =>
      clear HC6
      try clear p2
      try clear c5
      try clear c5b0
      try clear c5b1
      try clear c6
      try clear p6
      try clear c8
      try clear c8b0
      try clear c8b1
      try clear c8b2
      try clear hcz10_0
      try clear hcz10_1
      try clear hcz10_2
      try clear hcz10_3
      try clear hcz9_0
      try clear hcz9_1
      try clear hcz9_2
      try clear hcz9_3
      try clear hfz10_0
      try clear hfz10_1
      try clear hfz10_2
      try clear hfz10_3
      try clear hfz9_0
      try clear hfz9_1
      try clear hfz9_2
      try clear hfz9_3
      obtain ⟨kq, x37_5, rfl, HA, HJ5, BK461, HB⟩ := hcut
      cases kq with
      | zero => exact absurd HA.out (by simp [spec_l30Fits.j0])
      | succ kj5 =>
        have H := HA.out
        clear HA
        simp only [spec_l30Fits.j0] at H
        by_cases c11 : x37_5 = true
        · subst c11
          have H1 : (some false) = some r := by rw [if_pos rfl] at H; exact H
          clear H
          have H := H1
          clear H1
          obtain rfl := Option.some.inj H
          go_wp2
          repeat (go_quiet (fail); try go_wp2)
          go_ret
          exact ⟨by first | rfl | (simp [errW_none, errW_some] <;> rfl) | (simp [*, errW_none, errW_some] <;> rfl), by repeat (first | (with_reducible first | exact HB.out | apply below_alloc | apply pw_below_drewN | apply below_drew1 | refine below_set ?_ GE461.out) | exact HB.out)⟩
        · replace c11 := Bool.eq_false_iff.mpr c11
          subst c11
          have H1 : (if ((l0.length : Int) % a2) = 0 then (if a1_3 = 0 then (if ((l0.length : Int) % a2) > 0 then (if 0 ≤ (wrap64 ((l0.length : Int) - 1)) then (if (wrap64 ((l0.length : Int) - 1)) < (l0.length : Int) then ((spec_l30Match.f a1_3 ((rd_T24 l0 (wrap64 ((l0.length : Int) - 1))).f1)).bind fun t463 => (if t463 = true then (if (wrap64 ((l0.length : Int) / a2)) = 0 then (if a1_0 = 0 then (some true) else (if (wrap64 ((l0.length : Int) / a2)) > 0 then (if 0 ≤ (wrap64 ((l0.length : Int) - a2)) then (if (wrap64 ((l0.length : Int) - a2)) < (l0.length : Int) then ((spec_l30Match.f a1_0 ((rd_T24 l0 (wrap64 ((l0.length : Int) - a2))).f2)).bind fun t465 => (some t465)) else (none)) else (none)) else (some false))) else (if (wrap64 ((l0.length : Int) / a2)) > 0 then (if 0 ≤ (wrap64 ((l0.length : Int) - a2)) then (if (wrap64 ((l0.length : Int) - a2)) < (l0.length : Int) then ((spec_l30Match.f a1_0 ((rd_T24 l0 (wrap64 ((l0.length : Int) - a2))).f2)).bind fun t467 => (some t467)) else (none)) else (none)) else (some false))) else (some false))) else (none)) else (none)) else (if (wrap64 ((l0.length : Int) / a2)) = 0 then (if a1_0 = 0 then (some true) else (if (wrap64 ((l0.length : Int) / a2)) > 0 then (if 0 ≤ (wrap64 ((l0.length : Int) - a2)) then (if (wrap64 ((l0.length : Int) - a2)) < (l0.length : Int) then ((spec_l30Match.f a1_0 ((rd_T24 l0 (wrap64 ((l0.length : Int) - a2))).f2)).bind fun t469 => (some t469)) else (none)) else (none)) else (some false))) else (if (wrap64 ((l0.length : Int) / a2)) > 0 then (if 0 ≤ (wrap64 ((l0.length : Int) - a2)) then (if (wrap64 ((l0.length : Int) - a2)) < (l0.length : Int) then ((spec_l30Match.f a1_0 ((rd_T24 l0 (wrap64 ((l0.length : Int) - a2))).f2)).bind fun t471 => (some t471)) else (none)) else (none)) else (some false)))) else (some false)) else (if ((l0.length : Int) % a2) > 0 then (if 0 ≤ (wrap64 ((l0.length : Int) - 1)) then (if (wrap64 ((l0.length : Int) - 1)) < (l0.length : Int) then ((spec_l30Match.f a1_3 ((rd_T24 l0 (wrap64 ((l0.length : Int) - 1))).f1)).bind fun t473 => (if t473 = true then (if (wrap64 ((l0.length : Int) / a2)) = 0 then (if a1_0 = 0 then (some true) else (if (wrap64 ((l0.length : Int) / a2)) > 0 then (if 0 ≤ (wrap64 ((l0.length : Int) - a2)) then (if (wrap64 ((l0.length : Int) - a2)) < (l0.length : Int) then ((spec_l30Match.f a1_0 ((rd_T24 l0 (wrap64 ((l0.length : Int) - a2))).f2)).bind fun t475 => (some t475)) else (none)) else (none)) else (some false))) else (if (wrap64 ((l0.length : Int) / a2)) > 0 then (if 0 ≤ (wrap64 ((l0.length : Int) - a2)) then (if (wrap64 ((l0.length : Int) - a2)) < (l0.length : Int) then ((spec_l30Match.f a1_0 ((rd_T24 l0 (wrap64 ((l0.length : Int) - a2))).f2)).bind fun t477 => (some t477)) else (none)) else (none)) else (some false))) else (some false))) else (none)) else (none)) else (if (wrap64 ((l0.length : Int) / a2)) = 0 then (if a1_0 = 0 then (some true) else (if (wrap64 ((l0.length : Int) / a2)) > 0 then (if 0 ≤ (wrap64 ((l0.length : Int) - a2)) then (if (wrap64 ((l0.length : Int) - a2)) < (l0.length : Int) then ((spec_l30Match.f a1_0 ((rd_T24 l0 (wrap64 ((l0.length : Int) - a2))).f2)).bind fun t479 => (some t479)) else (none)) else (none)) else (some false))) else (if (wrap64 ((l0.length : Int) / a2)) > 0 then (if 0 ≤ (wrap64 ((l0.length : Int) - a2)) then (if (wrap64 ((l0.length : Int) - a2)) < (l0.length : Int) then ((spec_l30Match.f a1_0 ((rd_T24 l0 (wrap64 ((l0.length : Int) - a2))).f2)).bind fun t481 => (some t481)) else (none)) else (none)) else (some false))))) = some r := by rw [if_neg (show ¬ (false = true) by decide)] at H; exact H
          clear H
          have H := H1
          clear H1
          by_cases c12 : ((l0.length : Int) % a2) = 0
          · rw [if_pos c12] at H
            have c12b0 : (((l0.length : Int) % a2) == 0) = true := beq_iff_eq.mpr c12
            have c12b1 : (((l0.length : Int) % a2) != 0) = false := bne_eq_false_iff_eq.mpr c12
            clear c12
            by_cases c13 : a1_3 = 0
            · rw [if_pos c13] at H
              have c13b0 : (a1_3 == 0) = true := beq_iff_eq.mpr c13
              have c13b1 : (a1_3 != 0) = false := bne_eq_false_iff_eq.mpr c13
              clear c13
              by_cases c14 : ((l0.length : Int) % a2) > 0
              · rw [if_pos c14] at H
                have c14b0 : decide (0 < ((l0.length : Int) % a2)) = true := decide_eq_true c14
                clear c14
                obtain ⟨ji15, hji15⟩ : ∃ j_ : Int, (wrap64 ((l0.length : Int) - 1)) = j_ := ⟨_, rfl⟩
                replace H : (if 0 ≤ (ji15) then (if (ji15) < (l0.length : Int) then ((spec_l30Match.f a1_3 ((rd_T24 l0 (ji15)).f1)).bind fun t463 => (if t463 = true then (if (wrap64 ((l0.length : Int) / a2)) = 0 then (if a1_0 = 0 then (some true) else (if (wrap64 ((l0.length : Int) / a2)) > 0 then (if 0 ≤ (wrap64 ((l0.length : Int) - a2)) then (if (wrap64 ((l0.length : Int) - a2)) < (l0.length : Int) then ((spec_l30Match.f a1_0 ((rd_T24 l0 (wrap64 ((l0.length : Int) - a2))).f2)).bind fun t465 => (some t465)) else (none)) else (none)) else (some false))) else (if (wrap64 ((l0.length : Int) / a2)) > 0 then (if 0 ≤ (wrap64 ((l0.length : Int) - a2)) then (if (wrap64 ((l0.length : Int) - a2)) < (l0.length : Int) then ((spec_l30Match.f a1_0 ((rd_T24 l0 (wrap64 ((l0.length : Int) - a2))).f2)).bind fun t467 => (some t467)) else (none)) else (none)) else (some false))) else (some false))) else (none)) else (none)) = some r := by first | (rw [hji15] at H; exact H) | (simp only [hji15] at H ⊢; exact H)
                have hji15w : (IntKind.i64.wrap ((l0.length : Int) - 1)) = ji15 := (i64_w _).trans hji15
                by_cases c16 : 0 ≤ (ji15)
                · rw [if_pos c16] at H
                  have c16b0 : decide (0 ≤ (ji15)) = true := decide_eq_true c16
                  clear c16
                  by_cases c17 : (ji15) < (l0.length : Int)
                  · rw [if_pos c17] at H
                    have c17b0 : decide ((ji15) < (l0.length : Int)) = true := decide_eq_true c17
                    clear c17
                    replace H := Option.bind_eq_some_iff.mp H
                    obtain ⟨t463, A180, H⟩ := H
                    replace H : (if t463 = true then (if (wrap64 ((l0.length : Int) / a2)) = 0 then (if a1_0 = 0 then (some true) else (if (wrap64 ((l0.length : Int) / a2)) > 0 then (if 0 ≤ (wrap64 ((l0.length : Int) - a2)) then (if (wrap64 ((l0.length : Int) - a2)) < (l0.length : Int) then ((spec_l30Match.f a1_0 ((rd_T24 l0 (wrap64 ((l0.length : Int) - a2))).f2)).bind fun t465 => (some t465)) else (none)) else (none)) else (some false))) else (if (wrap64 ((l0.length : Int) / a2)) > 0 then (if 0 ≤ (wrap64 ((l0.length : Int) - a2)) then (if (wrap64 ((l0.length : Int) - a2)) < (l0.length : Int) then ((spec_l30Match.f a1_0 ((rd_T24 l0 (wrap64 ((l0.length : Int) - a2))).f2)).bind fun t467 => (some t467)) else (none)) else (none)) else (some false))) else (some false)) = some r := H
                    have A18 := Aside0.mk A180
                    clear A180
                    by_cases c19 : t463 = true
                    · subst c19
                      have H1 : (if (wrap64 ((l0.length : Int) / a2)) = 0 then (if a1_0 = 0 then (some true) else (if (wrap64 ((l0.length : Int) / a2)) > 0 then (if 0 ≤ (wrap64 ((l0.length : Int) - a2)) then (if (wrap64 ((l0.length : Int) - a2)) < (l0.length : Int) then ((spec_l30Match.f a1_0 ((rd_T24 l0 (wrap64 ((l0.length : Int) - a2))).f2)).bind fun t465 => (some t465)) else (none)) else (none)) else (some false))) else (if (wrap64 ((l0.length : Int) / a2)) > 0 then (if 0 ≤ (wrap64 ((l0.length : Int) - a2)) then (if (wrap64 ((l0.length : Int) - a2)) < (l0.length : Int) then ((spec_l30Match.f a1_0 ((rd_T24 l0 (wrap64 ((l0.length : Int) - a2))).f2)).bind fun t467 => (some t467)) else (none)) else (none)) else (some false))) = some r := by rw [if_pos rfl] at H; exact H
                      clear H
                      have H := H1
                      clear H1
                      by_cases c20 : (wrap64 ((l0.length : Int) / a2)) = 0
                      · rw [if_pos c20] at H
                        have c20b0 : ((wrap64 ((l0.length : Int) / a2)) == 0) = true := beq_iff_eq.mpr c20
                        have c20b1 : ((wrap64 ((l0.length : Int) / a2)) != 0) = false := bne_eq_false_iff_eq.mpr c20
                        clear c20
                        by_cases c21 : a1_0 = 0
                        · rw [if_pos c21] at H
                          have c21b0 : (a1_0 == 0) = true := beq_iff_eq.mpr c21
                          have c21b1 : (a1_0 != 0) = false := bne_eq_false_iff_eq.mpr c21
                          clear c21
                          obtain rfl := Option.some.inj H
                          have hcz22_0 : wc.cell? ⟨gb461, 0, none⟩ = some (.int .i64 a1_0) := (blk_cell BK461.out 0).trans rfl
                          have hcz22_1 : wc.cell? ⟨gb461, 1, none⟩ = some (.int .i64 a1_1) := (blk_cell BK461.out 1).trans rfl
                          have hcz22_2 : wc.cell? ⟨gb461, 2, none⟩ = some (.int .i64 a1_2) := (blk_cell BK461.out 2).trans rfl
                          have hcz22_3 : wc.cell? ⟨gb461, 3, none⟩ = some (.int .i64 a1_3) := (blk_cell BK461.out 3).trans rfl
                          have hfz22_0 := blk_frozen BK461.out 0
                          have hfz22_1 := blk_frozen BK461.out 1
                          have hfz22_2 := blk_frozen BK461.out 2
                          have hfz22_3 := blk_frozen BK461.out 3
                          have p462 : 0 ≤ ((ji15) : Int) := of_decide_eq_true (by first | (with_reducible assumption) | assumption)
                          have q462 : (ji15) < (l0.length : Int) := of_decide_eq_true (by first | (with_reducible assumption) | assumption)
                          obtain ⟨ad462, e462, hx462_0, hx462_1, hx462_2, hx462_3⟩ := at_T24 HR0.out (ji15) p462 q462
                          cases e462
                          replace hx462_0 := (HB.out.cell (World.block_lt_of_cell? w _ hx462_0)).trans hx462_0
                          replace hx462_1 := (HB.out.cell (World.block_lt_of_cell? w _ hx462_1)).trans hx462_1
                          replace hx462_2 := (HB.out.cell (World.block_lt_of_cell? w _ hx462_2)).trans hx462_2
                          replace hx462_3 := (HB.out.cell (World.block_lt_of_cell? w _ hx462_3)).trans hx462_3
                          replace p462 := eq_true p462
                          replace q462 := eq_true q462
                          go_wp2_with (first | (go_at_call 76; (with_reducible refine (spec_l30Match.calls a1_3 ((rd_T24 l0 (ji15)).f1) true _ A18.out).mono ?_); rintro e w' ⟨rfl, ⟨nd, rfl⟩⟩; (try first | exact ⟨rfl, _, World.drewN_drewN _ _ _⟩ | exact ⟨rfl, _, Eq.trans (World.drewN_drewN _ _ _) (congrArg (World.drewN _) (Nat.add_assoc _ _ _))⟩)))
                          repeat (go_quiet (first | (go_at_call 76; (with_reducible refine (spec_l30Match.calls a1_3 ((rd_T24 l0 (ji15)).f1) true _ A18.out).mono ?_); rintro e w' ⟨rfl, ⟨nd, rfl⟩⟩; (try first | exact ⟨rfl, _, World.drewN_drewN _ _ _⟩ | exact ⟨rfl, _, Eq.trans (World.drewN_drewN _ _ _) (congrArg (World.drewN _) (Nat.add_assoc _ _ _))⟩))); try go_wp2_with (first | (go_at_call 76; (with_reducible refine (spec_l30Match.calls a1_3 ((rd_T24 l0 (ji15)).f1) true _ A18.out).mono ?_); rintro e w' ⟨rfl, ⟨nd, rfl⟩⟩; (try first | exact ⟨rfl, _, World.drewN_drewN _ _ _⟩ | exact ⟨rfl, _, Eq.trans (World.drewN_drewN _ _ _) (congrArg (World.drewN _) (Nat.add_assoc _ _ _))⟩))))
                          go_ret
                          exact ⟨by first | rfl | (simp [errW_none, errW_some] <;> rfl) | (simp only [← hji15]; first | rfl | (simp [errW_none, errW_some] <;> rfl)) | (simp [*, errW_none, errW_some] <;> rfl), by repeat (first | (with_reducible first | exact HB.out | apply below_alloc | apply pw_below_drewN | apply below_drew1 | refine below_set ?_ GE461.out) | exact HB.out)⟩
                        · rw [if_neg c21] at H
                          have c21b0 : (a1_0 == 0) = false := beq_eq_false_iff_ne.mpr c21
                          have c21b1 : (a1_0 != 0) = true := bne_iff_ne.mpr c21
                          by_cases c23 : (wrap64 ((l0.length : Int) / a2)) > 0
                          · rw [if_pos c23] at H
                            have c23b0 : decide (0 < (wrap64 ((l0.length : Int) / a2))) = true := decide_eq_true c23
                            clear c23
                            obtain ⟨ji24, hji24⟩ : ∃ j_ : Int, (wrap64 ((l0.length : Int) - a2)) = j_ := ⟨_, rfl⟩
                            replace H : (if 0 ≤ (ji24) then (if (ji24) < (l0.length : Int) then ((spec_l30Match.f a1_0 ((rd_T24 l0 (ji24)).f2)).bind fun t465 => (some t465)) else (none)) else (none)) = some r := by first | (rw [hji24] at H; exact H) | (simp only [hji24] at H ⊢; exact H)
                            (try rw [hji24] at A18)
                            have hji24w : (IntKind.i64.wrap ((l0.length : Int) - a2)) = ji24 := (i64_w _).trans hji24
                            by_cases c25 : 0 ≤ (ji24)
                            · rw [if_pos c25] at H
                              have c25b0 : decide (0 ≤ (ji24)) = true := decide_eq_true c25
                              clear c25
                              by_cases c26 : (ji24) < (l0.length : Int)
                              · rw [if_pos c26] at H
                                have c26b0 : decide ((ji24) < (l0.length : Int)) = true := decide_eq_true c26
                                clear c26
                                replace H := Option.bind_eq_some_iff.mp H
                                obtain ⟨t465, A270, H⟩ := H
                                replace H : (some t465) = some r := H
                                have A27 := Aside0.mk A270
                                clear A270
                                obtain rfl := Option.some.inj H
                                have hcz28_0 : wc.cell? ⟨gb461, 0, none⟩ = some (.int .i64 a1_0) := (blk_cell BK461.out 0).trans rfl
                                have hcz28_1 : wc.cell? ⟨gb461, 1, none⟩ = some (.int .i64 a1_1) := (blk_cell BK461.out 1).trans rfl
                                have hcz28_2 : wc.cell? ⟨gb461, 2, none⟩ = some (.int .i64 a1_2) := (blk_cell BK461.out 2).trans rfl
                                have hcz28_3 : wc.cell? ⟨gb461, 3, none⟩ = some (.int .i64 a1_3) := (blk_cell BK461.out 3).trans rfl
                                have hfz28_0 := blk_frozen BK461.out 0
                                have hfz28_1 := blk_frozen BK461.out 1
                                have hfz28_2 := blk_frozen BK461.out 2
                                have hfz28_3 := blk_frozen BK461.out 3
                                have p462 : 0 ≤ ((ji15) : Int) := of_decide_eq_true (by first | (with_reducible assumption) | assumption)
                                have q462 : (ji15) < (l0.length : Int) := of_decide_eq_true (by first | (with_reducible assumption) | assumption)
                                obtain ⟨ad462, e462, hx462_0, hx462_1, hx462_2, hx462_3⟩ := at_T24 HR0.out (ji15) p462 q462
                                cases e462
                                replace hx462_0 := (HB.out.cell (World.block_lt_of_cell? w _ hx462_0)).trans hx462_0
                                replace hx462_1 := (HB.out.cell (World.block_lt_of_cell? w _ hx462_1)).trans hx462_1
                                replace hx462_2 := (HB.out.cell (World.block_lt_of_cell? w _ hx462_2)).trans hx462_2
                                replace hx462_3 := (HB.out.cell (World.block_lt_of_cell? w _ hx462_3)).trans hx462_3
                                replace p462 := eq_true p462
                                replace q462 := eq_true q462
                                go_wp2_with (first | (go_at_call 76; (with_reducible refine (spec_l30Match.calls a1_3 ((rd_T24 l0 (ji15)).f1) true _ A18.out).mono ?_); rintro e w' ⟨rfl, ⟨nd, rfl⟩⟩; (try first | exact ⟨rfl, _, World.drewN_drewN _ _ _⟩ | exact ⟨rfl, _, Eq.trans (World.drewN_drewN _ _ _) (congrArg (World.drewN _) (Nat.add_assoc _ _ _))⟩); have p464 : 0 ≤ ((ji24) : Int) := of_decide_eq_true (by first | (with_reducible assumption) | assumption); have q464 : (ji24) < (l0.length : Int) := of_decide_eq_true (by first | (with_reducible assumption) | assumption); obtain ⟨ad464, e464, hx464_0, hx464_1, hx464_2, hx464_3⟩ := at_T24 HR0.out (ji24) p464 q464; obtain rfl : ad462 = ad464 := (by injection e464); replace hx464_0 := (HB.out.cell (World.block_lt_of_cell? w _ hx464_0)).trans hx464_0; replace hx464_1 := (HB.out.cell (World.block_lt_of_cell? w _ hx464_1)).trans hx464_1; replace hx464_2 := (HB.out.cell (World.block_lt_of_cell? w _ hx464_2)).trans hx464_2; replace hx464_3 := (HB.out.cell (World.block_lt_of_cell? w _ hx464_3)).trans hx464_3; replace p464 := eq_true p464; replace q464 := eq_true q464) | (go_at_call 76; (with_reducible refine (spec_l30Match.calls a1_0 ((rd_T24 l0 (ji24)).f2) t465 _ A27.out).mono ?_); rintro e w' ⟨rfl, ⟨nd, rfl⟩⟩; (try first | exact ⟨rfl, _, World.drewN_drewN _ _ _⟩ | exact ⟨rfl, _, Eq.trans (World.drewN_drewN _ _ _) (congrArg (World.drewN _) (Nat.add_assoc _ _ _))⟩)))
                                repeat (go_quiet (first | (go_at_call 76; (with_reducible refine (spec_l30Match.calls a1_3 ((rd_T24 l0 (ji15)).f1) true _ A18.out).mono ?_); rintro e w' ⟨rfl, ⟨nd, rfl⟩⟩; (try first | exact ⟨rfl, _, World.drewN_drewN _ _ _⟩ | exact ⟨rfl, _, Eq.trans (World.drewN_drewN _ _ _) (congrArg (World.drewN _) (Nat.add_assoc _ _ _))⟩); have p464 : 0 ≤ ((ji24) : Int) := of_decide_eq_true (by first | (with_reducible assumption) | assumption); have q464 : (ji24) < (l0.length : Int) := of_decide_eq_true (by first | (with_reducible assumption) | assumption); obtain ⟨ad464, e464, hx464_0, hx464_1, hx464_2, hx464_3⟩ := at_T24 HR0.out (ji24) p464 q464; obtain rfl : ad462 = ad464 := (by injection e464); replace hx464_0 := (HB.out.cell (World.block_lt_of_cell? w _ hx464_0)).trans hx464_0; replace hx464_1 := (HB.out.cell (World.block_lt_of_cell? w _ hx464_1)).trans hx464_1; replace hx464_2 := (HB.out.cell (World.block_lt_of_cell? w _ hx464_2)).trans hx464_2; replace hx464_3 := (HB.out.cell (World.block_lt_of_cell? w _ hx464_3)).trans hx464_3; replace p464 := eq_true p464; replace q464 := eq_true q464) | (go_at_call 76; (with_reducible refine (spec_l30Match.calls a1_0 ((rd_T24 l0 (ji24)).f2) t465 _ A27.out).mono ?_); rintro e w' ⟨rfl, ⟨nd, rfl⟩⟩; (try first | exact ⟨rfl, _, World.drewN_drewN _ _ _⟩ | exact ⟨rfl, _, Eq.trans (World.drewN_drewN _ _ _) (congrArg (World.drewN _) (Nat.add_assoc _ _ _))⟩))); try go_wp2_with (first | (go_at_call 76; (with_reducible refine (spec_l30Match.calls a1_3 ((rd_T24 l0 (ji15)).f1) true _ A18.out).mono ?_); rintro e w' ⟨rfl, ⟨nd, rfl⟩⟩; (try first | exact ⟨rfl, _, World.drewN_drewN _ _ _⟩ | exact ⟨rfl, _, Eq.trans (World.drewN_drewN _ _ _) (congrArg (World.drewN _) (Nat.add_assoc _ _ _))⟩); have p464 : 0 ≤ ((ji24) : Int) := of_decide_eq_true (by first | (with_reducible assumption) | assumption); have q464 : (ji24) < (l0.length : Int) := of_decide_eq_true (by first | (with_reducible assumption) | assumption); obtain ⟨ad464, e464, hx464_0, hx464_1, hx464_2, hx464_3⟩ := at_T24 HR0.out (ji24) p464 q464; obtain rfl : ad462 = ad464 := (by injection e464); replace hx464_0 := (HB.out.cell (World.block_lt_of_cell? w _ hx464_0)).trans hx464_0; replace hx464_1 := (HB.out.cell (World.block_lt_of_cell? w _ hx464_1)).trans hx464_1; replace hx464_2 := (HB.out.cell (World.block_lt_of_cell? w _ hx464_2)).trans hx464_2; replace hx464_3 := (HB.out.cell (World.block_lt_of_cell? w _ hx464_3)).trans hx464_3; replace p464 := eq_true p464; replace q464 := eq_true q464) | (go_at_call 76; (with_reducible refine (spec_l30Match.calls a1_0 ((rd_T24 l0 (ji24)).f2) t465 _ A27.out).mono ?_); rintro e w' ⟨rfl, ⟨nd, rfl⟩⟩; (try first | exact ⟨rfl, _, World.drewN_drewN _ _ _⟩ | exact ⟨rfl, _, Eq.trans (World.drewN_drewN _ _ _) (congrArg (World.drewN _) (Nat.add_assoc _ _ _))⟩))))
                                go_ret
                                exact ⟨by first | rfl | (simp [errW_none, errW_some] <;> rfl) | (simp only [← hji15, ← hji24]; first | rfl | (simp [errW_none, errW_some] <;> rfl)) | (simp [*, errW_none, errW_some] <;> rfl), by repeat (first | (with_reducible first | exact HB.out | apply below_alloc | apply pw_below_drewN | apply below_drew1 | refine below_set ?_ GE461.out) | exact HB.out)⟩
                              · rw [if_neg c26] at H
                                exact absurd H (by simp)
                            · rw [if_neg c25] at H
                              exact absurd H (by simp)
                          · rw [if_neg c23] at H
                            have c23b0 : decide (0 < (wrap64 ((l0.length : Int) / a2))) = false := decide_eq_false c23
                            clear c23
                            obtain rfl := Option.some.inj H
                            have hcz29_0 : wc.cell? ⟨gb461, 0, none⟩ = some (.int .i64 a1_0) := (blk_cell BK461.out 0).trans rfl
                            have hcz29_1 : wc.cell? ⟨gb461, 1, none⟩ = some (.int .i64 a1_1) := (blk_cell BK461.out 1).trans rfl
                            have hcz29_2 : wc.cell? ⟨gb461, 2, none⟩ = some (.int .i64 a1_2) := (blk_cell BK461.out 2).trans rfl
                            have hcz29_3 : wc.cell? ⟨gb461, 3, none⟩ = some (.int .i64 a1_3) := (blk_cell BK461.out 3).trans rfl
                            have hfz29_0 := blk_frozen BK461.out 0
                            have hfz29_1 := blk_frozen BK461.out 1
                            have hfz29_2 := blk_frozen BK461.out 2
                            have hfz29_3 := blk_frozen BK461.out 3
                            have p462 : 0 ≤ ((ji15) : Int) := of_decide_eq_true (by first | (with_reducible assumption) | assumption)
                            have q462 : (ji15) < (l0.length : Int) := of_decide_eq_true (by first | (with_reducible assumption) | assumption)
                            obtain ⟨ad462, e462, hx462_0, hx462_1, hx462_2, hx462_3⟩ := at_T24 HR0.out (ji15) p462 q462
                            cases e462
                            replace hx462_0 := (HB.out.cell (World.block_lt_of_cell? w _ hx462_0)).trans hx462_0
                            replace hx462_1 := (HB.out.cell (World.block_lt_of_cell? w _ hx462_1)).trans hx462_1
                            replace hx462_2 := (HB.out.cell (World.block_lt_of_cell? w _ hx462_2)).trans hx462_2
                            replace hx462_3 := (HB.out.cell (World.block_lt_of_cell? w _ hx462_3)).trans hx462_3
                            replace p462 := eq_true p462
                            replace q462 := eq_true q462
                            go_wp2_with (first | (go_at_call 76; (with_reducible refine (spec_l30Match.calls a1_3 ((rd_T24 l0 (ji15)).f1) true _ A18.out).mono ?_); rintro e w' ⟨rfl, ⟨nd, rfl⟩⟩; (try first | exact ⟨rfl, _, World.drewN_drewN _ _ _⟩ | exact ⟨rfl, _, Eq.trans (World.drewN_drewN _ _ _) (congrArg (World.drewN _) (Nat.add_assoc _ _ _))⟩)))
                            repeat (go_quiet (first | (go_at_call 76; (with_reducible refine (spec_l30Match.calls a1_3 ((rd_T24 l0 (ji15)).f1) true _ A18.out).mono ?_); rintro e w' ⟨rfl, ⟨nd, rfl⟩⟩; (try first | exact ⟨rfl, _, World.drewN_drewN _ _ _⟩ | exact ⟨rfl, _, Eq.trans (World.drewN_drewN _ _ _) (congrArg (World.drewN _) (Nat.add_assoc _ _ _))⟩))); try go_wp2_with (first | (go_at_call 76; (with_reducible refine (spec_l30Match.calls a1_3 ((rd_T24 l0 (ji15)).f1) true _ A18.out).mono ?_); rintro e w' ⟨rfl, ⟨nd, rfl⟩⟩; (try first | exact ⟨rfl, _, World.drewN_drewN _ _ _⟩ | exact ⟨rfl, _, Eq.trans (World.drewN_drewN _ _ _) (congrArg (World.drewN _) (Nat.add_assoc _ _ _))⟩))))
                            go_ret
                            exact ⟨by first | rfl | (simp [errW_none, errW_some] <;> rfl) | (simp only [← hji15]; first | rfl | (simp [errW_none, errW_some] <;> rfl)) | (simp [*, errW_none, errW_some] <;> rfl), by repeat (first | (with_reducible first | exact HB.out | apply below_alloc | apply pw_below_drewN | apply below_drew1 | refine below_set ?_ GE461.out) | exact HB.out)⟩
                      · rw [if_neg c20] at H
                        have c20b0 : ((wrap64 ((l0.length : Int) / a2)) == 0) = false := beq_eq_false_iff_ne.mpr c20
                        have c20b1 : ((wrap64 ((l0.length : Int) / a2)) != 0) = true := bne_iff_ne.mpr c20
                        by_cases c30 : (wrap64 ((l0.length : Int) / a2)) > 0
                        · rw [if_pos c30] at H
                          have c30b0 : decide (0 < (wrap64 ((l0.length : Int) / a2))) = true := decide_eq_true c30
                          clear c30
                          obtain ⟨ji31, hji31⟩ : ∃ j_ : Int, (wrap64 ((l0.length : Int) - a2)) = j_ := ⟨_, rfl⟩
                          replace H : (if 0 ≤ (ji31) then (if (ji31) < (l0.length : Int) then ((spec_l30Match.f a1_0 ((rd_T24 l0 (ji31)).f2)).bind fun t467 => (some t467)) else (none)) else (none)) = some r := by first | (rw [hji31] at H; exact H) | (simp only [hji31] at H ⊢; exact H)
                          (try rw [hji31] at A18)
                          have hji31w : (IntKind.i64.wrap ((l0.length : Int) - a2)) = ji31 := (i64_w _).trans hji31
                          by_cases c32 : 0 ≤ (ji31)
                          · rw [if_pos c32] at H
                            have c32b0 : decide (0 ≤ (ji31)) = true := decide_eq_true c32
                            clear c32
                            by_cases c33 : (ji31) < (l0.length : Int)
                            · rw [if_pos c33] at H
                              have c33b0 : decide ((ji31) < (l0.length : Int)) = true := decide_eq_true c33
                              clear c33
                              replace H := Option.bind_eq_some_iff.mp H
                              obtain ⟨t467, A340, H⟩ := H
                              replace H : (some t467) = some r := H
                              have A34 := Aside0.mk A340
                              clear A340
                              obtain rfl := Option.some.inj H
                              have hcz35_0 : wc.cell? ⟨gb461, 0, none⟩ = some (.int .i64 a1_0) := (blk_cell BK461.out 0).trans rfl
                              have hcz35_1 : wc.cell? ⟨gb461, 1, none⟩ = some (.int .i64 a1_1) := (blk_cell BK461.out 1).trans rfl
                              have hcz35_2 : wc.cell? ⟨gb461, 2, none⟩ = some (.int .i64 a1_2) := (blk_cell BK461.out 2).trans rfl
                              have hcz35_3 : wc.cell? ⟨gb461, 3, none⟩ = some (.int .i64 a1_3) := (blk_cell BK461.out 3).trans rfl
                              have hfz35_0 := blk_frozen BK461.out 0
                              have hfz35_1 := blk_frozen BK461.out 1
                              have hfz35_2 := blk_frozen BK461.out 2
                              have hfz35_3 := blk_frozen BK461.out 3
                              have p462 : 0 ≤ ((ji15) : Int) := of_decide_eq_true (by first | (with_reducible assumption) | assumption)
                              have q462 : (ji15) < (l0.length : Int) := of_decide_eq_true (by first | (with_reducible assumption) | assumption)
                              obtain ⟨ad462, e462, hx462_0, hx462_1, hx462_2, hx462_3⟩ := at_T24 HR0.out (ji15) p462 q462
                              cases e462
                              replace hx462_0 := (HB.out.cell (World.block_lt_of_cell? w _ hx462_0)).trans hx462_0
                              replace hx462_1 := (HB.out.cell (World.block_lt_of_cell? w _ hx462_1)).trans hx462_1
                              replace hx462_2 := (HB.out.cell (World.block_lt_of_cell? w _ hx462_2)).trans hx462_2
                              replace hx462_3 := (HB.out.cell (World.block_lt_of_cell? w _ hx462_3)).trans hx462_3
                              replace p462 := eq_true p462
                              replace q462 := eq_true q462
                              go_wp2_with (first | (go_at_call 76; (with_reducible refine (spec_l30Match.calls a1_3 ((rd_T24 l0 (ji15)).f1) true _ A18.out).mono ?_); rintro e w' ⟨rfl, ⟨nd, rfl⟩⟩; (try first | exact ⟨rfl, _, World.drewN_drewN _ _ _⟩ | exact ⟨rfl, _, Eq.trans (World.drewN_drewN _ _ _) (congrArg (World.drewN _) (Nat.add_assoc _ _ _))⟩); have p466 : 0 ≤ ((ji31) : Int) := of_decide_eq_true (by first | (with_reducible assumption) | assumption); have q466 : (ji31) < (l0.length : Int) := of_decide_eq_true (by first | (with_reducible assumption) | assumption); obtain ⟨ad466, e466, hx466_0, hx466_1, hx466_2, hx466_3⟩ := at_T24 HR0.out (ji31) p466 q466; obtain rfl : ad462 = ad466 := (by injection e466); replace hx466_0 := (HB.out.cell (World.block_lt_of_cell? w _ hx466_0)).trans hx466_0; replace hx466_1 := (HB.out.cell (World.block_lt_of_cell? w _ hx466_1)).trans hx466_1; replace hx466_2 := (HB.out.cell (World.block_lt_of_cell? w _ hx466_2)).trans hx466_2; replace hx466_3 := (HB.out.cell (World.block_lt_of_cell? w _ hx466_3)).trans hx466_3; replace p466 := eq_true p466; replace q466 := eq_true q466) | (go_at_call 76; (with_reducible refine (spec_l30Match.calls a1_0 ((rd_T24 l0 (ji31)).f2) t467 _ A34.out).mono ?_); rintro e w' ⟨rfl, ⟨nd, rfl⟩⟩; (try first | exact ⟨rfl, _, World.drewN_drewN _ _ _⟩ | exact ⟨rfl, _, Eq.trans (World.drewN_drewN _ _ _) (congrArg (World.drewN _) (Nat.add_assoc _ _ _))⟩)))
                              repeat (go_quiet (first | (go_at_call 76; (with_reducible refine (spec_l30Match.calls a1_3 ((rd_T24 l0 (ji15)).f1) true _ A18.out).mono ?_); rintro e w' ⟨rfl, ⟨nd, rfl⟩⟩; (try first | exact ⟨rfl, _, World.drewN_drewN _ _ _⟩ | exact ⟨rfl, _, Eq.trans (World.drewN_drewN _ _ _) (congrArg (World.drewN _) (Nat.add_assoc _ _ _))⟩); have p466 : 0 ≤ ((ji31) : Int) := of_decide_eq_true (by first | (with_reducible assumption) | assumption); have q466 : (ji31) < (l0.length : Int) := of_decide_eq_true (by first | (with_reducible assumption) | assumption); obtain ⟨ad466, e466, hx466_0, hx466_1, hx466_2, hx466_3⟩ := at_T24 HR0.out (ji31) p466 q466; obtain rfl : ad462 = ad466 := (by injection e466); replace hx466_0 := (HB.out.cell (World.block_lt_of_cell? w _ hx466_0)).trans hx466_0; replace hx466_1 := (HB.out.cell (World.block_lt_of_cell? w _ hx466_1)).trans hx466_1; replace hx466_2 := (HB.out.cell (World.block_lt_of_cell? w _ hx466_2)).trans hx466_2; replace hx466_3 := (HB.out.cell (World.block_lt_of_cell? w _ hx466_3)).trans hx466_3; replace p466 := eq_true p466; replace q466 := eq_true q466) | (go_at_call 76; (with_reducible refine (spec_l30Match.calls a1_0 ((rd_T24 l0 (ji31)).f2) t467 _ A34.out).mono ?_); rintro e w' ⟨rfl, ⟨nd, rfl⟩⟩; (try first | exact ⟨rfl, _, World.drewN_drewN _ _ _⟩ | exact ⟨rfl, _, Eq.trans (World.drewN_drewN _ _ _) (congrArg (World.drewN _) (Nat.add_assoc _ _ _))⟩))); try go_wp2_with (first | (go_at_call 76; (with_reducible refine (spec_l30Match.calls a1_3 ((rd_T24 l0 (ji15)).f1) true _ A18.out).mono ?_); rintro e w' ⟨rfl, ⟨nd, rfl⟩⟩; (try first | exact ⟨rfl, _, World.drewN_drewN _ _ _⟩ | exact ⟨rfl, _, Eq.trans (World.drewN_drewN _ _ _) (congrArg (World.drewN _) (Nat.add_assoc _ _ _))⟩); have p466 : 0 ≤ ((ji31) : Int) := of_decide_eq_true (by first | (with_reducible assumption) | assumption); have q466 : (ji31) < (l0.length : Int) := of_decide_eq_true (by first | (with_reducible assumption) | assumption); obtain ⟨ad466, e466, hx466_0, hx466_1, hx466_2, hx466_3⟩ := at_T24 HR0.out (ji31) p466 q466; obtain rfl : ad462 = ad466 := (by injection e466); replace hx466_0 := (HB.out.cell (World.block_lt_of_cell? w _ hx466_0)).trans hx466_0; replace hx466_1 := (HB.out.cell (World.block_lt_of_cell? w _ hx466_1)).trans hx466_1; replace hx466_2 := (HB.out.cell (World.block_lt_of_cell? w _ hx466_2)).trans hx466_2; replace hx466_3 := (HB.out.cell (World.block_lt_of_cell? w _ hx466_3)).trans hx466_3; replace p466 := eq_true p466; replace q466 := eq_true q466) | (go_at_call 76; (with_reducible refine (spec_l30Match.calls a1_0 ((rd_T24 l0 (ji31)).f2) t467 _ A34.out).mono ?_); rintro e w' ⟨rfl, ⟨nd, rfl⟩⟩; (try first | exact ⟨rfl, _, World.drewN_drewN _ _ _⟩ | exact ⟨rfl, _, Eq.trans (World.drewN_drewN _ _ _) (congrArg (World.drewN _) (Nat.add_assoc _ _ _))⟩))))
                              go_ret
                              exact ⟨by first | rfl | (simp [errW_none, errW_some] <;> rfl) | (simp only [← hji15, ← hji31]; first | rfl | (simp [errW_none, errW_some] <;> rfl)) | (simp [*, errW_none, errW_some] <;> rfl), by repeat (first | (with_reducible first | exact HB.out | apply below_alloc | apply pw_below_drewN | apply below_drew1 | refine below_set ?_ GE461.out) | exact HB.out)⟩
                            · rw [if_neg c33] at H
                              exact absurd H (by simp)
                          · rw [if_neg c32] at H
                            exact absurd H (by simp)
                        · rw [if_neg c30] at H
                          have c30b0 : decide (0 < (wrap64 ((l0.length : Int) / a2))) = false := decide_eq_false c30
                          clear c30
                          obtain rfl := Option.some.inj H
                          have hcz36_0 : wc.cell? ⟨gb461, 0, none⟩ = some (.int .i64 a1_0) := (blk_cell BK461.out 0).trans rfl
                          have hcz36_1 : wc.cell? ⟨gb461, 1, none⟩ = some (.int .i64 a1_1) := (blk_cell BK461.out 1).trans rfl
                          have hcz36_2 : wc.cell? ⟨gb461, 2, none⟩ = some (.int .i64 a1_2) := (blk_cell BK461.out 2).trans rfl
                          have hcz36_3 : wc.cell? ⟨gb461, 3, none⟩ = some (.int .i64 a1_3) := (blk_cell BK461.out 3).trans rfl
                          have hfz36_0 := blk_frozen BK461.out 0
                          have hfz36_1 := blk_frozen BK461.out 1
                          have hfz36_2 := blk_frozen BK461.out 2
                          have hfz36_3 := blk_frozen BK461.out 3
                          have p462 : 0 ≤ ((ji15) : Int) := of_decide_eq_true (by first | (with_reducible assumption) | assumption)
                          have q462 : (ji15) < (l0.length : Int) := of_decide_eq_true (by first | (with_reducible assumption) | assumption)
                          obtain ⟨ad462, e462, hx462_0, hx462_1, hx462_2, hx462_3⟩ := at_T24 HR0.out (ji15) p462 q462
                          cases e462
                          replace hx462_0 := (HB.out.cell (World.block_lt_of_cell? w _ hx462_0)).trans hx462_0
                          replace hx462_1 := (HB.out.cell (World.block_lt_of_cell? w _ hx462_1)).trans hx462_1
                          replace hx462_2 := (HB.out.cell (World.block_lt_of_cell? w _ hx462_2)).trans hx462_2
                          replace hx462_3 := (HB.out.cell (World.block_lt_of_cell? w _ hx462_3)).trans hx462_3
                          replace p462 := eq_true p462
                          replace q462 := eq_true q462
                          go_wp2_with (first | (go_at_call 76; (with_reducible refine (spec_l30Match.calls a1_3 ((rd_T24 l0 (ji15)).f1) true _ A18.out).mono ?_); rintro e w' ⟨rfl, ⟨nd, rfl⟩⟩; (try first | exact ⟨rfl, _, World.drewN_drewN _ _ _⟩ | exact ⟨rfl, _, Eq.trans (World.drewN_drewN _ _ _) (congrArg (World.drewN _) (Nat.add_assoc _ _ _))⟩)))
                          repeat (go_quiet (first | (go_at_call 76; (with_reducible refine (spec_l30Match.calls a1_3 ((rd_T24 l0 (ji15)).f1) true _ A18.out).mono ?_); rintro e w' ⟨rfl, ⟨nd, rfl⟩⟩; (try first | exact ⟨rfl, _, World.drewN_drewN _ _ _⟩ | exact ⟨rfl, _, Eq.trans (World.drewN_drewN _ _ _) (congrArg (World.drewN _) (Nat.add_assoc _ _ _))⟩))); try go_wp2_with (first | (go_at_call 76; (with_reducible refine (spec_l30Match.calls a1_3 ((rd_T24 l0 (ji15)).f1) true _ A18.out).mono ?_); rintro e w' ⟨rfl, ⟨nd, rfl⟩⟩; (try first | exact ⟨rfl, _, World.drewN_drewN _ _ _⟩ | exact ⟨rfl, _, Eq.trans (World.drewN_drewN _ _ _) (congrArg (World.drewN _) (Nat.add_assoc _ _ _))⟩))))
                          go_ret
                          exact ⟨by first | rfl | (simp [errW_none, errW_some] <;> rfl) | (simp only [← hji15]; first | rfl | (simp [errW_none, errW_some] <;> rfl)) | (simp [*, errW_none, errW_some] <;> rfl), by repeat (first | (with_reducible first | exact HB.out | apply below_alloc | apply pw_below_drewN | apply below_drew1 | refine below_set ?_ GE461.out) | exact HB.out)⟩
                    · replace c19 := Bool.eq_false_iff.mpr c19
                      subst c19
                      have H1 : (some false) = some r := by rw [if_neg (show ¬ (false = true) by decide)] at H; exact H
                      clear H
                      have H := H1
                      clear H1
                      obtain rfl := Option.some.inj H
                      have hcz37_0 : wc.cell? ⟨gb461, 0, none⟩ = some (.int .i64 a1_0) := (blk_cell BK461.out 0).trans rfl
                      have hcz37_1 : wc.cell? ⟨gb461, 1, none⟩ = some (.int .i64 a1_1) := (blk_cell BK461.out 1).trans rfl
                      have hcz37_2 : wc.cell? ⟨gb461, 2, none⟩ = some (.int .i64 a1_2) := (blk_cell BK461.out 2).trans rfl
                      have hcz37_3 : wc.cell? ⟨gb461, 3, none⟩ = some (.int .i64 a1_3) := (blk_cell BK461.out 3).trans rfl
                      have hfz37_0 := blk_frozen BK461.out 0
                      have hfz37_1 := blk_frozen BK461.out 1
                      have hfz37_2 := blk_frozen BK461.out 2
                      have hfz37_3 := blk_frozen BK461.out 3
                      have p462 : 0 ≤ ((ji15) : Int) := of_decide_eq_true (by first | (with_reducible assumption) | assumption)
                      have q462 : (ji15) < (l0.length : Int) := of_decide_eq_true (by first | (with_reducible assumption) | assumption)
                      obtain ⟨ad462, e462, hx462_0, hx462_1, hx462_2, hx462_3⟩ := at_T24 HR0.out (ji15) p462 q462
                      cases e462
                      replace hx462_0 := (HB.out.cell (World.block_lt_of_cell? w _ hx462_0)).trans hx462_0
                      replace hx462_1 := (HB.out.cell (World.block_lt_of_cell? w _ hx462_1)).trans hx462_1
                      replace hx462_2 := (HB.out.cell (World.block_lt_of_cell? w _ hx462_2)).trans hx462_2
                      replace hx462_3 := (HB.out.cell (World.block_lt_of_cell? w _ hx462_3)).trans hx462_3
                      replace p462 := eq_true p462
                      replace q462 := eq_true q462
                      go_wp2_with (first | (go_at_call 76; (with_reducible refine (spec_l30Match.calls a1_3 ((rd_T24 l0 (ji15)).f1) false _ A18.out).mono ?_); rintro e w' ⟨rfl, ⟨nd, rfl⟩⟩; (try first | exact ⟨rfl, _, World.drewN_drewN _ _ _⟩ | exact ⟨rfl, _, Eq.trans (World.drewN_drewN _ _ _) (congrArg (World.drewN _) (Nat.add_assoc _ _ _))⟩)))
                      repeat (go_quiet (first | (go_at_call 76; (with_reducible refine (spec_l30Match.calls a1_3 ((rd_T24 l0 (ji15)).f1) false _ A18.out).mono ?_); rintro e w' ⟨rfl, ⟨nd, rfl⟩⟩; (try first | exact ⟨rfl, _, World.drewN_drewN _ _ _⟩ | exact ⟨rfl, _, Eq.trans (World.drewN_drewN _ _ _) (congrArg (World.drewN _) (Nat.add_assoc _ _ _))⟩))); try go_wp2_with (first | (go_at_call 76; (with_reducible refine (spec_l30Match.calls a1_3 ((rd_T24 l0 (ji15)).f1) false _ A18.out).mono ?_); rintro e w' ⟨rfl, ⟨nd, rfl⟩⟩; (try first | exact ⟨rfl, _, World.drewN_drewN _ _ _⟩ | exact ⟨rfl, _, Eq.trans (World.drewN_drewN _ _ _) (congrArg (World.drewN _) (Nat.add_assoc _ _ _))⟩))))
                      go_ret
                      exact ⟨by first | rfl | (simp [errW_none, errW_some] <;> rfl) | (simp only [← hji15]; first | rfl | (simp [errW_none, errW_some] <;> rfl)) | (simp [*, errW_none, errW_some] <;> rfl), by repeat (first | (with_reducible first | exact HB.out | apply below_alloc | apply pw_below_drewN | apply below_drew1 | refine below_set ?_ GE461.out) | exact HB.out)⟩
                  · rw [if_neg c17] at H
                    exact absurd H (by simp)
                · rw [if_neg c16] at H
                  exact absurd H (by simp)
              · rw [if_neg c14] at H
                have c14b0 : decide (0 < ((l0.length : Int) % a2)) = false := decide_eq_false c14
                clear c14
                by_cases c38 : (wrap64 ((l0.length : Int) / a2)) = 0
                · rw [if_pos c38] at H
                  have c38b0 : ((wrap64 ((l0.length : Int) / a2)) == 0) = true := beq_iff_eq.mpr c38
                  have c38b1 : ((wrap64 ((l0.length : Int) / a2)) != 0) = false := bne_eq_false_iff_eq.mpr c38
                  clear c38
                  by_cases c39 : a1_0 = 0
                  · rw [if_pos c39] at H
                    have c39b0 : (a1_0 == 0) = true := beq_iff_eq.mpr c39
                    have c39b1 : (a1_0 != 0) = false := bne_eq_false_iff_eq.mpr c39
                    clear c39
                    obtain rfl := Option.some.inj H
                    have hcz40_0 : wc.cell? ⟨gb461, 0, none⟩ = some (.int .i64 a1_0) := (blk_cell BK461.out 0).trans rfl
                    have hcz40_1 : wc.cell? ⟨gb461, 1, none⟩ = some (.int .i64 a1_1) := (blk_cell BK461.out 1).trans rfl
                    have hcz40_2 : wc.cell? ⟨gb461, 2, none⟩ = some (.int .i64 a1_2) := (blk_cell BK461.out 2).trans rfl
                    have hcz40_3 : wc.cell? ⟨gb461, 3, none⟩ = some (.int .i64 a1_3) := (blk_cell BK461.out 3).trans rfl
                    have hfz40_0 := blk_frozen BK461.out 0
                    have hfz40_1 := blk_frozen BK461.out 1
                    have hfz40_2 := blk_frozen BK461.out 2
                    have hfz40_3 := blk_frozen BK461.out 3
                    go_wp2
                    repeat (go_quiet (fail); try go_wp2)
                    go_ret
                    exact ⟨by first | rfl | (simp [errW_none, errW_some] <;> rfl) | (simp [*, errW_none, errW_some] <;> rfl), by repeat (first | (with_reducible first | exact HB.out | apply below_alloc | apply pw_below_drewN | apply below_drew1 | refine below_set ?_ GE461.out) | exact HB.out)⟩
                  · rw [if_neg c39] at H
                    have c39b0 : (a1_0 == 0) = false := beq_eq_false_iff_ne.mpr c39
                    have c39b1 : (a1_0 != 0) = true := bne_iff_ne.mpr c39
                    by_cases c41 : (wrap64 ((l0.length : Int) / a2)) > 0
                    · rw [if_pos c41] at H
                      have c41b0 : decide (0 < (wrap64 ((l0.length : Int) / a2))) = true := decide_eq_true c41
                      clear c41
                      obtain ⟨ji42, hji42⟩ : ∃ j_ : Int, (wrap64 ((l0.length : Int) - a2)) = j_ := ⟨_, rfl⟩
                      replace H : (if 0 ≤ (ji42) then (if (ji42) < (l0.length : Int) then ((spec_l30Match.f a1_0 ((rd_T24 l0 (ji42)).f2)).bind fun t469 => (some t469)) else (none)) else (none)) = some r := by first | (rw [hji42] at H; exact H) | (simp only [hji42] at H ⊢; exact H)
                      have hji42w : (IntKind.i64.wrap ((l0.length : Int) - a2)) = ji42 := (i64_w _).trans hji42
                      by_cases c43 : 0 ≤ (ji42)
                      · rw [if_pos c43] at H
                        have c43b0 : decide (0 ≤ (ji42)) = true := decide_eq_true c43
                        clear c43
                        by_cases c44 : (ji42) < (l0.length : Int)
                        · rw [if_pos c44] at H
                          have c44b0 : decide ((ji42) < (l0.length : Int)) = true := decide_eq_true c44
                          clear c44
                          replace H := Option.bind_eq_some_iff.mp H
                          obtain ⟨t469, A450, H⟩ := H
                          replace H : (some t469) = some r := H
                          have A45 := Aside0.mk A450
                          clear A450
                          obtain rfl := Option.some.inj H
                          have hcz46_0 : wc.cell? ⟨gb461, 0, none⟩ = some (.int .i64 a1_0) := (blk_cell BK461.out 0).trans rfl
                          have hcz46_1 : wc.cell? ⟨gb461, 1, none⟩ = some (.int .i64 a1_1) := (blk_cell BK461.out 1).trans rfl
                          have hcz46_2 : wc.cell? ⟨gb461, 2, none⟩ = some (.int .i64 a1_2) := (blk_cell BK461.out 2).trans rfl
                          have hcz46_3 : wc.cell? ⟨gb461, 3, none⟩ = some (.int .i64 a1_3) := (blk_cell BK461.out 3).trans rfl
                          have hfz46_0 := blk_frozen BK461.out 0
                          have hfz46_1 := blk_frozen BK461.out 1
                          have hfz46_2 := blk_frozen BK461.out 2
                          have hfz46_3 := blk_frozen BK461.out 3
                          have p468 : 0 ≤ ((ji42) : Int) := of_decide_eq_true (by first | (with_reducible assumption) | assumption)
                          have q468 : (ji42) < (l0.length : Int) := of_decide_eq_true (by first | (with_reducible assumption) | assumption)
                          obtain ⟨ad468, e468, hx468_0, hx468_1, hx468_2, hx468_3⟩ := at_T24 HR0.out (ji42) p468 q468
                          cases e468
                          replace hx468_0 := (HB.out.cell (World.block_lt_of_cell? w _ hx468_0)).trans hx468_0
                          replace hx468_1 := (HB.out.cell (World.block_lt_of_cell? w _ hx468_1)).trans hx468_1
                          replace hx468_2 := (HB.out.cell (World.block_lt_of_cell? w _ hx468_2)).trans hx468_2
                          replace hx468_3 := (HB.out.cell (World.block_lt_of_cell? w _ hx468_3)).trans hx468_3
                          replace p468 := eq_true p468
                          replace q468 := eq_true q468
                          go_wp2_with (first | (go_at_call 76; (with_reducible refine (spec_l30Match.calls a1_0 ((rd_T24 l0 (ji42)).f2) t469 _ A45.out).mono ?_); rintro e w' ⟨rfl, ⟨nd, rfl⟩⟩; (try first | exact ⟨rfl, _, World.drewN_drewN _ _ _⟩ | exact ⟨rfl, _, Eq.trans (World.drewN_drewN _ _ _) (congrArg (World.drewN _) (Nat.add_assoc _ _ _))⟩)))
                          repeat (go_quiet (first | (go_at_call 76; (with_reducible refine (spec_l30Match.calls a1_0 ((rd_T24 l0 (ji42)).f2) t469 _ A45.out).mono ?_); rintro e w' ⟨rfl, ⟨nd, rfl⟩⟩; (try first | exact ⟨rfl, _, World.drewN_drewN _ _ _⟩ | exact ⟨rfl, _, Eq.trans (World.drewN_drewN _ _ _) (congrArg (World.drewN _) (Nat.add_assoc _ _ _))⟩))); try go_wp2_with (first | (go_at_call 76; (with_reducible refine (spec_l30Match.calls a1_0 ((rd_T24 l0 (ji42)).f2) t469 _ A45.out).mono ?_); rintro e w' ⟨rfl, ⟨nd, rfl⟩⟩; (try first | exact ⟨rfl, _, World.drewN_drewN _ _ _⟩ | exact ⟨rfl, _, Eq.trans (World.drewN_drewN _ _ _) (congrArg (World.drewN _) (Nat.add_assoc _ _ _))⟩))))
                          go_ret
                          exact ⟨by first | rfl | (simp [errW_none, errW_some] <;> rfl) | (simp only [← hji42]; first | rfl | (simp [errW_none, errW_some] <;> rfl)) | (simp [*, errW_none, errW_some] <;> rfl), by repeat (first | (with_reducible first | exact HB.out | apply below_alloc | apply pw_below_drewN | apply below_drew1 | refine below_set ?_ GE461.out) | exact HB.out)⟩
                        · rw [if_neg c44] at H
                          exact absurd H (by simp)
                      · rw [if_neg c43] at H
                        exact absurd H (by simp)
                    · rw [if_neg c41] at H
                      have c41b0 : decide (0 < (wrap64 ((l0.length : Int) / a2))) = false := decide_eq_false c41
                      clear c41
                      obtain rfl := Option.some.inj H
                      have hcz47_0 : wc.cell? ⟨gb461, 0, none⟩ = some (.int .i64 a1_0) := (blk_cell BK461.out 0).trans rfl
                      have hcz47_1 : wc.cell? ⟨gb461, 1, none⟩ = some (.int .i64 a1_1) := (blk_cell BK461.out 1).trans rfl
                      have hcz47_2 : wc.cell? ⟨gb461, 2, none⟩ = some (.int .i64 a1_2) := (blk_cell BK461.out 2).trans rfl
                      have hcz47_3 : wc.cell? ⟨gb461, 3, none⟩ = some (.int .i64 a1_3) := (blk_cell BK461.out 3).trans rfl
                      have hfz47_0 := blk_frozen BK461.out 0
                      have hfz47_1 := blk_frozen BK461.out 1
                      have hfz47_2 := blk_frozen BK461.out 2
                      have hfz47_3 := blk_frozen BK461.out 3
                      go_wp2
                      repeat (go_quiet (fail); try go_wp2)
                      go_ret
                      exact ⟨by first | rfl | (simp [errW_none, errW_some] <;> rfl) | (simp [*, errW_none, errW_some] <;> rfl), by repeat (first | (with_reducible first | exact HB.out | apply below_alloc | apply pw_below_drewN | apply below_drew1 | refine below_set ?_ GE461.out) | exact HB.out)⟩
                · rw [if_neg c38] at H
                  have c38b0 : ((wrap64 ((l0.length : Int) / a2)) == 0) = false := beq_eq_false_iff_ne.mpr c38
                  have c38b1 : ((wrap64 ((l0.length : Int) / a2)) != 0) = true := bne_iff_ne.mpr c38
                  by_cases c48 : (wrap64 ((l0.length : Int) / a2)) > 0
                  · rw [if_pos c48] at H
                    have c48b0 : decide (0 < (wrap64 ((l0.length : Int) / a2))) = true := decide_eq_true c48
                    clear c48
                    obtain ⟨ji49, hji49⟩ : ∃ j_ : Int, (wrap64 ((l0.length : Int) - a2)) = j_ := ⟨_, rfl⟩
                    replace H : (if 0 ≤ (ji49) then (if (ji49) < (l0.length : Int) then ((spec_l30Match.f a1_0 ((rd_T24 l0 (ji49)).f2)).bind fun t471 => (some t471)) else (none)) else (none)) = some r := by first | (rw [hji49] at H; exact H) | (simp only [hji49] at H ⊢; exact H)
                    have hji49w : (IntKind.i64.wrap ((l0.length : Int) - a2)) = ji49 := (i64_w _).trans hji49
                    by_cases c50 : 0 ≤ (ji49)
                    · rw [if_pos c50] at H
                      have c50b0 : decide (0 ≤ (ji49)) = true := decide_eq_true c50
                      clear c50
                      by_cases c51 : (ji49) < (l0.length : Int)
                      · rw [if_pos c51] at H
                        have c51b0 : decide ((ji49) < (l0.length : Int)) = true := decide_eq_true c51
                        clear c51
                        replace H := Option.bind_eq_some_iff.mp H
                        obtain ⟨t471, A520, H⟩ := H
                        replace H : (some t471) = some r := H
                        have A52 := Aside0.mk A520
                        clear A520
                        obtain rfl := Option.some.inj H
                        have hcz53_0 : wc.cell? ⟨gb461, 0, none⟩ = some (.int .i64 a1_0) := (blk_cell BK461.out 0).trans rfl
                        have hcz53_1 : wc.cell? ⟨gb461, 1, none⟩ = some (.int .i64 a1_1) := (blk_cell BK461.out 1).trans rfl
                        have hcz53_2 : wc.cell? ⟨gb461, 2, none⟩ = some (.int .i64 a1_2) := (blk_cell BK461.out 2).trans rfl
                        have hcz53_3 : wc.cell? ⟨gb461, 3, none⟩ = some (.int .i64 a1_3) := (blk_cell BK461.out 3).trans rfl
                        have hfz53_0 := blk_frozen BK461.out 0
                        have hfz53_1 := blk_frozen BK461.out 1
                        have hfz53_2 := blk_frozen BK461.out 2
                        have hfz53_3 := blk_frozen BK461.out 3
                        have p470 : 0 ≤ ((ji49) : Int) := of_decide_eq_true (by first | (with_reducible assumption) | assumption)
                        have q470 : (ji49) < (l0.length : Int) := of_decide_eq_true (by first | (with_reducible assumption) | assumption)
                        obtain ⟨ad470, e470, hx470_0, hx470_1, hx470_2, hx470_3⟩ := at_T24 HR0.out (ji49) p470 q470
                        cases e470
                        replace hx470_0 := (HB.out.cell (World.block_lt_of_cell? w _ hx470_0)).trans hx470_0
                        replace hx470_1 := (HB.out.cell (World.block_lt_of_cell? w _ hx470_1)).trans hx470_1
                        replace hx470_2 := (HB.out.cell (World.block_lt_of_cell? w _ hx470_2)).trans hx470_2
                        replace hx470_3 := (HB.out.cell (World.block_lt_of_cell? w _ hx470_3)).trans hx470_3
                        replace p470 := eq_true p470
                        replace q470 := eq_true q470
                        go_wp2_with (first | (go_at_call 76; (with_reducible refine (spec_l30Match.calls a1_0 ((rd_T24 l0 (ji49)).f2) t471 _ A52.out).mono ?_); rintro e w' ⟨rfl, ⟨nd, rfl⟩⟩; (try first | exact ⟨rfl, _, World.drewN_drewN _ _ _⟩ | exact ⟨rfl, _, Eq.trans (World.drewN_drewN _ _ _) (congrArg (World.drewN _) (Nat.add_assoc _ _ _))⟩)))
                        repeat (go_quiet (first | (go_at_call 76; (with_reducible refine (spec_l30Match.calls a1_0 ((rd_T24 l0 (ji49)).f2) t471 _ A52.out).mono ?_); rintro e w' ⟨rfl, ⟨nd, rfl⟩⟩; (try first | exact ⟨rfl, _, World.drewN_drewN _ _ _⟩ | exact ⟨rfl, _, Eq.trans (World.drewN_drewN _ _ _) (congrArg (World.drewN _) (Nat.add_assoc _ _ _))⟩))); try go_wp2_with (first | (go_at_call 76; (with_reducible refine (spec_l30Match.calls a1_0 ((rd_T24 l0 (ji49)).f2) t471 _ A52.out).mono ?_); rintro e w' ⟨rfl, ⟨nd, rfl⟩⟩; (try first | exact ⟨rfl, _, World.drewN_drewN _ _ _⟩ | exact ⟨rfl, _, Eq.trans (World.drewN_drewN _ _ _) (congrArg (World.drewN _) (Nat.add_assoc _ _ _))⟩))))
                        go_ret
                        exact ⟨by first | rfl | (simp [errW_none, errW_some] <;> rfl) | (simp only [← hji49]; first | rfl | (simp [errW_none, errW_some] <;> rfl)) | (simp [*, errW_none, errW_some] <;> rfl), by repeat (first | (with_reducible first | exact HB.out | apply below_alloc | apply pw_below_drewN | apply below_drew1 | refine below_set ?_ GE461.out) | exact HB.out)⟩
                      · rw [if_neg c51] at H
                        exact absurd H (by simp)
                    · rw [if_neg c50] at H
                      exact absurd H (by simp)
                  · rw [if_neg c48] at H
                    have c48b0 : decide (0 < (wrap64 ((l0.length : Int) / a2))) = false := decide_eq_false c48
                    clear c48
                    obtain rfl := Option.some.inj H
                    have hcz54_0 : wc.cell? ⟨gb461, 0, none⟩ = some (.int .i64 a1_0) := (blk_cell BK461.out 0).trans rfl
                    have hcz54_1 : wc.cell? ⟨gb461, 1, none⟩ = some (.int .i64 a1_1) := (blk_cell BK461.out 1).trans rfl
                    have hcz54_2 : wc.cell? ⟨gb461, 2, none⟩ = some (.int .i64 a1_2) := (blk_cell BK461.out 2).trans rfl
                    have hcz54_3 : wc.cell? ⟨gb461, 3, none⟩ = some (.int .i64 a1_3) := (blk_cell BK461.out 3).trans rfl
                    have hfz54_0 := blk_frozen BK461.out 0
                    have hfz54_1 := blk_frozen BK461.out 1
                    have hfz54_2 := blk_frozen BK461.out 2
                    have hfz54_3 := blk_frozen BK461.out 3
                    go_wp2
                    repeat (go_quiet (fail); try go_wp2)
                    go_ret
                    exact ⟨by first | rfl | (simp [errW_none, errW_some] <;> rfl) | (simp [*, errW_none, errW_some] <;> rfl), by repeat (first | (with_reducible first | exact HB.out | apply below_alloc | apply pw_below_drewN | apply below_drew1 | refine below_set ?_ GE461.out) | exact HB.out)⟩
            · rw [if_neg c13] at H
              have c13b0 : (a1_3 == 0) = false := beq_eq_false_iff_ne.mpr c13
              have c13b1 : (a1_3 != 0) = true := bne_iff_ne.mpr c13
              obtain rfl := Option.some.inj H
              have hcz55_0 : wc.cell? ⟨gb461, 0, none⟩ = some (.int .i64 a1_0) := (blk_cell BK461.out 0).trans rfl
              have hcz55_1 : wc.cell? ⟨gb461, 1, none⟩ = some (.int .i64 a1_1) := (blk_cell BK461.out 1).trans rfl
              have hcz55_2 : wc.cell? ⟨gb461, 2, none⟩ = some (.int .i64 a1_2) := (blk_cell BK461.out 2).trans rfl
              have hcz55_3 : wc.cell? ⟨gb461, 3, none⟩ = some (.int .i64 a1_3) := (blk_cell BK461.out 3).trans rfl
              have hfz55_0 := blk_frozen BK461.out 0
              have hfz55_1 := blk_frozen BK461.out 1
              have hfz55_2 := blk_frozen BK461.out 2
              have hfz55_3 := blk_frozen BK461.out 3
              go_wp2
              repeat (go_quiet (fail); try go_wp2)
              go_ret
              exact ⟨by first | rfl | (simp [errW_none, errW_some] <;> rfl) | (simp [*, errW_none, errW_some] <;> rfl), by repeat (first | (with_reducible first | exact HB.out | apply below_alloc | apply pw_below_drewN | apply below_drew1 | refine below_set ?_ GE461.out) | exact HB.out)⟩
          · rw [if_neg c12] at H
            have c12b0 : (((l0.length : Int) % a2) == 0) = false := beq_eq_false_iff_ne.mpr c12
            have c12b1 : (((l0.length : Int) % a2) != 0) = true := bne_iff_ne.mpr c12
            by_cases c56 : ((l0.length : Int) % a2) > 0
            · rw [if_pos c56] at H
              have c56b0 : decide (0 < ((l0.length : Int) % a2)) = true := decide_eq_true c56
              clear c56
              obtain ⟨ji57, hji57⟩ : ∃ j_ : Int, (wrap64 ((l0.length : Int) - 1)) = j_ := ⟨_, rfl⟩
              replace H : (if 0 ≤ (ji57) then (if (ji57) < (l0.length : Int) then ((spec_l30Match.f a1_3 ((rd_T24 l0 (ji57)).f1)).bind fun t473 => (if t473 = true then (if (wrap64 ((l0.length : Int) / a2)) = 0 then (if a1_0 = 0 then (some true) else (if (wrap64 ((l0.length : Int) / a2)) > 0 then (if 0 ≤ (wrap64 ((l0.length : Int) - a2)) then (if (wrap64 ((l0.length : Int) - a2)) < (l0.length : Int) then ((spec_l30Match.f a1_0 ((rd_T24 l0 (wrap64 ((l0.length : Int) - a2))).f2)).bind fun t475 => (some t475)) else (none)) else (none)) else (some false))) else (if (wrap64 ((l0.length : Int) / a2)) > 0 then (if 0 ≤ (wrap64 ((l0.length : Int) - a2)) then (if (wrap64 ((l0.length : Int) - a2)) < (l0.length : Int) then ((spec_l30Match.f a1_0 ((rd_T24 l0 (wrap64 ((l0.length : Int) - a2))).f2)).bind fun t477 => (some t477)) else (none)) else (none)) else (some false))) else (some false))) else (none)) else (none)) = some r := by first | (rw [hji57] at H; exact H) | (simp only [hji57] at H ⊢; exact H)
              have hji57w : (IntKind.i64.wrap ((l0.length : Int) - 1)) = ji57 := (i64_w _).trans hji57
              by_cases c58 : 0 ≤ (ji57)
              · rw [if_pos c58] at H
                have c58b0 : decide (0 ≤ (ji57)) = true := decide_eq_true c58
                clear c58
                by_cases c59 : (ji57) < (l0.length : Int)
                · rw [if_pos c59] at H
                  have c59b0 : decide ((ji57) < (l0.length : Int)) = true := decide_eq_true c59
                  clear c59
                  replace H := Option.bind_eq_some_iff.mp H
                  obtain ⟨t473, A600, H⟩ := H
                  replace H : (if t473 = true then (if (wrap64 ((l0.length : Int) / a2)) = 0 then (if a1_0 = 0 then (some true) else (if (wrap64 ((l0.length : Int) / a2)) > 0 then (if 0 ≤ (wrap64 ((l0.length : Int) - a2)) then (if (wrap64 ((l0.length : Int) - a2)) < (l0.length : Int) then ((spec_l30Match.f a1_0 ((rd_T24 l0 (wrap64 ((l0.length : Int) - a2))).f2)).bind fun t475 => (some t475)) else (none)) else (none)) else (some false))) else (if (wrap64 ((l0.length : Int) / a2)) > 0 then (if 0 ≤ (wrap64 ((l0.length : Int) - a2)) then (if (wrap64 ((l0.length : Int) - a2)) < (l0.length : Int) then ((spec_l30Match.f a1_0 ((rd_T24 l0 (wrap64 ((l0.length : Int) - a2))).f2)).bind fun t477 => (some t477)) else (none)) else (none)) else (some false))) else (some false)) = some r := H
                  have A60 := Aside0.mk A600
                  clear A600
                  by_cases c61 : t473 = true
                  · subst c61
                    have H1 : (if (wrap64 ((l0.length : Int) / a2)) = 0 then (if a1_0 = 0 then (some true) else (if (wrap64 ((l0.length : Int) / a2)) > 0 then (if 0 ≤ (wrap64 ((l0.length : Int) - a2)) then (if (wrap64 ((l0.length : Int) - a2)) < (l0.length : Int) then ((spec_l30Match.f a1_0 ((rd_T24 l0 (wrap64 ((l0.length : Int) - a2))).f2)).bind fun t475 => (some t475)) else (none)) else (none)) else (some false))) else (if (wrap64 ((l0.length : Int) / a2)) > 0 then (if 0 ≤ (wrap64 ((l0.length : Int) - a2)) then (if (wrap64 ((l0.length : Int) - a2)) < (l0.length : Int) then ((spec_l30Match.f a1_0 ((rd_T24 l0 (wrap64 ((l0.length : Int) - a2))).f2)).bind fun t477 => (some t477)) else (none)) else (none)) else (some false))) = some r := by rw [if_pos rfl] at H; exact H
                    clear H
                    have H := H1
                    clear H1
                    by_cases c62 : (wrap64 ((l0.length : Int) / a2)) = 0
                    · rw [if_pos c62] at H
                      have c62b0 : ((wrap64 ((l0.length : Int) / a2)) == 0) = true := beq_iff_eq.mpr c62
                      have c62b1 : ((wrap64 ((l0.length : Int) / a2)) != 0) = false := bne_eq_false_iff_eq.mpr c62
                      clear c62
                      by_cases c63 : a1_0 = 0
                      · rw [if_pos c63] at H
                        have c63b0 : (a1_0 == 0) = true := beq_iff_eq.mpr c63
                        have c63b1 : (a1_0 != 0) = false := bne_eq_false_iff_eq.mpr c63
                        clear c63
                        obtain rfl := Option.some.inj H
                        have hcz64_0 : wc.cell? ⟨gb461, 0, none⟩ = some (.int .i64 a1_0) := (blk_cell BK461.out 0).trans rfl
                        have hcz64_1 : wc.cell? ⟨gb461, 1, none⟩ = some (.int .i64 a1_1) := (blk_cell BK461.out 1).trans rfl
                        have hcz64_2 : wc.cell? ⟨gb461, 2, none⟩ = some (.int .i64 a1_2) := (blk_cell BK461.out 2).trans rfl
                        have hcz64_3 : wc.cell? ⟨gb461, 3, none⟩ = some (.int .i64 a1_3) := (blk_cell BK461.out 3).trans rfl
                        have hfz64_0 := blk_frozen BK461.out 0
                        have hfz64_1 := blk_frozen BK461.out 1
                        have hfz64_2 := blk_frozen BK461.out 2
                        have hfz64_3 := blk_frozen BK461.out 3
                        have p472 : 0 ≤ ((ji57) : Int) := of_decide_eq_true (by first | (with_reducible assumption) | assumption)
                        have q472 : (ji57) < (l0.length : Int) := of_decide_eq_true (by first | (with_reducible assumption) | assumption)
                        obtain ⟨ad472, e472, hx472_0, hx472_1, hx472_2, hx472_3⟩ := at_T24 HR0.out (ji57) p472 q472
                        cases e472
                        replace hx472_0 := (HB.out.cell (World.block_lt_of_cell? w _ hx472_0)).trans hx472_0
                        replace hx472_1 := (HB.out.cell (World.block_lt_of_cell? w _ hx472_1)).trans hx472_1
                        replace hx472_2 := (HB.out.cell (World.block_lt_of_cell? w _ hx472_2)).trans hx472_2
                        replace hx472_3 := (HB.out.cell (World.block_lt_of_cell? w _ hx472_3)).trans hx472_3
                        replace p472 := eq_true p472
                        replace q472 := eq_true q472
                        go_wp2_with (first | (go_at_call 76; (with_reducible refine (spec_l30Match.calls a1_3 ((rd_T24 l0 (ji57)).f1) true _ A60.out).mono ?_); rintro e w' ⟨rfl, ⟨nd, rfl⟩⟩; (try first | exact ⟨rfl, _, World.drewN_drewN _ _ _⟩ | exact ⟨rfl, _, Eq.trans (World.drewN_drewN _ _ _) (congrArg (World.drewN _) (Nat.add_assoc _ _ _))⟩)))
                        repeat (go_quiet (first | (go_at_call 76; (with_reducible refine (spec_l30Match.calls a1_3 ((rd_T24 l0 (ji57)).f1) true _ A60.out).mono ?_); rintro e w' ⟨rfl, ⟨nd, rfl⟩⟩; (try first | exact ⟨rfl, _, World.drewN_drewN _ _ _⟩ | exact ⟨rfl, _, Eq.trans (World.drewN_drewN _ _ _) (congrArg (World.drewN _) (Nat.add_assoc _ _ _))⟩))); try go_wp2_with (first | (go_at_call 76; (with_reducible refine (spec_l30Match.calls a1_3 ((rd_T24 l0 (ji57)).f1) true _ A60.out).mono ?_); rintro e w' ⟨rfl, ⟨nd, rfl⟩⟩; (try first | exact ⟨rfl, _, World.drewN_drewN _ _ _⟩ | exact ⟨rfl, _, Eq.trans (World.drewN_drewN _ _ _) (congrArg (World.drewN _) (Nat.add_assoc _ _ _))⟩))))
                        go_ret
                        exact ⟨by first | rfl | (simp [errW_none, errW_some] <;> rfl) | (simp only [← hji57]; first | rfl | (simp [errW_none, errW_some] <;> rfl)) | (simp [*, errW_none, errW_some] <;> rfl), by repeat (first | (with_reducible first | exact HB.out | apply below_alloc | apply pw_below_drewN | apply below_drew1 | refine below_set ?_ GE461.out) | exact HB.out)⟩
                      · rw [if_neg c63] at H
                        have c63b0 : (a1_0 == 0) = false := beq_eq_false_iff_ne.mpr c63
                        have c63b1 : (a1_0 != 0) = true := bne_iff_ne.mpr c63
                        by_cases c65 : (wrap64 ((l0.length : Int) / a2)) > 0
                        · rw [if_pos c65] at H
                          have c65b0 : decide (0 < (wrap64 ((l0.length : Int) / a2))) = true := decide_eq_true c65
                          clear c65
                          obtain ⟨ji66, hji66⟩ : ∃ j_ : Int, (wrap64 ((l0.length : Int) - a2)) = j_ := ⟨_, rfl⟩
                          replace H : (if 0 ≤ (ji66) then (if (ji66) < (l0.length : Int) then ((spec_l30Match.f a1_0 ((rd_T24 l0 (ji66)).f2)).bind fun t475 => (some t475)) else (none)) else (none)) = some r := by first | (rw [hji66] at H; exact H) | (simp only [hji66] at H ⊢; exact H)
                          (try rw [hji66] at A60)
                          have hji66w : (IntKind.i64.wrap ((l0.length : Int) - a2)) = ji66 := (i64_w _).trans hji66
                          by_cases c67 : 0 ≤ (ji66)
                          · rw [if_pos c67] at H
                            have c67b0 : decide (0 ≤ (ji66)) = true := decide_eq_true c67
                            clear c67
                            by_cases c68 : (ji66) < (l0.length : Int)
                            · rw [if_pos c68] at H
                              have c68b0 : decide ((ji66) < (l0.length : Int)) = true := decide_eq_true c68
                              clear c68
                              replace H := Option.bind_eq_some_iff.mp H
                              obtain ⟨t475, A690, H⟩ := H
                              replace H : (some t475) = some r := H
                              have A69 := Aside0.mk A690
                              clear A690
                              obtain rfl := Option.some.inj H
                              have hcz70_0 : wc.cell? ⟨gb461, 0, none⟩ = some (.int .i64 a1_0) := (blk_cell BK461.out 0).trans rfl
                              have hcz70_1 : wc.cell? ⟨gb461, 1, none⟩ = some (.int .i64 a1_1) := (blk_cell BK461.out 1).trans rfl
                              have hcz70_2 : wc.cell? ⟨gb461, 2, none⟩ = some (.int .i64 a1_2) := (blk_cell BK461.out 2).trans rfl
                              have hcz70_3 : wc.cell? ⟨gb461, 3, none⟩ = some (.int .i64 a1_3) := (blk_cell BK461.out 3).trans rfl
                              have hfz70_0 := blk_frozen BK461.out 0
                              have hfz70_1 := blk_frozen BK461.out 1
                              have hfz70_2 := blk_frozen BK461.out 2
                              have hfz70_3 := blk_frozen BK461.out 3
                              have p472 : 0 ≤ ((ji57) : Int) := of_decide_eq_true (by first | (with_reducible assumption) | assumption)
                              have q472 : (ji57) < (l0.length : Int) := of_decide_eq_true (by first | (with_reducible assumption) | assumption)
                              obtain ⟨ad472, e472, hx472_0, hx472_1, hx472_2, hx472_3⟩ := at_T24 HR0.out (ji57) p472 q472
                              cases e472
                              replace hx472_0 := (HB.out.cell (World.block_lt_of_cell? w _ hx472_0)).trans hx472_0
                              replace hx472_1 := (HB.out.cell (World.block_lt_of_cell? w _ hx472_1)).trans hx472_1
                              replace hx472_2 := (HB.out.cell (World.block_lt_of_cell? w _ hx472_2)).trans hx472_2
                              replace hx472_3 := (HB.out.cell (World.block_lt_of_cell? w _ hx472_3)).trans hx472_3
                              replace p472 := eq_true p472
                              replace q472 := eq_true q472
                              go_wp2_with (first | (go_at_call 76; (with_reducible refine (spec_l30Match.calls a1_3 ((rd_T24 l0 (ji57)).f1) true _ A60.out).mono ?_); rintro e w' ⟨rfl, ⟨nd, rfl⟩⟩; (try first | exact ⟨rfl, _, World.drewN_drewN _ _ _⟩ | exact ⟨rfl, _, Eq.trans (World.drewN_drewN _ _ _) (congrArg (World.drewN _) (Nat.add_assoc _ _ _))⟩); have p474 : 0 ≤ ((ji66) : Int) := of_decide_eq_true (by first | (with_reducible assumption) | assumption); have q474 : (ji66) < (l0.length : Int) := of_decide_eq_true (by first | (with_reducible assumption) | assumption); obtain ⟨ad474, e474, hx474_0, hx474_1, hx474_2, hx474_3⟩ := at_T24 HR0.out (ji66) p474 q474; obtain rfl : ad472 = ad474 := (by injection e474); replace hx474_0 := (HB.out.cell (World.block_lt_of_cell? w _ hx474_0)).trans hx474_0; replace hx474_1 := (HB.out.cell (World.block_lt_of_cell? w _ hx474_1)).trans hx474_1; replace hx474_2 := (HB.out.cell (World.block_lt_of_cell? w _ hx474_2)).trans hx474_2; replace hx474_3 := (HB.out.cell (World.block_lt_of_cell? w _ hx474_3)).trans hx474_3; replace p474 := eq_true p474; replace q474 := eq_true q474) | (go_at_call 76; (with_reducible refine (spec_l30Match.calls a1_0 ((rd_T24 l0 (ji66)).f2) t475 _ A69.out).mono ?_); rintro e w' ⟨rfl, ⟨nd, rfl⟩⟩; (try first | exact ⟨rfl, _, World.drewN_drewN _ _ _⟩ | exact ⟨rfl, _, Eq.trans (World.drewN_drewN _ _ _) (congrArg (World.drewN _) (Nat.add_assoc _ _ _))⟩)))
                              repeat (go_quiet (first | (go_at_call 76; (with_reducible refine (spec_l30Match.calls a1_3 ((rd_T24 l0 (ji57)).f1) true _ A60.out).mono ?_); rintro e w' ⟨rfl, ⟨nd, rfl⟩⟩; (try first | exact ⟨rfl, _, World.drewN_drewN _ _ _⟩ | exact ⟨rfl, _, Eq.trans (World.drewN_drewN _ _ _) (congrArg (World.drewN _) (Nat.add_assoc _ _ _))⟩); have p474 : 0 ≤ ((ji66) : Int) := of_decide_eq_true (by first | (with_reducible assumption) | assumption); have q474 : (ji66) < (l0.length : Int) := of_decide_eq_true (by first | (with_reducible assumption) | assumption); obtain ⟨ad474, e474, hx474_0, hx474_1, hx474_2, hx474_3⟩ := at_T24 HR0.out (ji66) p474 q474; obtain rfl : ad472 = ad474 := (by injection e474); replace hx474_0 := (HB.out.cell (World.block_lt_of_cell? w _ hx474_0)).trans hx474_0; replace hx474_1 := (HB.out.cell (World.block_lt_of_cell? w _ hx474_1)).trans hx474_1; replace hx474_2 := (HB.out.cell (World.block_lt_of_cell? w _ hx474_2)).trans hx474_2; replace hx474_3 := (HB.out.cell (World.block_lt_of_cell? w _ hx474_3)).trans hx474_3; replace p474 := eq_true p474; replace q474 := eq_true q474) | (go_at_call 76; (with_reducible refine (spec_l30Match.calls a1_0 ((rd_T24 l0 (ji66)).f2) t475 _ A69.out).mono ?_); rintro e w' ⟨rfl, ⟨nd, rfl⟩⟩; (try first | exact ⟨rfl, _, World.drewN_drewN _ _ _⟩ | exact ⟨rfl, _, Eq.trans (World.drewN_drewN _ _ _) (congrArg (World.drewN _) (Nat.add_assoc _ _ _))⟩))); try go_wp2_with (first | (go_at_call 76; (with_reducible refine (spec_l30Match.calls a1_3 ((rd_T24 l0 (ji57)).f1) true _ A60.out).mono ?_); rintro e w' ⟨rfl, ⟨nd, rfl⟩⟩; (try first | exact ⟨rfl, _, World.drewN_drewN _ _ _⟩ | exact ⟨rfl, _, Eq.trans (World.drewN_drewN _ _ _) (congrArg (World.drewN _) (Nat.add_assoc _ _ _))⟩); have p474 : 0 ≤ ((ji66) : Int) := of_decide_eq_true (by first | (with_reducible assumption) | assumption); have q474 : (ji66) < (l0.length : Int) := of_decide_eq_true (by first | (with_reducible assumption) | assumption); obtain ⟨ad474, e474, hx474_0, hx474_1, hx474_2, hx474_3⟩ := at_T24 HR0.out (ji66) p474 q474; obtain rfl : ad472 = ad474 := (by injection e474); replace hx474_0 := (HB.out.cell (World.block_lt_of_cell? w _ hx474_0)).trans hx474_0; replace hx474_1 := (HB.out.cell (World.block_lt_of_cell? w _ hx474_1)).trans hx474_1; replace hx474_2 := (HB.out.cell (World.block_lt_of_cell? w _ hx474_2)).trans hx474_2; replace hx474_3 := (HB.out.cell (World.block_lt_of_cell? w _ hx474_3)).trans hx474_3; replace p474 := eq_true p474; replace q474 := eq_true q474) | (go_at_call 76; (with_reducible refine (spec_l30Match.calls a1_0 ((rd_T24 l0 (ji66)).f2) t475 _ A69.out).mono ?_); rintro e w' ⟨rfl, ⟨nd, rfl⟩⟩; (try first | exact ⟨rfl, _, World.drewN_drewN _ _ _⟩ | exact ⟨rfl, _, Eq.trans (World.drewN_drewN _ _ _) (congrArg (World.drewN _) (Nat.add_assoc _ _ _))⟩))))
                              go_ret
                              exact ⟨by first | rfl | (simp [errW_none, errW_some] <;> rfl) | (simp only [← hji57, ← hji66]; first | rfl | (simp [errW_none, errW_some] <;> rfl)) | (simp [*, errW_none, errW_some] <;> rfl), by repeat (first | (with_reducible first | exact HB.out | apply below_alloc | apply pw_below_drewN | apply below_drew1 | refine below_set ?_ GE461.out) | exact HB.out)⟩
                            · rw [if_neg c68] at H
                              exact absurd H (by simp)
                          · rw [if_neg c67] at H
                            exact absurd H (by simp)
                        · rw [if_neg c65] at H
                          have c65b0 : decide (0 < (wrap64 ((l0.length : Int) / a2))) = false := decide_eq_false c65
                          clear c65
                          obtain rfl := Option.some.inj H
                          have hcz71_0 : wc.cell? ⟨gb461, 0, none⟩ = some (.int .i64 a1_0) := (blk_cell BK461.out 0).trans rfl
                          have hcz71_1 : wc.cell? ⟨gb461, 1, none⟩ = some (.int .i64 a1_1) := (blk_cell BK461.out 1).trans rfl
                          have hcz71_2 : wc.cell? ⟨gb461, 2, none⟩ = some (.int .i64 a1_2) := (blk_cell BK461.out 2).trans rfl
                          have hcz71_3 : wc.cell? ⟨gb461, 3, none⟩ = some (.int .i64 a1_3) := (blk_cell BK461.out 3).trans rfl
                          have hfz71_0 := blk_frozen BK461.out 0
                          have hfz71_1 := blk_frozen BK461.out 1
                          have hfz71_2 := blk_frozen BK461.out 2
                          have hfz71_3 := blk_frozen BK461.out 3
                          have p472 : 0 ≤ ((ji57) : Int) := of_decide_eq_true (by first | (with_reducible assumption) | assumption)
                          have q472 : (ji57) < (l0.length : Int) := of_decide_eq_true (by first | (with_reducible assumption) | assumption)
                          obtain ⟨ad472, e472, hx472_0, hx472_1, hx472_2, hx472_3⟩ := at_T24 HR0.out (ji57) p472 q472
                          cases e472
                          replace hx472_0 := (HB.out.cell (World.block_lt_of_cell? w _ hx472_0)).trans hx472_0
                          replace hx472_1 := (HB.out.cell (World.block_lt_of_cell? w _ hx472_1)).trans hx472_1
                          replace hx472_2 := (HB.out.cell (World.block_lt_of_cell? w _ hx472_2)).trans hx472_2
                          replace hx472_3 := (HB.out.cell (World.block_lt_of_cell? w _ hx472_3)).trans hx472_3
                          replace p472 := eq_true p472
                          replace q472 := eq_true q472
                          go_wp2_with (first | (go_at_call 76; (with_reducible refine (spec_l30Match.calls a1_3 ((rd_T24 l0 (ji57)).f1) true _ A60.out).mono ?_); rintro e w' ⟨rfl, ⟨nd, rfl⟩⟩; (try first | exact ⟨rfl, _, World.drewN_drewN _ _ _⟩ | exact ⟨rfl, _, Eq.trans (World.drewN_drewN _ _ _) (congrArg (World.drewN _) (Nat.add_assoc _ _ _))⟩)))
                          repeat (go_quiet (first | (go_at_call 76; (with_reducible refine (spec_l30Match.calls a1_3 ((rd_T24 l0 (ji57)).f1) true _ A60.out).mono ?_); rintro e w' ⟨rfl, ⟨nd, rfl⟩⟩; (try first | exact ⟨rfl, _, World.drewN_drewN _ _ _⟩ | exact ⟨rfl, _, Eq.trans (World.drewN_drewN _ _ _) (congrArg (World.drewN _) (Nat.add_assoc _ _ _))⟩))); try go_wp2_with (first | (go_at_call 76; (with_reducible refine (spec_l30Match.calls a1_3 ((rd_T24 l0 (ji57)).f1) true _ A60.out).mono ?_); rintro e w' ⟨rfl, ⟨nd, rfl⟩⟩; (try first | exact ⟨rfl, _, World.drewN_drewN _ _ _⟩ | exact ⟨rfl, _, Eq.trans (World.drewN_drewN _ _ _) (congrArg (World.drewN _) (Nat.add_assoc _ _ _))⟩))))
                          go_ret
                          exact ⟨by first | rfl | (simp [errW_none, errW_some] <;> rfl) | (simp only [← hji57]; first | rfl | (simp [errW_none, errW_some] <;> rfl)) | (simp [*, errW_none, errW_some] <;> rfl), by repeat (first | (with_reducible first | exact HB.out | apply below_alloc | apply pw_below_drewN | apply below_drew1 | refine below_set ?_ GE461.out) | exact HB.out)⟩
                    · rw [if_neg c62] at H
                      have c62b0 : ((wrap64 ((l0.length : Int) / a2)) == 0) = false := beq_eq_false_iff_ne.mpr c62
                      have c62b1 : ((wrap64 ((l0.length : Int) / a2)) != 0) = true := bne_iff_ne.mpr c62
                      by_cases c72 : (wrap64 ((l0.length : Int) / a2)) > 0
                      · rw [if_pos c72] at H
                        have c72b0 : decide (0 < (wrap64 ((l0.length : Int) / a2))) = true := decide_eq_true c72
                        clear c72
                        obtain ⟨ji73, hji73⟩ : ∃ j_ : Int, (wrap64 ((l0.length : Int) - a2)) = j_ := ⟨_, rfl⟩
                        replace H : (if 0 ≤ (ji73) then (if (ji73) < (l0.length : Int) then ((spec_l30Match.f a1_0 ((rd_T24 l0 (ji73)).f2)).bind fun t477 => (some t477)) else (none)) else (none)) = some r := by first | (rw [hji73] at H; exact H) | (simp only [hji73] at H ⊢; exact H)
                        (try rw [hji73] at A60)
                        have hji73w : (IntKind.i64.wrap ((l0.length : Int) - a2)) = ji73 := (i64_w _).trans hji73
                        by_cases c74 : 0 ≤ (ji73)
                        · rw [if_pos c74] at H
                          have c74b0 : decide (0 ≤ (ji73)) = true := decide_eq_true c74
                          clear c74
                          by_cases c75 : (ji73) < (l0.length : Int)
                          · rw [if_pos c75] at H
                            have c75b0 : decide ((ji73) < (l0.length : Int)) = true := decide_eq_true c75
                            clear c75
                            replace H := Option.bind_eq_some_iff.mp H
                            obtain ⟨t477, A760, H⟩ := H
                            replace H : (some t477) = some r := H
                            have A76 := Aside0.mk A760
                            clear A760
                            obtain rfl := Option.some.inj H
                            have hcz77_0 : wc.cell? ⟨gb461, 0, none⟩ = some (.int .i64 a1_0) := (blk_cell BK461.out 0).trans rfl
                            have hcz77_1 : wc.cell? ⟨gb461, 1, none⟩ = some (.int .i64 a1_1) := (blk_cell BK461.out 1).trans rfl
                            have hcz77_2 : wc.cell? ⟨gb461, 2, none⟩ = some (.int .i64 a1_2) := (blk_cell BK461.out 2).trans rfl
                            have hcz77_3 : wc.cell? ⟨gb461, 3, none⟩ = some (.int .i64 a1_3) := (blk_cell BK461.out 3).trans rfl
                            have hfz77_0 := blk_frozen BK461.out 0
                            have hfz77_1 := blk_frozen BK461.out 1
                            have hfz77_2 := blk_frozen BK461.out 2
                            have hfz77_3 := blk_frozen BK461.out 3
                            have p472 : 0 ≤ ((ji57) : Int) := of_decide_eq_true (by first | (with_reducible assumption) | assumption)
                            have q472 : (ji57) < (l0.length : Int) := of_decide_eq_true (by first | (with_reducible assumption) | assumption)
                            obtain ⟨ad472, e472, hx472_0, hx472_1, hx472_2, hx472_3⟩ := at_T24 HR0.out (ji57) p472 q472
                            cases e472
                            replace hx472_0 := (HB.out.cell (World.block_lt_of_cell? w _ hx472_0)).trans hx472_0
                            replace hx472_1 := (HB.out.cell (World.block_lt_of_cell? w _ hx472_1)).trans hx472_1
                            replace hx472_2 := (HB.out.cell (World.block_lt_of_cell? w _ hx472_2)).trans hx472_2
                            replace hx472_3 := (HB.out.cell (World.block_lt_of_cell? w _ hx472_3)).trans hx472_3
                            replace p472 := eq_true p472
                            replace q472 := eq_true q472
                            go_wp2_with (first | (go_at_call 76; (with_reducible refine (spec_l30Match.calls a1_3 ((rd_T24 l0 (ji57)).f1) true _ A60.out).mono ?_); rintro e w' ⟨rfl, ⟨nd, rfl⟩⟩; (try first | exact ⟨rfl, _, World.drewN_drewN _ _ _⟩ | exact ⟨rfl, _, Eq.trans (World.drewN_drewN _ _ _) (congrArg (World.drewN _) (Nat.add_assoc _ _ _))⟩); have p476 : 0 ≤ ((ji73) : Int) := of_decide_eq_true (by first | (with_reducible assumption) | assumption); have q476 : (ji73) < (l0.length : Int) := of_decide_eq_true (by first | (with_reducible assumption) | assumption); obtain ⟨ad476, e476, hx476_0, hx476_1, hx476_2, hx476_3⟩ := at_T24 HR0.out (ji73) p476 q476; obtain rfl : ad472 = ad476 := (by injection e476); replace hx476_0 := (HB.out.cell (World.block_lt_of_cell? w _ hx476_0)).trans hx476_0; replace hx476_1 := (HB.out.cell (World.block_lt_of_cell? w _ hx476_1)).trans hx476_1; replace hx476_2 := (HB.out.cell (World.block_lt_of_cell? w _ hx476_2)).trans hx476_2; replace hx476_3 := (HB.out.cell (World.block_lt_of_cell? w _ hx476_3)).trans hx476_3; replace p476 := eq_true p476; replace q476 := eq_true q476) | (go_at_call 76; (with_reducible refine (spec_l30Match.calls a1_0 ((rd_T24 l0 (ji73)).f2) t477 _ A76.out).mono ?_); rintro e w' ⟨rfl, ⟨nd, rfl⟩⟩; (try first | exact ⟨rfl, _, World.drewN_drewN _ _ _⟩ | exact ⟨rfl, _, Eq.trans (World.drewN_drewN _ _ _) (congrArg (World.drewN _) (Nat.add_assoc _ _ _))⟩)))
                            repeat (go_quiet (first | (go_at_call 76; (with_reducible refine (spec_l30Match.calls a1_3 ((rd_T24 l0 (ji57)).f1) true _ A60.out).mono ?_); rintro e w' ⟨rfl, ⟨nd, rfl⟩⟩; (try first | exact ⟨rfl, _, World.drewN_drewN _ _ _⟩ | exact ⟨rfl, _, Eq.trans (World.drewN_drewN _ _ _) (congrArg (World.drewN _) (Nat.add_assoc _ _ _))⟩); have p476 : 0 ≤ ((ji73) : Int) := of_decide_eq_true (by first | (with_reducible assumption) | assumption); have q476 : (ji73) < (l0.length : Int) := of_decide_eq_true (by first | (with_reducible assumption) | assumption); obtain ⟨ad476, e476, hx476_0, hx476_1, hx476_2, hx476_3⟩ := at_T24 HR0.out (ji73) p476 q476; obtain rfl : ad472 = ad476 := (by injection e476); replace hx476_0 := (HB.out.cell (World.block_lt_of_cell? w _ hx476_0)).trans hx476_0; replace hx476_1 := (HB.out.cell (World.block_lt_of_cell? w _ hx476_1)).trans hx476_1; replace hx476_2 := (HB.out.cell (World.block_lt_of_cell? w _ hx476_2)).trans hx476_2; replace hx476_3 := (HB.out.cell (World.block_lt_of_cell? w _ hx476_3)).trans hx476_3; replace p476 := eq_true p476; replace q476 := eq_true q476) | (go_at_call 76; (with_reducible refine (spec_l30Match.calls a1_0 ((rd_T24 l0 (ji73)).f2) t477 _ A76.out).mono ?_); rintro e w' ⟨rfl, ⟨nd, rfl⟩⟩; (try first | exact ⟨rfl, _, World.drewN_drewN _ _ _⟩ | exact ⟨rfl, _, Eq.trans (World.drewN_drewN _ _ _) (congrArg (World.drewN _) (Nat.add_assoc _ _ _))⟩))); try go_wp2_with (first | (go_at_call 76; (with_reducible refine (spec_l30Match.calls a1_3 ((rd_T24 l0 (ji57)).f1) true _ A60.out).mono ?_); rintro e w' ⟨rfl, ⟨nd, rfl⟩⟩; (try first | exact ⟨rfl, _, World.drewN_drewN _ _ _⟩ | exact ⟨rfl, _, Eq.trans (World.drewN_drewN _ _ _) (congrArg (World.drewN _) (Nat.add_assoc _ _ _))⟩); have p476 : 0 ≤ ((ji73) : Int) := of_decide_eq_true (by first | (with_reducible assumption) | assumption); have q476 : (ji73) < (l0.length : Int) := of_decide_eq_true (by first | (with_reducible assumption) | assumption); obtain ⟨ad476, e476, hx476_0, hx476_1, hx476_2, hx476_3⟩ := at_T24 HR0.out (ji73) p476 q476; obtain rfl : ad472 = ad476 := (by injection e476); replace hx476_0 := (HB.out.cell (World.block_lt_of_cell? w _ hx476_0)).trans hx476_0; replace hx476_1 := (HB.out.cell (World.block_lt_of_cell? w _ hx476_1)).trans hx476_1; replace hx476_2 := (HB.out.cell (World.block_lt_of_cell? w _ hx476_2)).trans hx476_2; replace hx476_3 := (HB.out.cell (World.block_lt_of_cell? w _ hx476_3)).trans hx476_3; replace p476 := eq_true p476; replace q476 := eq_true q476) | (go_at_call 76; (with_reducible refine (spec_l30Match.calls a1_0 ((rd_T24 l0 (ji73)).f2) t477 _ A76.out).mono ?_); rintro e w' ⟨rfl, ⟨nd, rfl⟩⟩; (try first | exact ⟨rfl, _, World.drewN_drewN _ _ _⟩ | exact ⟨rfl, _, Eq.trans (World.drewN_drewN _ _ _) (congrArg (World.drewN _) (Nat.add_assoc _ _ _))⟩))))
                            go_ret
                            exact ⟨by first | rfl | (simp [errW_none, errW_some] <;> rfl) | (simp only [← hji57, ← hji73]; first | rfl | (simp [errW_none, errW_some] <;> rfl)) | (simp [*, errW_none, errW_some] <;> rfl), by repeat (first | (with_reducible first | exact HB.out | apply below_alloc | apply pw_below_drewN | apply below_drew1 | refine below_set ?_ GE461.out) | exact HB.out)⟩
                          · rw [if_neg c75] at H
                            exact absurd H (by simp)
                        · rw [if_neg c74] at H
                          exact absurd H (by simp)
                      · rw [if_neg c72] at H
                        have c72b0 : decide (0 < (wrap64 ((l0.length : Int) / a2))) = false := decide_eq_false c72
                        clear c72
                        obtain rfl := Option.some.inj H
                        have hcz78_0 : wc.cell? ⟨gb461, 0, none⟩ = some (.int .i64 a1_0) := (blk_cell BK461.out 0).trans rfl
                        have hcz78_1 : wc.cell? ⟨gb461, 1, none⟩ = some (.int .i64 a1_1) := (blk_cell BK461.out 1).trans rfl
                        have hcz78_2 : wc.cell? ⟨gb461, 2, none⟩ = some (.int .i64 a1_2) := (blk_cell BK461.out 2).trans rfl
                        have hcz78_3 : wc.cell? ⟨gb461, 3, none⟩ = some (.int .i64 a1_3) := (blk_cell BK461.out 3).trans rfl
                        have hfz78_0 := blk_frozen BK461.out 0
                        have hfz78_1 := blk_frozen BK461.out 1
                        have hfz78_2 := blk_frozen BK461.out 2
                        have hfz78_3 := blk_frozen BK461.out 3
                        have p472 : 0 ≤ ((ji57) : Int) := of_decide_eq_true (by first | (with_reducible assumption) | assumption)
                        have q472 : (ji57) < (l0.length : Int) := of_decide_eq_true (by first | (with_reducible assumption) | assumption)
                        obtain ⟨ad472, e472, hx472_0, hx472_1, hx472_2, hx472_3⟩ := at_T24 HR0.out (ji57) p472 q472
                        cases e472
                        replace hx472_0 := (HB.out.cell (World.block_lt_of_cell? w _ hx472_0)).trans hx472_0
                        replace hx472_1 := (HB.out.cell (World.block_lt_of_cell? w _ hx472_1)).trans hx472_1
                        replace hx472_2 := (HB.out.cell (World.block_lt_of_cell? w _ hx472_2)).trans hx472_2
                        replace hx472_3 := (HB.out.cell (World.block_lt_of_cell? w _ hx472_3)).trans hx472_3
                        replace p472 := eq_true p472
                        replace q472 := eq_true q472
                        go_wp2_with (first | (go_at_call 76; (with_reducible refine (spec_l30Match.calls a1_3 ((rd_T24 l0 (ji57)).f1) true _ A60.out).mono ?_); rintro e w' ⟨rfl, ⟨nd, rfl⟩⟩; (try first | exact ⟨rfl, _, World.drewN_drewN _ _ _⟩ | exact ⟨rfl, _, Eq.trans (World.drewN_drewN _ _ _) (congrArg (World.drewN _) (Nat.add_assoc _ _ _))⟩)))
                        repeat (go_quiet (first | (go_at_call 76; (with_reducible refine (spec_l30Match.calls a1_3 ((rd_T24 l0 (ji57)).f1) true _ A60.out).mono ?_); rintro e w' ⟨rfl, ⟨nd, rfl⟩⟩; (try first | exact ⟨rfl, _, World.drewN_drewN _ _ _⟩ | exact ⟨rfl, _, Eq.trans (World.drewN_drewN _ _ _) (congrArg (World.drewN _) (Nat.add_assoc _ _ _))⟩))); try go_wp2_with (first | (go_at_call 76; (with_reducible refine (spec_l30Match.calls a1_3 ((rd_T24 l0 (ji57)).f1) true _ A60.out).mono ?_); rintro e w' ⟨rfl, ⟨nd, rfl⟩⟩; (try first | exact ⟨rfl, _, World.drewN_drewN _ _ _⟩ | exact ⟨rfl, _, Eq.trans (World.drewN_drewN _ _ _) (congrArg (World.drewN _) (Nat.add_assoc _ _ _))⟩))))
                        go_ret
                        exact ⟨by first | rfl | (simp [errW_none, errW_some] <;> rfl) | (simp only [← hji57]; first | rfl | (simp [errW_none, errW_some] <;> rfl)) | (simp [*, errW_none, errW_some] <;> rfl), by repeat (first | (with_reducible first | exact HB.out | apply below_alloc | apply pw_below_drewN | apply below_drew1 | refine below_set ?_ GE461.out) | exact HB.out)⟩
                  · replace c61 := Bool.eq_false_iff.mpr c61
                    subst c61
                    have H1 : (some false) = some r := by rw [if_neg (show ¬ (false = true) by decide)] at H; exact H
                    clear H
                    have H := H1
                    clear H1
                    obtain rfl := Option.some.inj H
                    have hcz79_0 : wc.cell? ⟨gb461, 0, none⟩ = some (.int .i64 a1_0) := (blk_cell BK461.out 0).trans rfl
                    have hcz79_1 : wc.cell? ⟨gb461, 1, none⟩ = some (.int .i64 a1_1) := (blk_cell BK461.out 1).trans rfl
                    have hcz79_2 : wc.cell? ⟨gb461, 2, none⟩ = some (.int .i64 a1_2) := (blk_cell BK461.out 2).trans rfl
                    have hcz79_3 : wc.cell? ⟨gb461, 3, none⟩ = some (.int .i64 a1_3) := (blk_cell BK461.out 3).trans rfl
                    have hfz79_0 := blk_frozen BK461.out 0
                    have hfz79_1 := blk_frozen BK461.out 1
                    have hfz79_2 := blk_frozen BK461.out 2
                    have hfz79_3 := blk_frozen BK461.out 3
                    have p472 : 0 ≤ ((ji57) : Int) := of_decide_eq_true (by first | (with_reducible assumption) | assumption)
                    have q472 : (ji57) < (l0.length : Int) := of_decide_eq_true (by first | (with_reducible assumption) | assumption)
                    obtain ⟨ad472, e472, hx472_0, hx472_1, hx472_2, hx472_3⟩ := at_T24 HR0.out (ji57) p472 q472
                    cases e472
                    replace hx472_0 := (HB.out.cell (World.block_lt_of_cell? w _ hx472_0)).trans hx472_0
                    replace hx472_1 := (HB.out.cell (World.block_lt_of_cell? w _ hx472_1)).trans hx472_1
                    replace hx472_2 := (HB.out.cell (World.block_lt_of_cell? w _ hx472_2)).trans hx472_2
                    replace hx472_3 := (HB.out.cell (World.block_lt_of_cell? w _ hx472_3)).trans hx472_3
                    replace p472 := eq_true p472
                    replace q472 := eq_true q472
                    go_wp2_with (first | (go_at_call 76; (with_reducible refine (spec_l30Match.calls a1_3 ((rd_T24 l0 (ji57)).f1) false _ A60.out).mono ?_); rintro e w' ⟨rfl, ⟨nd, rfl⟩⟩; (try first | exact ⟨rfl, _, World.drewN_drewN _ _ _⟩ | exact ⟨rfl, _, Eq.trans (World.drewN_drewN _ _ _) (congrArg (World.drewN _) (Nat.add_assoc _ _ _))⟩)))
                    repeat (go_quiet (first | (go_at_call 76; (with_reducible refine (spec_l30Match.calls a1_3 ((rd_T24 l0 (ji57)).f1) false _ A60.out).mono ?_); rintro e w' ⟨rfl, ⟨nd, rfl⟩⟩; (try first | exact ⟨rfl, _, World.drewN_drewN _ _ _⟩ | exact ⟨rfl, _, Eq.trans (World.drewN_drewN _ _ _) (congrArg (World.drewN _) (Nat.add_assoc _ _ _))⟩))); try go_wp2_with (first | (go_at_call 76; (with_reducible refine (spec_l30Match.calls a1_3 ((rd_T24 l0 (ji57)).f1) false _ A60.out).mono ?_); rintro e w' ⟨rfl, ⟨nd, rfl⟩⟩; (try first | exact ⟨rfl, _, World.drewN_drewN _ _ _⟩ | exact ⟨rfl, _, Eq.trans (World.drewN_drewN _ _ _) (congrArg (World.drewN _) (Nat.add_assoc _ _ _))⟩))))
                    go_ret
                    exact ⟨by first | rfl | (simp [errW_none, errW_some] <;> rfl) | (simp only [← hji57]; first | rfl | (simp [errW_none, errW_some] <;> rfl)) | (simp [*, errW_none, errW_some] <;> rfl), by repeat (first | (with_reducible first | exact HB.out | apply below_alloc | apply pw_below_drewN | apply below_drew1 | refine below_set ?_ GE461.out) | exact HB.out)⟩
                · rw [if_neg c59] at H
                  exact absurd H (by simp)
              · rw [if_neg c58] at H
                exact absurd H (by simp)
            · rw [if_neg c56] at H
              have c56b0 : decide (0 < ((l0.length : Int) % a2)) = false := decide_eq_false c56
              clear c56
              by_cases c80 : (wrap64 ((l0.length : Int) / a2)) = 0
              · rw [if_pos c80] at H
                have c80b0 : ((wrap64 ((l0.length : Int) / a2)) == 0) = true := beq_iff_eq.mpr c80
                have c80b1 : ((wrap64 ((l0.length : Int) / a2)) != 0) = false := bne_eq_false_iff_eq.mpr c80
                clear c80
                by_cases c81 : a1_0 = 0
                · rw [if_pos c81] at H
                  have c81b0 : (a1_0 == 0) = true := beq_iff_eq.mpr c81
                  have c81b1 : (a1_0 != 0) = false := bne_eq_false_iff_eq.mpr c81
                  clear c81
                  obtain rfl := Option.some.inj H
                  have hcz82_0 : wc.cell? ⟨gb461, 0, none⟩ = some (.int .i64 a1_0) := (blk_cell BK461.out 0).trans rfl
                  have hcz82_1 : wc.cell? ⟨gb461, 1, none⟩ = some (.int .i64 a1_1) := (blk_cell BK461.out 1).trans rfl
                  have hcz82_2 : wc.cell? ⟨gb461, 2, none⟩ = some (.int .i64 a1_2) := (blk_cell BK461.out 2).trans rfl
                  have hcz82_3 : wc.cell? ⟨gb461, 3, none⟩ = some (.int .i64 a1_3) := (blk_cell BK461.out 3).trans rfl
                  have hfz82_0 := blk_frozen BK461.out 0
                  have hfz82_1 := blk_frozen BK461.out 1
                  have hfz82_2 := blk_frozen BK461.out 2
                  have hfz82_3 := blk_frozen BK461.out 3
                  go_wp2
                  repeat (go_quiet (fail); try go_wp2)
                  go_ret
                  exact ⟨by first | rfl | (simp [errW_none, errW_some] <;> rfl) | (simp [*, errW_none, errW_some] <;> rfl), by repeat (first | (with_reducible first | exact HB.out | apply below_alloc | apply pw_below_drewN | apply below_drew1 | refine below_set ?_ GE461.out) | exact HB.out)⟩
                · rw [if_neg c81] at H
                  have c81b0 : (a1_0 == 0) = false := beq_eq_false_iff_ne.mpr c81
                  have c81b1 : (a1_0 != 0) = true := bne_iff_ne.mpr c81
                  by_cases c83 : (wrap64 ((l0.length : Int) / a2)) > 0
                  · rw [if_pos c83] at H
                    have c83b0 : decide (0 < (wrap64 ((l0.length : Int) / a2))) = true := decide_eq_true c83
                    clear c83
                    obtain ⟨ji84, hji84⟩ : ∃ j_ : Int, (wrap64 ((l0.length : Int) - a2)) = j_ := ⟨_, rfl⟩
                    replace H : (if 0 ≤ (ji84) then (if (ji84) < (l0.length : Int) then ((spec_l30Match.f a1_0 ((rd_T24 l0 (ji84)).f2)).bind fun t479 => (some t479)) else (none)) else (none)) = some r := by first | (rw [hji84] at H; exact H) | (simp only [hji84] at H ⊢; exact H)
                    have hji84w : (IntKind.i64.wrap ((l0.length : Int) - a2)) = ji84 := (i64_w _).trans hji84
                    by_cases c85 : 0 ≤ (ji84)
                    · rw [if_pos c85] at H
                      have c85b0 : decide (0 ≤ (ji84)) = true := decide_eq_true c85
                      clear c85
                      by_cases c86 : (ji84) < (l0.length : Int)
                      · rw [if_pos c86] at H
                        have c86b0 : decide ((ji84) < (l0.length : Int)) = true := decide_eq_true c86
                        clear c86
                        replace H := Option.bind_eq_some_iff.mp H
                        obtain ⟨t479, A870, H⟩ := H
                        replace H : (some t479) = some r := H
                        have A87 := Aside0.mk A870
                        clear A870
                        obtain rfl := Option.some.inj H
                        have hcz88_0 : wc.cell? ⟨gb461, 0, none⟩ = some (.int .i64 a1_0) := (blk_cell BK461.out 0).trans rfl
                        have hcz88_1 : wc.cell? ⟨gb461, 1, none⟩ = some (.int .i64 a1_1) := (blk_cell BK461.out 1).trans rfl
                        have hcz88_2 : wc.cell? ⟨gb461, 2, none⟩ = some (.int .i64 a1_2) := (blk_cell BK461.out 2).trans rfl
                        have hcz88_3 : wc.cell? ⟨gb461, 3, none⟩ = some (.int .i64 a1_3) := (blk_cell BK461.out 3).trans rfl
                        have hfz88_0 := blk_frozen BK461.out 0
                        have hfz88_1 := blk_frozen BK461.out 1
                        have hfz88_2 := blk_frozen BK461.out 2
                        have hfz88_3 := blk_frozen BK461.out 3
                        have p478 : 0 ≤ ((ji84) : Int) := of_decide_eq_true (by first | (with_reducible assumption) | assumption)
                        have q478 : (ji84) < (l0.length : Int) := of_decide_eq_true (by first | (with_reducible assumption) | assumption)
                        obtain ⟨ad478, e478, hx478_0, hx478_1, hx478_2, hx478_3⟩ := at_T24 HR0.out (ji84) p478 q478
                        cases e478
                        replace hx478_0 := (HB.out.cell (World.block_lt_of_cell? w _ hx478_0)).trans hx478_0
                        replace hx478_1 := (HB.out.cell (World.block_lt_of_cell? w _ hx478_1)).trans hx478_1
                        replace hx478_2 := (HB.out.cell (World.block_lt_of_cell? w _ hx478_2)).trans hx478_2
                        replace hx478_3 := (HB.out.cell (World.block_lt_of_cell? w _ hx478_3)).trans hx478_3
                        replace p478 := eq_true p478
                        replace q478 := eq_true q478
                        go_wp2_with (first | (go_at_call 76; (with_reducible refine (spec_l30Match.calls a1_0 ((rd_T24 l0 (ji84)).f2) t479 _ A87.out).mono ?_); rintro e w' ⟨rfl, ⟨nd, rfl⟩⟩; (try first | exact ⟨rfl, _, World.drewN_drewN _ _ _⟩ | exact ⟨rfl, _, Eq.trans (World.drewN_drewN _ _ _) (congrArg (World.drewN _) (Nat.add_assoc _ _ _))⟩)))
                        repeat (go_quiet (first | (go_at_call 76; (with_reducible refine (spec_l30Match.calls a1_0 ((rd_T24 l0 (ji84)).f2) t479 _ A87.out).mono ?_); rintro e w' ⟨rfl, ⟨nd, rfl⟩⟩; (try first | exact ⟨rfl, _, World.drewN_drewN _ _ _⟩ | exact ⟨rfl, _, Eq.trans (World.drewN_drewN _ _ _) (congrArg (World.drewN _) (Nat.add_assoc _ _ _))⟩))); try go_wp2_with (first | (go_at_call 76; (with_reducible refine (spec_l30Match.calls a1_0 ((rd_T24 l0 (ji84)).f2) t479 _ A87.out).mono ?_); rintro e w' ⟨rfl, ⟨nd, rfl⟩⟩; (try first | exact ⟨rfl, _, World.drewN_drewN _ _ _⟩ | exact ⟨rfl, _, Eq.trans (World.drewN_drewN _ _ _) (congrArg (World.drewN _) (Nat.add_assoc _ _ _))⟩))))
                        go_ret
                        exact ⟨by first | rfl | (simp [errW_none, errW_some] <;> rfl) | (simp only [← hji84]; first | rfl | (simp [errW_none, errW_some] <;> rfl)) | (simp [*, errW_none, errW_some] <;> rfl), by repeat (first | (with_reducible first | exact HB.out | apply below_alloc | apply pw_below_drewN | apply below_drew1 | refine below_set ?_ GE461.out) | exact HB.out)⟩
                      · rw [if_neg c86] at H
                        exact absurd H (by simp)
                    · rw [if_neg c85] at H
                      exact absurd H (by simp)
                  · rw [if_neg c83] at H
                    have c83b0 : decide (0 < (wrap64 ((l0.length : Int) / a2))) = false := decide_eq_false c83
                    clear c83
                    obtain rfl := Option.some.inj H
                    have hcz89_0 : wc.cell? ⟨gb461, 0, none⟩ = some (.int .i64 a1_0) := (blk_cell BK461.out 0).trans rfl
                    have hcz89_1 : wc.cell? ⟨gb461, 1, none⟩ = some (.int .i64 a1_1) := (blk_cell BK461.out 1).trans rfl
                    have hcz89_2 : wc.cell? ⟨gb461, 2, none⟩ = some (.int .i64 a1_2) := (blk_cell BK461.out 2).trans rfl
                    have hcz89_3 : wc.cell? ⟨gb461, 3, none⟩ = some (.int .i64 a1_3) := (blk_cell BK461.out 3).trans rfl
                    have hfz89_0 := blk_frozen BK461.out 0
                    have hfz89_1 := blk_frozen BK461.out 1
                    have hfz89_2 := blk_frozen BK461.out 2
                    have hfz89_3 := blk_frozen BK461.out 3
                    go_wp2
                    repeat (go_quiet (fail); try go_wp2)
                    go_ret
                    exact ⟨by first | rfl | (simp [errW_none, errW_some] <;> rfl) | (simp [*, errW_none, errW_some] <;> rfl), by repeat (first | (with_reducible first | exact HB.out | apply below_alloc | apply pw_below_drewN | apply below_drew1 | refine below_set ?_ GE461.out) | exact HB.out)⟩
              · rw [if_neg c80] at H
                have c80b0 : ((wrap64 ((l0.length : Int) / a2)) == 0) = false := beq_eq_false_iff_ne.mpr c80
                have c80b1 : ((wrap64 ((l0.length : Int) / a2)) != 0) = true := bne_iff_ne.mpr c80
                by_cases c90 : (wrap64 ((l0.length : Int) / a2)) > 0
                · rw [if_pos c90] at H
                  have c90b0 : decide (0 < (wrap64 ((l0.length : Int) / a2))) = true := decide_eq_true c90
                  clear c90
                  obtain ⟨ji91, hji91⟩ : ∃ j_ : Int, (wrap64 ((l0.length : Int) - a2)) = j_ := ⟨_, rfl⟩
                  replace H : (if 0 ≤ (ji91) then (if (ji91) < (l0.length : Int) then ((spec_l30Match.f a1_0 ((rd_T24 l0 (ji91)).f2)).bind fun t481 => (some t481)) else (none)) else (none)) = some r := by first | (rw [hji91] at H; exact H) | (simp only [hji91] at H ⊢; exact H)
                  have hji91w : (IntKind.i64.wrap ((l0.length : Int) - a2)) = ji91 := (i64_w _).trans hji91
                  by_cases c92 : 0 ≤ (ji91)
                  · rw [if_pos c92] at H
                    have c92b0 : decide (0 ≤ (ji91)) = true := decide_eq_true c92
                    clear c92
                    by_cases c93 : (ji91) < (l0.length : Int)
                    · rw [if_pos c93] at H
                      have c93b0 : decide ((ji91) < (l0.length : Int)) = true := decide_eq_true c93
                      clear c93
                      replace H := Option.bind_eq_some_iff.mp H
                      obtain ⟨t481, A940, H⟩ := H
                      replace H : (some t481) = some r := H
                      have A94 := Aside0.mk A940
                      clear A940
                      obtain rfl := Option.some.inj H
                      have hcz95_0 : wc.cell? ⟨gb461, 0, none⟩ = some (.int .i64 a1_0) := (blk_cell BK461.out 0).trans rfl
                      have hcz95_1 : wc.cell? ⟨gb461, 1, none⟩ = some (.int .i64 a1_1) := (blk_cell BK461.out 1).trans rfl
                      have hcz95_2 : wc.cell? ⟨gb461, 2, none⟩ = some (.int .i64 a1_2) := (blk_cell BK461.out 2).trans rfl
                      have hcz95_3 : wc.cell? ⟨gb461, 3, none⟩ = some (.int .i64 a1_3) := (blk_cell BK461.out 3).trans rfl
                      have hfz95_0 := blk_frozen BK461.out 0
                      have hfz95_1 := blk_frozen BK461.out 1
                      have hfz95_2 := blk_frozen BK461.out 2
                      have hfz95_3 := blk_frozen BK461.out 3
                      have p480 : 0 ≤ ((ji91) : Int) := of_decide_eq_true (by first | (with_reducible assumption) | assumption)
                      have q480 : (ji91) < (l0.length : Int) := of_decide_eq_true (by first | (with_reducible assumption) | assumption)
                      obtain ⟨ad480, e480, hx480_0, hx480_1, hx480_2, hx480_3⟩ := at_T24 HR0.out (ji91) p480 q480
                      cases e480
                      replace hx480_0 := (HB.out.cell (World.block_lt_of_cell? w _ hx480_0)).trans hx480_0
                      replace hx480_1 := (HB.out.cell (World.block_lt_of_cell? w _ hx480_1)).trans hx480_1
                      replace hx480_2 := (HB.out.cell (World.block_lt_of_cell? w _ hx480_2)).trans hx480_2
                      replace hx480_3 := (HB.out.cell (World.block_lt_of_cell? w _ hx480_3)).trans hx480_3
                      replace p480 := eq_true p480
                      replace q480 := eq_true q480
                      go_wp2_with (first | (go_at_call 76; (with_reducible refine (spec_l30Match.calls a1_0 ((rd_T24 l0 (ji91)).f2) t481 _ A94.out).mono ?_); rintro e w' ⟨rfl, ⟨nd, rfl⟩⟩; (try first | exact ⟨rfl, _, World.drewN_drewN _ _ _⟩ | exact ⟨rfl, _, Eq.trans (World.drewN_drewN _ _ _) (congrArg (World.drewN _) (Nat.add_assoc _ _ _))⟩)))
                      repeat (go_quiet (first | (go_at_call 76; (with_reducible refine (spec_l30Match.calls a1_0 ((rd_T24 l0 (ji91)).f2) t481 _ A94.out).mono ?_); rintro e w' ⟨rfl, ⟨nd, rfl⟩⟩; (try first | exact ⟨rfl, _, World.drewN_drewN _ _ _⟩ | exact ⟨rfl, _, Eq.trans (World.drewN_drewN _ _ _) (congrArg (World.drewN _) (Nat.add_assoc _ _ _))⟩))); try go_wp2_with (first | (go_at_call 76; (with_reducible refine (spec_l30Match.calls a1_0 ((rd_T24 l0 (ji91)).f2) t481 _ A94.out).mono ?_); rintro e w' ⟨rfl, ⟨nd, rfl⟩⟩; (try first | exact ⟨rfl, _, World.drewN_drewN _ _ _⟩ | exact ⟨rfl, _, Eq.trans (World.drewN_drewN _ _ _) (congrArg (World.drewN _) (Nat.add_assoc _ _ _))⟩))))
                      go_ret
                      exact ⟨by first | rfl | (simp [errW_none, errW_some] <;> rfl) | (simp only [← hji91]; first | rfl | (simp [errW_none, errW_some] <;> rfl)) | (simp [*, errW_none, errW_some] <;> rfl), by repeat (first | (with_reducible first | exact HB.out | apply below_alloc | apply pw_below_drewN | apply below_drew1 | refine below_set ?_ GE461.out) | exact HB.out)⟩
                    · rw [if_neg c93] at H
                      exact absurd H (by simp)
                  · rw [if_neg c92] at H
                    exact absurd H (by simp)
                · rw [if_neg c90] at H
                  have c90b0 : decide (0 < (wrap64 ((l0.length : Int) / a2))) = false := decide_eq_false c90
                  clear c90
                  obtain rfl := Option.some.inj H
                  go_wp2
                  repeat (go_quiet (fail); try go_wp2)
                  go_ret
                  exact ⟨by first | rfl | (simp [errW_none, errW_some] <;> rfl) | (simp [*, errW_none, errW_some] <;> rfl), by repeat (first | (with_reducible first | exact HB.out | apply below_alloc | apply pw_below_drewN | apply below_drew1 | refine below_set ?_ GE461.out) | exact HB.out)⟩

end Go.Proofs.Ytgcagmmghckbbaa.A




namespace Go.Proofs.Ytgcagmmghckbbaa.A
open Go.RowKit Go.Proofs.YtgcagmmghckbbaaW.PrintWords Go.Proofs.YtgcagmmghckbbaaW.PrintLast Go.Proofs.YtgcagmmghckbbaaW.PrintMore
attribute [local go_sem] max2_int min2_int max_two min_two max_three min_three max_four min_four   -- for this text's walks alone
set_option linter.unusedVariables false
set_option linter.unusedSimpArgs false

def impl_jigsawCode.f (k : Nat) (l0 : List (S24)) (a1 : Int) (a2 : Int) : Option (Int) := (impl_areTiles.f k l0).bind fun t521 => (if t521 = true then ((impl_within.f a1 1 6).bind fun t522 => (if t522 = true then ((impl_within.f a2 1 6).bind fun t523 => (if t523 = true then (if (wrap64 (a1 * a2)) = (l0.length : Int) then (if (l0.length : Int) > 12 then (some 2) else (some 0)) else (some 2)) else (some 2))) else (some 2))) else (some 1))
set_option maxHeartbeats 8000000 in
set_option maxRecDepth 100000 in
theorem impl_jigsawCode.calls (k : Nat) (A0 : Option Addr) (c0 : Nat) (l0 : List (S24)) (a1 : Int) (a2 : Int) (r : Int) (w : World) (hr0 : Kd.C k24 w A0 l0.length l0) (hc0 : l0.length ≤ c0) (h : impl_jigsawCode.f k l0 a1 a2 = some r) :
    Calls Try.prog 63 #[.slice A0 l0.length c0, .int .i64 a1, .int .i64 a2] w fun e w' => e = .returned (.int .i64 r) ∧ Below w.heap.size w w' := by
  have HR0 := Aside0.mk hr0
  have HC0 := Aside0.mk hc0
  clear hr0 hc0
  have HB := Aside0.mk (Below.refl w.heap.size w)
  have H : ((impl_areTiles.f k l0).bind fun t521 => (if t521 = true then ((impl_within.f a1 1 6).bind fun t522 => (if t522 = true then ((impl_within.f a2 1 6).bind fun t523 => (if t523 = true then (if (wrap64 (a1 * a2)) = (l0.length : Int) then (if (l0.length : Int) > 12 then (some 2) else (some 0)) else (some 2)) else (some 2))) else (some 2))) else (some 1))) = some r := h
  clear h
  replace H := Option.bind_eq_some_iff.mp H
  obtain ⟨t521, A40, H⟩ := H
  replace H : (if t521 = true then ((impl_within.f a1 1 6).bind fun t522 => (if t522 = true then ((impl_within.f a2 1 6).bind fun t523 => (if t523 = true then (if (wrap64 (a1 * a2)) = (l0.length : Int) then (if (l0.length : Int) > 12 then (some 2) else (some 0)) else (some 2)) else (some 2))) else (some 2))) else (some 1)) = some r := H
  have A4 := Aside0.mk A40
  clear A40
  have H0_ := Aside0.mk H
  clear H
  go_enter Try.func63, Try.ntmps63
  go_wp2_with (first | ((with_reducible refine gate_callee (f := 75) rfl ?_); refine goesL_ (some 8) rfl rfl Try.func75 (by kernel_rfl) rfl #[.slice A0 l0.length c0] rfl (by (try simp only [List.map_toArray, List.map_cons, List.map_nil]); first | done | rfl | (simp only [List.length_drop, List.length_take]; rfl)) ?_; (with_reducible refine (impl_areTiles.calls k _ _ l0 t521 _ ?side1 ?side2 A4.out).mono ?_); (case side1 => repeat (first | exact HR0.out | (with_reducible refine Kd.C_alloc ?_ _) | (with_reducible refine Kd.C_drewN ?_ _) | (with_reducible refine Kd.C_drew ?_))); (case side2 => exact HC0.out); rintro e w5 ⟨rfl, hb⟩; refine ⟨_, rfl, ?_⟩; have n0_ := Aside0.mk (below_step (by repeat (first | (with_reducible first | exact HB.out | apply below_alloc | apply pw_below_drewN | apply below_drew1) | exact HB.out)) hb); clear HB; have HB := n0_; clear n0_; (try clear hb); (try clear hb2); (try clear hk); (try clear hi); refine Stop0.out ?_))
  refine Stop0.mk ?_
  have H := H0_.out
  clear H0_
  by_cases c6 : t521 = true
  · subst c6
    have H1 : ((impl_within.f a1 1 6).bind fun t522 => (if t522 = true then ((impl_within.f a2 1 6).bind fun t523 => (if t523 = true then (if (wrap64 (a1 * a2)) = (l0.length : Int) then (if (l0.length : Int) > 12 then (some 2) else (some 0)) else (some 2)) else (some 2))) else (some 2))) = some r := by rw [if_pos rfl] at H; exact H
    clear H
    have H := H1
    clear H1
    replace H := Option.bind_eq_some_iff.mp H
    obtain ⟨t522, A70, H⟩ := H
    replace H : (if t522 = true then ((impl_within.f a2 1 6).bind fun t523 => (if t523 = true then (if (wrap64 (a1 * a2)) = (l0.length : Int) then (if (l0.length : Int) > 12 then (some 2) else (some 0)) else (some 2)) else (some 2))) else (some 2)) = some r := H
    have A7 := Aside0.mk A70
    clear A70
    have H0_ := Aside0.mk H
    clear H
    go_wp2_with (first | ((with_reducible refine gate_callee (f := 53) rfl ?_); refine goesL_ (some 11) rfl rfl Try.func53 (by kernel_rfl) rfl #[.int .i64 a1, .int .i64 1, .int .i64 6] rfl (by (try simp only [List.map_toArray, List.map_cons, List.map_nil]); first | done | rfl | (simp only [List.length_drop, List.length_take]; rfl)) ?_; (with_reducible refine (impl_within.calls a1 1 6 t522 _ A7.out).mono ?_); rintro e w' ⟨rfl, ⟨nd, rfl⟩⟩; refine ⟨_, rfl, ?_⟩; refine Stop0.out ?_))
    refine Stop0.mk ?_
    have H := H0_.out
    clear H0_
    by_cases c8 : t522 = true
    · subst c8
      have H1 : ((impl_within.f a2 1 6).bind fun t523 => (if t523 = true then (if (wrap64 (a1 * a2)) = (l0.length : Int) then (if (l0.length : Int) > 12 then (some 2) else (some 0)) else (some 2)) else (some 2))) = some r := by rw [if_pos rfl] at H; exact H
      clear H
      have H := H1
      clear H1
      replace H := Option.bind_eq_some_iff.mp H
      obtain ⟨t523, A90, H⟩ := H
      replace H : (if t523 = true then (if (wrap64 (a1 * a2)) = (l0.length : Int) then (if (l0.length : Int) > 12 then (some 2) else (some 0)) else (some 2)) else (some 2)) = some r := H
      have A9 := Aside0.mk A90
      clear A90
      have H0_ := Aside0.mk H
      clear H
      go_wp2_with (first | (go_at_call 53; (with_reducible refine (impl_within.calls a2 1 6 t523 _ A9.out).mono ?_); rintro e w' ⟨rfl, ⟨nd, rfl⟩⟩; refine Stop0.out ?_))
      refine Stop0.mk ?_
      have H := H0_.out
      clear H0_
      by_cases c10 : t523 = true
      · subst c10
        have H1 : (if (wrap64 (a1 * a2)) = (l0.length : Int) then (if (l0.length : Int) > 12 then (some 2) else (some 0)) else (some 2)) = some r := by rw [if_pos rfl] at H; exact H
        clear H
        have H := H1
        clear H1
        by_cases c11 : (wrap64 (a1 * a2)) = (l0.length : Int)
        · rw [if_pos c11] at H
          have c11b0 : ((wrap64 (a1 * a2)) == (l0.length : Int)) = true := beq_iff_eq.mpr c11
          have c11b1 : ((wrap64 (a1 * a2)) != (l0.length : Int)) = false := bne_eq_false_iff_eq.mpr c11
          clear c11
          by_cases c12 : (l0.length : Int) > 12
          · rw [if_pos c12] at H
            have c12b0 : decide (12 < (l0.length : Int)) = true := decide_eq_true c12
            have c12b1 : decide (12 < l0.length) = true := decide_eq_true (by omega)
            clear c12
            obtain rfl := Option.some.inj H
            go_wp2
            go_ret
            exact ⟨by first | rfl | (simp [errW_none, errW_some] <;> rfl) | (simp [*, errW_none, errW_some] <;> rfl), by repeat (first | (with_reducible first | exact HB.out | apply below_alloc | apply pw_below_drewN | apply below_drew1) | exact HB.out)⟩
          · rw [if_neg c12] at H
            have c12b0 : decide (12 < (l0.length : Int)) = false := decide_eq_false c12
            have c12b1 : decide (12 < l0.length) = false := decide_eq_false (by omega)
            clear c12
            obtain rfl := Option.some.inj H
            go_wp2
            go_ret
            exact ⟨by first | rfl | (simp [errW_none, errW_some] <;> rfl) | (simp [*, errW_none, errW_some] <;> rfl), by repeat (first | (with_reducible first | exact HB.out | apply below_alloc | apply pw_below_drewN | apply below_drew1) | exact HB.out)⟩
        · rw [if_neg c11] at H
          have c11b0 : ((wrap64 (a1 * a2)) == (l0.length : Int)) = false := beq_eq_false_iff_ne.mpr c11
          have c11b1 : ((wrap64 (a1 * a2)) != (l0.length : Int)) = true := bne_iff_ne.mpr c11
          obtain rfl := Option.some.inj H
          go_wp2
          go_ret
          exact ⟨by first | rfl | (simp [errW_none, errW_some] <;> rfl) | (simp [*, errW_none, errW_some] <;> rfl), by repeat (first | (with_reducible first | exact HB.out | apply below_alloc | apply pw_below_drewN | apply below_drew1) | exact HB.out)⟩
      · replace c10 := Bool.eq_false_iff.mpr c10
        subst c10
        have H1 : (some 2) = some r := by rw [if_neg (show ¬ (false = true) by decide)] at H; exact H
        clear H
        have H := H1
        clear H1
        obtain rfl := Option.some.inj H
        go_wp2
        go_ret
        exact ⟨by first | rfl | (simp [errW_none, errW_some] <;> rfl) | (simp [*, errW_none, errW_some] <;> rfl), by repeat (first | (with_reducible first | exact HB.out | apply below_alloc | apply pw_below_drewN | apply below_drew1) | exact HB.out)⟩
    · replace c8 := Bool.eq_false_iff.mpr c8
      subst c8
      have H1 : (some 2) = some r := by rw [if_neg (show ¬ (false = true) by decide)] at H; exact H
      clear H
      have H := H1
      clear H1
      obtain rfl := Option.some.inj H
      go_wp2
      go_ret
      exact ⟨by first | rfl | (simp [errW_none, errW_some] <;> rfl) | (simp [*, errW_none, errW_some] <;> rfl), by repeat (first | (with_reducible first | exact HB.out | apply below_alloc | apply pw_below_drewN | apply below_drew1) | exact HB.out)⟩
  · replace c6 := Bool.eq_false_iff.mpr c6
    subst c6
    have H1 : (some 1) = some r := by rw [if_neg (show ¬ (false = true) by decide)] at H; exact H
    clear H
    have H := H1
    clear H1
    obtain rfl := Option.some.inj H
    go_wp2
    go_ret
    exact ⟨by first | rfl | (simp [errW_none, errW_some] <;> rfl) | (simp [*, errW_none, errW_some] <;> rfl), by repeat (first | (with_reducible first | exact HB.out | apply below_alloc | apply pw_below_drewN | apply below_drew1) | exact HB.out)⟩

end Go.Proofs.Ytgcagmmghckbbaa.A

namespace Go.Proofs.Ytgcagmmghckbbaa.A
open Go.RowKit Go.Proofs.YtgcagmmghckbbaaW.PrintWords Go.Proofs.YtgcagmmghckbbaaW.PrintLast Go.Proofs.YtgcagmmghckbbaaW.PrintMore
attribute [local go_sem] max2_int min2_int max_two min_two max_three min_three max_four min_four   -- for this text's walks alone
set_option linter.unusedVariables false
set_option linter.unusedSimpArgs false

def impl_match.f (a0 : Int) (a1 : Int) : Option (Bool) := if a0 = 0 then (some false) else (if a1 = 0 then (some false) else (some ((wrap64 (a0 + a1)) == 0)))
set_option maxHeartbeats 8000000 in
set_option maxRecDepth 100000 in
theorem impl_match.calls (a0 : Int) (a1 : Int) (r : Bool) (w : World) (h : impl_match.f a0 a1 = some r) :
    Calls Try.prog 82 #[.int .i64 a0, .int .i64 a1] w fun e w' => e = .returned (.bool r) ∧ Drawn0 w w' := by
  have H : (if a0 = 0 then (some false) else (if a1 = 0 then (some false) else (some ((wrap64 (a0 + a1)) == 0)))) = some r := h
  clear h
  by_cases c3 : a0 = 0
  · rw [if_pos c3] at H
    have c3b0 : (a0 == 0) = true := beq_iff_eq.mpr c3
    have c3b1 : (a0 != 0) = false := bne_eq_false_iff_eq.mpr c3
    clear c3
    obtain rfl := Option.some.inj H
    go_enter Try.func82, Try.ntmps82
    go_wp2
    go_ret
    exact ⟨by first | rfl | (simp; done) | (simp [*]; done), by repeat (first | exact Drawn0.refl _ | apply Drawn0.step)⟩
  · rw [if_neg c3] at H
    have c3b0 : (a0 == 0) = false := beq_eq_false_iff_ne.mpr c3
    have c3b1 : (a0 != 0) = true := bne_iff_ne.mpr c3
    by_cases c4 : a1 = 0
    · rw [if_pos c4] at H
      have c4b0 : (a1 == 0) = true := beq_iff_eq.mpr c4
      have c4b1 : (a1 != 0) = false := bne_eq_false_iff_eq.mpr c4
      clear c4
      obtain rfl := Option.some.inj H
      go_enter Try.func82, Try.ntmps82
      go_wp2
      go_ret
      exact ⟨by first | rfl | (simp; done) | (simp [*]; done), by repeat (first | exact Drawn0.refl _ | apply Drawn0.step)⟩
    · rw [if_neg c4] at H
      have c4b0 : (a1 == 0) = false := beq_eq_false_iff_ne.mpr c4
      have c4b1 : (a1 != 0) = true := bne_iff_ne.mpr c4
      obtain rfl := Option.some.inj H
      go_enter Try.func82, Try.ntmps82
      go_wp2
      go_ret
      exact ⟨by first | rfl | (simp; done) | (simp [*]; done), by repeat (first | exact Drawn0.refl _ | apply Drawn0.step)⟩

end Go.Proofs.Ytgcagmmghckbbaa.A

namespace Go.Proofs.Ytgcagmmghckbbaa.A
open Go.RowKit Go.Proofs.YtgcagmmghckbbaaW.PrintWords Go.Proofs.YtgcagmmghckbbaaW.PrintLast Go.Proofs.YtgcagmmghckbbaaW.PrintMore
attribute [local go_sem] max2_int min2_int max_two min_two max_three min_three max_four min_four   -- for this text's walks alone
set_option linter.unusedVariables false
set_option linter.unusedSimpArgs false

def impl_fits.j0 : Nat → List (S24) → Int → Int → Int → Int → Bool → Int → Int → Int → Int → Option (Bool)
  | 0, _, _, _, _, _, _, _, _, _, _ => none
  | k + 1, x1, x2, x9, x10, x11, x37, x525000, x525001, x525002, x525003 => if x37 = true then (some false) else (if x10 = 0 then (if x525003 = 0 then (if x10 > 0 then (if 0 ≤ (wrap64 (x9 - 1)) then (if (wrap64 (x9 - 1)) < (x1.length : Int) then ((impl_match.f ((rd_T24 x1 (wrap64 (x9 - 1))).f1) x525003).bind fun t526 => (if t526 = true then (if x11 = 0 then (if x525000 = 0 then (some true) else (if x11 > 0 then (if 0 ≤ (wrap64 (x9 - x2)) then (if (wrap64 (x9 - x2)) < (x1.length : Int) then ((impl_match.f ((rd_T24 x1 (wrap64 (x9 - x2))).f2) x525000).bind fun t528 => (some t528)) else (none)) else (none)) else (some false))) else (if x11 > 0 then (if 0 ≤ (wrap64 (x9 - x2)) then (if (wrap64 (x9 - x2)) < (x1.length : Int) then ((impl_match.f ((rd_T24 x1 (wrap64 (x9 - x2))).f2) x525000).bind fun t530 => (some t530)) else (none)) else (none)) else (some false))) else (some false))) else (none)) else (none)) else (if x11 = 0 then (if x525000 = 0 then (some true) else (if x11 > 0 then (if 0 ≤ (wrap64 (x9 - x2)) then (if (wrap64 (x9 - x2)) < (x1.length : Int) then ((impl_match.f ((rd_T24 x1 (wrap64 (x9 - x2))).f2) x525000).bind fun t532 => (some t532)) else (none)) else (none)) else (some false))) else (if x11 > 0 then (if 0 ≤ (wrap64 (x9 - x2)) then (if (wrap64 (x9 - x2)) < (x1.length : Int) then ((impl_match.f ((rd_T24 x1 (wrap64 (x9 - x2))).f2) x525000).bind fun t534 => (some t534)) else (none)) else (none)) else (some false)))) else (some false)) else (if x10 > 0 then (if 0 ≤ (wrap64 (x9 - 1)) then (if (wrap64 (x9 - 1)) < (x1.length : Int) then ((impl_match.f ((rd_T24 x1 (wrap64 (x9 - 1))).f1) x525003).bind fun t536 => (if t536 = true then (if x11 = 0 then (if x525000 = 0 then (some true) else (if x11 > 0 then (if 0 ≤ (wrap64 (x9 - x2)) then (if (wrap64 (x9 - x2)) < (x1.length : Int) then ((impl_match.f ((rd_T24 x1 (wrap64 (x9 - x2))).f2) x525000).bind fun t538 => (some t538)) else (none)) else (none)) else (some false))) else (if x11 > 0 then (if 0 ≤ (wrap64 (x9 - x2)) then (if (wrap64 (x9 - x2)) < (x1.length : Int) then ((impl_match.f ((rd_T24 x1 (wrap64 (x9 - x2))).f2) x525000).bind fun t540 => (some t540)) else (none)) else (none)) else (some false))) else (some false))) else (none)) else (none)) else (if x11 = 0 then (if x525000 = 0 then (some true) else (if x11 > 0 then (if 0 ≤ (wrap64 (x9 - x2)) then (if (wrap64 (x9 - x2)) < (x1.length : Int) then ((impl_match.f ((rd_T24 x1 (wrap64 (x9 - x2))).f2) x525000).bind fun t542 => (some t542)) else (none)) else (none)) else (some false))) else (if x11 > 0 then (if 0 ≤ (wrap64 (x9 - x2)) then (if (wrap64 (x9 - x2)) < (x1.length : Int) then ((impl_match.f ((rd_T24 x1 (wrap64 (x9 - x2))).f2) x525000).bind fun t544 => (some t544)) else (none)) else (none)) else (some false)))))
def impl_fits.f (k : Nat) (a0_0 : Int) (a0_1 : Int) (a0_2 : Int) (a0_3 : Int) (l1 : List (S24)) (a2 : Int) (a3 : Int) : Option (Bool) := if a2 = 0 then (none) else (if ((((l1.length : Int) % a2) == (wrap64 (a2 - 1))) != (a0_1 == 0)) = true then (impl_fits.j0 k l1 a2 (l1.length : Int) ((l1.length : Int) % a2) (wrap64 ((l1.length : Int) / a2)) true a0_0 a0_1 a0_2 a0_3) else (impl_fits.j0 k l1 a2 (l1.length : Int) ((l1.length : Int) % a2) (wrap64 ((l1.length : Int) / a2)) (((wrap64 ((l1.length : Int) / a2)) == (wrap64 (a3 - 1))) != (a0_2 == 0)) a0_0 a0_1 a0_2 a0_3))
set_option maxHeartbeats 8000000 in
set_option maxRecDepth 100000 in
theorem impl_fits.calls (k : Nat) (a0_0 : Int) (a0_1 : Int) (a0_2 : Int) (a0_3 : Int) (A1 : Option Addr) (c1 : Nat) (l1 : List (S24)) (a2 : Int) (a3 : Int) (r : Bool) (w : World) (hr1 : Kd.C k24 w A1 l1.length l1) (hc1 : l1.length ≤ c1) (h : impl_fits.f k a0_0 a0_1 a0_2 a0_3 l1 a2 a3 = some r) :
    Calls Try.prog 77 #[.agg #[.int .i64 a0_0, .int .i64 a0_1, .int .i64 a0_2, .int .i64 a0_3], .slice A1 l1.length c1, .int .i64 a2, .int .i64 a3] w fun e w' => e = .returned (.bool r) ∧ Below w.heap.size w w' := by
  have hu24 := Try.underlying24
  have HR1 := Aside0.mk hr1
  have HC1 := Aside0.mk hc1
  clear hr1 hc1
  have HB := Aside0.mk (Below.refl w.heap.size w)
  have H : (if a2 = 0 then (none) else (if ((((l1.length : Int) % a2) == (wrap64 (a2 - 1))) != (a0_1 == 0)) = true then (impl_fits.j0 k l1 a2 (l1.length : Int) ((l1.length : Int) % a2) (wrap64 ((l1.length : Int) / a2)) true a0_0 a0_1 a0_2 a0_3) else (impl_fits.j0 k l1 a2 (l1.length : Int) ((l1.length : Int) % a2) (wrap64 ((l1.length : Int) / a2)) (((wrap64 ((l1.length : Int) / a2)) == (wrap64 (a3 - 1))) != (a0_2 == 0)) a0_0 a0_1 a0_2 a0_3))) = some r := h
  clear h
  by_cases c5 : a2 = 0
  · rw [if_pos c5] at H
    exact absurd H (by simp)
  · rw [if_neg c5] at H
    have c5b0 : (a2 == 0) = false := beq_eq_false_iff_ne.mpr c5
    have c5b1 : (a2 != 0) = true := bne_iff_ne.mpr c5
    have HC6 := Aside0.mk H
    clear H
    go_enter Try.func77, Try.ntmps77
    go_upto_region 3 with (first | ((with_reducible refine gate_dst (N := 4) rfl ?_); refine box_event ?hg (N := 4) ?hd (cs := #[.int .i64 a0_0, .int .i64 a0_1, .int .i64 a0_2, .int .i64 a0_3]) (t := 24) ?hr ?_; (case hd => rfl); (case hg => rfl); (case hr => first | (go_simp; done) | (go_simp; rfl)); intro gb524 hg w7 hbox hb; have n0_ := Aside0.mk (below_step (by repeat (first | (with_reducible first | exact HB.out | apply below_alloc | apply pw_below_drewN | apply below_drew1) | exact HB.out)) hb); have n1_ := Aside0.mk (hbox); have n2_ := Aside0.mk ((by rw [hg]; exact (below_size (by repeat (first | (with_reducible first | exact HB.out | apply below_alloc | apply pw_below_drewN | apply below_drew1) | exact HB.out))) : w.heap.size ≤ gb524)); have n3_ := Aside0.mk ((by rw [hg]; exact (below_size (by repeat (first | (with_reducible first | exact HB.out | apply below_alloc | apply pw_below_drewN | apply below_drew1) | exact HB.out))) : w.heap.size ≤ gb524)); clear HB; have HB := n0_; have BK524 := n1_; have GW524 := n2_; have GE524 := n3_; clear n0_ n1_ n2_ n3_; clear hb hbox hg))
    repeat (go_quiet (first | ((with_reducible refine gate_dst (N := 4) rfl ?_); refine box_event ?hg (N := 4) ?hd (cs := #[.int .i64 a0_0, .int .i64 a0_1, .int .i64 a0_2, .int .i64 a0_3]) (t := 24) ?hr ?_; (case hd => rfl); (case hg => rfl); (case hr => first | (go_simp; done) | (go_simp; rfl)); intro gb524 hg w7 hbox hb; have n0_ := Aside0.mk (below_step (by repeat (first | (with_reducible first | exact HB.out | apply below_alloc | apply pw_below_drewN | apply below_drew1) | exact HB.out)) hb); have n1_ := Aside0.mk (hbox); have n2_ := Aside0.mk ((by rw [hg]; exact (below_size (by repeat (first | (with_reducible first | exact HB.out | apply below_alloc | apply pw_below_drewN | apply below_drew1) | exact HB.out))) : w.heap.size ≤ gb524)); have n3_ := Aside0.mk ((by rw [hg]; exact (below_size (by repeat (first | (with_reducible first | exact HB.out | apply below_alloc | apply pw_below_drewN | apply below_drew1) | exact HB.out))) : w.heap.size ≤ gb524)); clear HB; have HB := n0_; have BK524 := n1_; have GW524 := n2_; have GE524 := n3_; clear n0_ n1_ n2_ n3_; clear hb hbox hg)); go_upto_region 3 with (first | ((with_reducible refine gate_dst (N := 4) rfl ?_); refine box_event ?hg (N := 4) ?hd (cs := #[.int .i64 a0_0, .int .i64 a0_1, .int .i64 a0_2, .int .i64 a0_3]) (t := 24) ?hr ?_; (case hd => rfl); (case hg => rfl); (case hr => first | (go_simp; done) | (go_simp; rfl)); intro gb524 hg w7 hbox hb; have n0_ := Aside0.mk (below_step (by repeat (first | (with_reducible first | exact HB.out | apply below_alloc | apply pw_below_drewN | apply below_drew1) | exact HB.out)) hb); have n1_ := Aside0.mk (hbox); have n2_ := Aside0.mk ((by rw [hg]; exact (below_size (by repeat (first | (with_reducible first | exact HB.out | apply below_alloc | apply pw_below_drewN | apply below_drew1) | exact HB.out))) : w.heap.size ≤ gb524)); have n3_ := Aside0.mk ((by rw [hg]; exact (below_size (by repeat (first | (with_reducible first | exact HB.out | apply below_alloc | apply pw_below_drewN | apply below_drew1) | exact HB.out))) : w.heap.size ≤ gb524)); clear HB; have HB := n0_; have BK524 := n1_; have GW524 := n2_; have GE524 := n3_; clear n0_ n1_ n2_ n3_; clear hb hbox hg)))
    (try simp only [Act.put, List.setIfInBounds_toArray, List.set_cons_zero, List.set_cons_succ])
    go_cut [37] (fun v37 wc => ∃ (kq : Nat) (x37_5 : Bool), v37 = .bool x37_5 ∧ Aside0 (impl_fits.j0 kq l1 a2 (l1.length : Int) ((l1.length : Int) % a2) (wrap64 ((l1.length : Int) / a2)) x37_5 a0_0 a0_1 a0_2 a0_3 = some r) ∧ Aside0 (kq ≤ k) ∧ Aside0 (wc.heap[gb524]? = some (.cells #[.int .i64 a0_0, .int .i64 a0_1, .int .i64 a0_2, .int .i64 a0_3] 24 (0, 0))) ∧ Aside0 (Below w.heap.size w wc))
    case first =>
      have H := HC6.out
      clear HC6
      by_cases c8 : ((((l1.length : Int) % a2) == (wrap64 (a2 - 1))) != (a0_1 == 0)) = true
      · rw [if_pos c8] at H
        have c8b0 : ((((l1.length : Int) % a2) == (wrap64 (a2 - 1))) != (a0_1 == 0)) = true := c8
        (try (have c8b1 : decide ((((l1.length : Int) % a2) == (wrap64 (a2 - 1))) = (a0_1 == 0)) = false := by simpa using c8))
        (try (have c8b2 : ((((l1.length : Int) % a2) == (wrap64 (a2 - 1))) == (a0_1 == 0)) = false := by simpa using c8))
        (try (have c8b3 : ¬ ((((l1.length : Int) % a2) == (wrap64 (a2 - 1))) = (a0_1 == 0)) := by simpa using c8))
        clear c8
        (first | rw [c8b0] | (simp only [i64_w, i32_w]; rw [c8b0]) | skip)
        have H' := Aside0.mk H
        clear H
        have hcz9_0 : w7.cell? ⟨gb524, 0, none⟩ = some (.int .i64 a0_0) := (blk_cell BK524.out 0).trans rfl
        have hcz9_1 : w7.cell? ⟨gb524, 1, none⟩ = some (.int .i64 a0_1) := (blk_cell BK524.out 1).trans rfl
        have hcz9_2 : w7.cell? ⟨gb524, 2, none⟩ = some (.int .i64 a0_2) := (blk_cell BK524.out 2).trans rfl
        have hcz9_3 : w7.cell? ⟨gb524, 3, none⟩ = some (.int .i64 a0_3) := (blk_cell BK524.out 3).trans rfl
        have hfz9_0 := blk_frozen BK524.out 0
        have hfz9_1 := blk_frozen BK524.out 1
        have hfz9_2 := blk_frozen BK524.out 2
        have hfz9_3 := blk_frozen BK524.out 3
        go_wp2
        repeat (go_quiet (fail); try go_wp2)
        go_meet
        case rel => exact ⟨_, (true), (by first | rfl | (simp; done) | (simp [*]; done)), H', ⟨by first | omega | exact Nat.le_refl _⟩, ⟨by (with_reducible repeat (first | refine blk_drewN ?_ _ | refine blk_drew ?_ | refine blk_alloc ?_ _)); exact BK524.out⟩, ⟨by repeat (first | (with_reducible first | exact HB.out | apply below_alloc | apply pw_below_drewN | apply below_drew1 | refine below_set ?_ GE524.out) | exact HB.out)⟩⟩
      · rw [if_neg c8] at H
        have c8b0 : ((((l1.length : Int) % a2) == (wrap64 (a2 - 1))) != (a0_1 == 0)) = false := by simpa using c8
        (try (have c8b1 : decide ((((l1.length : Int) % a2) == (wrap64 (a2 - 1))) = (a0_1 == 0)) = true := by simpa using c8))
        (try (have c8b2 : ((((l1.length : Int) % a2) == (wrap64 (a2 - 1))) == (a0_1 == 0)) = true := by simpa using c8))
        clear c8
        (first | rw [c8b0] | (simp only [i64_w, i32_w]; rw [c8b0]) | skip)
        have H' := Aside0.mk H
        clear H
        have hcz10_0 : w7.cell? ⟨gb524, 0, none⟩ = some (.int .i64 a0_0) := (blk_cell BK524.out 0).trans rfl
        have hcz10_1 : w7.cell? ⟨gb524, 1, none⟩ = some (.int .i64 a0_1) := (blk_cell BK524.out 1).trans rfl
        have hcz10_2 : w7.cell? ⟨gb524, 2, none⟩ = some (.int .i64 a0_2) := (blk_cell BK524.out 2).trans rfl
        have hcz10_3 : w7.cell? ⟨gb524, 3, none⟩ = some (.int .i64 a0_3) := (blk_cell BK524.out 3).trans rfl
        have hfz10_0 := blk_frozen BK524.out 0
        have hfz10_1 := blk_frozen BK524.out 1
        have hfz10_2 := blk_frozen BK524.out 2
        have hfz10_3 := blk_frozen BK524.out 3
        go_wp2
        repeat (go_quiet (fail); try go_wp2)
        go_meet
        case rel => exact ⟨_, ((((wrap64 ((l1.length : Int) / a2)) == (wrap64 (a3 - 1))) != (a0_2 == 0))), (by first | rfl | (simp; done) | (simp [*]; done)), H', ⟨by first | omega | exact Nat.le_refl _⟩, ⟨by (with_reducible repeat (first | refine blk_drewN ?_ _ | refine blk_drew ?_ | refine blk_alloc ?_ _)); exact BK524.out⟩, ⟨by repeat (first | (with_reducible first | exact HB.out | apply below_alloc | apply pw_below_drewN | apply below_drew1 | refine below_set ?_ GE524.out) | exact HB.out)⟩⟩
    case rest =>
      clear HC6
      try clear c1
      try clear p2
      try clear c5
      try clear c5b0
      try clear c5b1
      try clear p6
      try clear c7
      try clear c8
      try clear c8b0
      try clear c8b1
      try clear c8b2
      try clear hcz10_0
      try clear hcz10_1
      try clear hcz10_2
      try clear hcz10_3
      try clear hcz9_0
      try clear hcz9_1
      try clear hcz9_2
      try clear hcz9_3
      try clear hfz10_0
      try clear hfz10_1
      try clear hfz10_2
      try clear hfz10_3
      try clear hfz9_0
      try clear hfz9_1
      try clear hfz9_2
      try clear hfz9_3
      obtain ⟨kq, x37_5, rfl, HA, HJ5, BK524, HB⟩ := hcut
      cases kq with
      | zero => exact absurd HA.out (by simp [impl_fits.j0])
      | succ kj5 =>
        have H := HA.out
        clear HA
        simp only [impl_fits.j0] at H
        by_cases c11 : x37_5 = true
        · subst c11
          have H1 : (some false) = some r := by rw [if_pos rfl] at H; exact H
          clear H
          have H := H1
          clear H1
          obtain rfl := Option.some.inj H
          go_wp2
          repeat (go_quiet (fail); try go_wp2)
          go_ret
          exact ⟨by first | rfl | (simp [errW_none, errW_some] <;> rfl) | (simp [*, errW_none, errW_some] <;> rfl), by repeat (first | (with_reducible first | exact HB.out | apply below_alloc | apply pw_below_drewN | apply below_drew1 | refine below_set ?_ GE524.out) | exact HB.out)⟩
        · replace c11 := Bool.eq_false_iff.mpr c11
          subst c11
          have H1 : (if ((l1.length : Int) % a2) = 0 then (if a0_3 = 0 then (if ((l1.length : Int) % a2) > 0 then (if 0 ≤ (wrap64 ((l1.length : Int) - 1)) then (if (wrap64 ((l1.length : Int) - 1)) < (l1.length : Int) then ((impl_match.f ((rd_T24 l1 (wrap64 ((l1.length : Int) - 1))).f1) a0_3).bind fun t526 => (if t526 = true then (if (wrap64 ((l1.length : Int) / a2)) = 0 then (if a0_0 = 0 then (some true) else (if (wrap64 ((l1.length : Int) / a2)) > 0 then (if 0 ≤ (wrap64 ((l1.length : Int) - a2)) then (if (wrap64 ((l1.length : Int) - a2)) < (l1.length : Int) then ((impl_match.f ((rd_T24 l1 (wrap64 ((l1.length : Int) - a2))).f2) a0_0).bind fun t528 => (some t528)) else (none)) else (none)) else (some false))) else (if (wrap64 ((l1.length : Int) / a2)) > 0 then (if 0 ≤ (wrap64 ((l1.length : Int) - a2)) then (if (wrap64 ((l1.length : Int) - a2)) < (l1.length : Int) then ((impl_match.f ((rd_T24 l1 (wrap64 ((l1.length : Int) - a2))).f2) a0_0).bind fun t530 => (some t530)) else (none)) else (none)) else (some false))) else (some false))) else (none)) else (none)) else (if (wrap64 ((l1.length : Int) / a2)) = 0 then (if a0_0 = 0 then (some true) else (if (wrap64 ((l1.length : Int) / a2)) > 0 then (if 0 ≤ (wrap64 ((l1.length : Int) - a2)) then (if (wrap64 ((l1.length : Int) - a2)) < (l1.length : Int) then ((impl_match.f ((rd_T24 l1 (wrap64 ((l1.length : Int) - a2))).f2) a0_0).bind fun t532 => (some t532)) else (none)) else (none)) else (some false))) else (if (wrap64 ((l1.length : Int) / a2)) > 0 then (if 0 ≤ (wrap64 ((l1.length : Int) - a2)) then (if (wrap64 ((l1.length : Int) - a2)) < (l1.length : Int) then ((impl_match.f ((rd_T24 l1 (wrap64 ((l1.length : Int) - a2))).f2) a0_0).bind fun t534 => (some t534)) else (none)) else (none)) else (some false)))) else (some false)) else (if ((l1.length : Int) % a2) > 0 then (if 0 ≤ (wrap64 ((l1.length : Int) - 1)) then (if (wrap64 ((l1.length : Int) - 1)) < (l1.length : Int) then ((impl_match.f ((rd_T24 l1 (wrap64 ((l1.length : Int) - 1))).f1) a0_3).bind fun t536 => (if t536 = true then (if (wrap64 ((l1.length : Int) / a2)) = 0 then (if a0_0 = 0 then (some true) else (if (wrap64 ((l1.length : Int) / a2)) > 0 then (if 0 ≤ (wrap64 ((l1.length : Int) - a2)) then (if (wrap64 ((l1.length : Int) - a2)) < (l1.length : Int) then ((impl_match.f ((rd_T24 l1 (wrap64 ((l1.length : Int) - a2))).f2) a0_0).bind fun t538 => (some t538)) else (none)) else (none)) else (some false))) else (if (wrap64 ((l1.length : Int) / a2)) > 0 then (if 0 ≤ (wrap64 ((l1.length : Int) - a2)) then (if (wrap64 ((l1.length : Int) - a2)) < (l1.length : Int) then ((impl_match.f ((rd_T24 l1 (wrap64 ((l1.length : Int) - a2))).f2) a0_0).bind fun t540 => (some t540)) else (none)) else (none)) else (some false))) else (some false))) else (none)) else (none)) else (if (wrap64 ((l1.length : Int) / a2)) = 0 then (if a0_0 = 0 then (some true) else (if (wrap64 ((l1.length : Int) / a2)) > 0 then (if 0 ≤ (wrap64 ((l1.length : Int) - a2)) then (if (wrap64 ((l1.length : Int) - a2)) < (l1.length : Int) then ((impl_match.f ((rd_T24 l1 (wrap64 ((l1.length : Int) - a2))).f2) a0_0).bind fun t542 => (some t542)) else (none)) else (none)) else (some false))) else (if (wrap64 ((l1.length : Int) / a2)) > 0 then (if 0 ≤ (wrap64 ((l1.length : Int) - a2)) then (if (wrap64 ((l1.length : Int) - a2)) < (l1.length : Int) then ((impl_match.f ((rd_T24 l1 (wrap64 ((l1.length : Int) - a2))).f2) a0_0).bind fun t544 => (some t544)) else (none)) else (none)) else (some false))))) = some r := by rw [if_neg (show ¬ (false = true) by decide)] at H; exact H
          clear H
          have H := H1
          clear H1
          by_cases c12 : ((l1.length : Int) % a2) = 0
          · rw [if_pos c12] at H
            have c12b0 : (((l1.length : Int) % a2) == 0) = true := beq_iff_eq.mpr c12
            have c12b1 : (((l1.length : Int) % a2) != 0) = false := bne_eq_false_iff_eq.mpr c12
            clear c12
            by_cases c13 : a0_3 = 0
            · rw [if_pos c13] at H
              have c13b0 : (a0_3 == 0) = true := beq_iff_eq.mpr c13
              have c13b1 : (a0_3 != 0) = false := bne_eq_false_iff_eq.mpr c13
              clear c13
              by_cases c14 : ((l1.length : Int) % a2) > 0
              · rw [if_pos c14] at H
                have c14b0 : decide (0 < ((l1.length : Int) % a2)) = true := decide_eq_true c14
                clear c14
                obtain ⟨ji15, hji15⟩ : ∃ j_ : Int, (wrap64 ((l1.length : Int) - 1)) = j_ := ⟨_, rfl⟩
                replace H : (if 0 ≤ (ji15) then (if (ji15) < (l1.length : Int) then ((impl_match.f ((rd_T24 l1 (ji15)).f1) a0_3).bind fun t526 => (if t526 = true then (if (wrap64 ((l1.length : Int) / a2)) = 0 then (if a0_0 = 0 then (some true) else (if (wrap64 ((l1.length : Int) / a2)) > 0 then (if 0 ≤ (wrap64 ((l1.length : Int) - a2)) then (if (wrap64 ((l1.length : Int) - a2)) < (l1.length : Int) then ((impl_match.f ((rd_T24 l1 (wrap64 ((l1.length : Int) - a2))).f2) a0_0).bind fun t528 => (some t528)) else (none)) else (none)) else (some false))) else (if (wrap64 ((l1.length : Int) / a2)) > 0 then (if 0 ≤ (wrap64 ((l1.length : Int) - a2)) then (if (wrap64 ((l1.length : Int) - a2)) < (l1.length : Int) then ((impl_match.f ((rd_T24 l1 (wrap64 ((l1.length : Int) - a2))).f2) a0_0).bind fun t530 => (some t530)) else (none)) else (none)) else (some false))) else (some false))) else (none)) else (none)) = some r := by first | (rw [hji15] at H; exact H) | (simp only [hji15] at H ⊢; exact H)
                have hji15w : (IntKind.i64.wrap ((l1.length : Int) - 1)) = ji15 := (i64_w _).trans hji15
                by_cases c16 : 0 ≤ (ji15)
                · rw [if_pos c16] at H
                  have c16b0 : decide (0 ≤ (ji15)) = true := decide_eq_true c16
                  clear c16
                  by_cases c17 : (ji15) < (l1.length : Int)
                  · rw [if_pos c17] at H
                    have c17b0 : decide ((ji15) < (l1.length : Int)) = true := decide_eq_true c17
                    clear c17
                    replace H := Option.bind_eq_some_iff.mp H
                    obtain ⟨t526, A180, H⟩ := H
                    replace H : (if t526 = true then (if (wrap64 ((l1.length : Int) / a2)) = 0 then (if a0_0 = 0 then (some true) else (if (wrap64 ((l1.length : Int) / a2)) > 0 then (if 0 ≤ (wrap64 ((l1.length : Int) - a2)) then (if (wrap64 ((l1.length : Int) - a2)) < (l1.length : Int) then ((impl_match.f ((rd_T24 l1 (wrap64 ((l1.length : Int) - a2))).f2) a0_0).bind fun t528 => (some t528)) else (none)) else (none)) else (some false))) else (if (wrap64 ((l1.length : Int) / a2)) > 0 then (if 0 ≤ (wrap64 ((l1.length : Int) - a2)) then (if (wrap64 ((l1.length : Int) - a2)) < (l1.length : Int) then ((impl_match.f ((rd_T24 l1 (wrap64 ((l1.length : Int) - a2))).f2) a0_0).bind fun t530 => (some t530)) else (none)) else (none)) else (some false))) else (some false)) = some r := H
                    have A18 := Aside0.mk A180
                    clear A180
                    by_cases c19 : t526 = true
                    · subst c19
                      have H1 : (if (wrap64 ((l1.length : Int) / a2)) = 0 then (if a0_0 = 0 then (some true) else (if (wrap64 ((l1.length : Int) / a2)) > 0 then (if 0 ≤ (wrap64 ((l1.length : Int) - a2)) then (if (wrap64 ((l1.length : Int) - a2)) < (l1.length : Int) then ((impl_match.f ((rd_T24 l1 (wrap64 ((l1.length : Int) - a2))).f2) a0_0).bind fun t528 => (some t528)) else (none)) else (none)) else (some false))) else (if (wrap64 ((l1.length : Int) / a2)) > 0 then (if 0 ≤ (wrap64 ((l1.length : Int) - a2)) then (if (wrap64 ((l1.length : Int) - a2)) < (l1.length : Int) then ((impl_match.f ((rd_T24 l1 (wrap64 ((l1.length : Int) - a2))).f2) a0_0).bind fun t530 => (some t530)) else (none)) else (none)) else (some false))) = some r := by rw [if_pos rfl] at H; exact H
                      clear H
                      have H := H1
                      clear H1
                      by_cases c20 : (wrap64 ((l1.length : Int) / a2)) = 0
                      · rw [if_pos c20] at H
                        have c20b0 : ((wrap64 ((l1.length : Int) / a2)) == 0) = true := beq_iff_eq.mpr c20
                        have c20b1 : ((wrap64 ((l1.length : Int) / a2)) != 0) = false := bne_eq_false_iff_eq.mpr c20
                        clear c20
                        by_cases c21 : a0_0 = 0
                        · rw [if_pos c21] at H
                          have c21b0 : (a0_0 == 0) = true := beq_iff_eq.mpr c21
                          have c21b1 : (a0_0 != 0) = false := bne_eq_false_iff_eq.mpr c21
                          clear c21
                          obtain rfl := Option.some.inj H
                          have hcz22_0 : wc.cell? ⟨gb524, 0, none⟩ = some (.int .i64 a0_0) := (blk_cell BK524.out 0).trans rfl
                          have hcz22_1 : wc.cell? ⟨gb524, 1, none⟩ = some (.int .i64 a0_1) := (blk_cell BK524.out 1).trans rfl
                          have hcz22_2 : wc.cell? ⟨gb524, 2, none⟩ = some (.int .i64 a0_2) := (blk_cell BK524.out 2).trans rfl
                          have hcz22_3 : wc.cell? ⟨gb524, 3, none⟩ = some (.int .i64 a0_3) := (blk_cell BK524.out 3).trans rfl
                          have hfz22_0 := blk_frozen BK524.out 0
                          have hfz22_1 := blk_frozen BK524.out 1
                          have hfz22_2 := blk_frozen BK524.out 2
                          have hfz22_3 := blk_frozen BK524.out 3
                          have p525 : 0 ≤ ((ji15) : Int) := of_decide_eq_true (by first | (with_reducible assumption) | assumption)
                          have q525 : (ji15) < (l1.length : Int) := of_decide_eq_true (by first | (with_reducible assumption) | assumption)
                          obtain ⟨ad525, e525, hx525_0, hx525_1, hx525_2, hx525_3⟩ := at_T24 HR1.out (ji15) p525 q525
                          cases e525
                          replace hx525_0 := (HB.out.cell (World.block_lt_of_cell? w _ hx525_0)).trans hx525_0
                          replace hx525_1 := (HB.out.cell (World.block_lt_of_cell? w _ hx525_1)).trans hx525_1
                          replace hx525_2 := (HB.out.cell (World.block_lt_of_cell? w _ hx525_2)).trans hx525_2
                          replace hx525_3 := (HB.out.cell (World.block_lt_of_cell? w _ hx525_3)).trans hx525_3
                          replace p525 := eq_true p525
                          replace q525 := eq_true q525
                          go_wp2_with (first | (go_at_call 82; (with_reducible refine (impl_match.calls ((rd_T24 l1 (ji15)).f1) a0_3 true _ A18.out).mono ?_); rintro e w' ⟨rfl, ⟨nd, rfl⟩⟩; (try first | exact ⟨rfl, _, World.drewN_drewN _ _ _⟩ | exact ⟨rfl, _, Eq.trans (World.drewN_drewN _ _ _) (congrArg (World.drewN _) (Nat.add_assoc _ _ _))⟩)))
                          repeat (go_quiet (first | (go_at_call 82; (with_reducible refine (impl_match.calls ((rd_T24 l1 (ji15)).f1) a0_3 true _ A18.out).mono ?_); rintro e w' ⟨rfl, ⟨nd, rfl⟩⟩; (try first | exact ⟨rfl, _, World.drewN_drewN _ _ _⟩ | exact ⟨rfl, _, Eq.trans (World.drewN_drewN _ _ _) (congrArg (World.drewN _) (Nat.add_assoc _ _ _))⟩))); try go_wp2_with (first | (go_at_call 82; (with_reducible refine (impl_match.calls ((rd_T24 l1 (ji15)).f1) a0_3 true _ A18.out).mono ?_); rintro e w' ⟨rfl, ⟨nd, rfl⟩⟩; (try first | exact ⟨rfl, _, World.drewN_drewN _ _ _⟩ | exact ⟨rfl, _, Eq.trans (World.drewN_drewN _ _ _) (congrArg (World.drewN _) (Nat.add_assoc _ _ _))⟩))))
                          go_ret
                          exact ⟨by first | rfl | (simp [errW_none, errW_some] <;> rfl) | (simp only [← hji15]; first | rfl | (simp [errW_none, errW_some] <;> rfl)) | (simp [*, errW_none, errW_some] <;> rfl), by repeat (first | (with_reducible first | exact HB.out | apply below_alloc | apply pw_below_drewN | apply below_drew1 | refine below_set ?_ GE524.out) | exact HB.out)⟩
                        · rw [if_neg c21] at H
                          have c21b0 : (a0_0 == 0) = false := beq_eq_false_iff_ne.mpr c21
                          have c21b1 : (a0_0 != 0) = true := bne_iff_ne.mpr c21
                          by_cases c23 : (wrap64 ((l1.length : Int) / a2)) > 0
                          · rw [if_pos c23] at H
                            have c23b0 : decide (0 < (wrap64 ((l1.length : Int) / a2))) = true := decide_eq_true c23
                            clear c23
                            obtain ⟨ji24, hji24⟩ : ∃ j_ : Int, (wrap64 ((l1.length : Int) - a2)) = j_ := ⟨_, rfl⟩
                            replace H : (if 0 ≤ (ji24) then (if (ji24) < (l1.length : Int) then ((impl_match.f ((rd_T24 l1 (ji24)).f2) a0_0).bind fun t528 => (some t528)) else (none)) else (none)) = some r := by first | (rw [hji24] at H; exact H) | (simp only [hji24] at H ⊢; exact H)
                            (try rw [hji24] at A18)
                            have hji24w : (IntKind.i64.wrap ((l1.length : Int) - a2)) = ji24 := (i64_w _).trans hji24
                            by_cases c25 : 0 ≤ (ji24)
                            · rw [if_pos c25] at H
                              have c25b0 : decide (0 ≤ (ji24)) = true := decide_eq_true c25
                              clear c25
                              by_cases c26 : (ji24) < (l1.length : Int)
                              · rw [if_pos c26] at H
                                have c26b0 : decide ((ji24) < (l1.length : Int)) = true := decide_eq_true c26
                                clear c26
                                replace H := Option.bind_eq_some_iff.mp H
                                obtain ⟨t528, A270, H⟩ := H
                                replace H : (some t528) = some r := H
                                have A27 := Aside0.mk A270
                                clear A270
                                obtain rfl := Option.some.inj H
                                have hcz28_0 : wc.cell? ⟨gb524, 0, none⟩ = some (.int .i64 a0_0) := (blk_cell BK524.out 0).trans rfl
                                have hcz28_1 : wc.cell? ⟨gb524, 1, none⟩ = some (.int .i64 a0_1) := (blk_cell BK524.out 1).trans rfl
                                have hcz28_2 : wc.cell? ⟨gb524, 2, none⟩ = some (.int .i64 a0_2) := (blk_cell BK524.out 2).trans rfl
                                have hcz28_3 : wc.cell? ⟨gb524, 3, none⟩ = some (.int .i64 a0_3) := (blk_cell BK524.out 3).trans rfl
                                have hfz28_0 := blk_frozen BK524.out 0
                                have hfz28_1 := blk_frozen BK524.out 1
                                have hfz28_2 := blk_frozen BK524.out 2
                                have hfz28_3 := blk_frozen BK524.out 3
                                have p525 : 0 ≤ ((ji15) : Int) := of_decide_eq_true (by first | (with_reducible assumption) | assumption)
                                have q525 : (ji15) < (l1.length : Int) := of_decide_eq_true (by first | (with_reducible assumption) | assumption)
                                obtain ⟨ad525, e525, hx525_0, hx525_1, hx525_2, hx525_3⟩ := at_T24 HR1.out (ji15) p525 q525
                                cases e525
                                replace hx525_0 := (HB.out.cell (World.block_lt_of_cell? w _ hx525_0)).trans hx525_0
                                replace hx525_1 := (HB.out.cell (World.block_lt_of_cell? w _ hx525_1)).trans hx525_1
                                replace hx525_2 := (HB.out.cell (World.block_lt_of_cell? w _ hx525_2)).trans hx525_2
                                replace hx525_3 := (HB.out.cell (World.block_lt_of_cell? w _ hx525_3)).trans hx525_3
                                replace p525 := eq_true p525
                                replace q525 := eq_true q525
                                go_wp2_with (first | (go_at_call 82; (with_reducible refine (impl_match.calls ((rd_T24 l1 (ji15)).f1) a0_3 true _ A18.out).mono ?_); rintro e w' ⟨rfl, ⟨nd, rfl⟩⟩; (try first | exact ⟨rfl, _, World.drewN_drewN _ _ _⟩ | exact ⟨rfl, _, Eq.trans (World.drewN_drewN _ _ _) (congrArg (World.drewN _) (Nat.add_assoc _ _ _))⟩); have p527 : 0 ≤ ((ji24) : Int) := of_decide_eq_true (by first | (with_reducible assumption) | assumption); have q527 : (ji24) < (l1.length : Int) := of_decide_eq_true (by first | (with_reducible assumption) | assumption); obtain ⟨ad527, e527, hx527_0, hx527_1, hx527_2, hx527_3⟩ := at_T24 HR1.out (ji24) p527 q527; obtain rfl : ad525 = ad527 := (by injection e527); replace hx527_0 := (HB.out.cell (World.block_lt_of_cell? w _ hx527_0)).trans hx527_0; replace hx527_1 := (HB.out.cell (World.block_lt_of_cell? w _ hx527_1)).trans hx527_1; replace hx527_2 := (HB.out.cell (World.block_lt_of_cell? w _ hx527_2)).trans hx527_2; replace hx527_3 := (HB.out.cell (World.block_lt_of_cell? w _ hx527_3)).trans hx527_3; replace p527 := eq_true p527; replace q527 := eq_true q527) | (go_at_call 82; (with_reducible refine (impl_match.calls ((rd_T24 l1 (ji24)).f2) a0_0 t528 _ A27.out).mono ?_); rintro e w' ⟨rfl, ⟨nd, rfl⟩⟩; (try first | exact ⟨rfl, _, World.drewN_drewN _ _ _⟩ | exact ⟨rfl, _, Eq.trans (World.drewN_drewN _ _ _) (congrArg (World.drewN _) (Nat.add_assoc _ _ _))⟩)))
                                repeat (go_quiet (first | (go_at_call 82; (with_reducible refine (impl_match.calls ((rd_T24 l1 (ji15)).f1) a0_3 true _ A18.out).mono ?_); rintro e w' ⟨rfl, ⟨nd, rfl⟩⟩; (try first | exact ⟨rfl, _, World.drewN_drewN _ _ _⟩ | exact ⟨rfl, _, Eq.trans (World.drewN_drewN _ _ _) (congrArg (World.drewN _) (Nat.add_assoc _ _ _))⟩); have p527 : 0 ≤ ((ji24) : Int) := of_decide_eq_true (by first | (with_reducible assumption) | assumption); have q527 : (ji24) < (l1.length : Int) := of_decide_eq_true (by first | (with_reducible assumption) | assumption); obtain ⟨ad527, e527, hx527_0, hx527_1, hx527_2, hx527_3⟩ := at_T24 HR1.out (ji24) p527 q527; obtain rfl : ad525 = ad527 := (by injection e527); replace hx527_0 := (HB.out.cell (World.block_lt_of_cell? w _ hx527_0)).trans hx527_0; replace hx527_1 := (HB.out.cell (World.block_lt_of_cell? w _ hx527_1)).trans hx527_1; replace hx527_2 := (HB.out.cell (World.block_lt_of_cell? w _ hx527_2)).trans hx527_2; replace hx527_3 := (HB.out.cell (World.block_lt_of_cell? w _ hx527_3)).trans hx527_3; replace p527 := eq_true p527; replace q527 := eq_true q527) | (go_at_call 82; (with_reducible refine (impl_match.calls ((rd_T24 l1 (ji24)).f2) a0_0 t528 _ A27.out).mono ?_); rintro e w' ⟨rfl, ⟨nd, rfl⟩⟩; (try first | exact ⟨rfl, _, World.drewN_drewN _ _ _⟩ | exact ⟨rfl, _, Eq.trans (World.drewN_drewN _ _ _) (congrArg (World.drewN _) (Nat.add_assoc _ _ _))⟩))); try go_wp2_with (first | (go_at_call 82; (with_reducible refine (impl_match.calls ((rd_T24 l1 (ji15)).f1) a0_3 true _ A18.out).mono ?_); rintro e w' ⟨rfl, ⟨nd, rfl⟩⟩; (try first | exact ⟨rfl, _, World.drewN_drewN _ _ _⟩ | exact ⟨rfl, _, Eq.trans (World.drewN_drewN _ _ _) (congrArg (World.drewN _) (Nat.add_assoc _ _ _))⟩); have p527 : 0 ≤ ((ji24) : Int) := of_decide_eq_true (by first | (with_reducible assumption) | assumption); have q527 : (ji24) < (l1.length : Int) := of_decide_eq_true (by first | (with_reducible assumption) | assumption); obtain ⟨ad527, e527, hx527_0, hx527_1, hx527_2, hx527_3⟩ := at_T24 HR1.out (ji24) p527 q527; obtain rfl : ad525 = ad527 := (by injection e527); replace hx527_0 := (HB.out.cell (World.block_lt_of_cell? w _ hx527_0)).trans hx527_0; replace hx527_1 := (HB.out.cell (World.block_lt_of_cell? w _ hx527_1)).trans hx527_1; replace hx527_2 := (HB.out.cell (World.block_lt_of_cell? w _ hx527_2)).trans hx527_2; replace hx527_3 := (HB.out.cell (World.block_lt_of_cell? w _ hx527_3)).trans hx527_3; replace p527 := eq_true p527; replace q527 := eq_true q527) | (go_at_call 82; (with_reducible refine (impl_match.calls ((rd_T24 l1 (ji24)).f2) a0_0 t528 _ A27.out).mono ?_); rintro e w' ⟨rfl, ⟨nd, rfl⟩⟩; (try first | exact ⟨rfl, _, World.drewN_drewN _ _ _⟩ | exact ⟨rfl, _, Eq.trans (World.drewN_drewN _ _ _) (congrArg (World.drewN _) (Nat.add_assoc _ _ _))⟩))))
                                go_ret
                                exact ⟨by first | rfl | (simp [errW_none, errW_some] <;> rfl) | (simp only [← hji15, ← hji24]; first | rfl | (simp [errW_none, errW_some] <;> rfl)) | (simp [*, errW_none, errW_some] <;> rfl), by repeat (first | (with_reducible first | exact HB.out | apply below_alloc | apply pw_below_drewN | apply below_drew1 | refine below_set ?_ GE524.out) | exact HB.out)⟩
                              · rw [if_neg c26] at H
                                exact absurd H (by simp)
                            · rw [if_neg c25] at H
                              exact absurd H (by simp)
                          · rw [if_neg c23] at H
                            have c23b0 : decide (0 < (wrap64 ((l1.length : Int) / a2))) = false := decide_eq_false c23
                            clear c23
                            obtain rfl := Option.some.inj H
                            have hcz29_0 : wc.cell? ⟨gb524, 0, none⟩ = some (.int .i64 a0_0) := (blk_cell BK524.out 0).trans rfl
                            have hcz29_1 : wc.cell? ⟨gb524, 1, none⟩ = some (.int .i64 a0_1) := (blk_cell BK524.out 1).trans rfl
                            have hcz29_2 : wc.cell? ⟨gb524, 2, none⟩ = some (.int .i64 a0_2) := (blk_cell BK524.out 2).trans rfl
                            have hcz29_3 : wc.cell? ⟨gb524, 3, none⟩ = some (.int .i64 a0_3) := (blk_cell BK524.out 3).trans rfl
                            have hfz29_0 := blk_frozen BK524.out 0
                            have hfz29_1 := blk_frozen BK524.out 1
                            have hfz29_2 := blk_frozen BK524.out 2
                            have hfz29_3 := blk_frozen BK524.out 3
                            have p525 : 0 ≤ ((ji15) : Int) := of_decide_eq_true (by first | (with_reducible assumption) | assumption)
                            have q525 : (ji15) < (l1.length : Int) := of_decide_eq_true (by first | (with_reducible assumption) | assumption)
                            obtain ⟨ad525, e525, hx525_0, hx525_1, hx525_2, hx525_3⟩ := at_T24 HR1.out (ji15) p525 q525
                            cases e525
                            replace hx525_0 := (HB.out.cell (World.block_lt_of_cell? w _ hx525_0)).trans hx525_0
                            replace hx525_1 := (HB.out.cell (World.block_lt_of_cell? w _ hx525_1)).trans hx525_1
                            replace hx525_2 := (HB.out.cell (World.block_lt_of_cell? w _ hx525_2)).trans hx525_2
                            replace hx525_3 := (HB.out.cell (World.block_lt_of_cell? w _ hx525_3)).trans hx525_3
                            replace p525 := eq_true p525
                            replace q525 := eq_true q525
                            go_wp2_with (first | (go_at_call 82; (with_reducible refine (impl_match.calls ((rd_T24 l1 (ji15)).f1) a0_3 true _ A18.out).mono ?_); rintro e w' ⟨rfl, ⟨nd, rfl⟩⟩; (try first | exact ⟨rfl, _, World.drewN_drewN _ _ _⟩ | exact ⟨rfl, _, Eq.trans (World.drewN_drewN _ _ _) (congrArg (World.drewN _) (Nat.add_assoc _ _ _))⟩)))
                            repeat (go_quiet (first | (go_at_call 82; (with_reducible refine (impl_match.calls ((rd_T24 l1 (ji15)).f1) a0_3 true _ A18.out).mono ?_); rintro e w' ⟨rfl, ⟨nd, rfl⟩⟩; (try first | exact ⟨rfl, _, World.drewN_drewN _ _ _⟩ | exact ⟨rfl, _, Eq.trans (World.drewN_drewN _ _ _) (congrArg (World.drewN _) (Nat.add_assoc _ _ _))⟩))); try go_wp2_with (first | (go_at_call 82; (with_reducible refine (impl_match.calls ((rd_T24 l1 (ji15)).f1) a0_3 true _ A18.out).mono ?_); rintro e w' ⟨rfl, ⟨nd, rfl⟩⟩; (try first | exact ⟨rfl, _, World.drewN_drewN _ _ _⟩ | exact ⟨rfl, _, Eq.trans (World.drewN_drewN _ _ _) (congrArg (World.drewN _) (Nat.add_assoc _ _ _))⟩))))
                            go_ret
                            exact ⟨by first | rfl | (simp [errW_none, errW_some] <;> rfl) | (simp only [← hji15]; first | rfl | (simp [errW_none, errW_some] <;> rfl)) | (simp [*, errW_none, errW_some] <;> rfl), by repeat (first | (with_reducible first | exact HB.out | apply below_alloc | apply pw_below_drewN | apply below_drew1 | refine below_set ?_ GE524.out) | exact HB.out)⟩
                      · rw [if_neg c20] at H
                        have c20b0 : ((wrap64 ((l1.length : Int) / a2)) == 0) = false := beq_eq_false_iff_ne.mpr c20
                        have c20b1 : ((wrap64 ((l1.length : Int) / a2)) != 0) = true := bne_iff_ne.mpr c20
                        by_cases c30 : (wrap64 ((l1.length : Int) / a2)) > 0
                        · rw [if_pos c30] at H
                          have c30b0 : decide (0 < (wrap64 ((l1.length : Int) / a2))) = true := decide_eq_true c30
                          clear c30
                          obtain ⟨ji31, hji31⟩ : ∃ j_ : Int, (wrap64 ((l1.length : Int) - a2)) = j_ := ⟨_, rfl⟩
                          replace H : (if 0 ≤ (ji31) then (if (ji31) < (l1.length : Int) then ((impl_match.f ((rd_T24 l1 (ji31)).f2) a0_0).bind fun t530 => (some t530)) else (none)) else (none)) = some r := by first | (rw [hji31] at H; exact H) | (simp only [hji31] at H ⊢; exact H)
                          (try rw [hji31] at A18)
                          have hji31w : (IntKind.i64.wrap ((l1.length : Int) - a2)) = ji31 := (i64_w _).trans hji31
                          by_cases c32 : 0 ≤ (ji31)
                          · rw [if_pos c32] at H
                            have c32b0 : decide (0 ≤ (ji31)) = true := decide_eq_true c32
                            clear c32
                            by_cases c33 : (ji31) < (l1.length : Int)
                            · rw [if_pos c33] at H
                              have c33b0 : decide ((ji31) < (l1.length : Int)) = true := decide_eq_true c33
                              clear c33
                              replace H := Option.bind_eq_some_iff.mp H
                              obtain ⟨t530, A340, H⟩ := H
                              replace H : (some t530) = some r := H
                              have A34 := Aside0.mk A340
                              clear A340
                              obtain rfl := Option.some.inj H
                              have hcz35_0 : wc.cell? ⟨gb524, 0, none⟩ = some (.int .i64 a0_0) := (blk_cell BK524.out 0).trans rfl
                              have hcz35_1 : wc.cell? ⟨gb524, 1, none⟩ = some (.int .i64 a0_1) := (blk_cell BK524.out 1).trans rfl
                              have hcz35_2 : wc.cell? ⟨gb524, 2, none⟩ = some (.int .i64 a0_2) := (blk_cell BK524.out 2).trans rfl
                              have hcz35_3 : wc.cell? ⟨gb524, 3, none⟩ = some (.int .i64 a0_3) := (blk_cell BK524.out 3).trans rfl
                              have hfz35_0 := blk_frozen BK524.out 0
                              have hfz35_1 := blk_frozen BK524.out 1
                              have hfz35_2 := blk_frozen BK524.out 2
                              have hfz35_3 := blk_frozen BK524.out 3
                              have p525 : 0 ≤ ((ji15) : Int) := of_decide_eq_true (by first | (with_reducible assumption) | assumption)
                              have q525 : (ji15) < (l1.length : Int) := of_decide_eq_true (by first | (with_reducible assumption) | assumption)
                              obtain ⟨ad525, e525, hx525_0, hx525_1, hx525_2, hx525_3⟩ := at_T24 HR1.out (ji15) p525 q525
                              cases e525
                              replace hx525_0 := (HB.out.cell (World.block_lt_of_cell? w _ hx525_0)).trans hx525_0
                              replace hx525_1 := (HB.out.cell (World.block_lt_of_cell? w _ hx525_1)).trans hx525_1
                              replace hx525_2 := (HB.out.cell (World.block_lt_of_cell? w _ hx525_2)).trans hx525_2
                              replace hx525_3 := (HB.out.cell (World.block_lt_of_cell? w _ hx525_3)).trans hx525_3
                              replace p525 := eq_true p525
                              replace q525 := eq_true q525
                              go_wp2_with (first | (go_at_call 82; (with_reducible refine (impl_match.calls ((rd_T24 l1 (ji15)).f1) a0_3 true _ A18.out).mono ?_); rintro e w' ⟨rfl, ⟨nd, rfl⟩⟩; (try first | exact ⟨rfl, _, World.drewN_drewN _ _ _⟩ | exact ⟨rfl, _, Eq.trans (World.drewN_drewN _ _ _) (congrArg (World.drewN _) (Nat.add_assoc _ _ _))⟩); have p529 : 0 ≤ ((ji31) : Int) := of_decide_eq_true (by first | (with_reducible assumption) | assumption); have q529 : (ji31) < (l1.length : Int) := of_decide_eq_true (by first | (with_reducible assumption) | assumption); obtain ⟨ad529, e529, hx529_0, hx529_1, hx529_2, hx529_3⟩ := at_T24 HR1.out (ji31) p529 q529; obtain rfl : ad525 = ad529 := (by injection e529); replace hx529_0 := (HB.out.cell (World.block_lt_of_cell? w _ hx529_0)).trans hx529_0; replace hx529_1 := (HB.out.cell (World.block_lt_of_cell? w _ hx529_1)).trans hx529_1; replace hx529_2 := (HB.out.cell (World.block_lt_of_cell? w _ hx529_2)).trans hx529_2; replace hx529_3 := (HB.out.cell (World.block_lt_of_cell? w _ hx529_3)).trans hx529_3; replace p529 := eq_true p529; replace q529 := eq_true q529) | (go_at_call 82; (with_reducible refine (impl_match.calls ((rd_T24 l1 (ji31)).f2) a0_0 t530 _ A34.out).mono ?_); rintro e w' ⟨rfl, ⟨nd, rfl⟩⟩; (try first | exact ⟨rfl, _, World.drewN_drewN _ _ _⟩ | exact ⟨rfl, _, Eq.trans (World.drewN_drewN _ _ _) (congrArg (World.drewN _) (Nat.add_assoc _ _ _))⟩)))
                              repeat (go_quiet (first | (go_at_call 82; (with_reducible refine (impl_match.calls ((rd_T24 l1 (ji15)).f1) a0_3 true _ A18.out).mono ?_); rintro e w' ⟨rfl, ⟨nd, rfl⟩⟩; (try first | exact ⟨rfl, _, World.drewN_drewN _ _ _⟩ | exact ⟨rfl, _, Eq.trans (World.drewN_drewN _ _ _) (congrArg (World.drewN _) (Nat.add_assoc _ _ _))⟩); have p529 : 0 ≤ ((ji31) : Int) := of_decide_eq_true (by first | (with_reducible assumption) | assumption); have q529 : (ji31) < (l1.length : Int) := of_decide_eq_true (by first | (with_reducible assumption) | assumption); obtain ⟨ad529, e529, hx529_0, hx529_1, hx529_2, hx529_3⟩ := at_T24 HR1.out (ji31) p529 q529; obtain rfl : ad525 = ad529 := (by injection e529); replace hx529_0 := (HB.out.cell (World.block_lt_of_cell? w _ hx529_0)).trans hx529_0; replace hx529_1 := (HB.out.cell (World.block_lt_of_cell? w _ hx529_1)).trans hx529_1; replace hx529_2 := (HB.out.cell (World.block_lt_of_cell? w _ hx529_2)).trans hx529_2; replace hx529_3 := (HB.out.cell (World.block_lt_of_cell? w _ hx529_3)).trans hx529_3; replace p529 := eq_true p529; replace q529 := eq_true q529) | (go_at_call 82; (with_reducible refine (impl_match.calls ((rd_T24 l1 (ji31)).f2) a0_0 t530 _ A34.out).mono ?_); rintro e w' ⟨rfl, ⟨nd, rfl⟩⟩; (try first | exact ⟨rfl, _, World.drewN_drewN _ _ _⟩ | exact ⟨rfl, _, Eq.trans (World.drewN_drewN _ _ _) (congrArg (World.drewN _) (Nat.add_assoc _ _ _))⟩))); try go_wp2_with (first | (go_at_call 82; (with_reducible refine (impl_match.calls ((rd_T24 l1 (ji15)).f1) a0_3 true _ A18.out).mono ?_); rintro e w' ⟨rfl, ⟨nd, rfl⟩⟩; (try first | exact ⟨rfl, _, World.drewN_drewN _ _ _⟩ | exact ⟨rfl, _, Eq.trans (World.drewN_drewN _ _ _) (congrArg (World.drewN _) (Nat.add_assoc _ _ _))⟩); have p529 : 0 ≤ ((ji31) : Int) := of_decide_eq_true (by first | (with_reducible assumption) | assumption); have q529 : (ji31) < (l1.length : Int) := of_decide_eq_true (by first | (with_reducible assumption) | assumption); obtain ⟨ad529, e529, hx529_0, hx529_1, hx529_2, hx529_3⟩ := at_T24 HR1.out (ji31) p529 q529; obtain rfl : ad525 = ad529 := (by injection e529); replace hx529_0 := (HB.out.cell (World.block_lt_of_cell? w _ hx529_0)).trans hx529_0; replace hx529_1 := (HB.out.cell (World.block_lt_of_cell? w _ hx529_1)).trans hx529_1; replace hx529_2 := (HB.out.cell (World.block_lt_of_cell? w _ hx529_2)).trans hx529_2; replace hx529_3 := (HB.out.cell (World.block_lt_of_cell? w _ hx529_3)).trans hx529_3; replace p529 := eq_true p529; replace q529 := eq_true q529) | (go_at_call 82; (with_reducible refine (impl_match.calls ((rd_T24 l1 (ji31)).f2) a0_0 t530 _ A34.out).mono ?_); rintro e w' ⟨rfl, ⟨nd, rfl⟩⟩; (try first | exact ⟨rfl, _, World.drewN_drewN _ _ _⟩ | exact ⟨rfl, _, Eq.trans (World.drewN_drewN _ _ _) (congrArg (World.drewN _) (Nat.add_assoc _ _ _))⟩))))
                              go_ret
                              exact ⟨by first | rfl | (simp [errW_none, errW_some] <;> rfl) | (simp only [← hji15, ← hji31]; first | rfl | (simp [errW_none, errW_some] <;> rfl)) | (simp [*, errW_none, errW_some] <;> rfl), by repeat (first | (with_reducible first | exact HB.out | apply below_alloc | apply pw_below_drewN | apply below_drew1 | refine below_set ?_ GE524.out) | exact HB.out)⟩
                            · rw [if_neg c33] at H
                              exact absurd H (by simp)
                          · rw [if_neg c32] at H
                            exact absurd H (by simp)
                        · rw [if_neg c30] at H
                          have c30b0 : decide (0 < (wrap64 ((l1.length : Int) / a2))) = false := decide_eq_false c30
                          clear c30
                          obtain rfl := Option.some.inj H
                          have hcz36_0 : wc.cell? ⟨gb524, 0, none⟩ = some (.int .i64 a0_0) := (blk_cell BK524.out 0).trans rfl
                          have hcz36_1 : wc.cell? ⟨gb524, 1, none⟩ = some (.int .i64 a0_1) := (blk_cell BK524.out 1).trans rfl
                          have hcz36_2 : wc.cell? ⟨gb524, 2, none⟩ = some (.int .i64 a0_2) := (blk_cell BK524.out 2).trans rfl
                          have hcz36_3 : wc.cell? ⟨gb524, 3, none⟩ = some (.int .i64 a0_3) := (blk_cell BK524.out 3).trans rfl
                          have hfz36_0 := blk_frozen BK524.out 0
                          have hfz36_1 := blk_frozen BK524.out 1
                          have hfz36_2 := blk_frozen BK524.out 2
                          have hfz36_3 := blk_frozen BK524.out 3
                          have p525 : 0 ≤ ((ji15) : Int) := of_decide_eq_true (by first | (with_reducible assumption) | assumption)
                          have q525 : (ji15) < (l1.length : Int) := of_decide_eq_true (by first | (with_reducible assumption) | assumption)
                          obtain ⟨ad525, e525, hx525_0, hx525_1, hx525_2, hx525_3⟩ := at_T24 HR1.out (ji15) p525 q525
                          cases e525
                          replace hx525_0 := (HB.out.cell (World.block_lt_of_cell? w _ hx525_0)).trans hx525_0
                          replace hx525_1 := (HB.out.cell (World.block_lt_of_cell? w _ hx525_1)).trans hx525_1
                          replace hx525_2 := (HB.out.cell (World.block_lt_of_cell? w _ hx525_2)).trans hx525_2
                          replace hx525_3 := (HB.out.cell (World.block_lt_of_cell? w _ hx525_3)).trans hx525_3
                          replace p525 := eq_true p525
                          replace q525 := eq_true q525
                          go_wp2_with (first | (go_at_call 82; (with_reducible refine (impl_match.calls ((rd_T24 l1 (ji15)).f1) a0_3 true _ A18.out).mono ?_); rintro e w' ⟨rfl, ⟨nd, rfl⟩⟩; (try first | exact ⟨rfl, _, World.drewN_drewN _ _ _⟩ | exact ⟨rfl, _, Eq.trans (World.drewN_drewN _ _ _) (congrArg (World.drewN _) (Nat.add_assoc _ _ _))⟩)))
                          repeat (go_quiet (first | (go_at_call 82; (with_reducible refine (impl_match.calls ((rd_T24 l1 (ji15)).f1) a0_3 true _ A18.out).mono ?_); rintro e w' ⟨rfl, ⟨nd, rfl⟩⟩; (try first | exact ⟨rfl, _, World.drewN_drewN _ _ _⟩ | exact ⟨rfl, _, Eq.trans (World.drewN_drewN _ _ _) (congrArg (World.drewN _) (Nat.add_assoc _ _ _))⟩))); try go_wp2_with (first | (go_at_call 82; (with_reducible refine (impl_match.calls ((rd_T24 l1 (ji15)).f1) a0_3 true _ A18.out).mono ?_); rintro e w' ⟨rfl, ⟨nd, rfl⟩⟩; (try first | exact ⟨rfl, _, World.drewN_drewN _ _ _⟩ | exact ⟨rfl, _, Eq.trans (World.drewN_drewN _ _ _) (congrArg (World.drewN _) (Nat.add_assoc _ _ _))⟩))))
                          go_ret
                          exact ⟨by first | rfl | (simp [errW_none, errW_some] <;> rfl) | (simp only [← hji15]; first | rfl | (simp [errW_none, errW_some] <;> rfl)) | (simp [*, errW_none, errW_some] <;> rfl), by repeat (first | (with_reducible first | exact HB.out | apply below_alloc | apply pw_below_drewN | apply below_drew1 | refine below_set ?_ GE524.out) | exact HB.out)⟩
                    · replace c19 := Bool.eq_false_iff.mpr c19
                      subst c19
                      have H1 : (some false) = some r := by rw [if_neg (show ¬ (false = true) by decide)] at H; exact H
                      clear H
                      have H := H1
                      clear H1
                      obtain rfl := Option.some.inj H
                      have hcz37_0 : wc.cell? ⟨gb524, 0, none⟩ = some (.int .i64 a0_0) := (blk_cell BK524.out 0).trans rfl
                      have hcz37_1 : wc.cell? ⟨gb524, 1, none⟩ = some (.int .i64 a0_1) := (blk_cell BK524.out 1).trans rfl
                      have hcz37_2 : wc.cell? ⟨gb524, 2, none⟩ = some (.int .i64 a0_2) := (blk_cell BK524.out 2).trans rfl
                      have hcz37_3 : wc.cell? ⟨gb524, 3, none⟩ = some (.int .i64 a0_3) := (blk_cell BK524.out 3).trans rfl
                      have hfz37_0 := blk_frozen BK524.out 0
                      have hfz37_1 := blk_frozen BK524.out 1
                      have hfz37_2 := blk_frozen BK524.out 2
                      have hfz37_3 := blk_frozen BK524.out 3
                      have p525 : 0 ≤ ((ji15) : Int) := of_decide_eq_true (by first | (with_reducible assumption) | assumption)
                      have q525 : (ji15) < (l1.length : Int) := of_decide_eq_true (by first | (with_reducible assumption) | assumption)
                      obtain ⟨ad525, e525, hx525_0, hx525_1, hx525_2, hx525_3⟩ := at_T24 HR1.out (ji15) p525 q525
                      cases e525
                      replace hx525_0 := (HB.out.cell (World.block_lt_of_cell? w _ hx525_0)).trans hx525_0
                      replace hx525_1 := (HB.out.cell (World.block_lt_of_cell? w _ hx525_1)).trans hx525_1
                      replace hx525_2 := (HB.out.cell (World.block_lt_of_cell? w _ hx525_2)).trans hx525_2
                      replace hx525_3 := (HB.out.cell (World.block_lt_of_cell? w _ hx525_3)).trans hx525_3
                      replace p525 := eq_true p525
                      replace q525 := eq_true q525
                      go_wp2_with (first | (go_at_call 82; (with_reducible refine (impl_match.calls ((rd_T24 l1 (ji15)).f1) a0_3 false _ A18.out).mono ?_); rintro e w' ⟨rfl, ⟨nd, rfl⟩⟩; (try first | exact ⟨rfl, _, World.drewN_drewN _ _ _⟩ | exact ⟨rfl, _, Eq.trans (World.drewN_drewN _ _ _) (congrArg (World.drewN _) (Nat.add_assoc _ _ _))⟩)))
                      repeat (go_quiet (first | (go_at_call 82; (with_reducible refine (impl_match.calls ((rd_T24 l1 (ji15)).f1) a0_3 false _ A18.out).mono ?_); rintro e w' ⟨rfl, ⟨nd, rfl⟩⟩; (try first | exact ⟨rfl, _, World.drewN_drewN _ _ _⟩ | exact ⟨rfl, _, Eq.trans (World.drewN_drewN _ _ _) (congrArg (World.drewN _) (Nat.add_assoc _ _ _))⟩))); try go_wp2_with (first | (go_at_call 82; (with_reducible refine (impl_match.calls ((rd_T24 l1 (ji15)).f1) a0_3 false _ A18.out).mono ?_); rintro e w' ⟨rfl, ⟨nd, rfl⟩⟩; (try first | exact ⟨rfl, _, World.drewN_drewN _ _ _⟩ | exact ⟨rfl, _, Eq.trans (World.drewN_drewN _ _ _) (congrArg (World.drewN _) (Nat.add_assoc _ _ _))⟩))))
                      go_ret
                      exact ⟨by first | rfl | (simp [errW_none, errW_some] <;> rfl) | (simp only [← hji15]; first | rfl | (simp [errW_none, errW_some] <;> rfl)) | (simp [*, errW_none, errW_some] <;> rfl), by repeat (first | (with_reducible first | exact HB.out | apply below_alloc | apply pw_below_drewN | apply below_drew1 | refine below_set ?_ GE524.out) | exact HB.out)⟩
                  · rw [if_neg c17] at H
                    exact absurd H (by simp)
                · rw [if_neg c16] at H
                  exact absurd H (by simp)
              · rw [if_neg c14] at H
                have c14b0 : decide (0 < ((l1.length : Int) % a2)) = false := decide_eq_false c14
                clear c14
                by_cases c38 : (wrap64 ((l1.length : Int) / a2)) = 0
                · rw [if_pos c38] at H
                  have c38b0 : ((wrap64 ((l1.length : Int) / a2)) == 0) = true := beq_iff_eq.mpr c38
                  have c38b1 : ((wrap64 ((l1.length : Int) / a2)) != 0) = false := bne_eq_false_iff_eq.mpr c38
                  clear c38
                  by_cases c39 : a0_0 = 0
                  · rw [if_pos c39] at H
                    have c39b0 : (a0_0 == 0) = true := beq_iff_eq.mpr c39
                    have c39b1 : (a0_0 != 0) = false := bne_eq_false_iff_eq.mpr c39
                    clear c39
                    obtain rfl := Option.some.inj H
                    have hcz40_0 : wc.cell? ⟨gb524, 0, none⟩ = some (.int .i64 a0_0) := (blk_cell BK524.out 0).trans rfl
                    have hcz40_1 : wc.cell? ⟨gb524, 1, none⟩ = some (.int .i64 a0_1) := (blk_cell BK524.out 1).trans rfl
                    have hcz40_2 : wc.cell? ⟨gb524, 2, none⟩ = some (.int .i64 a0_2) := (blk_cell BK524.out 2).trans rfl
                    have hcz40_3 : wc.cell? ⟨gb524, 3, none⟩ = some (.int .i64 a0_3) := (blk_cell BK524.out 3).trans rfl
                    have hfz40_0 := blk_frozen BK524.out 0
                    have hfz40_1 := blk_frozen BK524.out 1
                    have hfz40_2 := blk_frozen BK524.out 2
                    have hfz40_3 := blk_frozen BK524.out 3
                    go_wp2
                    repeat (go_quiet (fail); try go_wp2)
                    go_ret
                    exact ⟨by first | rfl | (simp [errW_none, errW_some] <;> rfl) | (simp [*, errW_none, errW_some] <;> rfl), by repeat (first | (with_reducible first | exact HB.out | apply below_alloc | apply pw_below_drewN | apply below_drew1 | refine below_set ?_ GE524.out) | exact HB.out)⟩
                  · rw [if_neg c39] at H
                    have c39b0 : (a0_0 == 0) = false := beq_eq_false_iff_ne.mpr c39
                    have c39b1 : (a0_0 != 0) = true := bne_iff_ne.mpr c39
                    by_cases c41 : (wrap64 ((l1.length : Int) / a2)) > 0
                    · rw [if_pos c41] at H
                      have c41b0 : decide (0 < (wrap64 ((l1.length : Int) / a2))) = true := decide_eq_true c41
                      clear c41
                      obtain ⟨ji42, hji42⟩ : ∃ j_ : Int, (wrap64 ((l1.length : Int) - a2)) = j_ := ⟨_, rfl⟩
                      replace H : (if 0 ≤ (ji42) then (if (ji42) < (l1.length : Int) then ((impl_match.f ((rd_T24 l1 (ji42)).f2) a0_0).bind fun t532 => (some t532)) else (none)) else (none)) = some r := by first | (rw [hji42] at H; exact H) | (simp only [hji42] at H ⊢; exact H)
                      have hji42w : (IntKind.i64.wrap ((l1.length : Int) - a2)) = ji42 := (i64_w _).trans hji42
                      by_cases c43 : 0 ≤ (ji42)
                      · rw [if_pos c43] at H
                        have c43b0 : decide (0 ≤ (ji42)) = true := decide_eq_true c43
                        clear c43
                        by_cases c44 : (ji42) < (l1.length : Int)
                        · rw [if_pos c44] at H
                          have c44b0 : decide ((ji42) < (l1.length : Int)) = true := decide_eq_true c44
                          clear c44
                          replace H := Option.bind_eq_some_iff.mp H
                          obtain ⟨t532, A450, H⟩ := H
                          replace H : (some t532) = some r := H
                          have A45 := Aside0.mk A450
                          clear A450
                          obtain rfl := Option.some.inj H
                          have hcz46_0 : wc.cell? ⟨gb524, 0, none⟩ = some (.int .i64 a0_0) := (blk_cell BK524.out 0).trans rfl
                          have hcz46_1 : wc.cell? ⟨gb524, 1, none⟩ = some (.int .i64 a0_1) := (blk_cell BK524.out 1).trans rfl
                          have hcz46_2 : wc.cell? ⟨gb524, 2, none⟩ = some (.int .i64 a0_2) := (blk_cell BK524.out 2).trans rfl
                          have hcz46_3 : wc.cell? ⟨gb524, 3, none⟩ = some (.int .i64 a0_3) := (blk_cell BK524.out 3).trans rfl
                          have hfz46_0 := blk_frozen BK524.out 0
                          have hfz46_1 := blk_frozen BK524.out 1
                          have hfz46_2 := blk_frozen BK524.out 2
                          have hfz46_3 := blk_frozen BK524.out 3
                          have p531 : 0 ≤ ((ji42) : Int) := of_decide_eq_true (by first | (with_reducible assumption) | assumption)
                          have q531 : (ji42) < (l1.length : Int) := of_decide_eq_true (by first | (with_reducible assumption) | assumption)
                          obtain ⟨ad531, e531, hx531_0, hx531_1, hx531_2, hx531_3⟩ := at_T24 HR1.out (ji42) p531 q531
                          cases e531
                          replace hx531_0 := (HB.out.cell (World.block_lt_of_cell? w _ hx531_0)).trans hx531_0
                          replace hx531_1 := (HB.out.cell (World.block_lt_of_cell? w _ hx531_1)).trans hx531_1
                          replace hx531_2 := (HB.out.cell (World.block_lt_of_cell? w _ hx531_2)).trans hx531_2
                          replace hx531_3 := (HB.out.cell (World.block_lt_of_cell? w _ hx531_3)).trans hx531_3
                          replace p531 := eq_true p531
                          replace q531 := eq_true q531
                          go_wp2_with (first | (go_at_call 82; (with_reducible refine (impl_match.calls ((rd_T24 l1 (ji42)).f2) a0_0 t532 _ A45.out).mono ?_); rintro e w' ⟨rfl, ⟨nd, rfl⟩⟩; (try first | exact ⟨rfl, _, World.drewN_drewN _ _ _⟩ | exact ⟨rfl, _, Eq.trans (World.drewN_drewN _ _ _) (congrArg (World.drewN _) (Nat.add_assoc _ _ _))⟩)))
                          repeat (go_quiet (first | (go_at_call 82; (with_reducible refine (impl_match.calls ((rd_T24 l1 (ji42)).f2) a0_0 t532 _ A45.out).mono ?_); rintro e w' ⟨rfl, ⟨nd, rfl⟩⟩; (try first | exact ⟨rfl, _, World.drewN_drewN _ _ _⟩ | exact ⟨rfl, _, Eq.trans (World.drewN_drewN _ _ _) (congrArg (World.drewN _) (Nat.add_assoc _ _ _))⟩))); try go_wp2_with (first | (go_at_call 82; (with_reducible refine (impl_match.calls ((rd_T24 l1 (ji42)).f2) a0_0 t532 _ A45.out).mono ?_); rintro e w' ⟨rfl, ⟨nd, rfl⟩⟩; (try first | exact ⟨rfl, _, World.drewN_drewN _ _ _⟩ | exact ⟨rfl, _, Eq.trans (World.drewN_drewN _ _ _) (congrArg (World.drewN _) (Nat.add_assoc _ _ _))⟩))))
                          go_ret
                          exact ⟨by first | rfl | (simp [errW_none, errW_some] <;> rfl) | (simp only [← hji42]; first | rfl | (simp [errW_none, errW_some] <;> rfl)) | (simp [*, errW_none, errW_some] <;> rfl), by repeat (first | (with_reducible first | exact HB.out | apply below_alloc | apply pw_below_drewN | apply below_drew1 | refine below_set ?_ GE524.out) | exact HB.out)⟩
                        · rw [if_neg c44] at H
                          exact absurd H (by simp)
                      · rw [if_neg c43] at H
                        exact absurd H (by simp)
                    · rw [if_neg c41] at H
                      have c41b0 : decide (0 < (wrap64 ((l1.length : Int) / a2))) = false := decide_eq_false c41
                      clear c41
                      obtain rfl := Option.some.inj H
                      have hcz47_0 : wc.cell? ⟨gb524, 0, none⟩ = some (.int .i64 a0_0) := (blk_cell BK524.out 0).trans rfl
                      have hcz47_1 : wc.cell? ⟨gb524, 1, none⟩ = some (.int .i64 a0_1) := (blk_cell BK524.out 1).trans rfl
                      have hcz47_2 : wc.cell? ⟨gb524, 2, none⟩ = some (.int .i64 a0_2) := (blk_cell BK524.out 2).trans rfl
                      have hcz47_3 : wc.cell? ⟨gb524, 3, none⟩ = some (.int .i64 a0_3) := (blk_cell BK524.out 3).trans rfl
                      have hfz47_0 := blk_frozen BK524.out 0
                      have hfz47_1 := blk_frozen BK524.out 1
                      have hfz47_2 := blk_frozen BK524.out 2
                      have hfz47_3 := blk_frozen BK524.out 3
                      go_wp2
                      repeat (go_quiet (fail); try go_wp2)
                      go_ret
                      exact ⟨by first | rfl | (simp [errW_none, errW_some] <;> rfl) | (simp [*, errW_none, errW_some] <;> rfl), by repeat (first | (with_reducible first | exact HB.out | apply below_alloc | apply pw_below_drewN | apply below_drew1 | refine below_set ?_ GE524.out) | exact HB.out)⟩
                · rw [if_neg c38] at H
                  have c38b0 : ((wrap64 ((l1.length : Int) / a2)) == 0) = false := beq_eq_false_iff_ne.mpr c38
                  have c38b1 : ((wrap64 ((l1.length : Int) / a2)) != 0) = true := bne_iff_ne.mpr c38
                  by_cases c48 : (wrap64 ((l1.length : Int) / a2)) > 0
                  · rw [if_pos c48] at H
                    have c48b0 : decide (0 < (wrap64 ((l1.length : Int) / a2))) = true := decide_eq_true c48
                    clear c48
                    obtain ⟨ji49, hji49⟩ : ∃ j_ : Int, (wrap64 ((l1.length : Int) - a2)) = j_ := ⟨_, rfl⟩
                    replace H : (if 0 ≤ (ji49) then (if (ji49) < (l1.length : Int) then ((impl_match.f ((rd_T24 l1 (ji49)).f2) a0_0).bind fun t534 => (some t534)) else (none)) else (none)) = some r := by first | (rw [hji49] at H; exact H) | (simp only [hji49] at H ⊢; exact H)
                    have hji49w : (IntKind.i64.wrap ((l1.length : Int) - a2)) = ji49 := (i64_w _).trans hji49
                    by_cases c50 : 0 ≤ (ji49)
                    · rw [if_pos c50] at H
                      have c50b0 : decide (0 ≤ (ji49)) = true := decide_eq_true c50
                      clear c50
                      by_cases c51 : (ji49) < (l1.length : Int)
                      · rw [if_pos c51] at H
                        have c51b0 : decide ((ji49) < (l1.length : Int)) = true := decide_eq_true c51
                        clear c51
                        replace H := Option.bind_eq_some_iff.mp H
                        obtain ⟨t534, A520, H⟩ := H
                        replace H : (some t534) = some r := H
                        have A52 := Aside0.mk A520
                        clear A520
                        obtain rfl := Option.some.inj H
                        have hcz53_0 : wc.cell? ⟨gb524, 0, none⟩ = some (.int .i64 a0_0) := (blk_cell BK524.out 0).trans rfl
                        have hcz53_1 : wc.cell? ⟨gb524, 1, none⟩ = some (.int .i64 a0_1) := (blk_cell BK524.out 1).trans rfl
                        have hcz53_2 : wc.cell? ⟨gb524, 2, none⟩ = some (.int .i64 a0_2) := (blk_cell BK524.out 2).trans rfl
                        have hcz53_3 : wc.cell? ⟨gb524, 3, none⟩ = some (.int .i64 a0_3) := (blk_cell BK524.out 3).trans rfl
                        have hfz53_0 := blk_frozen BK524.out 0
                        have hfz53_1 := blk_frozen BK524.out 1
                        have hfz53_2 := blk_frozen BK524.out 2
                        have hfz53_3 := blk_frozen BK524.out 3
                        have p533 : 0 ≤ ((ji49) : Int) := of_decide_eq_true (by first | (with_reducible assumption) | assumption)
                        have q533 : (ji49) < (l1.length : Int) := of_decide_eq_true (by first | (with_reducible assumption) | assumption)
                        obtain ⟨ad533, e533, hx533_0, hx533_1, hx533_2, hx533_3⟩ := at_T24 HR1.out (ji49) p533 q533
                        cases e533
                        replace hx533_0 := (HB.out.cell (World.block_lt_of_cell? w _ hx533_0)).trans hx533_0
                        replace hx533_1 := (HB.out.cell (World.block_lt_of_cell? w _ hx533_1)).trans hx533_1
                        replace hx533_2 := (HB.out.cell (World.block_lt_of_cell? w _ hx533_2)).trans hx533_2
                        replace hx533_3 := (HB.out.cell (World.block_lt_of_cell? w _ hx533_3)).trans hx533_3
                        replace p533 := eq_true p533
                        replace q533 := eq_true q533
                        go_wp2_with (first | (go_at_call 82; (with_reducible refine (impl_match.calls ((rd_T24 l1 (ji49)).f2) a0_0 t534 _ A52.out).mono ?_); rintro e w' ⟨rfl, ⟨nd, rfl⟩⟩; (try first | exact ⟨rfl, _, World.drewN_drewN _ _ _⟩ | exact ⟨rfl, _, Eq.trans (World.drewN_drewN _ _ _) (congrArg (World.drewN _) (Nat.add_assoc _ _ _))⟩)))
                        repeat (go_quiet (first | (go_at_call 82; (with_reducible refine (impl_match.calls ((rd_T24 l1 (ji49)).f2) a0_0 t534 _ A52.out).mono ?_); rintro e w' ⟨rfl, ⟨nd, rfl⟩⟩; (try first | exact ⟨rfl, _, World.drewN_drewN _ _ _⟩ | exact ⟨rfl, _, Eq.trans (World.drewN_drewN _ _ _) (congrArg (World.drewN _) (Nat.add_assoc _ _ _))⟩))); try go_wp2_with (first | (go_at_call 82; (with_reducible refine (impl_match.calls ((rd_T24 l1 (ji49)).f2) a0_0 t534 _ A52.out).mono ?_); rintro e w' ⟨rfl, ⟨nd, rfl⟩⟩; (try first | exact ⟨rfl, _, World.drewN_drewN _ _ _⟩ | exact ⟨rfl, _, Eq.trans (World.drewN_drewN _ _ _) (congrArg (World.drewN _) (Nat.add_assoc _ _ _))⟩))))
                        go_ret
                        exact ⟨by first | rfl | (simp [errW_none, errW_some] <;> rfl) | (simp only [← hji49]; first | rfl | (simp [errW_none, errW_some] <;> rfl)) | (simp [*, errW_none, errW_some] <;> rfl), by repeat (first | (with_reducible first | exact HB.out | apply below_alloc | apply pw_below_drewN | apply below_drew1 | refine below_set ?_ GE524.out) | exact HB.out)⟩
                      · rw [if_neg c51] at H
                        exact absurd H (by simp)
                    · rw [if_neg c50] at H
                      exact absurd H (by simp)
                  · rw [if_neg c48] at H
                    have c48b0 : decide (0 < (wrap64 ((l1.length : Int) / a2))) = false := decide_eq_false c48
                    clear c48
                    obtain rfl := Option.some.inj H
                    have hcz54_0 : wc.cell? ⟨gb524, 0, none⟩ = some (.int .i64 a0_0) := (blk_cell BK524.out 0).trans rfl
                    have hcz54_1 : wc.cell? ⟨gb524, 1, none⟩ = some (.int .i64 a0_1) := (blk_cell BK524.out 1).trans rfl
                    have hcz54_2 : wc.cell? ⟨gb524, 2, none⟩ = some (.int .i64 a0_2) := (blk_cell BK524.out 2).trans rfl
                    have hcz54_3 : wc.cell? ⟨gb524, 3, none⟩ = some (.int .i64 a0_3) := (blk_cell BK524.out 3).trans rfl
                    have hfz54_0 := blk_frozen BK524.out 0
                    have hfz54_1 := blk_frozen BK524.out 1
                    have hfz54_2 := blk_frozen BK524.out 2
                    have hfz54_3 := blk_frozen BK524.out 3
                    go_wp2
                    repeat (go_quiet (fail); try go_wp2)
                    go_ret
                    exact ⟨by first | rfl | (simp [errW_none, errW_some] <;> rfl) | (simp [*, errW_none, errW_some] <;> rfl), by repeat (first | (with_reducible first | exact HB.out | apply below_alloc | apply pw_below_drewN | apply below_drew1 | refine below_set ?_ GE524.out) | exact HB.out)⟩
            · rw [if_neg c13] at H
              have c13b0 : (a0_3 == 0) = false := beq_eq_false_iff_ne.mpr c13
              have c13b1 : (a0_3 != 0) = true := bne_iff_ne.mpr c13
              obtain rfl := Option.some.inj H
              have hcz55_0 : wc.cell? ⟨gb524, 0, none⟩ = some (.int .i64 a0_0) := (blk_cell BK524.out 0).trans rfl
              have hcz55_1 : wc.cell? ⟨gb524, 1, none⟩ = some (.int .i64 a0_1) := (blk_cell BK524.out 1).trans rfl
              have hcz55_2 : wc.cell? ⟨gb524, 2, none⟩ = some (.int .i64 a0_2) := (blk_cell BK524.out 2).trans rfl
              have hcz55_3 : wc.cell? ⟨gb524, 3, none⟩ = some (.int .i64 a0_3) := (blk_cell BK524.out 3).trans rfl
              have hfz55_0 := blk_frozen BK524.out 0
              have hfz55_1 := blk_frozen BK524.out 1
              have hfz55_2 := blk_frozen BK524.out 2
              have hfz55_3 := blk_frozen BK524.out 3
              go_wp2
              repeat (go_quiet (fail); try go_wp2)
              go_ret
              exact ⟨by first | rfl | (simp [errW_none, errW_some] <;> rfl) | (simp [*, errW_none, errW_some] <;> rfl), by repeat (first | (with_reducible first | exact HB.out | apply below_alloc | apply pw_below_drewN | apply below_drew1 | refine below_set ?_ GE524.out) | exact HB.out)⟩
          · rw [if_neg c12] at H
            have c12b0 : (((l1.length : Int) % a2) == 0) = false := beq_eq_false_iff_ne.mpr c12
            have c12b1 : (((l1.length : Int) % a2) != 0) = true := bne_iff_ne.mpr c12
            by_cases c56 : ((l1.length : Int) % a2) > 0
            · rw [if_pos c56] at H
              have c56b0 : decide (0 < ((l1.length : Int) % a2)) = true := decide_eq_true c56
              clear c56
              obtain ⟨ji57, hji57⟩ : ∃ j_ : Int, (wrap64 ((l1.length : Int) - 1)) = j_ := ⟨_, rfl⟩
              replace H : (if 0 ≤ (ji57) then (if (ji57) < (l1.length : Int) then ((impl_match.f ((rd_T24 l1 (ji57)).f1) a0_3).bind fun t536 => (if t536 = true then (if (wrap64 ((l1.length : Int) / a2)) = 0 then (if a0_0 = 0 then (some true) else (if (wrap64 ((l1.length : Int) / a2)) > 0 then (if 0 ≤ (wrap64 ((l1.length : Int) - a2)) then (if (wrap64 ((l1.length : Int) - a2)) < (l1.length : Int) then ((impl_match.f ((rd_T24 l1 (wrap64 ((l1.length : Int) - a2))).f2) a0_0).bind fun t538 => (some t538)) else (none)) else (none)) else (some false))) else (if (wrap64 ((l1.length : Int) / a2)) > 0 then (if 0 ≤ (wrap64 ((l1.length : Int) - a2)) then (if (wrap64 ((l1.length : Int) - a2)) < (l1.length : Int) then ((impl_match.f ((rd_T24 l1 (wrap64 ((l1.length : Int) - a2))).f2) a0_0).bind fun t540 => (some t540)) else (none)) else (none)) else (some false))) else (some false))) else (none)) else (none)) = some r := by first | (rw [hji57] at H; exact H) | (simp only [hji57] at H ⊢; exact H)
              have hji57w : (IntKind.i64.wrap ((l1.length : Int) - 1)) = ji57 := (i64_w _).trans hji57
              by_cases c58 : 0 ≤ (ji57)
              · rw [if_pos c58] at H
                have c58b0 : decide (0 ≤ (ji57)) = true := decide_eq_true c58
                clear c58
                by_cases c59 : (ji57) < (l1.length : Int)
                · rw [if_pos c59] at H
                  have c59b0 : decide ((ji57) < (l1.length : Int)) = true := decide_eq_true c59
                  clear c59
                  replace H := Option.bind_eq_some_iff.mp H
                  obtain ⟨t536, A600, H⟩ := H
                  replace H : (if t536 = true then (if (wrap64 ((l1.length : Int) / a2)) = 0 then (if a0_0 = 0 then (some true) else (if (wrap64 ((l1.length : Int) / a2)) > 0 then (if 0 ≤ (wrap64 ((l1.length : Int) - a2)) then (if (wrap64 ((l1.length : Int) - a2)) < (l1.length : Int) then ((impl_match.f ((rd_T24 l1 (wrap64 ((l1.length : Int) - a2))).f2) a0_0).bind fun t538 => (some t538)) else (none)) else (none)) else (some false))) else (if (wrap64 ((l1.length : Int) / a2)) > 0 then (if 0 ≤ (wrap64 ((l1.length : Int) - a2)) then (if (wrap64 ((l1.length : Int) - a2)) < (l1.length : Int) then ((impl_match.f ((rd_T24 l1 (wrap64 ((l1.length : Int) - a2))).f2) a0_0).bind fun t540 => (some t540)) else (none)) else (none)) else (some false))) else (some false)) = some r := H
                  have A60 := Aside0.mk A600
                  clear A600
                  by_cases c61 : t536 = true
                  · subst c61
                    have H1 : (if (wrap64 ((l1.length : Int) / a2)) = 0 then (if a0_0 = 0 then (some true) else (if (wrap64 ((l1.length : Int) / a2)) > 0 then (if 0 ≤ (wrap64 ((l1.length : Int) - a2)) then (if (wrap64 ((l1.length : Int) - a2)) < (l1.length : Int) then ((impl_match.f ((rd_T24 l1 (wrap64 ((l1.length : Int) - a2))).f2) a0_0).bind fun t538 => (some t538)) else (none)) else (none)) else (some false))) else (if (wrap64 ((l1.length : Int) / a2)) > 0 then (if 0 ≤ (wrap64 ((l1.length : Int) - a2)) then (if (wrap64 ((l1.length : Int) - a2)) < (l1.length : Int) then ((impl_match.f ((rd_T24 l1 (wrap64 ((l1.length : Int) - a2))).f2) a0_0).bind fun t540 => (some t540)) else (none)) else (none)) else (some false))) = some r := by rw [if_pos rfl] at H; exact H
                    clear H
                    have H := H1
                    clear H1
                    by_cases c62 : (wrap64 ((l1.length : Int) / a2)) = 0
                    · rw [if_pos c62] at H
                      have c62b0 : ((wrap64 ((l1.length : Int) / a2)) == 0) = true := beq_iff_eq.mpr c62
                      have c62b1 : ((wrap64 ((l1.length : Int) / a2)) != 0) = false := bne_eq_false_iff_eq.mpr c62
                      clear c62
                      by_cases c63 : a0_0 = 0
                      · rw [if_pos c63] at H
                        have c63b0 : (a0_0 == 0) = true := beq_iff_eq.mpr c63
                        have c63b1 : (a0_0 != 0) = false := bne_eq_false_iff_eq.mpr c63
                        clear c63
                        obtain rfl := Option.some.inj H
                        have p535 : 0 ≤ ((ji57) : Int) := of_decide_eq_true (by first | (with_reducible assumption) | assumption)
                        have q535 : (ji57) < (l1.length : Int) := of_decide_eq_true (by first | (with_reducible assumption) | assumption)
                        obtain ⟨ad535, e535, hx535_0, hx535_1, hx535_2, hx535_3⟩ := at_T24 HR1.out (ji57) p535 q535
                        cases e535
                        replace hx535_0 := (HB.out.cell (World.block_lt_of_cell? w _ hx535_0)).trans hx535_0
                        replace hx535_1 := (HB.out.cell (World.block_lt_of_cell? w _ hx535_1)).trans hx535_1
                        replace hx535_2 := (HB.out.cell (World.block_lt_of_cell? w _ hx535_2)).trans hx535_2
                        replace hx535_3 := (HB.out.cell (World.block_lt_of_cell? w _ hx535_3)).trans hx535_3
                        replace p535 := eq_true p535
                        replace q535 := eq_true q535
                        have hcz64_0 : wc.cell? ⟨gb524, 0, none⟩ = some (.int .i64 a0_0) := (blk_cell BK524.out 0).trans rfl
                        have hcz64_1 : wc.cell? ⟨gb524, 1, none⟩ = some (.int .i64 a0_1) := (blk_cell BK524.out 1).trans rfl
                        have hcz64_2 : wc.cell? ⟨gb524, 2, none⟩ = some (.int .i64 a0_2) := (blk_cell BK524.out 2).trans rfl
                        have hcz64_3 : wc.cell? ⟨gb524, 3, none⟩ = some (.int .i64 a0_3) := (blk_cell BK524.out 3).trans rfl
                        have hfz64_0 := blk_frozen BK524.out 0
                        have hfz64_1 := blk_frozen BK524.out 1
                        have hfz64_2 := blk_frozen BK524.out 2
                        have hfz64_3 := blk_frozen BK524.out 3
                        go_wp2_with (first | (go_at_call 82; (with_reducible refine (impl_match.calls ((rd_T24 l1 (ji57)).f1) a0_3 true _ A60.out).mono ?_); rintro e w' ⟨rfl, ⟨nd, rfl⟩⟩; (try first | exact ⟨rfl, _, World.drewN_drewN _ _ _⟩ | exact ⟨rfl, _, Eq.trans (World.drewN_drewN _ _ _) (congrArg (World.drewN _) (Nat.add_assoc _ _ _))⟩)))
                        repeat (go_quiet (first | (go_at_call 82; (with_reducible refine (impl_match.calls ((rd_T24 l1 (ji57)).f1) a0_3 true _ A60.out).mono ?_); rintro e w' ⟨rfl, ⟨nd, rfl⟩⟩; (try first | exact ⟨rfl, _, World.drewN_drewN _ _ _⟩ | exact ⟨rfl, _, Eq.trans (World.drewN_drewN _ _ _) (congrArg (World.drewN _) (Nat.add_assoc _ _ _))⟩))); try go_wp2_with (first | (go_at_call 82; (with_reducible refine (impl_match.calls ((rd_T24 l1 (ji57)).f1) a0_3 true _ A60.out).mono ?_); rintro e w' ⟨rfl, ⟨nd, rfl⟩⟩; (try first | exact ⟨rfl, _, World.drewN_drewN _ _ _⟩ | exact ⟨rfl, _, Eq.trans (World.drewN_drewN _ _ _) (congrArg (World.drewN _) (Nat.add_assoc _ _ _))⟩))))
                        go_ret
                        exact ⟨by first | rfl | (simp [errW_none, errW_some] <;> rfl) | (simp only [← hji57]; first | rfl | (simp [errW_none, errW_some] <;> rfl)) | (simp [*, errW_none, errW_some] <;> rfl), by repeat (first | (with_reducible first | exact HB.out | apply below_alloc | apply pw_below_drewN | apply below_drew1 | refine below_set ?_ GE524.out) | exact HB.out)⟩
                      · rw [if_neg c63] at H
                        have c63b0 : (a0_0 == 0) = false := beq_eq_false_iff_ne.mpr c63
                        have c63b1 : (a0_0 != 0) = true := bne_iff_ne.mpr c63
                        by_cases c65 : (wrap64 ((l1.length : Int) / a2)) > 0
                        · rw [if_pos c65] at H
                          have c65b0 : decide (0 < (wrap64 ((l1.length : Int) / a2))) = true := decide_eq_true c65
                          clear c65
                          obtain ⟨ji66, hji66⟩ : ∃ j_ : Int, (wrap64 ((l1.length : Int) - a2)) = j_ := ⟨_, rfl⟩
                          replace H : (if 0 ≤ (ji66) then (if (ji66) < (l1.length : Int) then ((impl_match.f ((rd_T24 l1 (ji66)).f2) a0_0).bind fun t538 => (some t538)) else (none)) else (none)) = some r := by first | (rw [hji66] at H; exact H) | (simp only [hji66] at H ⊢; exact H)
                          (try rw [hji66] at A60)
                          have hji66w : (IntKind.i64.wrap ((l1.length : Int) - a2)) = ji66 := (i64_w _).trans hji66
                          by_cases c67 : 0 ≤ (ji66)
                          · rw [if_pos c67] at H
                            have c67b0 : decide (0 ≤ (ji66)) = true := decide_eq_true c67
                            clear c67
                            by_cases c68 : (ji66) < (l1.length : Int)
                            · rw [if_pos c68] at H
                              have c68b0 : decide ((ji66) < (l1.length : Int)) = true := decide_eq_true c68
                              clear c68
                              replace H := Option.bind_eq_some_iff.mp H
                              obtain ⟨t538, A690, H⟩ := H
                              replace H : (some t538) = some r := H
                              have A69 := Aside0.mk A690
                              clear A690
                              obtain rfl := Option.some.inj H
                              have p535 : 0 ≤ ((ji57) : Int) := of_decide_eq_true (by first | (with_reducible assumption) | assumption)
                              have q535 : (ji57) < (l1.length : Int) := of_decide_eq_true (by first | (with_reducible assumption) | assumption)
                              obtain ⟨ad535, e535, hx535_0, hx535_1, hx535_2, hx535_3⟩ := at_T24 HR1.out (ji57) p535 q535
                              cases e535
                              replace hx535_0 := (HB.out.cell (World.block_lt_of_cell? w _ hx535_0)).trans hx535_0
                              replace hx535_1 := (HB.out.cell (World.block_lt_of_cell? w _ hx535_1)).trans hx535_1
                              replace hx535_2 := (HB.out.cell (World.block_lt_of_cell? w _ hx535_2)).trans hx535_2
                              replace hx535_3 := (HB.out.cell (World.block_lt_of_cell? w _ hx535_3)).trans hx535_3
                              replace p535 := eq_true p535
                              replace q535 := eq_true q535
                              have hcz70_0 : wc.cell? ⟨gb524, 0, none⟩ = some (.int .i64 a0_0) := (blk_cell BK524.out 0).trans rfl
                              have hcz70_1 : wc.cell? ⟨gb524, 1, none⟩ = some (.int .i64 a0_1) := (blk_cell BK524.out 1).trans rfl
                              have hcz70_2 : wc.cell? ⟨gb524, 2, none⟩ = some (.int .i64 a0_2) := (blk_cell BK524.out 2).trans rfl
                              have hcz70_3 : wc.cell? ⟨gb524, 3, none⟩ = some (.int .i64 a0_3) := (blk_cell BK524.out 3).trans rfl
                              have hfz70_0 := blk_frozen BK524.out 0
                              have hfz70_1 := blk_frozen BK524.out 1
                              have hfz70_2 := blk_frozen BK524.out 2
                              have hfz70_3 := blk_frozen BK524.out 3
                              go_wp2_with (first | (go_at_call 82; (with_reducible refine (impl_match.calls ((rd_T24 l1 (ji57)).f1) a0_3 true _ A60.out).mono ?_); rintro e w' ⟨rfl, ⟨nd, rfl⟩⟩; (try first | exact ⟨rfl, _, World.drewN_drewN _ _ _⟩ | exact ⟨rfl, _, Eq.trans (World.drewN_drewN _ _ _) (congrArg (World.drewN _) (Nat.add_assoc _ _ _))⟩); have p537 : 0 ≤ ((ji66) : Int) := of_decide_eq_true (by first | (with_reducible assumption) | assumption); have q537 : (ji66) < (l1.length : Int) := of_decide_eq_true (by first | (with_reducible assumption) | assumption); obtain ⟨ad537, e537, hx537_0, hx537_1, hx537_2, hx537_3⟩ := at_T24 HR1.out (ji66) p537 q537; obtain rfl : ad535 = ad537 := (by injection e537); replace hx537_0 := (HB.out.cell (World.block_lt_of_cell? w _ hx537_0)).trans hx537_0; replace hx537_1 := (HB.out.cell (World.block_lt_of_cell? w _ hx537_1)).trans hx537_1; replace hx537_2 := (HB.out.cell (World.block_lt_of_cell? w _ hx537_2)).trans hx537_2; replace hx537_3 := (HB.out.cell (World.block_lt_of_cell? w _ hx537_3)).trans hx537_3; replace p537 := eq_true p537; replace q537 := eq_true q537) | (go_at_call 82; (with_reducible refine (impl_match.calls ((rd_T24 l1 (ji66)).f2) a0_0 t538 _ A69.out).mono ?_); rintro e w' ⟨rfl, ⟨nd, rfl⟩⟩; (try first | exact ⟨rfl, _, World.drewN_drewN _ _ _⟩ | exact ⟨rfl, _, Eq.trans (World.drewN_drewN _ _ _) (congrArg (World.drewN _) (Nat.add_assoc _ _ _))⟩)))
                              repeat (go_quiet (first | (go_at_call 82; (with_reducible refine (impl_match.calls ((rd_T24 l1 (ji57)).f1) a0_3 true _ A60.out).mono ?_); rintro e w' ⟨rfl, ⟨nd, rfl⟩⟩; (try first | exact ⟨rfl, _, World.drewN_drewN _ _ _⟩ | exact ⟨rfl, _, Eq.trans (World.drewN_drewN _ _ _) (congrArg (World.drewN _) (Nat.add_assoc _ _ _))⟩); have p537 : 0 ≤ ((ji66) : Int) := of_decide_eq_true (by first | (with_reducible assumption) | assumption); have q537 : (ji66) < (l1.length : Int) := of_decide_eq_true (by first | (with_reducible assumption) | assumption); obtain ⟨ad537, e537, hx537_0, hx537_1, hx537_2, hx537_3⟩ := at_T24 HR1.out (ji66) p537 q537; obtain rfl : ad535 = ad537 := (by injection e537); replace hx537_0 := (HB.out.cell (World.block_lt_of_cell? w _ hx537_0)).trans hx537_0; replace hx537_1 := (HB.out.cell (World.block_lt_of_cell? w _ hx537_1)).trans hx537_1; replace hx537_2 := (HB.out.cell (World.block_lt_of_cell? w _ hx537_2)).trans hx537_2; replace hx537_3 := (HB.out.cell (World.block_lt_of_cell? w _ hx537_3)).trans hx537_3; replace p537 := eq_true p537; replace q537 := eq_true q537) | (go_at_call 82; (with_reducible refine (impl_match.calls ((rd_T24 l1 (ji66)).f2) a0_0 t538 _ A69.out).mono ?_); rintro e w' ⟨rfl, ⟨nd, rfl⟩⟩; (try first | exact ⟨rfl, _, World.drewN_drewN _ _ _⟩ | exact ⟨rfl, _, Eq.trans (World.drewN_drewN _ _ _) (congrArg (World.drewN _) (Nat.add_assoc _ _ _))⟩))); try go_wp2_with (first | (go_at_call 82; (with_reducible refine (impl_match.calls ((rd_T24 l1 (ji57)).f1) a0_3 true _ A60.out).mono ?_); rintro e w' ⟨rfl, ⟨nd, rfl⟩⟩; (try first | exact ⟨rfl, _, World.drewN_drewN _ _ _⟩ | exact ⟨rfl, _, Eq.trans (World.drewN_drewN _ _ _) (congrArg (World.drewN _) (Nat.add_assoc _ _ _))⟩); have p537 : 0 ≤ ((ji66) : Int) := of_decide_eq_true (by first | (with_reducible assumption) | assumption); have q537 : (ji66) < (l1.length : Int) := of_decide_eq_true (by first | (with_reducible assumption) | assumption); obtain ⟨ad537, e537, hx537_0, hx537_1, hx537_2, hx537_3⟩ := at_T24 HR1.out (ji66) p537 q537; obtain rfl : ad535 = ad537 := (by injection e537); replace hx537_0 := (HB.out.cell (World.block_lt_of_cell? w _ hx537_0)).trans hx537_0; replace hx537_1 := (HB.out.cell (World.block_lt_of_cell? w _ hx537_1)).trans hx537_1; replace hx537_2 := (HB.out.cell (World.block_lt_of_cell? w _ hx537_2)).trans hx537_2; replace hx537_3 := (HB.out.cell (World.block_lt_of_cell? w _ hx537_3)).trans hx537_3; replace p537 := eq_true p537; replace q537 := eq_true q537) | (go_at_call 82; (with_reducible refine (impl_match.calls ((rd_T24 l1 (ji66)).f2) a0_0 t538 _ A69.out).mono ?_); rintro e w' ⟨rfl, ⟨nd, rfl⟩⟩; (try first | exact ⟨rfl, _, World.drewN_drewN _ _ _⟩ | exact ⟨rfl, _, Eq.trans (World.drewN_drewN _ _ _) (congrArg (World.drewN _) (Nat.add_assoc _ _ _))⟩))))
                              go_ret
                              exact ⟨by first | rfl | (simp [errW_none, errW_some] <;> rfl) | (simp only [← hji57, ← hji66]; first | rfl | (simp [errW_none, errW_some] <;> rfl)) | (simp [*, errW_none, errW_some] <;> rfl), by repeat (first | (with_reducible first | exact HB.out | apply below_alloc | apply pw_below_drewN | apply below_drew1 | refine below_set ?_ GE524.out) | exact HB.out)⟩
                            · rw [if_neg c68] at H
                              exact absurd H (by simp)
                          · rw [if_neg c67] at H
                            exact absurd H (by simp)
                        · rw [if_neg c65] at H
                          have c65b0 : decide (0 < (wrap64 ((l1.length : Int) / a2))) = false := decide_eq_false c65
                          clear c65
                          obtain rfl := Option.some.inj H
                          have p535 : 0 ≤ ((ji57) : Int) := of_decide_eq_true (by first | (with_reducible assumption) | assumption)
                          have q535 : (ji57) < (l1.length : Int) := of_decide_eq_true (by first | (with_reducible assumption) | assumption)
                          obtain ⟨ad535, e535, hx535_0, hx535_1, hx535_2, hx535_3⟩ := at_T24 HR1.out (ji57) p535 q535
                          cases e535
                          replace hx535_0 := (HB.out.cell (World.block_lt_of_cell? w _ hx535_0)).trans hx535_0
                          replace hx535_1 := (HB.out.cell (World.block_lt_of_cell? w _ hx535_1)).trans hx535_1
                          replace hx535_2 := (HB.out.cell (World.block_lt_of_cell? w _ hx535_2)).trans hx535_2
                          replace hx535_3 := (HB.out.cell (World.block_lt_of_cell? w _ hx535_3)).trans hx535_3
                          replace p535 := eq_true p535
                          replace q535 := eq_true q535
                          have hcz71_0 : wc.cell? ⟨gb524, 0, none⟩ = some (.int .i64 a0_0) := (blk_cell BK524.out 0).trans rfl
                          have hcz71_1 : wc.cell? ⟨gb524, 1, none⟩ = some (.int .i64 a0_1) := (blk_cell BK524.out 1).trans rfl
                          have hcz71_2 : wc.cell? ⟨gb524, 2, none⟩ = some (.int .i64 a0_2) := (blk_cell BK524.out 2).trans rfl
                          have hcz71_3 : wc.cell? ⟨gb524, 3, none⟩ = some (.int .i64 a0_3) := (blk_cell BK524.out 3).trans rfl
                          have hfz71_0 := blk_frozen BK524.out 0
                          have hfz71_1 := blk_frozen BK524.out 1
                          have hfz71_2 := blk_frozen BK524.out 2
                          have hfz71_3 := blk_frozen BK524.out 3
                          go_wp2_with (first | (go_at_call 82; (with_reducible refine (impl_match.calls ((rd_T24 l1 (ji57)).f1) a0_3 true _ A60.out).mono ?_); rintro e w' ⟨rfl, ⟨nd, rfl⟩⟩; (try first | exact ⟨rfl, _, World.drewN_drewN _ _ _⟩ | exact ⟨rfl, _, Eq.trans (World.drewN_drewN _ _ _) (congrArg (World.drewN _) (Nat.add_assoc _ _ _))⟩)))
                          repeat (go_quiet (first | (go_at_call 82; (with_reducible refine (impl_match.calls ((rd_T24 l1 (ji57)).f1) a0_3 true _ A60.out).mono ?_); rintro e w' ⟨rfl, ⟨nd, rfl⟩⟩; (try first | exact ⟨rfl, _, World.drewN_drewN _ _ _⟩ | exact ⟨rfl, _, Eq.trans (World.drewN_drewN _ _ _) (congrArg (World.drewN _) (Nat.add_assoc _ _ _))⟩))); try go_wp2_with (first | (go_at_call 82; (with_reducible refine (impl_match.calls ((rd_T24 l1 (ji57)).f1) a0_3 true _ A60.out).mono ?_); rintro e w' ⟨rfl, ⟨nd, rfl⟩⟩; (try first | exact ⟨rfl, _, World.drewN_drewN _ _ _⟩ | exact ⟨rfl, _, Eq.trans (World.drewN_drewN _ _ _) (congrArg (World.drewN _) (Nat.add_assoc _ _ _))⟩))))
                          go_ret
                          exact ⟨by first | rfl | (simp [errW_none, errW_some] <;> rfl) | (simp only [← hji57]; first | rfl | (simp [errW_none, errW_some] <;> rfl)) | (simp [*, errW_none, errW_some] <;> rfl), by repeat (first | (with_reducible first | exact HB.out | apply below_alloc | apply pw_below_drewN | apply below_drew1 | refine below_set ?_ GE524.out) | exact HB.out)⟩
                    · rw [if_neg c62] at H
                      have c62b0 : ((wrap64 ((l1.length : Int) / a2)) == 0) = false := beq_eq_false_iff_ne.mpr c62
                      have c62b1 : ((wrap64 ((l1.length : Int) / a2)) != 0) = true := bne_iff_ne.mpr c62
                      by_cases c72 : (wrap64 ((l1.length : Int) / a2)) > 0
                      · rw [if_pos c72] at H
                        have c72b0 : decide (0 < (wrap64 ((l1.length : Int) / a2))) = true := decide_eq_true c72
                        clear c72
                        obtain ⟨ji73, hji73⟩ : ∃ j_ : Int, (wrap64 ((l1.length : Int) - a2)) = j_ := ⟨_, rfl⟩
                        replace H : (if 0 ≤ (ji73) then (if (ji73) < (l1.length : Int) then ((impl_match.f ((rd_T24 l1 (ji73)).f2) a0_0).bind fun t540 => (some t540)) else (none)) else (none)) = some r := by first | (rw [hji73] at H; exact H) | (simp only [hji73] at H ⊢; exact H)
                        (try rw [hji73] at A60)
                        have hji73w : (IntKind.i64.wrap ((l1.length : Int) - a2)) = ji73 := (i64_w _).trans hji73
                        by_cases c74 : 0 ≤ (ji73)
                        · rw [if_pos c74] at H
                          have c74b0 : decide (0 ≤ (ji73)) = true := decide_eq_true c74
                          clear c74
                          by_cases c75 : (ji73) < (l1.length : Int)
                          · rw [if_pos c75] at H
                            have c75b0 : decide ((ji73) < (l1.length : Int)) = true := decide_eq_true c75
                            clear c75
                            replace H := Option.bind_eq_some_iff.mp H
                            obtain ⟨t540, A760, H⟩ := H
                            replace H : (some t540) = some r := H
                            have A76 := Aside0.mk A760
                            clear A760
                            obtain rfl := Option.some.inj H
                            have p535 : 0 ≤ ((ji57) : Int) := of_decide_eq_true (by first | (with_reducible assumption) | assumption)
                            have q535 : (ji57) < (l1.length : Int) := of_decide_eq_true (by first | (with_reducible assumption) | assumption)
                            obtain ⟨ad535, e535, hx535_0, hx535_1, hx535_2, hx535_3⟩ := at_T24 HR1.out (ji57) p535 q535
                            cases e535
                            replace hx535_0 := (HB.out.cell (World.block_lt_of_cell? w _ hx535_0)).trans hx535_0
                            replace hx535_1 := (HB.out.cell (World.block_lt_of_cell? w _ hx535_1)).trans hx535_1
                            replace hx535_2 := (HB.out.cell (World.block_lt_of_cell? w _ hx535_2)).trans hx535_2
                            replace hx535_3 := (HB.out.cell (World.block_lt_of_cell? w _ hx535_3)).trans hx535_3
                            replace p535 := eq_true p535
                            replace q535 := eq_true q535
                            have hcz77_0 : wc.cell? ⟨gb524, 0, none⟩ = some (.int .i64 a0_0) := (blk_cell BK524.out 0).trans rfl
                            have hcz77_1 : wc.cell? ⟨gb524, 1, none⟩ = some (.int .i64 a0_1) := (blk_cell BK524.out 1).trans rfl
                            have hcz77_2 : wc.cell? ⟨gb524, 2, none⟩ = some (.int .i64 a0_2) := (blk_cell BK524.out 2).trans rfl
                            have hcz77_3 : wc.cell? ⟨gb524, 3, none⟩ = some (.int .i64 a0_3) := (blk_cell BK524.out 3).trans rfl
                            have hfz77_0 := blk_frozen BK524.out 0
                            have hfz77_1 := blk_frozen BK524.out 1
                            have hfz77_2 := blk_frozen BK524.out 2
                            have hfz77_3 := blk_frozen BK524.out 3
                            go_wp2_with (first | (go_at_call 82; (with_reducible refine (impl_match.calls ((rd_T24 l1 (ji57)).f1) a0_3 true _ A60.out).mono ?_); rintro e w' ⟨rfl, ⟨nd, rfl⟩⟩; (try first | exact ⟨rfl, _, World.drewN_drewN _ _ _⟩ | exact ⟨rfl, _, Eq.trans (World.drewN_drewN _ _ _) (congrArg (World.drewN _) (Nat.add_assoc _ _ _))⟩); have p539 : 0 ≤ ((ji73) : Int) := of_decide_eq_true (by first | (with_reducible assumption) | assumption); have q539 : (ji73) < (l1.length : Int) := of_decide_eq_true (by first | (with_reducible assumption) | assumption); obtain ⟨ad539, e539, hx539_0, hx539_1, hx539_2, hx539_3⟩ := at_T24 HR1.out (ji73) p539 q539; obtain rfl : ad535 = ad539 := (by injection e539); replace hx539_0 := (HB.out.cell (World.block_lt_of_cell? w _ hx539_0)).trans hx539_0; replace hx539_1 := (HB.out.cell (World.block_lt_of_cell? w _ hx539_1)).trans hx539_1; replace hx539_2 := (HB.out.cell (World.block_lt_of_cell? w _ hx539_2)).trans hx539_2; replace hx539_3 := (HB.out.cell (World.block_lt_of_cell? w _ hx539_3)).trans hx539_3; replace p539 := eq_true p539; replace q539 := eq_true q539) | (go_at_call 82; (with_reducible refine (impl_match.calls ((rd_T24 l1 (ji73)).f2) a0_0 t540 _ A76.out).mono ?_); rintro e w' ⟨rfl, ⟨nd, rfl⟩⟩; (try first | exact ⟨rfl, _, World.drewN_drewN _ _ _⟩ | exact ⟨rfl, _, Eq.trans (World.drewN_drewN _ _ _) (congrArg (World.drewN _) (Nat.add_assoc _ _ _))⟩)))
                            repeat (go_quiet (first | (go_at_call 82; (with_reducible refine (impl_match.calls ((rd_T24 l1 (ji57)).f1) a0_3 true _ A60.out).mono ?_); rintro e w' ⟨rfl, ⟨nd, rfl⟩⟩; (try first | exact ⟨rfl, _, World.drewN_drewN _ _ _⟩ | exact ⟨rfl, _, Eq.trans (World.drewN_drewN _ _ _) (congrArg (World.drewN _) (Nat.add_assoc _ _ _))⟩); have p539 : 0 ≤ ((ji73) : Int) := of_decide_eq_true (by first | (with_reducible assumption) | assumption); have q539 : (ji73) < (l1.length : Int) := of_decide_eq_true (by first | (with_reducible assumption) | assumption); obtain ⟨ad539, e539, hx539_0, hx539_1, hx539_2, hx539_3⟩ := at_T24 HR1.out (ji73) p539 q539; obtain rfl : ad535 = ad539 := (by injection e539); replace hx539_0 := (HB.out.cell (World.block_lt_of_cell? w _ hx539_0)).trans hx539_0; replace hx539_1 := (HB.out.cell (World.block_lt_of_cell? w _ hx539_1)).trans hx539_1; replace hx539_2 := (HB.out.cell (World.block_lt_of_cell? w _ hx539_2)).trans hx539_2; replace hx539_3 := (HB.out.cell (World.block_lt_of_cell? w _ hx539_3)).trans hx539_3; replace p539 := eq_true p539; replace q539 := eq_true q539) | (go_at_call 82; (with_reducible refine (impl_match.calls ((rd_T24 l1 (ji73)).f2) a0_0 t540 _ A76.out).mono ?_); rintro e w' ⟨rfl, ⟨nd, rfl⟩⟩; (try first | exact ⟨rfl, _, World.drewN_drewN _ _ _⟩ | exact ⟨rfl, _, Eq.trans (World.drewN_drewN _ _ _) (congrArg (World.drewN _) (Nat.add_assoc _ _ _))⟩))); try go_wp2_with (first | (go_at_call 82; (with_reducible refine (impl_match.calls ((rd_T24 l1 (ji57)).f1) a0_3 true _ A60.out).mono ?_); rintro e w' ⟨rfl, ⟨nd, rfl⟩⟩; (try first | exact ⟨rfl, _, World.drewN_drewN _ _ _⟩ | exact ⟨rfl, _, Eq.trans (World.drewN_drewN _ _ _) (congrArg (World.drewN _) (Nat.add_assoc _ _ _))⟩); have p539 : 0 ≤ ((ji73) : Int) := of_decide_eq_true (by first | (with_reducible assumption) | assumption); have q539 : (ji73) < (l1.length : Int) := of_decide_eq_true (by first | (with_reducible assumption) | assumption); obtain ⟨ad539, e539, hx539_0, hx539_1, hx539_2, hx539_3⟩ := at_T24 HR1.out (ji73) p539 q539; obtain rfl : ad535 = ad539 := (by injection e539); replace hx539_0 := (HB.out.cell (World.block_lt_of_cell? w _ hx539_0)).trans hx539_0; replace hx539_1 := (HB.out.cell (World.block_lt_of_cell? w _ hx539_1)).trans hx539_1; replace hx539_2 := (HB.out.cell (World.block_lt_of_cell? w _ hx539_2)).trans hx539_2; replace hx539_3 := (HB.out.cell (World.block_lt_of_cell? w _ hx539_3)).trans hx539_3; replace p539 := eq_true p539; replace q539 := eq_true q539) | (go_at_call 82; (with_reducible refine (impl_match.calls ((rd_T24 l1 (ji73)).f2) a0_0 t540 _ A76.out).mono ?_); rintro e w' ⟨rfl, ⟨nd, rfl⟩⟩; (try first | exact ⟨rfl, _, World.drewN_drewN _ _ _⟩ | exact ⟨rfl, _, Eq.trans (World.drewN_drewN _ _ _) (congrArg (World.drewN _) (Nat.add_assoc _ _ _))⟩))))
                            go_ret
                            exact ⟨by first | rfl | (simp [errW_none, errW_some] <;> rfl) | (simp only [← hji57, ← hji73]; first | rfl | (simp [errW_none, errW_some] <;> rfl)) | (simp [*, errW_none, errW_some] <;> rfl), by repeat (first | (with_reducible first | exact HB.out | apply below_alloc | apply pw_below_drewN | apply below_drew1 | refine below_set ?_ GE524.out) | exact HB.out)⟩
                          · rw [if_neg c75] at H
                            exact absurd H (by simp)
                        · rw [if_neg c74] at H
                          exact absurd H (by simp)
                      · rw [if_neg c72] at H
                        have c72b0 : decide (0 < (wrap64 ((l1.length : Int) / a2))) = false := decide_eq_false c72
                        clear c72
                        obtain rfl := Option.some.inj H
                        have p535 : 0 ≤ ((ji57) : Int) := of_decide_eq_true (by first | (with_reducible assumption) | assumption)
                        have q535 : (ji57) < (l1.length : Int) := of_decide_eq_true (by first | (with_reducible assumption) | assumption)
                        obtain ⟨ad535, e535, hx535_0, hx535_1, hx535_2, hx535_3⟩ := at_T24 HR1.out (ji57) p535 q535
                        cases e535
                        replace hx535_0 := (HB.out.cell (World.block_lt_of_cell? w _ hx535_0)).trans hx535_0
                        replace hx535_1 := (HB.out.cell (World.block_lt_of_cell? w _ hx535_1)).trans hx535_1
                        replace hx535_2 := (HB.out.cell (World.block_lt_of_cell? w _ hx535_2)).trans hx535_2
                        replace hx535_3 := (HB.out.cell (World.block_lt_of_cell? w _ hx535_3)).trans hx535_3
                        replace p535 := eq_true p535
                        replace q535 := eq_true q535
                        have hcz78_0 : wc.cell? ⟨gb524, 0, none⟩ = some (.int .i64 a0_0) := (blk_cell BK524.out 0).trans rfl
                        have hcz78_1 : wc.cell? ⟨gb524, 1, none⟩ = some (.int .i64 a0_1) := (blk_cell BK524.out 1).trans rfl
                        have hcz78_2 : wc.cell? ⟨gb524, 2, none⟩ = some (.int .i64 a0_2) := (blk_cell BK524.out 2).trans rfl
                        have hcz78_3 : wc.cell? ⟨gb524, 3, none⟩ = some (.int .i64 a0_3) := (blk_cell BK524.out 3).trans rfl
                        have hfz78_0 := blk_frozen BK524.out 0
                        have hfz78_1 := blk_frozen BK524.out 1
                        have hfz78_2 := blk_frozen BK524.out 2
                        have hfz78_3 := blk_frozen BK524.out 3
                        go_wp2_with (first | (go_at_call 82; (with_reducible refine (impl_match.calls ((rd_T24 l1 (ji57)).f1) a0_3 true _ A60.out).mono ?_); rintro e w' ⟨rfl, ⟨nd, rfl⟩⟩; (try first | exact ⟨rfl, _, World.drewN_drewN _ _ _⟩ | exact ⟨rfl, _, Eq.trans (World.drewN_drewN _ _ _) (congrArg (World.drewN _) (Nat.add_assoc _ _ _))⟩)))
                        repeat (go_quiet (first | (go_at_call 82; (with_reducible refine (impl_match.calls ((rd_T24 l1 (ji57)).f1) a0_3 true _ A60.out).mono ?_); rintro e w' ⟨rfl, ⟨nd, rfl⟩⟩; (try first | exact ⟨rfl, _, World.drewN_drewN _ _ _⟩ | exact ⟨rfl, _, Eq.trans (World.drewN_drewN _ _ _) (congrArg (World.drewN _) (Nat.add_assoc _ _ _))⟩))); try go_wp2_with (first | (go_at_call 82; (with_reducible refine (impl_match.calls ((rd_T24 l1 (ji57)).f1) a0_3 true _ A60.out).mono ?_); rintro e w' ⟨rfl, ⟨nd, rfl⟩⟩; (try first | exact ⟨rfl, _, World.drewN_drewN _ _ _⟩ | exact ⟨rfl, _, Eq.trans (World.drewN_drewN _ _ _) (congrArg (World.drewN _) (Nat.add_assoc _ _ _))⟩))))
                        go_ret
                        exact ⟨by first | rfl | (simp [errW_none, errW_some] <;> rfl) | (simp only [← hji57]; first | rfl | (simp [errW_none, errW_some] <;> rfl)) | (simp [*, errW_none, errW_some] <;> rfl), by repeat (first | (with_reducible first | exact HB.out | apply below_alloc | apply pw_below_drewN | apply below_drew1 | refine below_set ?_ GE524.out) | exact HB.out)⟩
                  · replace c61 := Bool.eq_false_iff.mpr c61
                    subst c61
                    have H1 : (some false) = some r := by rw [if_neg (show ¬ (false = true) by decide)] at H; exact H
                    clear H
                    have H := H1
                    clear H1
                    obtain rfl := Option.some.inj H
                    have p535 : 0 ≤ ((ji57) : Int) := of_decide_eq_true (by first | (with_reducible assumption) | assumption)
                    have q535 : (ji57) < (l1.length : Int) := of_decide_eq_true (by first | (with_reducible assumption) | assumption)
                    obtain ⟨ad535, e535, hx535_0, hx535_1, hx535_2, hx535_3⟩ := at_T24 HR1.out (ji57) p535 q535
                    cases e535
                    replace hx535_0 := (HB.out.cell (World.block_lt_of_cell? w _ hx535_0)).trans hx535_0
                    replace hx535_1 := (HB.out.cell (World.block_lt_of_cell? w _ hx535_1)).trans hx535_1
                    replace hx535_2 := (HB.out.cell (World.block_lt_of_cell? w _ hx535_2)).trans hx535_2
                    replace hx535_3 := (HB.out.cell (World.block_lt_of_cell? w _ hx535_3)).trans hx535_3
                    replace p535 := eq_true p535
                    replace q535 := eq_true q535
                    have hcz79_0 : wc.cell? ⟨gb524, 0, none⟩ = some (.int .i64 a0_0) := (blk_cell BK524.out 0).trans rfl
                    have hcz79_1 : wc.cell? ⟨gb524, 1, none⟩ = some (.int .i64 a0_1) := (blk_cell BK524.out 1).trans rfl
                    have hcz79_2 : wc.cell? ⟨gb524, 2, none⟩ = some (.int .i64 a0_2) := (blk_cell BK524.out 2).trans rfl
                    have hcz79_3 : wc.cell? ⟨gb524, 3, none⟩ = some (.int .i64 a0_3) := (blk_cell BK524.out 3).trans rfl
                    have hfz79_0 := blk_frozen BK524.out 0
                    have hfz79_1 := blk_frozen BK524.out 1
                    have hfz79_2 := blk_frozen BK524.out 2
                    have hfz79_3 := blk_frozen BK524.out 3
                    go_wp2_with (first | (go_at_call 82; (with_reducible refine (impl_match.calls ((rd_T24 l1 (ji57)).f1) a0_3 false _ A60.out).mono ?_); rintro e w' ⟨rfl, ⟨nd, rfl⟩⟩; (try first | exact ⟨rfl, _, World.drewN_drewN _ _ _⟩ | exact ⟨rfl, _, Eq.trans (World.drewN_drewN _ _ _) (congrArg (World.drewN _) (Nat.add_assoc _ _ _))⟩)))
                    repeat (go_quiet (first | (go_at_call 82; (with_reducible refine (impl_match.calls ((rd_T24 l1 (ji57)).f1) a0_3 false _ A60.out).mono ?_); rintro e w' ⟨rfl, ⟨nd, rfl⟩⟩; (try first | exact ⟨rfl, _, World.drewN_drewN _ _ _⟩ | exact ⟨rfl, _, Eq.trans (World.drewN_drewN _ _ _) (congrArg (World.drewN _) (Nat.add_assoc _ _ _))⟩))); try go_wp2_with (first | (go_at_call 82; (with_reducible refine (impl_match.calls ((rd_T24 l1 (ji57)).f1) a0_3 false _ A60.out).mono ?_); rintro e w' ⟨rfl, ⟨nd, rfl⟩⟩; (try first | exact ⟨rfl, _, World.drewN_drewN _ _ _⟩ | exact ⟨rfl, _, Eq.trans (World.drewN_drewN _ _ _) (congrArg (World.drewN _) (Nat.add_assoc _ _ _))⟩))))
                    go_ret
                    exact ⟨by first | rfl | (simp [errW_none, errW_some] <;> rfl) | (simp only [← hji57]; first | rfl | (simp [errW_none, errW_some] <;> rfl)) | (simp [*, errW_none, errW_some] <;> rfl), by repeat (first | (with_reducible first | exact HB.out | apply below_alloc | apply pw_below_drewN | apply below_drew1 | refine below_set ?_ GE524.out) | exact HB.out)⟩
                · rw [if_neg c59] at H
                  exact absurd H (by simp)
              · rw [if_neg c58] at H
                exact absurd H (by simp)
            · rw [if_neg c56] at H
              have c56b0 : decide (0 < ((l1.length : Int) % a2)) = false := decide_eq_false c56
              clear c56
              by_cases c80 : (wrap64 ((l1.length : Int) / a2)) = 0
              · rw [if_pos c80] at H
                have c80b0 : ((wrap64 ((l1.length : Int) / a2)) == 0) = true := beq_iff_eq.mpr c80
                have c80b1 : ((wrap64 ((l1.length : Int) / a2)) != 0) = false := bne_eq_false_iff_eq.mpr c80
                clear c80
                by_cases c81 : a0_0 = 0
                · rw [if_pos c81] at H
                  have c81b0 : (a0_0 == 0) = true := beq_iff_eq.mpr c81
                  have c81b1 : (a0_0 != 0) = false := bne_eq_false_iff_eq.mpr c81
                  clear c81
                  obtain rfl := Option.some.inj H
                  have hcz82_0 : wc.cell? ⟨gb524, 0, none⟩ = some (.int .i64 a0_0) := (blk_cell BK524.out 0).trans rfl
                  have hcz82_1 : wc.cell? ⟨gb524, 1, none⟩ = some (.int .i64 a0_1) := (blk_cell BK524.out 1).trans rfl
                  have hcz82_2 : wc.cell? ⟨gb524, 2, none⟩ = some (.int .i64 a0_2) := (blk_cell BK524.out 2).trans rfl
                  have hcz82_3 : wc.cell? ⟨gb524, 3, none⟩ = some (.int .i64 a0_3) := (blk_cell BK524.out 3).trans rfl
                  have hfz82_0 := blk_frozen BK524.out 0
                  have hfz82_1 := blk_frozen BK524.out 1
                  have hfz82_2 := blk_frozen BK524.out 2
                  have hfz82_3 := blk_frozen BK524.out 3
                  go_wp2
                  repeat (go_quiet (fail); try go_wp2)
                  go_ret
                  exact ⟨by first | rfl | (simp [errW_none, errW_some] <;> rfl) | (simp [*, errW_none, errW_some] <;> rfl), by repeat (first | (with_reducible first | exact HB.out | apply below_alloc | apply pw_below_drewN | apply below_drew1 | refine below_set ?_ GE524.out) | exact HB.out)⟩
                · rw [if_neg c81] at H
                  have c81b0 : (a0_0 == 0) = false := beq_eq_false_iff_ne.mpr c81
                  have c81b1 : (a0_0 != 0) = true := bne_iff_ne.mpr c81
                  by_cases c83 : (wrap64 ((l1.length : Int) / a2)) > 0
                  · rw [if_pos c83] at H
                    have c83b0 : decide (0 < (wrap64 ((l1.length : Int) / a2))) = true := decide_eq_true c83
                    clear c83
                    obtain ⟨ji84, hji84⟩ : ∃ j_ : Int, (wrap64 ((l1.length : Int) - a2)) = j_ := ⟨_, rfl⟩
                    replace H : (if 0 ≤ (ji84) then (if (ji84) < (l1.length : Int) then ((impl_match.f ((rd_T24 l1 (ji84)).f2) a0_0).bind fun t542 => (some t542)) else (none)) else (none)) = some r := by first | (rw [hji84] at H; exact H) | (simp only [hji84] at H ⊢; exact H)
                    have hji84w : (IntKind.i64.wrap ((l1.length : Int) - a2)) = ji84 := (i64_w _).trans hji84
                    by_cases c85 : 0 ≤ (ji84)
                    · rw [if_pos c85] at H
                      have c85b0 : decide (0 ≤ (ji84)) = true := decide_eq_true c85
                      clear c85
                      by_cases c86 : (ji84) < (l1.length : Int)
                      · rw [if_pos c86] at H
                        have c86b0 : decide ((ji84) < (l1.length : Int)) = true := decide_eq_true c86
                        clear c86
                        replace H := Option.bind_eq_some_iff.mp H
                        obtain ⟨t542, A870, H⟩ := H
                        replace H : (some t542) = some r := H
                        have A87 := Aside0.mk A870
                        clear A870
                        obtain rfl := Option.some.inj H
                        have hcz88_0 : wc.cell? ⟨gb524, 0, none⟩ = some (.int .i64 a0_0) := (blk_cell BK524.out 0).trans rfl
                        have hcz88_1 : wc.cell? ⟨gb524, 1, none⟩ = some (.int .i64 a0_1) := (blk_cell BK524.out 1).trans rfl
                        have hcz88_2 : wc.cell? ⟨gb524, 2, none⟩ = some (.int .i64 a0_2) := (blk_cell BK524.out 2).trans rfl
                        have hcz88_3 : wc.cell? ⟨gb524, 3, none⟩ = some (.int .i64 a0_3) := (blk_cell BK524.out 3).trans rfl
                        have hfz88_0 := blk_frozen BK524.out 0
                        have hfz88_1 := blk_frozen BK524.out 1
                        have hfz88_2 := blk_frozen BK524.out 2
                        have hfz88_3 := blk_frozen BK524.out 3
                        have p541 : 0 ≤ ((ji84) : Int) := of_decide_eq_true (by first | (with_reducible assumption) | assumption)
                        have q541 : (ji84) < (l1.length : Int) := of_decide_eq_true (by first | (with_reducible assumption) | assumption)
                        obtain ⟨ad541, e541, hx541_0, hx541_1, hx541_2, hx541_3⟩ := at_T24 HR1.out (ji84) p541 q541
                        cases e541
                        replace hx541_0 := (HB.out.cell (World.block_lt_of_cell? w _ hx541_0)).trans hx541_0
                        replace hx541_1 := (HB.out.cell (World.block_lt_of_cell? w _ hx541_1)).trans hx541_1
                        replace hx541_2 := (HB.out.cell (World.block_lt_of_cell? w _ hx541_2)).trans hx541_2
                        replace hx541_3 := (HB.out.cell (World.block_lt_of_cell? w _ hx541_3)).trans hx541_3
                        replace p541 := eq_true p541
                        replace q541 := eq_true q541
                        go_wp2_with (first | (go_at_call 82; (with_reducible refine (impl_match.calls ((rd_T24 l1 (ji84)).f2) a0_0 t542 _ A87.out).mono ?_); rintro e w' ⟨rfl, ⟨nd, rfl⟩⟩; (try first | exact ⟨rfl, _, World.drewN_drewN _ _ _⟩ | exact ⟨rfl, _, Eq.trans (World.drewN_drewN _ _ _) (congrArg (World.drewN _) (Nat.add_assoc _ _ _))⟩)))
                        repeat (go_quiet (first | (go_at_call 82; (with_reducible refine (impl_match.calls ((rd_T24 l1 (ji84)).f2) a0_0 t542 _ A87.out).mono ?_); rintro e w' ⟨rfl, ⟨nd, rfl⟩⟩; (try first | exact ⟨rfl, _, World.drewN_drewN _ _ _⟩ | exact ⟨rfl, _, Eq.trans (World.drewN_drewN _ _ _) (congrArg (World.drewN _) (Nat.add_assoc _ _ _))⟩))); try go_wp2_with (first | (go_at_call 82; (with_reducible refine (impl_match.calls ((rd_T24 l1 (ji84)).f2) a0_0 t542 _ A87.out).mono ?_); rintro e w' ⟨rfl, ⟨nd, rfl⟩⟩; (try first | exact ⟨rfl, _, World.drewN_drewN _ _ _⟩ | exact ⟨rfl, _, Eq.trans (World.drewN_drewN _ _ _) (congrArg (World.drewN _) (Nat.add_assoc _ _ _))⟩))))
                        go_ret
                        exact ⟨by first | rfl | (simp [errW_none, errW_some] <;> rfl) | (simp only [← hji84]; first | rfl | (simp [errW_none, errW_some] <;> rfl)) | (simp [*, errW_none, errW_some] <;> rfl), by repeat (first | (with_reducible first | exact HB.out | apply below_alloc | apply pw_below_drewN | apply below_drew1 | refine below_set ?_ GE524.out) | exact HB.out)⟩
                      · rw [if_neg c86] at H
                        exact absurd H (by simp)
                    · rw [if_neg c85] at H
                      exact absurd H (by simp)
                  · rw [if_neg c83] at H
                    have c83b0 : decide (0 < (wrap64 ((l1.length : Int) / a2))) = false := decide_eq_false c83
                    clear c83
                    obtain rfl := Option.some.inj H
                    have hcz89_0 : wc.cell? ⟨gb524, 0, none⟩ = some (.int .i64 a0_0) := (blk_cell BK524.out 0).trans rfl
                    have hcz89_1 : wc.cell? ⟨gb524, 1, none⟩ = some (.int .i64 a0_1) := (blk_cell BK524.out 1).trans rfl
                    have hcz89_2 : wc.cell? ⟨gb524, 2, none⟩ = some (.int .i64 a0_2) := (blk_cell BK524.out 2).trans rfl
                    have hcz89_3 : wc.cell? ⟨gb524, 3, none⟩ = some (.int .i64 a0_3) := (blk_cell BK524.out 3).trans rfl
                    have hfz89_0 := blk_frozen BK524.out 0
                    have hfz89_1 := blk_frozen BK524.out 1
                    have hfz89_2 := blk_frozen BK524.out 2
                    have hfz89_3 := blk_frozen BK524.out 3
                    go_wp2
                    repeat (go_quiet (fail); try go_wp2)
                    go_ret
                    exact ⟨by first | rfl | (simp [errW_none, errW_some] <;> rfl) | (simp [*, errW_none, errW_some] <;> rfl), by repeat (first | (with_reducible first | exact HB.out | apply below_alloc | apply pw_below_drewN | apply below_drew1 | refine below_set ?_ GE524.out) | exact HB.out)⟩
              · rw [if_neg c80] at H
                have c80b0 : ((wrap64 ((l1.length : Int) / a2)) == 0) = false := beq_eq_false_iff_ne.mpr c80
                have c80b1 : ((wrap64 ((l1.length : Int) / a2)) != 0) = true := bne_iff_ne.mpr c80
                by_cases c90 : (wrap64 ((l1.length : Int) / a2)) > 0
                · rw [if_pos c90] at H
                  have c90b0 : decide (0 < (wrap64 ((l1.length : Int) / a2))) = true := decide_eq_true c90
                  clear c90
                  obtain ⟨ji91, hji91⟩ : ∃ j_ : Int, (wrap64 ((l1.length : Int) - a2)) = j_ := ⟨_, rfl⟩
                  replace H : (if 0 ≤ (ji91) then (if (ji91) < (l1.length : Int) then ((impl_match.f ((rd_T24 l1 (ji91)).f2) a0_0).bind fun t544 => (some t544)) else (none)) else (none)) = some r := by first | (rw [hji91] at H; exact H) | (simp only [hji91] at H ⊢; exact H)
                  have hji91w : (IntKind.i64.wrap ((l1.length : Int) - a2)) = ji91 := (i64_w _).trans hji91
                  by_cases c92 : 0 ≤ (ji91)
                  · rw [if_pos c92] at H
                    have c92b0 : decide (0 ≤ (ji91)) = true := decide_eq_true c92
                    clear c92
                    by_cases c93 : (ji91) < (l1.length : Int)
                    · rw [if_pos c93] at H
                      have c93b0 : decide ((ji91) < (l1.length : Int)) = true := decide_eq_true c93
                      clear c93
                      replace H := Option.bind_eq_some_iff.mp H
                      obtain ⟨t544, A940, H⟩ := H
                      replace H : (some t544) = some r := H
                      have A94 := Aside0.mk A940
                      clear A940
                      obtain rfl := Option.some.inj H
                      have p543 : 0 ≤ ((ji91) : Int) := of_decide_eq_true (by first | (with_reducible assumption) | assumption)
                      have q543 : (ji91) < (l1.length : Int) := of_decide_eq_true (by first | (with_reducible assumption) | assumption)
                      obtain ⟨ad543, e543, hx543_0, hx543_1, hx543_2, hx543_3⟩ := at_T24 HR1.out (ji91) p543 q543
                      cases e543
                      replace hx543_0 := (HB.out.cell (World.block_lt_of_cell? w _ hx543_0)).trans hx543_0
                      replace hx543_1 := (HB.out.cell (World.block_lt_of_cell? w _ hx543_1)).trans hx543_1
                      replace hx543_2 := (HB.out.cell (World.block_lt_of_cell? w _ hx543_2)).trans hx543_2
                      replace hx543_3 := (HB.out.cell (World.block_lt_of_cell? w _ hx543_3)).trans hx543_3
                      replace p543 := eq_true p543
                      replace q543 := eq_true q543
                      have hcz95_0 : wc.cell? ⟨gb524, 0, none⟩ = some (.int .i64 a0_0) := (blk_cell BK524.out 0).trans rfl
                      have hcz95_1 : wc.cell? ⟨gb524, 1, none⟩ = some (.int .i64 a0_1) := (blk_cell BK524.out 1).trans rfl
                      have hcz95_2 : wc.cell? ⟨gb524, 2, none⟩ = some (.int .i64 a0_2) := (blk_cell BK524.out 2).trans rfl
                      have hcz95_3 : wc.cell? ⟨gb524, 3, none⟩ = some (.int .i64 a0_3) := (blk_cell BK524.out 3).trans rfl
                      have hfz95_0 := blk_frozen BK524.out 0
                      have hfz95_1 := blk_frozen BK524.out 1
                      have hfz95_2 := blk_frozen BK524.out 2
                      have hfz95_3 := blk_frozen BK524.out 3
                      go_wp2_with (first | (go_at_call 82; (with_reducible refine (impl_match.calls ((rd_T24 l1 (ji91)).f2) a0_0 t544 _ A94.out).mono ?_); rintro e w' ⟨rfl, ⟨nd, rfl⟩⟩; (try first | exact ⟨rfl, _, World.drewN_drewN _ _ _⟩ | exact ⟨rfl, _, Eq.trans (World.drewN_drewN _ _ _) (congrArg (World.drewN _) (Nat.add_assoc _ _ _))⟩)))
                      repeat (go_quiet (first | (go_at_call 82; (with_reducible refine (impl_match.calls ((rd_T24 l1 (ji91)).f2) a0_0 t544 _ A94.out).mono ?_); rintro e w' ⟨rfl, ⟨nd, rfl⟩⟩; (try first | exact ⟨rfl, _, World.drewN_drewN _ _ _⟩ | exact ⟨rfl, _, Eq.trans (World.drewN_drewN _ _ _) (congrArg (World.drewN _) (Nat.add_assoc _ _ _))⟩))); try go_wp2_with (first | (go_at_call 82; (with_reducible refine (impl_match.calls ((rd_T24 l1 (ji91)).f2) a0_0 t544 _ A94.out).mono ?_); rintro e w' ⟨rfl, ⟨nd, rfl⟩⟩; (try first | exact ⟨rfl, _, World.drewN_drewN _ _ _⟩ | exact ⟨rfl, _, Eq.trans (World.drewN_drewN _ _ _) (congrArg (World.drewN _) (Nat.add_assoc _ _ _))⟩))))
                      go_ret
                      exact ⟨by first | rfl | (simp [errW_none, errW_some] <;> rfl) | (simp only [← hji91]; first | rfl | (simp [errW_none, errW_some] <;> rfl)) | (simp [*, errW_none, errW_some] <;> rfl), by repeat (first | (with_reducible first | exact HB.out | apply below_alloc | apply pw_below_drewN | apply below_drew1 | refine below_set ?_ GE524.out) | exact HB.out)⟩
                    · rw [if_neg c93] at H
                      exact absurd H (by simp)
                  · rw [if_neg c92] at H
                    exact absurd H (by simp)
                · rw [if_neg c90] at H
                  have c90b0 : decide (0 < (wrap64 ((l1.length : Int) / a2))) = false := decide_eq_false c90
                  clear c90
                  obtain rfl := Option.some.inj H
                  go_wp2
                  repeat (go_quiet (fail); try go_wp2)
                  go_ret
                  exact ⟨by first | rfl | (simp [errW_none, errW_some] <;> rfl) | (simp [*, errW_none, errW_some] <;> rfl), by repeat (first | (with_reducible first | exact HB.out | apply below_alloc | apply pw_below_drewN | apply below_drew1 | refine below_set ?_ GE524.out) | exact HB.out)⟩

end Go.Proofs.Ytgcagmmghckbbaa.A






/- Plain laws of layouts: codes, what fits, what is a correct layout. -/
namespace Go.Proofs.Ytgcagmmghckbbaa.A
set_option linter.unusedSimpArgs false
set_option linter.unusedVariables false
open Go.RowKit Go.Proofs.YtgcagmmghckbbaaW.PrintWords Go.Proofs.YtgcagmmghckbbaaW.PrintLast Go.Proofs.YtgcagmmghckbbaaW.PrintMore
abbrev St := S74
/-- The code of a jigsaw. -/
def codeV (l : List Tl) (w h : Int) : Int := if l.all okT then if inB w 1 6 && (inB h 1 6 && (decide (w * h = l.length) && decide (l.length ≤ 12))) then 0 else 2 else 1
theorem code_tail (w h n : Int) (hw : inB w 1 6 = true) (hh : inB h 1 6 = true) : wrap64 (w * h) = w * h := by
  obtain ⟨a, b⟩ := (inB_iff _ _ _).1 hw
  obtain ⟨c, d⟩ := (inB_iff _ _ _).1 hh
  have h1 : 0 ≤ w * h := Int.mul_nonneg (by omega) (by omega)
  have h2 : w * h ≤ 6 * 6 := Int.mul_le_mul b d (by omega) (by omega)
  exact wrap_id (by omega) (by omega)
theorem l30Code_ev (l : List Tl) (w h : Int) (hl : l.length ≤ 1048576) : Ev (fun k => spec_l30Code.f k l w h) (codeV l w h) := by
  unfold spec_l30Code.f codeV
  refine Ev.bind (l30Valid_ev l (by simp [maxLen]; omega)) (Ev.val fun k => ?_)
  cases l.all okT
  · rfl
  · simp only [if_true, l01In_eq, Option.bind_some]
    cases hw : inB w 1 6
    · rfl
    · cases hh : inB h 1 6
      · rfl
      · simp only [if_true, code_tail w h 0 hw hh, Bool.true_and]
        by_cases c : w * h = (l.length : Int)
        · by_cases d : l.length ≤ 12
          · simp [c, d]; omega
          · simp [c, d]; omega
        · simp [c]
theorem jigsawCode_ev (l : List Tl) (w h : Int) : Ev (fun k => impl_jigsawCode.f k l w h) (codeV l w h) := by
  unfold impl_jigsawCode.f codeV
  refine Ev.bind (Ev.val fun k => areTiles_eq k l) (Ev.val fun k => ?_)
  cases l.all okT
  · rfl
  · simp only [if_true, within_eq, Option.bind_some]
    cases hw : inB w 1 6
    · rfl
    · cases hh : inB h 1 6
      · rfl
      · simp only [if_true, code_tail w h 0 hw hh, Bool.true_and]
        by_cases c : w * h = (l.length : Int)
        · by_cases d : l.length ≤ 12
          · simp [c, d]; omega
          · simp [c, d]; omega
        · simp [c]
theorem codeV_zero {l : List Tl} {w h : Int} (hc : codeV l w h = 0) : l.all okT = true ∧ 1 ≤ w ∧ w ≤ 6 ∧ 1 ≤ h ∧ h ≤ 6 ∧ w * h = l.length ∧ l.length ≤ 12 := by
  unfold codeV at hc
  split at hc
  · rename_i h1
    split at hc
    · rename_i h2
      simp only [Bool.and_eq_true, inB_iff, decide_eq_true_eq] at h2
      exact ⟨h1, h2.1.1, h2.1.2, h2.2.1.1, h2.2.1.2, h2.2.2.1, h2.2.2.2⟩
    · omega
  · omega
def matchS (a b : Int) : Bool := if a = 0 then false else wrap64 (a + b) == 0
def matchI (a b : Int) : Bool := if a = 0 then false else if b = 0 then false else wrap64 (a + b) == 0
theorem okE_iff (x : Int) : okE x = true ↔ -9 ≤ x ∧ x ≤ 9 := inB_iff _ _ _
theorem match_eq (a b : Int) (ha : okE a = true) (hb : okE b = true) : matchI b a = matchS a b := by
  rw [okE_iff] at ha hb
  unfold matchI matchS
  rw [show wrap64 (b + a) = a + b from by unfold wrap64; omega, show wrap64 (a + b) = a + b from by unfold wrap64; omega]
  by_cases h1 : a = 0
  · simp [h1]
  · by_cases h2 : b = 0
    · simp [h2, h1]
    · simp [h1, h2]
theorem l30Match_eq (a b : Int) : spec_l30Match.f a b = some (matchS a b) := by
  unfold spec_l30Match.f matchS
  split <;> rfl
theorem implMatch_eq (a b : Int) : impl_match.f a b = some (matchI a b) := by
  unfold impl_match.f matchI
  split
  · rfl
  · split <;> rfl
def lastT (pl : List Tl) (i : Int) : Tl := rd_T24 pl i
def sideV (m : Int → Int → Bool) (z x y : Int) : Bool := if z = 0 then x == 0 else m x y
theorem spec_fits_j0 (k : Nat) (pl : List Tl) (w col row : Int) (b : Bool) (t : Tl) (h1 : 1 ≤ w) (h6 : w ≤ 6) (hc0 : 0 ≤ col) (hr0 : 0 ≤ row) (hcol : 0 < col → 1 ≤ pl.length) (hrow : 0 < row → w ≤ pl.length) (hl : pl.length ≤ 1048576) :
    spec_l30Fits.j0 (k + 1) pl w pl.length col row b t.f0 t.f1 t.f2 t.f3 = some (!b && (sideV matchS col t.f3 (lastT pl (pl.length - 1)).f1 && sideV matchS row t.f0 (lastT pl (pl.length - w)).f2)) := by
  have e1 : wrap64 ((pl.length : Int) - 1) = pl.length - 1 := by unfold wrap64; omega
  have e2 : wrap64 ((pl.length : Int) - w) = pl.length - w := by unfold wrap64; omega
  simp only [spec_l30Fits.j0, l30Match_eq, Option.bind_some, e1, e2]
  cases b
  · have a1 : (pl.length : Int) - 1 < pl.length := by omega
    have a2 : (pl.length : Int) - w < pl.length := by omega
    by_cases c : col = 0
    · by_cases r : row = 0
      · by_cases p : t.f3 = 0 <;> by_cases q : t.f0 = 0 <;> simp [sideV, c, r, p, q] <;> omega
      · have a3 : 0 ≤ (pl.length : Int) - w := by have := hrow (by omega); omega
        have a4 : 0 < row := by omega
        by_cases p : t.f3 = 0 <;> simp [sideV, c, r, p, a2, a3, a4, lastT] <;> omega
    · have a5 : 0 ≤ (pl.length : Int) - 1 := by have := hcol (by omega); omega
      have a6 : 0 < col := by omega
      by_cases r : row = 0
      · cases hm : matchS t.f3 (rd_T24 pl (pl.length - 1)).f1 <;> by_cases q : t.f0 = 0 <;> simp [sideV, c, r, q, a1, a5, a6, hm, lastT] <;> omega
      · have a3 : 0 ≤ (pl.length : Int) - w := by have := hrow (by omega); omega
        have a4 : 0 < row := by omega
        cases hm : matchS t.f3 (rd_T24 pl (pl.length - 1)).f1 <;> simp [sideV, c, r, a1, a2, a3, a4, a5, a6, hm, lastT] <;> omega
  · simp
theorem impl_fits_j0 (k : Nat) (pl : List Tl) (w col row : Int) (b : Bool) (t : Tl) (h1 : 1 ≤ w) (h6 : w ≤ 6) (hc0 : 0 ≤ col) (hr0 : 0 ≤ row) (hcol : 0 < col → 1 ≤ pl.length) (hrow : 0 < row → w ≤ pl.length) (hl : pl.length ≤ 1048576) :
    impl_fits.j0 (k + 1) pl w pl.length col row b t.f0 t.f1 t.f2 t.f3 = some (!b && (sideV (fun x y => matchI y x) col t.f3 (lastT pl (pl.length - 1)).f1 && sideV (fun x y => matchI y x) row t.f0 (lastT pl (pl.length - w)).f2)) := by
  have e1 : wrap64 ((pl.length : Int) - 1) = pl.length - 1 := by unfold wrap64; omega
  have e2 : wrap64 ((pl.length : Int) - w) = pl.length - w := by unfold wrap64; omega
  simp only [impl_fits.j0, implMatch_eq, Option.bind_some, e1, e2]
  cases b
  · have a1 : (pl.length : Int) - 1 < pl.length := by omega
    have a2 : (pl.length : Int) - w < pl.length := by omega
    by_cases c : col = 0
    · by_cases r : row = 0
      · by_cases p : t.f3 = 0 <;> by_cases q : t.f0 = 0 <;> simp [sideV, c, r, p, q] <;> omega
      · have a3 : 0 ≤ (pl.length : Int) - w := by have := hrow (by omega); omega
        have a4 : 0 < row := by omega
        by_cases p : t.f3 = 0 <;> simp [sideV, c, r, p, a2, a3, a4, lastT] <;> omega
    · have a5 : 0 ≤ (pl.length : Int) - 1 := by have := hcol (by omega); omega
      have a6 : 0 < col := by omega
      by_cases r : row = 0
      · cases hm : matchI (rd_T24 pl (pl.length - 1)).f1 t.f3 <;> by_cases q : t.f0 = 0 <;> simp [sideV, c, r, q, a1, a5, a6, hm, lastT] <;> omega
      · have a3 : 0 ≤ (pl.length : Int) - w := by have := hrow (by omega); omega
        have a4 : 0 < row := by omega
        cases hm : matchI (rd_T24 pl (pl.length - 1)).f1 t.f3 <;> simp [sideV, c, r, a1, a2, a3, a4, a5, a6, hm, lastT] <;> omega
  · simp
/-- Does a turned tile fit behind those that are placed? -/
def fitsV (pl : List Tl) (t : Tl) (w h : Int) : Bool :=
  !(((t.f1 == 0) != ((pl.length : Int) % w == w - 1)) || ((t.f2 == 0) != ((pl.length : Int) / w == h - 1))) &&
    (sideV matchS ((pl.length : Int) % w) t.f3 (lastT pl (pl.length - 1)).f1 && sideV matchS ((pl.length : Int) / w) t.f0 (lastT pl (pl.length - w)).f2)
theorem grid (n : Nat) (w : Int) (h1 : 1 ≤ w) : 0 ≤ (n : Int) % w ∧ 0 ≤ (n : Int) / w ∧ (n : Int) / w ≤ n ∧ (0 < (n : Int) % w → 1 ≤ n) ∧ (0 < (n : Int) / w → w ≤ n) := by
  refine ⟨Int.emod_nonneg _ (by omega), Int.ediv_nonneg (by omega) (by omega), Int.ediv_le_self _ (by omega), fun h => ?_, fun h => ?_⟩
  · rcases Nat.eq_zero_or_pos n with rfl | h0
    · simp at h
    · exact h0
  · rcases Int.lt_or_le (n : Int) w with h0 | h0
    · rw [Int.ediv_eq_zero_of_lt (by omega) h0] at h; omega
    · exact h0
theorem l30Fits_ev (pl : List Tl) (t : Tl) (w h : Int) (h1 : 1 ≤ w) (h6 : w ≤ 6) (hh1 : 1 ≤ h) (hh6 : h ≤ 6) (hl : pl.length ≤ 1048576) :
    Ev (fun k => spec_l30Fits.f k pl t.f0 t.f1 t.f2 t.f3 w h) (fitsV pl t w h) := by
  obtain ⟨g1, g2, g3, g4, g5⟩ := grid pl.length w h1
  have e1 : wrap64 (w - 1) = w - 1 := by unfold wrap64; omega
  have e2 : wrap64 (h - 1) = h - 1 := by unfold wrap64; omega
  have e3 : wrap64 ((pl.length : Int) / w) = pl.length / w := wrap_id (by omega) (by omega)
  refine ⟨1, fun k hk => ?_⟩
  obtain ⟨m, rfl⟩ : ∃ m, k = m + 1 := ⟨k - 1, by omega⟩
  unfold spec_l30Fits.f fitsV
  dsimp only
  rw [if_neg (by omega), e1, e2, e3]
  simp only [spec_fits_j0 _ _ _ _ _ _ _ h1 h6 g1 g2 g4 g5 hl]
  cases ((t.f1 == 0) != ((pl.length : Int) % w == w - 1)) <;> simp
theorem fits_ev (pl : List Tl) (t : Tl) (w h : Int) (h1 : 1 ≤ w) (h6 : w ≤ 6) (hh1 : 1 ≤ h) (hh6 : h ≤ 6) (hl : pl.length ≤ 1048576) (hp : pl.all okT = true) (ht : okT t = true) :
    Ev (fun k => impl_fits.f k t.f0 t.f1 t.f2 t.f3 pl w h) (fitsV pl t w h) := by
  obtain ⟨g1, g2, g3, g4, g5⟩ := grid pl.length w h1
  have e1 : wrap64 (w - 1) = w - 1 := by unfold wrap64; omega
  have e2 : wrap64 (h - 1) = h - 1 := by unfold wrap64; omega
  have e3 : wrap64 ((pl.length : Int) / w) = pl.length / w := wrap_id (by omega) (by omega)
  have hok : ∀ i : Int, 0 ≤ i → i < pl.length → okT (lastT pl i) = true := fun i h0 hi => by
    have hi' : i.toNat < pl.length := by omega
    rw [List.all_eq_true] at hp
    unfold lastT rd_T24
    rw [getD_at _ _ _ hi']
    exact hp _ (List.getElem_mem hi')
  have hparts : ∀ t : Tl, okT t = true → okE t.f0 = true ∧ okE t.f1 = true ∧ okE t.f2 = true ∧ okE t.f3 = true := fun t h => by
    unfold okT at h
    simpa using h
  have s1 : sideV (fun x y => matchI y x) ((pl.length : Int) % w) t.f3 (lastT pl (pl.length - 1)).f1 = sideV matchS ((pl.length : Int) % w) t.f3 (lastT pl (pl.length - 1)).f1 := by
    unfold sideV
    split
    · rfl
    · exact match_eq _ _ (hparts t ht).2.2.2 (hparts _ (hok _ (by have := g4 (by omega); omega) (by omega))).2.1
  have s2 : sideV (fun x y => matchI y x) ((pl.length : Int) / w) t.f0 (lastT pl (pl.length - w)).f2 = sideV matchS ((pl.length : Int) / w) t.f0 (lastT pl (pl.length - w)).f2 := by
    unfold sideV
    split
    · rfl
    · exact match_eq _ _ (hparts t ht).1 (hparts _ (hok _ (by have := g5 (by omega); omega) (by omega))).2.2.1
  refine ⟨1, fun k hk => ?_⟩
  obtain ⟨m, rfl⟩ : ∃ m, k = m + 1 := ⟨k - 1, by omega⟩
  unfold impl_fits.f fitsV
  dsimp only
  rw [if_neg (by omega), e1, e2, e3]
  simp only [impl_fits_j0 _ _ _ _ _ _ _ h1 h6 g1 g2 g4 g5 hl, s1, s2]
  rw [show (((pl.length : Int) % w == w - 1) != (t.f1 == 0)) = ((t.f1 == 0) != ((pl.length : Int) % w == w - 1)) from bne_comm, show (((pl.length : Int) / w == h - 1) != (t.f2 == 0)) = ((t.f2 == 0) != ((pl.length : Int) / w == h - 1)) from bne_comm]
  cases ((t.f1 == 0) != ((pl.length : Int) % w == w - 1)) <;> simp
end Go.Proofs.Ytgcagmmghckbbaa.A

/- Plain laws of layouts, the loops: whether a layout is correct, as the reference and as the program ask it. -/
namespace Go.Proofs.Ytgcagmmghckbbaa.A
set_option linter.unusedSimpArgs false
set_option linter.unusedVariables false
open Go.RowKit Go.Proofs.YtgcagmmghckbbaaW.PrintWords Go.Proofs.YtgcagmmghckbbaaW.PrintLast Go.Proofs.YtgcagmmghckbbaaW.PrintMore
def tileAt (tiles : List Tl) (i : Int) : Tl := rd_T24 tiles i
theorem setAt_nat (l : List St) (j : Nat) (h : j < l.length) : rd_T74 l (j : Int) = l[j] := by unfold rd_T74; exact getD_nat l _ j h
theorem turnT_ok (t : Tl) (n : Int) (h : okT t = true) : okT (turnT t n) = true := by
  unfold okT at h ⊢
  simp only [Bool.and_eq_true] at h
  unfold turnT
  split
  · simp [h]
  · split
    · simp [h]
    · split <;> simp [h]
theorem tileAt_ok (tiles : List Tl) (i : Int) (h : tiles.all okT = true) (h0 : 0 ≤ i) (h1 : i < tiles.length) : okT (tileAt tiles i) = true := by
  rw [List.all_eq_true] at h
  unfold tileAt rd_T24
  have hi : i.toNat < tiles.length := by omega
  rw [getD_at _ _ _ hi]
  exact h _ (List.getElem_mem hi)
end Go.Proofs.Ytgcagmmghckbbaa.A

/- The search for layouts, in plain words: a step and those behind it. -/
namespace Go.Proofs.Ytgcagmmghckbbaa.A
set_option linter.unusedSimpArgs false
set_option linter.unusedVariables false
open Go.RowKit Go.Proofs.YtgcagmmghckbbaaW.PrintWords Go.Proofs.YtgcagmmghckbbaaW.PrintLast Go.Proofs.YtgcagmmghckbbaaW.PrintMore
structure VS where
  steps : Int
  found : List (List St)
  over : Bool
section
variable (tiles : List Tl) (w h most : Int)
def stopV (s : VS) : Bool := s.over || !decide ((s.found.length : Int) < most)
def usedV (layout : List St) (i : Nat) : Bool := layout.any fun x => x.f0 == (i : Int)
def againV (i t : Nat) : Bool := (List.range t).any fun u => decide (tup (turnT (tileAt tiles i) u) = tup (turnT (tileAt tiles i) t))
variable (visit : List St → List Tl → VS → VS) (layout : List St) (placed : List Tl)
/-- The turns of tile i from 4 - m on. -/
def turnsV (i : Nat) : Nat → VS → VS
  | 0, s => s
  | m + 1, s => if stopV most s then s else
      turnsV i m (if !againV tiles i (4 - (m + 1)) && fitsV placed (turnT (tileAt tiles i) (4 - (m + 1) : Nat)) w h then visit (layout ++ [⟨i, (4 - (m + 1) : Nat)⟩]) (placed ++ [turnT (tileAt tiles i) (4 - (m + 1) : Nat)]) s else s)
/-- The tiles from n - m on. -/
def tilesV : Nat → VS → VS
  | 0, s => s
  | m + 1, s => tilesV m (if usedV layout (tiles.length - (m + 1)) then s else turnsV tiles w h most visit layout placed (tiles.length - (m + 1)) 4 s)
end
/-- A step at which d places are left. -/
def visitV (tiles : List Tl) (w h most : Int) : Nat → List St → List Tl → VS → VS
  | d, layout, placed, s =>
    if s.steps + 1 > 5000 then ⟨s.steps + 1, s.found, true⟩ else
    match d with
    | 0 => ⟨s.steps + 1, s.found ++ [layout], s.over⟩
    | d + 1 => tilesV tiles w h most (visitV tiles w h most d) layout placed tiles.length ⟨s.steps + 1, s.found, s.over⟩
/-- What stays small. -/
def okV (s : VS) : Prop := 0 ≤ s.steps ∧ s.steps ≤ 5001 ∧ (s.found.length : Int) ≤ s.steps ∧ (s.over = false → s.steps ≤ 5000)
theorem turnsV_stop (tiles : List Tl) (w h most : Int) (visit : List St → List Tl → VS → VS) (layout : List St) (placed : List Tl) (i : Nat) (m : Nat) (s : VS) (hs : stopV most s = true) : turnsV tiles w h most visit layout placed i m s = s := by
  cases m with
  | zero => rfl
  | succ m => unfold turnsV; rw [if_pos hs]
end Go.Proofs.Ytgcagmmghckbbaa.A

/- The program's search for layouts, in plain words: a step and those behind it, for any visit. -/
namespace Go.Proofs.Ytgcagmmghckbbaa.A
set_option linter.unusedSimpArgs false
set_option linter.unusedVariables false
open Go.RowKit Go.Proofs.YtgcagmmghckbbaaW.PrintWords Go.Proofs.YtgcagmmghckbbaaW.PrintLast Go.Proofs.YtgcagmmghckbbaaW.PrintMore
structure LS (α : Type) where
  steps : Int
  ended : Bool
  broken : Bool
  a : α
def stopL {α : Type} (s : LS α) : Bool := s.ended || s.broken
section
variable {α : Type} (tiles : List Tl) (w h : Int) (sub : List Bool → List Tl → List St → LS α → LS α) (used : List Bool) (laid : List Tl) (layout : List St)
def skipL (i t : Nat) : Bool := used.getD i false || againV tiles i t || !fitsV laid (turnT (tileAt tiles i) t) w h
/-- The turns of tile i from 4 - m on. -/
def innerL (i : Nat) : Nat → LS α → LS α
  | 0, s => s
  | m + 1, s => if skipL tiles w h used laid i (4 - (m + 1)) then innerL i m s else
      let s' := sub (used.set i true) (laid ++ [turnT (tileAt tiles i) (4 - (m + 1) : Nat)]) (layout ++ [⟨i, (4 - (m + 1) : Nat)⟩]) s
      if stopL s' then s' else innerL i m s'
/-- The tiles from n - m on. -/
def outerL : Nat → LS α → LS α
  | 0, s => s
  | m + 1, s => let s' := innerL tiles w h sub used laid layout (tiles.length - (m + 1)) 4 s; if stopL s' then s' else outerL m s'
end
/-- A step at which d places are left. -/
def fromL {α : Type} (step : α → List St → α × Bool) (tiles : List Tl) (w h : Int) : Nat → List Bool → List Tl → List St → LS α → LS α
  | d, used, laid, layout, s =>
    if s.steps = 5000 then ⟨s.steps, s.ended, true, s.a⟩ else
    match d with
    | 0 => ⟨s.steps + 1, !(step s.a layout).2, s.broken, (step s.a layout).1⟩
    | d + 1 => outerL tiles w h (fromL step tiles w h d) used laid layout tiles.length ⟨s.steps + 1, s.ended, s.broken, s.a⟩
end Go.Proofs.Ytgcagmmghckbbaa.A
namespace Go.Proofs.Ytgcagmmghckbbaa.A
section
variable {α : Type} (tiles : List Tl) (w h : Int) (sub : List Bool → List Tl → List St → LS α → LS α) (used : List Bool) (laid : List Tl) (layout : List St)
theorem outerL_step (i : Nat) (hi : i < tiles.length) (s : LS α) : outerL tiles w h sub used laid layout (tiles.length - i) s =
    (if stopL (innerL tiles w h sub used laid layout i 4 s) = true then innerL tiles w h sub used laid layout i 4 s else outerL tiles w h sub used laid layout (tiles.length - (i + 1)) (innerL tiles w h sub used laid layout i 4 s)) := by
  have e : tiles.length - i = (tiles.length - (i + 1)) + 1 := by omega
  rw [e, outerL]
  have e2 : tiles.length - (tiles.length - (i + 1) + 1) = i := by omega
  rw [e2]
theorem innerL_step (i t : Nat) (ht : t < 4) (s : LS α) : innerL tiles w h sub used laid layout i (4 - t) s =
    (if skipL tiles w h used laid i t = true then innerL tiles w h sub used laid layout i (4 - (t + 1)) s else
      (if stopL (sub (used.set i true) (laid ++ [turnT (tileAt tiles i) t]) (layout ++ [⟨i, t⟩]) s) = true then sub (used.set i true) (laid ++ [turnT (tileAt tiles i) t]) (layout ++ [⟨i, t⟩]) s else
        innerL tiles w h sub used laid layout i (4 - (t + 1)) (sub (used.set i true) (laid ++ [turnT (tileAt tiles i) t]) (layout ++ [⟨i, t⟩]) s))) := by
  have e : 4 - t = (4 - (t + 1)) + 1 := by omega
  rw [e, innerL]
  have e2 : 4 - (4 - (t + 1) + 1) = t := by omega
  rw [e2]
theorem innerL_keep (p : LS α → Prop) (hp : ∀ u l y s, p s → p (sub u l y s)) (i : Nat) : ∀ (m : Nat) (s : LS α), p s → p (innerL tiles w h sub used laid layout i m s)
  | 0, s, hs => hs
  | m + 1, s, hs => by
    rw [innerL]
    split
    · exact innerL_keep p hp i m s hs
    · dsimp only
      split
      · exact hp _ _ _ _ hs
      · exact innerL_keep p hp i m _ (hp _ _ _ _ hs)
theorem outerL_keep (p : LS α → Prop) (hp : ∀ u l y s, p s → p (sub u l y s)) : ∀ (m : Nat) (s : LS α), p s → p (outerL tiles w h sub used laid layout m s)
  | 0, s, hs => hs
  | m + 1, s, hs => by
    rw [outerL]
    split
    · exact innerL_keep tiles w h sub used laid layout p hp _ 4 s hs
    · exact outerL_keep p hp m _ (innerL_keep tiles w h sub used laid layout p hp _ 4 s hs)
end
theorem fromL_steps {α : Type} (step : α → List St → α × Bool) (tiles : List Tl) (w h : Int) : ∀ (d : Nat) (used : List Bool) (laid : List Tl) (layout : List St) (s : LS α), (0 ≤ s.steps ∧ s.steps ≤ 5000) → (0 ≤ (fromL step tiles w h d used laid layout s).steps ∧ (fromL step tiles w h d used laid layout s).steps ≤ 5000)
  | 0, used, laid, layout, s, hs => by
    unfold fromL
    split
    · exact hs
    · dsimp only; omega
  | d + 1, used, laid, layout, s, hs => by
    unfold fromL
    split
    · exact hs
    · exact outerL_keep tiles w h _ used laid layout (fun s => 0 ≤ s.steps ∧ s.steps ≤ 5000) (fun u l y s hs => fromL_steps step tiles w h d u l y s hs) _ _ (by dsimp only; omega)
end Go.Proofs.Ytgcagmmghckbbaa.A
namespace Go.Proofs.Ytgcagmmghckbbaa.A
section
variable {α : Type} (tiles : List Tl) (w h : Int) (sub : List Bool → List Tl → List St → LS α → LS α) (used : List Bool) (laid : List Tl) (layout : List St)
/-- What is left behind the turns of tile i. -/
def contL (i : Nat) (z : LS α) : LS α := if stopL z = true then z else outerL tiles w h sub used laid layout (tiles.length - (i + 1)) z
variable {tiles w h sub used laid layout}
theorem cont_skip {i t : Nat} {s R : LS α} (ht : t < 4) (hR : contL tiles w h sub used laid layout i (innerL tiles w h sub used laid layout i (4 - t) s) = R) (hk : skipL tiles w h used laid i t = true) :
    contL tiles w h sub used laid layout i (innerL tiles w h sub used laid layout i (4 - (t + 1)) s) = R := by
  rw [innerL_step tiles w h sub used laid layout i t ht, if_pos hk] at hR
  exact hR
theorem cont_sub {i t : Nat} {s R : LS α} (ht : t < 4) (hR : contL tiles w h sub used laid layout i (innerL tiles w h sub used laid layout i (4 - t) s) = R) (hk : skipL tiles w h used laid i t = false) :
    (stopL (sub (used.set i true) (laid ++ [turnT (tileAt tiles i) t]) (layout ++ [⟨i, t⟩]) s) = true → sub (used.set i true) (laid ++ [turnT (tileAt tiles i) t]) (layout ++ [⟨i, t⟩]) s = R) ∧
    (stopL (sub (used.set i true) (laid ++ [turnT (tileAt tiles i) t]) (layout ++ [⟨i, t⟩]) s) = false → contL tiles w h sub used laid layout i (innerL tiles w h sub used laid layout i (4 - (t + 1)) (sub (used.set i true) (laid ++ [turnT (tileAt tiles i) t]) (layout ++ [⟨i, t⟩]) s)) = R) := by
  rw [innerL_step tiles w h sub used laid layout i t ht, if_neg (by rw [hk]; decide)] at hR
  refine ⟨fun hs => ?_, fun hs => ?_⟩
  · rw [if_pos hs] at hR
    unfold contL at hR
    rw [if_pos hs] at hR
    exact hR
  · rw [if_neg (by rw [hs]; decide)] at hR
    exact hR
end
end Go.Proofs.Ytgcagmmghckbbaa.A

